/- The functions of the program that the laws reach: what they compute, the proofs that they do, the laws of the data (part 3). No conditions. -/
import Derived.Test.YtcoolhkhnglfgaaGreatDoorC2
set_option linter.unusedVariables false
set_option linter.unusedSimpArgs false
set_option maxRecDepth 100000
set_option maxHeartbeats 4000000
set_option linter.defProp false
set_option linter.unusedSectionVars false
open Array renaming getElem?_eq_some_iff->oq,replicate_succ->yf,replicate_zero->yg
open Bool renaming and_eq_true->ah,true_and->bQ,or_eq_true->iJ,eq_iff_iff->pg,and_true->pz,and_eq_false_iff->sU,false_and->uO
open ByteArray renaming size_extract->pX,empty->uD
open Go.Boxed renaming new->uK
open Go.ByteArray renaming toList_eq->xA
open Go.Fence renaming wide->lC
open Go.IntKind renaming wrap->af
open Go.KeepsOthers renaming setCell->xC
open Go.Lib renaming indexByte_ge->BF,indexByte->dX,hasPrefix->iO,splitK->oG,join->sH,parseUint10->wH,atoiAll->yI
open Go.Value renaming string->sJ,ownBlock->tC
open Go.World renaming ownsRow_nil->Bj,size_alloc->rP,putObj_heap_other->sZ,setCell->uj
open Int renaming toNat_natCast->ai
open List renaming singleton_append->AZ,not_mem_nil->Ad,append_eq_nil_iff->Am,foldl_nil->Bf,intercalate->DD,intersperse->DF,drop_succ_cons->FM,take_of_length_le->aF,range'->aQ,mem_append->aW,map->ag,drop_of_length_le->ak,length_append->ay,length_singleton->bC,flatMap_cons->bF,map_cons->bJ,mem_singleton->bM,drop_zero->bZ,all_eq_true->bg,getD->bu,mem_cons_self->bz,mem_cons->cO,length_cons->dB,mem_cons_of_mem->dF,all_cons->dJ,getElem_mem->dO,cons_append->dY,length_take->dZ,append_assoc->dh,eq_nil_of_length_eq_zero->di,append_nil->eX,length_drop->fH,mem_of_mem_take->fJ,length_nil->gI,nil_append->gJ,take_succ_eq_append_getElem->iH,mem_iff_getElem->jM,range'_succ->jV,mem_append_right->jX,length->kE,length_map->kJ,size_toArray->lM,foldl_cons->lT,getElem?_eq_none->nG,take_append_of_le_length->o5,mem_map->oZ,map_append->sK,drop_append_of_le_length->uM,foldl_append->uS,all_nil->wz,getElem_map->xM,take_append_drop->xP,append_toArray->yB,length_set->yl,map_map->zL,push_toArray->zx
open List.cons renaming inj->kQ
open Nat renaming mul_le_mul_left->BJ,le_of_lt->EZ,zero_le->aN,le_refl->au,mul_le_mul_right->bD,strongRecOn->dw,le_trans->ig,add_sub_cancel->jb,le_succ->vk,lt_or_ge->wC,pow_succ->xX,succ_pos->xY
open Option renaming getD_some->Ag,bind_some->gz,bind->jc,map_some->lU,filter->oH,map_eq_some_iff->pY
open Option.some renaming injEq->aJ
open Prod renaming ext->rG
open Prod.mk renaming injEq->aI
open UInt8 renaming ofNat->dR,toNat_inj->nZ,toNat_ofNat'->wL
namespace Go.Ab
open Go
theorem Z7 {n:aj}{s:aO} : BV n [s]=DW n s:=by unfold BV E5;rfl
theorem T.jD : ∀(d:Nat) {E:Nat} {n p:aj},d<=5->Shape d p=true->ShN E n->Ev (λf=>G.jD f n p) (Jz d n p)
 |0,_,_,_,_,h,_=>by cases h
 | d+1,E,n,p,hd,hp,hn=>by
   refine Ev.up ?_;simp only[G.jD];rw[Qj];refine Ev.ite (λc=>?_) (λc=>?_)
   ·have:¬p.Kind=4:=(by simpa using c);rw[if_neg this];exact Ev.bind (T.aY Bh (yx hp)) (Ev.ret _)
   ·have kp:p.Kind=4:=(by simpa using c);rw[if_pos kp];have mp:=Yv hp kp;obtain⟨e,he,hb,hq⟩:=WQ hn;have hl:=mp.len;have hk:=mp.mp.map.len;have hF:=λ(o q:aj) (ho:ShN e o) (hq:Shape d q=true)=>Md d hq ho;have facts:=λi hi=>NS (F:=Jz d) mp (Mc hb (by omega:e<=d+e+1) (au _)) (Q:=ShN e) (.inr rfl) hq hF i hi;have L:∀(t i:Nat),i+t=p.Kids.length->Ev (λf=>G.jD.L2 f p (i:Int) ((aQ 0 i).foldl (OJ (Jz d) p) (Ns n)).Kind ((aQ 0 i).foldl (OJ (Jz d) p) (Ns n)).Num ((aQ 0 i).foldl (OJ (Jz d) p) (Ns n)).Text ((aQ 0 i).foldl (OJ (Jz d) p) (Ns n)).Names ((aQ 0 i).foldl (OJ (Jz d) p) (Ns n)).Kids) ((aQ 0 p.Kids.length).foldl (OJ (Jz d) p) (Ns n)):=by
     intro t
     induction t with
     | zero=>intro i hi;have:i=p.Kids.length:=(by omega);subst this;refine Ev.up ?_;simp only[G.jD.L2];exact Ev.cf (decide_eq_false (by omega)) (Ev.ret' (aj.eta _))
     | succ t ih=>
       intro i hi;have hnx:=ih (i+1) (by omega);rw[H6,uS,lT,Bf]at hnx;obtain⟨h1,h2⟩:=facts i (by omega);generalize (aQ 0 i).foldl (OJ (Jz d) p) (Ns n)=m at h1 h2 hnx⊢;have hi':i<p.Kids.length:=(by omega);have hx:=A8 mp.sh hi';have hc:=h1.cnt;have hms:lk m (p.Names.getD i default)=lk (Ns n) (p.Names.getD i default):=(by rw[h2,if_neg (NW mp.mp.map hi')]);have hfm:=h1.fine (by omega);refine Ev.up ?_;simp only[G.jD.L2,ai,dA (show i+1<9223372036854775808 by omega),aj.eta];unfold OJ at hnx;refine Ev.ct (decide_eq_true (by omega)) (Ev.chk (by omega) (Ev.bind (T.jE _ Bh hfm) (Ev.chk (by omega) ?_)));cases hpl:D9 m (p.Names.getD i default)with
       | none=>
         have neg:decide (0<=GY none)=false:=(by decide);have hlk:lk m (p.Names.getD i default)=none:=(by unfold lk;rw[hpl];rfl);by_cases c:(p.Kids.getD i default).Kind=0
         ·rw[if_pos c]at hnx;have:(DW m (p.Names.getD i default)).getD m=m:=(by unfold DW;rw[hpl];rfl);rw[this]at hnx;exact Ev.ct (by simpa using c) (Ev.cf neg (Ev.chk (by omega) (Ev.cf (by simpa using c) (Ev.chk (by omega) hnx))))
         ·rw[if_neg c,hlk]at hnx;have hf:=hF vJ _ (.inr rfl) hx;obtain⟨g1,_⟩:=XK h1 (mp.name hi') hf;have g3:=T.pR (p.Names.getD i default) (show 12<lim by decide) hfm hf;rw[g1]at g3;exact Ev.cf (by simpa using c) (Ev.chk (by omega) (Ev.ct (by simpa using c) (Ev.cf neg (Ev.chk (by omega) (Ev.chk (by omega) (Ev.bind (T.jD d (by omega) hx (.inr rfl:ShN 0 vJ)) (Ev.bind g3 hnx)))))))
       | some j=>
         have pos:decide (0<=GY (some j))=true:=decide_eq_true (by show(0:Int)<=(j:Int);omega);have hjl:=yL hpl;have hlk:lk m (p.Names.getD i default)=some (m.Kids.getD j default):=(by unfold lk;rw[hpl];rfl);by_cases c:(p.Kids.getD i default).Kind=0
         ·rw[if_pos c]at hnx;have g3:=T.kz [p.Names.getD i default] (show 12+1<lim by decide) (by unfold big;simp) hfm;rw[Z7]at g3;obtain⟨m',hm'⟩:∃m',DW m (p.Names.getD i default)=some m':=(by unfold DW;rw[hpl];exact⟨_,rfl⟩);rw[hm']at g3 hnx;exact Ev.ct (by simpa using c) (Ev.ct pos (Ev.bind g3 hnx))
         ·rw[if_neg c,hlk]at hnx;have hso:ShN e (m.Kids.getD j default):=by
           rw[hms]at hlk;exact hq _ (XD hlk)
          have hf:=hF _ _ hso hx;have e1:VY m (p.Names.getD i default) (Jz d (m.Kids.getD j default) (p.Kids.getD i default))=FI m j (Jz d (m.Kids.getD j default) (p.Kids.getD i default)):=(by unfold VY;rw[SK h1.mp.map hpl];rfl);rw[Ag,e1]at hnx;refine Ev.cf (by simpa using c) (Ev.chk (by omega) (Ev.ct (by simpa using c) (Ev.ct pos ?_)));show Ev (λf=>Ab.chk _ _) _;simp only[GY,ai];exact Ev.chk (by omega) (Ev.chk (by omega) (Ev.bind (T.jD d (by omega) hx hso) (Ev.bind (T.oN Bh hfm hf hjl) hnx)))
    have L':Ev (λf=>G.jD.K1 f p (Ns n).Kind (Ns n).Num (Ns n).Text (Ns n).Names (Ns n).Kids) ((aQ 0 p.Kids.length).foldl (OJ (Jz d) p) (Ns n)):=by refine Ev.up ?_;simp only[G.jD.K1];exact L p.Kids.length 0 (by omega)
    unfold Ns at L'⊢;refine Ev.ite (λc=>?_) (λc=>?_)
    ·have kn:n.Kind=4:=(by simpa using c);rw[if_pos kn]at L'⊢;have hf:Fine 12 E n:=by
      rcases hn with h|h
      ·exact yx h
      ·rw[h]at kn;cases kn
     exact Ev.bind (T.aY Bh hf) L'
    ·have kn:¬n.Kind=4:=(by simpa using c);rw[if_neg kn]at L'⊢;exact L'
def YQ (n p:aj):Option aj:=if Val n&&Val p then(some (Jz 5 n p)).filter Val else none
theorem T.pI {D E:Nat}{n p:aj}(hn:Fine 60 D n)(hp:Fine 60 E p):Ev (λf=>G.pI f n p) (oK (YQ n p)):=by refine Ev.up ?_;simp only[G.pI];unfold YQ;refine Ev.bind (T.eG yS hn) (Ev.ite (λe1=>?_) (λe1=>Ev.ret' (by rw[e1];rfl)));refine Ev.bind (T.eG yS hp) (Ev.ite (λe2=>?_) (λe2=>Ev.ret' (by rw[e1,e2];rfl)));have gp:=T.jD 5 (by omega) (lF e2) (.inl (lF e1));have gc:=T.o9 (o:=some (Jz 5 n p)) Bh (λm hm=>by cases hm;exact Md 5 (lF e2) (.inl (lF e1)));rw[e1,e2];exact Ev.bind gp (Ev.bind gc (Ev.ret _))
def YR (l:List aO)(t:aO):Bool:=decide (t∈l)||decide (([42]:aO)∈l)
theorem T.mW {l:List aO}{t:aO}(hl:l.length<=1000):Ev (λf=>G.mW f l t) (YR l t):=by
 have L:∀(k i:Nat),i+k=l.length->Ev (λf=>G.mW.L1 f l t i) (YR (l.drop i) t):=by
  intro k
  induction k with
  | zero=>intro i hi;refine Ev.up ?_;simp only[G.mW.L1];refine Ev.cf (decide_eq_false (by omega)) (Ev.ret' ?_);rw[ak (by omega)];rfl
  | succ k ih=>
    intro i hi;have e:YR (l.drop i) t=(l.getD i default==t||(l.getD i default==[42]||YR (l.drop (i+1)) t)):=by
     rw[dI default (by omega:i<l.length)];unfold YR;rw[pg];simp only[iJ,decide_eq_true_eq,cO,beq_iff_eq];constructor
     ·rintro((h|h)|(h|h))
      ·exact .inl h.symm
      ·exact .inr (.inr (.inl h))
      ·exact .inr (.inl h.symm)
      ·exact .inr (.inr (.inr h))
     ·rintro(h|h|h|h)
      ·exact .inl (.inl h.symm)
      ·exact .inr (.inl h.symm)
      ·exact .inl (.inr h)
      ·exact .inr (.inr h)
    refine Ev.up ?_;simp only[G.mW.L1,ai,dA (show i+1<9223372036854775808 by omega)];rw[e];refine Ev.ct (decide_eq_true (by omega)) (Ev.chk (by omega) (Ev.ite (λe1=>Ev.ret' (by rw[e1];rfl)) (λe1=>Ev.chk (by omega) (Ev.ite (λe2=>Ev.ret' (by rw[e1,e2];rfl)) (λe2=>?_)))));rw[e1,e2];exact ih (i+1) (by omega)
 refine Ev.up ?_;simp only[G.mW];exact L l.length 0 (by omega)
theorem T.Contains {l:List aO}{t:aO}(hl:l.length<=1000):Ev (λf=>G.slices_Contains_string f l t) (decide (t∈l)):=by
 have L:∀(k i:Nat),i+k=l.length->∃r:Int,Ev (λf=>G.slices_Index_string.L1 f l t i) r/\decide (0<=r)=decide (t∈l.drop i):=by
  intro k
  induction k with
  | zero=>intro i hi;refine⟨-1,Ev.up ?_,by rw[ak (by omega)];simp⟩;simp only[G.slices_Index_string.L1];exact Ev.cf (decide_eq_false (by omega)) (Ev.ret _)
  | succ k ih=>
    intro i hi;rw[dI default (by omega:i<l.length)];by_cases c:t=l.getD i default
    ·refine⟨i,Ev.up ?_,by rw[<- c];simp⟩;simp only[G.slices_Index_string.L1,ai];exact Ev.ct (decide_eq_true (by omega)) (Ev.chk (by omega) (Ev.ct (beq_iff_eq.2 c) (Ev.ret _)))
    ·obtain⟨r,h1,h2⟩:=ih (i+1) (by omega);refine⟨r,Ev.up ?_,by rw[h2];simp only[cO,c,false_or]⟩;simp only[G.slices_Index_string.L1,ai,dA (show i+1<9223372036854775808 by omega)];exact Ev.ct (decide_eq_true (by omega)) (Ev.chk (by omega) (Ev.cf (beq_eq_false_iff_ne.2 c) h1))
 obtain⟨r,h1,h2⟩:=L l.length 0 (by omega);rw[bZ]at h2;refine Ev.up ?_;simp only[G.slices_Contains_string];refine Ev.bind (a:=r) (Ev.up ?_) (Ev.ret' h2);simp only[G.slices_Index_string];exact h1
theorem T.pq {l:List aO}{t:aO}(hl:l.length<=1000):Ev (λf=>G.pq f l t) (YR l t):=by refine Ev.up ?_;simp only[G.pq];unfold YR;exact Ev.bind (T.Contains hl) (Ev.ite (λe=>Ev.ret' (by rw[e];rfl)) (λe=>Ev.bind (T.Contains hl) (Ev.ret' (by rw[e];rfl))))
def FP (w a:List aO)(t:aO)(rd:Bool):Int:=
 if !w.isEmpty&&(t==[] || !YR w t)then 412 else if !a.isEmpty&&(!(t==[])&&YR a t)then(if rd then 304 else 412)else 200
theorem Yu {α:Type}(l:List α):decide ((0:Int)<(l.length:Int)) = !l.isEmpty:=by cases l<;>simp
theorem T.uJ {w a:List aO}{t:aO}{rd:Bool}(hw:w.length<=1000)(ha:a.length<=1000):Ev (λf=>G.uJ f w a t rd) (FP w a t rd):=by refine Ev.up ?_;simp only[G.uJ,Yu];unfold FP;have A:=T.mW (t:=t) ha;have W:=T.mW (t:=t) hw;generalize YR a t=na at *;generalize YR w t=nw at *;generalize w.isEmpty=ew;generalize a.isEmpty=ea;generalize (t==[])=et;cases ew<;>cases ea<;>cases et<;>cases na<;>cases nw<;>cases rd<;>exact evd
theorem T.kF {w a:List aO}{t:aO}{rd:Bool}(hw:zC w=true)(ha:zC a=true)(sw:Sm w)(sa:Sm a)(ht:t=[]\/(F9 t=true/\t.length<big))(lw:w.length<=1000)(la:a.length<=1000):Ev (λf=>G.kF f w a t rd) (FP w a t rd):=by
 have K:Ev (λf=>G.kF.K1 f w a t rd) (FP w a t rd):=by refine Ev.up ?_;simp only[G.kF.K1,Yu];unfold FP;have A:=T.pq (t:=t) la;have W:=T.pq (t:=t) lw;clear ht;generalize YR a t=na at *;generalize YR w t=nw at *;generalize w.isEmpty=ew;generalize a.isEmpty=ea;generalize (t==[])=et;cases ew<;>cases ea<;>cases et<;>cases na<;>cases nw<;>cases rd<;>exact evd
 refine Ev.up ?_;simp only[G.kF];have h1:=T.iZ sw;have h2:=T.iZ sa;rw[hw]at h1;rw[ha]at h2;refine Ev.bind h1 (Ev.ct rfl (Ev.bind h2 (Ev.ct rfl (Ev.ite (λ_=>K) (λe=>?_)))));rcases ht with h|⟨h,hl⟩
 ·rw[h]at e;cases e
 ·have h3:=T.nJ t hl;rw[h]at h3;exact Ev.bind h3 (Ev.ct rfl K)
section
theorem Vq {l:List bG}{t:aO}{p:Nat}(hA:Asc (uC l)=true)(hp:LB (uC l) t p):Q3 l t=if decide (p<l.length)&&(l.getD p default).Name==t then some p else none:=by
 have at_:∀q,q<l.length->(uC l).getD q default=(l.getD q default).Name:=λq h=>DR h
 by_cases c:p<l.length/\(l.getD p default).Name=t
 ·rw[if_pos (by simpa using c)];refine GK.2 ⟨c.1,c.2,λq hq=>?_⟩;have:=hp.lo q hq;rw[at_ q (by omega)]at this;exact FW this
 ·rw[if_neg (by simpa using c)];refine Vw.2 λit hit e=>?_;obtain⟨q,hq,rfl⟩:=jM.1 hit;have e:(l.getD q default).Name=t:=by rw[fZ _ hq];exact e
  by_cases h1:q<p
  ·have:=hp.lo q h1;rw[at_ q hq,e,Ko]at this;cases this
  ·by_cases h2:q=p
   ·subst h2;exact c ⟨hq,e⟩
   ·have h3:=EG hA p q (by omega) (by rw[x9];exact hq);have h4:=hp.hi p (au _) (by rw[x9];omega);rw[at_ q hq,e]at h3;rw[h3]at h4;cases h4
theorem Vp {l:List bG}{t:aO}{j:Nat}(hA:Asc (uC l)=true)(h:Q3 l t=some j):(l.filter λit=> !(it.Name==t))=l.take j++l.drop (j+1):=by
 obtain⟨h1,h2,h3⟩:=GK.1 h;have e:l=l.take j++l.getD j default::l.drop (j+1):=by rw[<- dI default h1,xP]
 have a1:(l.take j).filter (λit=> !(it.Name==t))=l.take j:=List.filter_eq_self.2 λit hit=>by obtain⟨q,hq,rfl⟩:=jM.1 hit;rw[dZ]at hq;have:=h3 q (by omega);rw[fZ _ (by omega)]at this;rw[List.getElem_take];simpa using this
 have a2:(l.drop (j+1)).filter (λit=> !(it.Name==t))=l.drop (j+1):=List.filter_eq_self.2 λit hit=>by obtain⟨q,hq,rfl⟩:=jM.1 hit;rw[fH]at hq;have:=EG hA j (j+1+q) (by omega) (by rw[x9];omega);rw[DR h1,DR (by omega),h2]at this;have:=FW this;rw[fZ _ (by omega)]at this;rw[List.getElem_drop];simpa using λe=>this e.symm
 conv=>lhs;rw[e]
 rw[List.filter_append,List.filter_cons,a1,a2,h2];simp
section
variable {B:Nat} {s:StoreT} (t:aO) (hB:B<=lim) (h:IC B s)
include hB h
theorem T.tV : Ev (λf=>G.tV f s t) (agv (KY s t)):=by
 have hl:=h.len;unfold lim at hB;refine Ev.up ?_;simp only[G.tV];unfold KY;refine Ev.bind (T.cZ hB h) (Ev.ite (λe=>?_) (λe=>Ev.ret' (by rw[e];rfl)));have hs:=Bd.1 e;obtain⟨p,g,hp⟩:=T.nN t (by unfold big;omega) hs.Le;rw[if_pos e,Vq hs.Le hp];refine Ev.bind g (Ev.ite (λc=>?_) (λc=>?_))
 ·have c:decide (p<s.Items.length)&&(s.Items.getD p default).Name==t:=c;rw[if_pos c];have c1:p<s.Items.length:=by simp only[ah,decide_eq_true_eq]at c;exact c.1
  obtain⟨D,hD⟩:=(h.at_ c1).2;refine Ev.chk (by show(0:Int)<=(p:Int)/\(p:Int)<_;omega) (Ev.bind (Ev.up ?_) (Ev.ret _));simp only[G.qf,ai];exact Ev.bind (T.aP hB hD) (Ev.ret _)
 ·have c:(decide (p<s.Items.length)&&(s.Items.getD p default).Name==t)=false:=c;rw[if_neg (by rw[c];simp)];exact Ev.ret _
theorem T.rQ : Ev (λf=>G.rQ f s t) (VS (KW s t)):=by
 have hl:=h.len;unfold lim at hB;refine Ev.up ?_;simp only[G.rQ];unfold KW;refine Ev.bind (T.cZ hB h) (Ev.ite (λe=>?_) (λe=>Ev.ret' (by rw[e];rfl)));have hs:=Bd.1 e;have hsl:=hs.len;have hlo:=hs.lo;have hhi:=hs.hi;obtain⟨p,g,hp⟩:=T.nN t (by unfold big;omega) hs.Le;have hf:=Vq hs.Le hp;refine Ev.ite (λe2=>Ev.ret' (by rw[e2];simp;rfl)) (λe2=>?_);refine Ev.bind g (Ev.ite (λc=>?_) (λc=>?_))
 ·have c:(decide (p<s.Items.length)&&(s.Items.getD p default).Name==t)=true:=c;rw[if_pos c]at hf;have c1:p<s.Items.length:=by simp only[ah,decide_eq_true_eq]at c;exact c.1
  have w:af .i64 (s.Clock+1)=s.Clock+1:=by rw[Eu (by omega) (by omega)]
  refine Ev.bind (T.dP hB h) (Ev.bind (a:=s.Items.take p++s.Items.drop (p+1)) (Ev.up ?_) (Ev.ret' ?_))
  ·simp only[G.nO,dA (show p+1<9223372036854775808 by omega),ai];exact Ev.chk (by omega) (Ev.ret _)
  ·rw[w,<- Vp hs.Le hf,e,e2,hf];rfl
 ·have c:(decide (p<s.Items.length)&&(s.Items.getD p default).Name==t)=false:=c;rw[if_neg (by rw[c];simp)]at hf;exact Ev.ret' (by rw[e,e2,hf];rfl)
end
structure RqF (q:RequestT):Prop where
 lo:1<=q.Method
 hi:q.Method<=5
 Me:UR q.Name=true
 want:zC q.Want=true
 avoid:zC q.oJ=true
 body:Val q.Body=true
 ops:EH q.Ops=true
theorem KI {q:RequestT} : OU q=true<->RqF q:=by unfold OU;simp only[ah,decide_eq_true_eq];exact⟨λ⟨⟨a,b⟩,c,d,e,f,g⟩=>⟨a,b,c,d,e,f,g⟩,λ⟨a,b,c,d,e,f,g⟩=>⟨⟨a,b⟩,c,d,e,f,g⟩⟩
theorem acL {t:aO}(h:F9 t=true):t.length=4:=by unfold F9 at h;simp only[ah,decide_eq_true_eq]at h;exact h.2
theorem acN {t:aO}(h:Gf t=true):t.length<=4:=by
 unfold Gf at h;simp only[iJ,beq_iff_eq]at h;rcases h with h|h
 ·rw[h];simp
 ·rw[acL h];exact au _
theorem Jk {l:List aO}(h:zC l=true):l.length<=4/\∀t,t∈l->Gf t=true:=by unfold zC at h;simp only[ah,decide_eq_true_eq,bg]at h;exact⟨h.2,h.1⟩
theorem O5 {l:List aO}(h:zC l=true):Sm l:=by obtain⟨h1,h2⟩:=Jk h;refine⟨by unfold big;omega,λt ht=>?_⟩;have:=acN (h2 t ht);unfold big;omega
theorem O4 : ∀k:Nat,k<16->okH (Zw k)=true:=by decide
theorem abt {n:Nat}(h:n<65521):F9 (Q8 n)=true:=by unfold F9 Q8;simp only[dJ,wz,pz,ah,dB,gI,decide_true];exact⟨O4 _ (by omega),O4 _ (by omega),O4 _ (by omega),O4 _ (by omega)⟩
theorem MW {n:aj}(h:Val n=true):F9 (Ew n)=true:=by unfold Ew;rw[if_pos h];exact abt (sum_lt _)
def ans (c:Int):gy:=gy.mk c [] 0 vJ
def KP (s:StoreT)(t:aO)(n:aj)(c:Int):StoreT×gy:=match KZ s t n with
 |some m=>(m,gy.mk c (Ew n) m.Clock vJ)
 |none=>(s,ans 422)
noncomputable def NT (old:aj)(q:RequestT):Option aj:=if q.Method=4 then IE old q.Ops else if q.Method=5 then YQ old q.Body else some q.Body
noncomputable def Zr (s:StoreT)(q:RequestT)(it:bG):StoreT×gy:=
 if q.Method=1 then(s,gy.mk 200 (Ew it.Node) it.Version it.Node)else if q.Method=3 then(match KW s q.Name with
  |some m=>(m,gy.mk 200 [] m.Clock vJ)
  |none=>(s,ans 422))else match NT it.Node q with
  |some n=>KP s q.Name n 200
  |none=>(s,ans 422)
noncomputable def Cj (s:StoreT)(q:RequestT):StoreT×gy:=match KY s q.Name with
 |none=>if q.Method=2 then(if FP q.Want q.oJ [] false=200 then KP s q.Name q.Body 201 else(s,ans (FP q.Want q.oJ [] false)))else(s,ans 404)
 |some it=>if FP q.Want q.oJ (Ew it.Node) (q.Method==1)=200 then Zr s q it else(s,ans (FP q.Want q.oJ (Ew it.Node) (q.Method==1)))
noncomputable def adp (s:StoreT)(q:RequestT):StoreT×gy:=if Nk s&&OU q then Cj s q else(ZT,ans 400)
theorem XX {j:Nat} : decide (GY (some j)<0)=false:=decide_eq_false (by show ¬(j:Int)<0;omega)
theorem adR {s:StoreT}{t:aO}(hs:Nk s=true):KY s t=(Q3 s.Items t).map λj=>s.Items.getD j default:=by unfold KY;rw[if_pos hs]
theorem VT {n m:aj}{l:List oh}(h:IE n l=some m):Val m=true:=by
 unfold IE at h;split at h
 ·rename_i c;exact acv (by simp at c;exact c.1) h
 ·cases h
theorem VL {n p m:aj}(h:YQ n p=some m):Val m=true:=by
 unfold YQ at h;split at h
 ·exact(Option.filter_eq_some_iff.1 h).2
 ·cases h
theorem VN {q:RequestT}{old n:aj}(hr:OU q=true)(h:NT old q=some n):Val n=true:=by
 unfold NT at h;split at h
 ·exact VT h
 ·split at h
  ·exact VL h
  ·cases h;exact(KI.1 hr).body
theorem T.tZ {q:RequestT}{old:aj}(hq:JR 60 q)(ho:Val old=true):Ev (λf=>G.tZ f old q) (oK (NT old q)):=by
 refine Ev.up ?_;simp only[G.tZ];unfold NT;have hp:=T.pF yS (yR ho) hq.ops;obtain⟨D,hD⟩:=hq.body;have hm:=T.qC (yR ho) hD;refine Ev.ite (λe=>?_) (λe=>Ev.ite (λe2=>?_) (λe2=>?_))
 ·rw[if_pos (by simpa using e)];exact Ev.bind hp (Ev.ret _)
 ·rw[if_neg (by simpa using e),if_pos (by simpa using e2)];exact Ev.bind hm (Ev.ret _)
 ·rw[if_neg (by simpa using e),if_neg (by simpa using e2)];exact Ev.ret _
section
variable {s:StoreT} {q:RequestT} (hs:QZ s) (hq:JR 60 q)
theorem T.oz (c:Int):Ev (λf=>G.oz f c) (ans c):=by refine Ev.up ?_;simp only[G.oz];exact Ev.ret _
theorem copyS (s:StoreT)(hs:QZ s):Ev (λf=>G.dP f s) s/\Ev (λf=>G.fE f s) s:=⟨T.dP yS hs.fine,T.fE yS hs.fine⟩
include hs hq
theorem T.ni {old:aj}{b:Bool}(hr:RqF q)(ho:Val old=true):Ev (λf=>G.ni f s q old b) (match NT old q with
 |some n=>KP s q.Name n (if b then 200 else 201)
 |none=>(s,ans 422)):=by
 obtain⟨c1,_⟩:=copyS s hs;refine Ev.up ?_;simp only[G.ni];refine Ev.bind (T.tZ hq ho) ?_;cases hn:NT old q with
 |none=>exact Ev.cf rfl (Ev.bind c1 (Ev.ret _))
 | some n=>
   have hv:=VN (KI.2 hr) hn;refine Ev.ct rfl (Ev.bind (T.tX yS hs.fine hq.Me (yR hv)) ?_);show Ev _ (KP s q.Name n (if b then 200 else 201));unfold KP;simp only[oK];cases KZ s q.Name n with
   |none=>exact Ev.cf rfl (Ev.bind c1 (Ev.ret _))
   | some m=>refine Ev.ct rfl (Ev.bind (T.uq Bh (nU hv)) ?_);cases b<;>exact evd
theorem T.gV : Ev (λf=>G.gV f s q) (adp s q):=by
 obtain⟨c1,_⟩:=copyS s hs;have hsv:=Bd.2 hs;refine Ev.up ?_;simp only[G.gV];unfold adp;refine Ev.bind (T.cZ yS hs.fine) (Ev.ite (λ_=>?_) (λe=>by rw[hsv]at e;cases e));refine Ev.bind (T.lI yS hq) (Ev.ite (λe=>?_) (λe=>Ev.ret' (by rw[e,Bool.and_false];rfl)));have hr:=KI.1 e;have hw:=Jk hr.want;have ha:=Jk hr.avoid;rw[hsv,e];show Ev _ (Cj s q);unfold Cj;refine Ev.bind (T.tV q.Name yS hs.fine) ?_;cases hg:KY s q.Name with
 | none=>
   refine Ev.cf rfl (Ev.ite (λe2=>?_) (λe2=>?_))
   ·exact Ev.bind c1 (Ev.ret' (by show _=if q.Method=2 then _ else _;rw[if_neg (by simpa using e2)];rfl))
   have e2:q.Method=2:=(by simpa using e2);show Ev _ (if q.Method=2 then _ else _);rw[if_pos e2];refine Ev.up ?_;simp only[G.gV.K2,e2];refine Ev.bind (T.kF hr.want hr.avoid (O5 hr.want) (O5 hr.avoid) (.inl rfl) (by omega) (by omega)) (Ev.ite (λe3=>?_) (λe3=>?_))
   ·exact Ev.bind c1 (Ev.ret' (by rw[if_neg (by simpa using e3)];rfl))
   ·have e3:FP q.Want q.oJ [] false=200:=(by simpa using e3);rw[if_pos e3];have:=T.ni (old:=vJ) (b:=false) hs hq hr Oc;have hn:NT vJ q=some q.Body:=(by unfold NT;rw[if_neg (by omega),if_neg (by omega)]);rw[hn]at this;exact Ev.cf rfl (Ev.cf rfl (Ev.bind this (Ev.ret _)))
 | some it=>
   obtain⟨_,_,_,hv⟩:=NJ hg;have hct:=T.kF (t:=Ew it.Node) (rd:=q.Method==1) hr.want hr.avoid (O5 hr.want) (O5 hr.avoid) (.inr ⟨MW hv,by have:=ael it.Node;unfold big;omega⟩) (by omega) (by omega);refine Ev.ct rfl (Ev.bind (T.uq Bh (nU hv)) (Ev.up ?_));simp only[G.gV.K1];refine Ev.bind hct (Ev.ite (λe3=>?_) (λe3=>?_))
   ·exact Ev.bind c1 (Ev.ret' (by show _=if _=_ then _ else _;rw[if_neg (by simpa using e3)];rfl))
   show Ev _ (if _=_ then _ else _);rw[if_pos (by simpa using e3)];unfold Zr;refine Ev.ite (λe4=>?_) (λe4=>?_)
   ·rw[if_pos (by simpa using e4)];exact Ev.bind c1 (Ev.ret _)
   rw[if_neg (by simpa using e4)];refine Ev.ite (λe5=>?_) (λe5=>?_)
   ·rw[if_pos (by simpa using e5)];refine Ev.bind (Ev.up ?_) (Ev.ret _);simp only[G.pG];refine Ev.bind (T.rQ q.Name yS hs.fine) ?_;cases KW s q.Name with
    |none=>exact Ev.cf rfl (Ev.bind c1 (Ev.ret _))
    |some m=>exact Ev.ct rfl (Ev.ret _)
   ·rw[if_neg (by simpa using e5)];exact Ev.bind (T.ni hs hq hr hv) (Ev.ret _)
omit hq
theorem T.rM (t:aO):Ev (λf=>G.rM f s t) (match Q3 s.Items t with
 |some j=>Ew (s.Items.getD j default).Node
 |none=>[]):=by
 have hl:=hs.len;refine Ev.up ?_;simp only[G.rM];refine Ev.bind (T.oM t (by unfold lim;omega)) ?_;cases hj:Q3 s.Items t with
 |none=>exact Ev.ct (by decide) (Ev.ret _)
 | some j=>have hjl:=(GK.1 hj).1;have hv:=(hs.it hjl).nod;have h5:=fmt5 hv;have:=sum_lt (nT 5 (s.Items.getD j default).Node);have e:Ew (s.Items.getD j default).Node=Q8 (aam (nT 5 (s.Items.getD j default).Node)):=(by unfold Ew;rw[if_pos hv]);refine Ev.cf XX (Ev.chk (by show(0:Int)<=(j:Int)/\(j:Int)<_;omega) ?_);rw[show(GY (some j)).toNat=j from ai j];show Ev _ (Ew _);rw[e];exact Ev.bind (T.dW 5 (by omega) (lF hv)) (Ev.bind (T.pK _ (by unfold big;omega)) (Ev.bind (T.yT (by omega)) (Ev.ret _)))
theorem aco {x:bG} : ∃j,Q3 (HY x s.Items) x.Name=some j/\(HY x s.Items).getD j default=x:=by
 cases hj:Q3 (HY x s.Items) x.Name with
 |none=>exact absurd rfl (Vw.1 hj x ((FD hs.Le).2 (.inl rfl)))
 | some j=>
   obtain⟨h1,h2,_⟩:=GK.1 hj;refine⟨j,rfl,?_⟩;rcases(FD hs.Le).1 (getD_mem default h1)with e|⟨_,e⟩
   ·exact e
   ·exact absurd h2 e
theorem T.lS {t:aO}{n:aj}(ht:UR t=true)(hn:Val n=true):Ev (λf=>G.lS f s t n) (KP s t n (if(Q3 s.Items t).isSome then 200 else 201)):=by
 obtain⟨_,c2⟩:=copyS s hs;have hl:=hs.len;have K:∀c:Int,Ev (λf=>G.lS.K1 f s t n c) (KP s t n c):=λc=>by
  have e:KZ s t n=(some (Qu s t n)).filter Nk:=by unfold KZ;rw[Bd.2 hs,ht,hn];rfl
  refine Ev.up ?_;simp only[G.lS.K1];unfold KP;rw[e];refine Ev.bind (T.lW yS hs.fine (yR hn) hs) (Ev.bind (T.gY yS (acp yS hs.fine hs ht hn)) (Ev.ite (λe1=>?_) (λe1=>?_)))
  ·obtain⟨j,hj,hx⟩:=aco (x:=bG.mk t (s.Clock+1) n) hs;have ht:=T.rM (s:=Qu s t n) (Bd.1 e1) t;have hj:Q3 (Qu s t n).Items t=some j:=hj;have hx:(Qu s t n).Items.getD j default=bG.mk t (s.Clock+1) n:=hx;rw[hj]at ht;simp only[hx]at ht;refine Ev.bind ht (Ev.ret' ?_);simp[oH,e1];rfl
  ·refine Ev.bind c2 (Ev.bind (T.oz 422) (Ev.ret' ?_));simp[oH,e1]
 refine Ev.up ?_;simp only[G.lS];refine Ev.bind (T.oM t (by unfold lim;omega)) ?_;cases Q3 s.Items t with
 |none=>exact Ev.ct (by decide) (K _)
 |some j=>exact Ev.cf XX (K _)
include hq
theorem T.jS (hr:RqF q):Ev (λf=>G.jS f s q) (Cj s q):=by
 obtain⟨_,c2⟩:=copyS s hs;have hl:=hs.len;have hf:=T.oM (s:=s) q.Name (by unfold lim;omega);have htag:=T.rM hs q.Name;have hw:=Jk hr.want;have ha:=Jk hr.avoid;have chk:∀t,Ev (λf=>G.uJ f q.Want q.oJ t (q.Method==1)) (FP q.Want q.oJ t (q.Method==1)):=λt=>T.uJ (by omega) (by omega);have an:=T.oz;obtain⟨D,hD⟩:=hq.body;have hwr:=λ{n:aj} (hn:Val n=true)=>T.lS hs hr.Me hn;have K:∀(o:Option aj),(∀n,o=some n->Val n=true)->Ev (λf=>G.jS.K1 f s q (oK o).2 (oK o).1.Kind (oK o).1.Num (oK o).1.Text (oK o).1.Names (oK o).1.Kids) (match o with
  |some n=>KP s q.Name n (if(Q3 s.Items q.Name).isSome then 200 else 201)
  |none=>(s,ans 422))/\Ev (λf=>G.jS.K2 f s q (oK o).2 (oK o).1.Kind (oK o).1.Num (oK o).1.Text (oK o).1.Names (oK o).1.Kids) (match o with
  |some n=>KP s q.Name n (if(Q3 s.Items q.Name).isSome then 200 else 201)
  |none=>(s,ans 422)):=λo ho=>by
  cases o with
  | none=>
    constructor<;>refine Ev.up ?_
    ·simp only[G.jS.K1];exact Ev.cf rfl (Ev.bind c2 (Ev.bind (an _) (Ev.ret _)))
    ·simp only[G.jS.K2];exact Ev.cf rfl (Ev.bind c2 (Ev.bind (an _) (Ev.ret _)))
  | some n=>
    constructor<;>refine Ev.up ?_
    ·simp only[G.jS.K1,aj.eta];exact Ev.ct rfl (Ev.bind (hwr (ho n rfl)) (Ev.ret _))
    ·simp only[G.jS.K2,aj.eta];exact Ev.ct rfl (Ev.bind (hwr (ho n rfl)) (Ev.ret _))
 refine Ev.up ?_;simp only[G.jS];unfold Cj;rw[adR (Bd.2 hs)];refine Ev.bind hf ?_;cases hj:Q3 s.Items q.Name with
 | none=>
   rw[hj]at htag hwr;refine Ev.ct (by decide) (Ev.ite (λe=>?_) (λe=>?_))
   ·refine Ev.bind c2 (Ev.bind (an _) (Ev.ret' ?_));show _=if q.Method=2 then _ else _
    rw[if_neg (by simpa using e)]
   have e:q.Method=2:=(by simpa using e);show Ev _ (if q.Method=2 then _ else _);rw[if_pos e];have hc:=chk [];simp only[e]at hc⊢;refine Ev.bind htag (Ev.bind hc (Ev.ite (λe3=>?_) (λe3=>?_)))
   ·exact Ev.bind c2 (Ev.bind (an _) (Ev.ret' (by rw[if_neg (by simpa using e3)];rfl)))
   ·rw[if_pos (by simpa using e3)];exact Ev.cf rfl (Ev.ct rfl (Ev.bind (hwr hr.body) (Ev.ret _)))
 | some j=>
   rw[hj]at htag hwr K;have hjl:=(GK.1 hj).1;have hit:=hs.it hjl;have hv:=hit.nod;have jn:(GY (some j)).toNat=j:=ai j;have jr:0<=GY (some j)/\GY (some j)<(s.Items.length:Int):=(by show(0:Int)<=(j:Int)/\(j:Int)<_;omega);have hap:=T.jA yS (yR hv) hq.ops;have hmg:=T.pI (yR hv) hD;have k1:=K (IE (s.Items.getD j default).Node q.Ops) (λn h=>VT h);have k2:=K (YQ (s.Items.getD j default).Node q.Body) (λn h=>VL h);refine Ev.cf XX (Ev.bind htag (Ev.bind (chk _) (Ev.ite (λe3=>?_) (λe3=>?_))))
   ·refine Ev.bind c2 (Ev.bind (an _) (Ev.ret' ?_));show _=if _=_ then _ else _
    rw[if_neg (by simpa using e3)]
   have e3:FP q.Want q.oJ (Ew (s.Items.getD j default).Node) (q.Method==1)=200:=(by simpa using e3);show Ev _ (if _=_ then _ else _);rw[if_pos e3];unfold Zr;simp only[jn,e3];refine Ev.ite (λe4=>?_) (λe4=>?_)
   ·rw[if_pos (by simpa using e4)];exact Ev.bind c2 (Ev.bind htag (Ev.chk jr (Ev.chk jr (Ev.bind (T.aY Bh (nU hv)) (Ev.ret _)))))
   have e4:¬q.Method=1:=(by simpa using e4);rw[if_neg e4];refine Ev.ite (λe5=>?_) (λe5=>?_)
   ·have e5:q.Method=2:=(by simpa using e5);rw[if_neg (by omega)];unfold NT;rw[if_neg (by omega),if_neg (by omega)];exact Ev.bind (hwr hr.body) (Ev.ret _)
   refine Ev.ite (λe6=>?_) (λe6=>?_)
   ·rw[if_pos (by simpa using e6)];unfold KW;rw[Bd.2 hs,hj];refine Ev.ite (λe7=>?_) (λe7=>?_)
    ·exact Ev.bind c2 (Ev.bind (an _) (Ev.ret' (by rw[e7];rfl)))
    ·have hlo:=hs.lo;have hhi:=hs.hi;have w:af .i64 (s.Clock+1)=s.Clock+1:=(by rw[Eu (by omega) (by omega)]);rw[w,e7];exact Ev.bind (T.qx yS hs.fine hs) (Ev.ret _)
   rw[if_neg (by simpa using e6)];unfold NT;refine Ev.chk jr (Ev.bind hap (Ev.ite (λe7=>?_) (λe7=>?_)))
   ·have e7:q.Method=5:=(by simpa using e7);rw[if_neg (by omega),if_pos e7];refine Ev.chk jr (Ev.bind hmg ?_)
    first|exact k2.1|exact k2.2
   ·have e7:¬q.Method=5:=(by simpa using e7);have e5:¬q.Method=2:=(by simpa using e5);have e6:¬q.Method=3:=(by simpa using e6);have:=hr.lo;have:=hr.hi;rw[if_pos (by omega)]
    first|exact k1.1|exact k1.2
end
end
theorem ND (w a:List aO)(t:aO)(b:Bool):FP w a t b=200\/FP w a t b=304\/FP w a t b=412:=by
 unfold FP;split
 ·exact .inr (.inr rfl)
 ·split
  ·split
   ·exact .inr (.inl rfl)
   ·exact .inr (.inr rfl)
  ·exact .inl rfl
inductive YP (s:StoreT)(q:RequestT):StoreT×gy->Prop
 |no (c:Int) (h1:c≠200) (h2:c≠201) (h3:c≠400) (h4:c=404<->(KY s q.Name=none/\q.Method≠2)):YP s q (s,ans c)
 |get (it:bG) (h1:q.Method=1) (h2:KY s q.Name=some it) (h3:FP q.Want q.oJ (Ew it.Node) true=200):YP s q (s,gy.mk 200 (Ew it.Node) it.Version it.Node)
 |drop (it:bG) (m:StoreT) (h1:q.Method=3) (h2:KY s q.Name=some it) (h3:KW s q.Name=some m):YP s q (m,gy.mk 200 [] m.Clock vJ)
 |made (m:StoreT) (h1:q.Method=2) (h2:KY s q.Name=none) (h3:KZ s q.Name q.Body=some m):YP s q (m,gy.mk 201 (Ew q.Body) m.Clock vJ)
 |put (it:bG) (n:aj) (m:StoreT) (h1:q.Method=2\/q.Method=4\/q.Method=5) (h2:KY s q.Name=some it) (h3:NT it.Node q=some n) (h4:KZ s q.Name n=some m) (h5:FP q.Want q.oJ (Ew it.Node) false=200):YP s q (m,gy.mk 200 (Ew n) m.Clock vJ)
theorem Zt {s:StoreT}{q:RequestT}(hr:RqF q):YP s q (Cj s q):=by
 have h1:=hr.lo;have h5:=hr.hi;unfold Cj;cases hg:KY s q.Name with
 | none=>
   show YP s q (if q.Method=2 then _ else _);split
   ·rename_i e;rcases ND q.Want q.oJ [] false with h|h|h
    ·rw[if_pos h];unfold KP;cases hp:KZ s q.Name q.Body with
     |none=>exact .no _ (by decide) (by decide) (by decide) ⟨λh=>by omega,λh=>absurd e h.2⟩
     |some m=>exact .made m e hg hp
    ·rw[if_neg (by omega),h];exact .no _ (by decide) (by decide) (by decide) ⟨λh=>by omega,λh=>absurd e h.2⟩
    ·rw[if_neg (by omega),h];exact .no _ (by decide) (by decide) (by decide) ⟨λh=>by omega,λh=>absurd e h.2⟩
   ·rename_i e;exact .no _ (by decide) (by decide) (by decide) ⟨λ_=>⟨hg,e⟩,λ_=>rfl⟩
 | some it=>
   have no:∀c:Int,c≠200->c≠201->c≠400->c≠404->YP s q (s,ans c):=λc a b d e=>.no c a b d ⟨λh=>absurd h e,λh=>by rw[hg]at h;cases h.1⟩;show YP s q (if FP q.Want q.oJ (Ew it.Node) (q.Method==1)=200 then Zr s q it else(s,ans (FP q.Want q.oJ (Ew it.Node) (q.Method==1))));rcases ND q.Want q.oJ (Ew it.Node) (q.Method==1)with h|h|h
   ·rw[if_pos h];unfold Zr;split
    ·rename_i e;rw[show(q.Method==1)=true by simpa using e]at h;exact .get it e hg h
    ·split
     ·rename_i e;cases hd:KW s q.Name with
      |none=>exact no _ (by decide) (by decide) (by decide) (by decide)
      |some m=>exact .drop it m e hg hd
     ·rename_i e1 e3;rw[show(q.Method==1)=false by simpa using e1]at h;cases hn:NT it.Node q with
      |none=>exact no _ (by decide) (by decide) (by decide) (by decide)
      | some n=>
        unfold KP;cases hp:KZ s q.Name n with
        | none=>
          show YP s q (match KZ s q.Name n with
           |some m=>(m,gy.mk 200 (Ew n) m.Clock vJ)
           |none=>(s,ans 422))
          rw[hp];exact no _ (by decide) (by decide) (by decide) (by decide)
        | some m=>
          show YP s q (match KZ s q.Name n with
           |some m=>(m,gy.mk 200 (Ew n) m.Clock vJ)
           |none=>(s,ans 422))
          rw[hp];exact .put it n m (by omega) hg hn hp h
   ·rw[if_neg (by omega),h];exact no _ (by decide) (by decide) (by decide) (by decide)
   ·rw[if_neg (by omega),h];exact no _ (by decide) (by decide) (by decide) (by decide)
theorem adW {s:StoreT}{q:RequestT}{p:StoreT×gy}(hs:QZ s)(h:YP s q p):Nk p.1=true/\Val p.2.Body=true:=by
 cases h with
 |no c=>exact⟨Bd.2 hs,Oc⟩
 |get it h1 h2=>exact⟨Bd.2 hs,(NJ h2).2.2.2⟩
 |drop it m h1 h2 h3=>exact⟨(abe h3).2.2.2.2,Oc⟩
 |made m h1 h2 h3=>exact⟨(VX h3).2.2.2.2,Oc⟩
 |put it n m h1 h2 h3 h4=>exact⟨(VX h4).2.2.2.2,Oc⟩
theorem G8 {t:aO}(h:F9 t=true):t.length=4:=by unfold F9 at h;simp only[ah,decide_eq_true_eq]at h;exact h.2
theorem G9 {t:aO}(h:Gf t=true):t.length<=4:=by
 unfold Gf at h;simp only[iJ,beq_iff_eq]at h;rcases h with h|h
 ·rw[h];simp
 ·rw[G8 h];exact au _
theorem zW {l:List aO}(h:zC l=true):l.length<=4/\∀t,t∈l->Gf t=true:=by unfold zC at h;simp only[ah,decide_eq_true_eq,bg]at h;exact⟨h.2,h.1⟩
theorem aee {t:aO}(h:F9 t=true):DV t=34::(t++[34]):=by
 unfold F9 at h;simp only[ah,bg]at h;have:∀l:aO,(∀b,b∈l->okH b=true)->l.flatMap CG=l:=by
  intro l
  induction l with
  |nil=>intro _;rfl
  | cons b l ih=>
    intro hb;have h1:=hb b (bz ..);have:CG b=[b]:=by unfold CG;rw[if_neg];rintro(e|e)<;>(rw[e]at h1;exact absurd h1 (by decide))
    rw[bF,this,ih (λc hc=>hb c (dF _ hc))];rfl
 unfold DV;rw[this t h.1]
def Fq (t:aO):aO:=if t=[42]then [42]else 34::(t++[34])
def UD (l:List aO)(i:Nat):aO:=(if 0<i then [44]else [])++Fq (l.getD i default)
def Ei (l:List aO):aO:=if zC l then(aQ 0 l.length).flatMap (UD l)else []
theorem UE {l:List aO}(h:zC l=true)(i:Nat):(UD l i).length<=7:=by
 have h1:(if 0<i then([44]:aO)else []).length<=1:=by split<;>simp
 have h2:(l.getD i default).length<=4:=by
  by_cases hi:i<l.length
  ·exact G9 ((zW h).2 _ (getD_mem default hi))
  ·rw[bu,nG (by omega)];simp;decide
 have h3:(Fq (l.getD i default)).length<=6:=by
  unfold Fq;split
  ·simp
  ·simp only[dB,ay,gI];omega
 unfold UD;rw[ay];omega
theorem O7 (l:List aO):(Ei l).length<=28:=by
 unfold Ei;split
 ·rename_i h;have:=Yl (g:=UD l) (m:=7) l.length 0 (λj _ _=>UE h j);have:=(zW h).1;omega
 ·simp
theorem T.gB {l:List aO}(hs:Sm l):Ev (λf=>G.gB f l) (Ei l):=by
 refine Ev.up ?_;simp only[G.gB];unfold Ei;refine Ev.bind (T.iZ hs) (Ev.ite (λe=>?_) (λe=>Ev.ret' (by rw[e];rfl)));obtain⟨h4,ht⟩:=zW e;rw[e];have L:∀(k i:Nat) (z:aO),i+k=l.length->z.length+7*k<=1000->Ev (λf=>G.gB.L3 f l i z) (z++(aQ i k).flatMap (UD l)):=by
  intro k
  induction k with
  | zero=>intro i z hi hz;refine Ev.up ?_;simp only[G.gB.L3];exact Ev.cf (decide_eq_false (by omega)) (Ev.bind (T.bs' (by show z.length<=_;omega)) (Ev.ret' (by simp)))
  | succ k ih=>
    intro i z hi hz;have hil:i<l.length:=(by omega);have hl:=UE e i;have hv:=ht _ (getD_mem default hil);have h4:=G9 hv;have ez:UD l i=(if 0<i then [44]else [])++Fq (l.getD i default):=rfl;have K:∀z':aO,z'=z++(if 0<i then [44]else [])->Ev (λf=>G.gB.K4 f l i z') (z++(aQ i (k+1)).flatMap (UD l)):=λz' he=>by
     have e2:z'++Fq (l.getD i default)=z++UD l i:=(by rw[he,ez,dh]);have e3:=congrArg kE e2;simp only[ay]at e3;have hn:=ih (i+1) (z'++Fq (l.getD i default)) (by omega) (by rw[e2,ay];omega);refine Ev.up ?_;simp only[G.gB.K4,ai,dA (show i+1<9223372036854775808 by omega)];have fin:(z'++Fq (l.getD i default))++(aQ (i+1) k).flatMap (UD l)=z++(aQ i (k+1)).flatMap (UD l):=(by rw[e2,jV,bF,dh]);rw[<- fin];refine Ev.ite (λc=>?_) (λc=>?_)
     ·have c':l.getD i default=[42]:=(by simpa using c);have:Fq (l.getD i default)=l.getD i default:=(by unfold Fq;rw[if_pos c',c']);rw[this]at hn e3⊢;exact Ev.bind (T.ws (by show z'.length+_<=_;omega)) hn
     ·have c':¬l.getD i default=[42]:=(by simpa using c);have hsv:F9 (l.getD i default)=true:=by
       unfold Gf at hv;simp only[iJ,beq_iff_eq]at hv;exact hv.resolve_left c'
      have:Fq (l.getD i default)=DV (l.getD i default):=(by unfold Fq;rw[if_neg c',aee hsv]);rw[this]at hn e3⊢;exact Ev.bind (T.gU (by omega)) hn
    refine Ev.up ?_;simp only[G.gB.L3];refine Ev.ct (decide_eq_true (by omega)) (Ev.chk (by omega) ?_);by_cases h0:0<i
    ·exact Ev.ct (decide_eq_true (by omega)) (Ev.bind (DY 44 (by omega)) (K _ (by rw[if_pos h0])))
    ·exact Ev.cf (decide_eq_false (by omega)) (K _ (by rw[if_neg h0,eX]))
 exact(L l.length 0 [] (by omega) (by simp;omega)).eq (by simp)
theorem T.fK {l:List aO}(hs:Sm l):Ev (λf=>G.fK f l) (Ei l):=by
 have hM:=maxL;refine Ev.up ?_;simp only[G.fK];unfold Ei;refine Ev.bind (T.gZ hs) (Ev.ite (λe=>?_) (λe=>Ev.ret' (by rw[e];rfl)));obtain⟨h4,ht⟩:=zW e;rw[e];have L:∀(k i:Nat) (z:aO),i+k=l.length->z.length+7*k<=1000->Ev (λf=>G.fK.L3 f l z i) (z++(aQ i k).flatMap (UD l)):=by
  intro k
  induction k with
  | zero=>intro i z hi hz;refine Ev.up ?_;simp only[G.fK.L3];exact Ev.cf (decide_eq_false (by omega)) (Ev.ret' (by simp))
  | succ k ih=>
    intro i z hi hz;have hil:i<l.length:=(by omega);have hl:=UE e i;have h4:=G9 (ht _ (getD_mem default hil));have ez:UD l i=(if 0<i then [44]else [])++Fq (l.getD i default):=rfl;have K:∀z':aO,z'=z++(if 0<i then [44]else [])->Ev (λf=>G.fK.K4 f l i z') (z++(aQ i (k+1)).flatMap (UD l)):=λz' he=>by
     have e2:z'++Fq (l.getD i default)=z++UD l i:=(by rw[he,ez,dh]);have e3:=congrArg kE e2;simp only[ay]at e3;have hn:=ih (i+1) (z'++Fq (l.getD i default)) (by omega) (by rw[e2,ay];omega);refine Ev.up ?_;simp only[G.fK.K4,ai,dA (show i+1<9223372036854775808 by omega)];have fin:(z'++Fq (l.getD i default))++(aQ (i+1) k).flatMap (UD l)=z++(aQ i (k+1)).flatMap (UD l):=(by rw[e2,jV,bF,dh]);rw[<- fin];refine Ev.chk (by omega) (Ev.ite (λc=>?_) (λc=>?_))
     ·have c':l.getD i default=[42]:=(by simpa using c);have:Fq (l.getD i default)=[42]:=(by unfold Fq;rw[if_pos c']);rw[this]at hn e3⊢;simp only[bC]at e3;exact Ev.chk (by omega) hn
     ·have c':¬l.getD i default=[42]:=(by simpa using c);have:Fq (l.getD i default)=34::(l.getD i default++[34]):=(by unfold Fq;rw[if_neg c']);rw[this]at hn e3⊢;simp only[dB,ay,gI]at e3;refine Ev.chk (by omega) (Ev.chk (by omega) (Ev.chk (by omega) (Ev.chk (by omega) ?_)));simpa using hn
    refine Ev.up ?_;simp only[G.fK.L3];refine Ev.ct (decide_eq_true (by omega)) ?_;by_cases h0:0<i
    ·exact Ev.ct (decide_eq_true (by omega)) (Ev.chk (by omega) (K _ (by rw[if_pos h0])))
    ·exact Ev.cf (decide_eq_false (by omega)) (K _ (by rw[if_neg h0,eX]))
 exact(L l.length 0 [] (by omega) (by simp;omega)).eq (by simp)
def Gp (s:aO):aj:=aj.mk 2 0 s [] []
def EF (p:List aO):aj:=aj.mk 3 0 [] [] (p.map Gp)
def Gm : List aO:=[[],[97,100,100],[114,101,109,111,118,101],[114,101,112,108,97,99,101],[109,111,118,101],[99,111,112,121],[116,101,115,116]]
def Ql : List aO:=[[102,114,111,109],[111,112],[112,97,116,104],[118,97,108,117,101]]
def Hy (o:oh):aj:=aj.mk 4 0 [] Ql [EF o.From,Gp (Gm.getD o.Kind.toNat default),EF o.Path,o.Value]
theorem Wv {s:aO}(h:s.length<=12):Fine 12 2 (Gp s):=⟨h,aN _,(λs h=>by cases h),aN _,(λh=>by cases h),(λk h=>by cases h)⟩
theorem We {p:List aO}(h:PP p=true):Fine 12 3 (EF p):=by
 have hp:=uU h;refine⟨by simp[EF],by simp[EF],(λs h=>by cases h),?_,(λh=>by cases h),λk hk=>?_⟩
 ·show(p.map Gp).length<=12;rw[kJ];exact hp.1
 ·obtain⟨s,hs,rfl⟩:=oZ.1 (show k∈p.map Gp from hk);exact Wv (hp.2 s hs)
theorem Ud {o:oh}(h:Jp o):o.Kind=1\/o.Kind=2\/o.Kind=3\/o.Kind=4\/o.Kind=5\/o.Kind=6:=by have:=h.k1;have:=h.k6;omega
theorem VP {o:oh}(h:JS o=true):Fine 12 6 (Hy o):=by
 have hf:=uN h;refine⟨by simp[Hy],by simp[Hy,Ql],?_,by simp[Hy],λ_=>by simp[Hy,Ql],λk hk=>?_⟩
 ·intro s hs;simp[Hy,Ql]at hs;rcases hs with rfl|rfl|rfl|rfl<;>simp
 ·have hk:k∈[EF o.From,Gp (Gm.getD o.Kind.toNat default),EF o.Path,o.Value]:=hk;simp only[cO,Ad,or_false]at hk;rcases hk with rfl|rfl|rfl|rfl
  ·exact(We hf.from_).mono (au _) (by decide)
  ·refine(Wv ?_).mono (au _) (by decide);rcases Ud hf with e|e|e|e|e|e<;>rw[e]<;>decide
  ·exact(We hf.path).mono (au _) (by decide)
  ·exact nU hf.val
theorem T.agA {p:List aO}(h:p.length<=1000):Ev (λf=>G.kK f p) (EF p):=by
 have L:∀(k i:Nat) (z:List aj),i+k=p.length->z.length<=i->Ev (λf=>G.kK.L1 f p i z) (aj.mk 3 0 [] [] (z++(p.drop i).map Gp)):=by
  intro k
  induction k with
  | zero=>intro i z hi hz;refine Ev.up ?_;simp only[G.kK.L1];exact Ev.cf (decide_eq_false (by omega)) (Ev.ret' (by rw[ak (by omega)];simp))
  | succ k ih=>intro i z hi hz;have hn:=ih (i+1) (z++[Gp (p.getD i default)]) (by omega) (by simp;omega);refine Ev.up ?_;simp only[G.kK.L1,ai,dA (show i+1<9223372036854775808 by omega)];refine Ev.ct (decide_eq_true (by omega)) (Ev.chk (by omega) (Ev.chk (by omega) (hn.eq ?_)));rw[dI default (by omega:i<p.length),dh];rfl
 refine Ev.up ?_;simp only[G.kK];exact(L p.length 0 [] (by omega) (by simp)).eq (by simp[EF])
theorem T.agB {p:List aO}(h:p.length<=1000):Ev (λf=>G.qp f p) (EF p):=by
 have W:∀s:aO,Ev (λf=>G.wX f s) (Gp s):=λs=>by refine Ev.up ?_;simp only[G.wX];exact Ev.ret _
 have L:∀(k i:Nat) (z:List aj),i+k=p.length->z.length<=i->Ev (λf=>G.qp.L1 f p i z) (aj.mk 3 0 [] [] (z++(p.drop i).map Gp)):=by
  intro k
  induction k with
  | zero=>intro i z hi hz;refine Ev.up ?_;simp only[G.qp.L1];exact Ev.cf (decide_eq_false (by omega)) (Ev.ret' (by rw[ak (by omega)];simp))
  | succ k ih=>intro i z hi hz;have hn:=ih (i+1) (z++[Gp (p.getD i default)]) (by omega) (by simp;omega);refine Ev.up ?_;simp only[G.qp.L1,ai,dA (show i+1<9223372036854775808 by omega)];refine Ev.ct (decide_eq_true (by omega)) (Ev.chk (by omega) (Ev.bind (W _) (Ev.chk (by omega) (hn.eq ?_))));rw[dI default (by omega:i<p.length),dh];rfl
 refine Ev.up ?_;simp only[G.qp];exact(L p.length 0 [] (by omega) (by simp)).eq (by simp[EF])
theorem T.pW {o:oh}(h:JS o=true):Ev (λf=>G.pW f o) (Hy o):=by
 have hf:=uN h;have h1:=(uU hf.from_).1;have h2:=(uU hf.path).1;have k1:=hf.k1;have k6:=hf.k6;refine Ev.up ?_;simp only[G.pW];refine Ev.bind (T.agB (by omega)) (Ev.bind (a:=Gm) (Ev.up ?_) (Ev.chk (by show 0<=o.Kind/\o.Kind<((7:Nat):Int);omega) (Ev.bind (a:=Gp (Gm.getD o.Kind.toNat default)) (Ev.up ?_) (Ev.bind (T.agB (by omega)) (Ev.bind (T.aY Bh (nU hf.val)) (Ev.ret _))))))
 ·simp only[G.uf];exact Ev.ret _
 ·simp only[G.wX];exact Ev.ret _
theorem T.rV {o:oh}(hfo:∃D,Oj 60 D o):Ev (λf=>G.rV f o) (oK (if JS o then(some (Hy o)).filter Val else none)):=by
 obtain⟨D,hD⟩:=hfo;refine Ev.up ?_;simp only[G.rV];refine Ev.bind (T.rq yS hD) (Ev.ite (λe=>?_) (λe=>Ev.ret' (by rw[e];rfl)));have hf:=uN e;have h1:=(uU hf.from_).1;have h2:=(uU hf.path).1;have hw:Ev (λf=>G.tH f o.Kind) (Gm.getD o.Kind.toNat default):=by refine Ev.up ?_;simp only[G.tH];rcases Ud hf with e|e|e|e|e|e<;>rw[e]<;>exact evd
 have gc:=T.mX (o:=some (Hy o)) Bh (λm hm=>by cases hm;exact VP e);rw[e];exact Ev.bind (T.agA (by omega)) (Ev.bind hw (Ev.bind (T.agA (by omega)) (Ev.bind (T.aP Bh (nU hf.val)) (Ev.bind gc (Ev.ret _)))))
section
def opP (o:oh):aO:=nT 5 (Hy o)++[59]
def okO (l:List oh):Bool:=l.all λo=>Val (Hy o)
def opsT (l:List oh):aO:=l.flatMap opP
theorem aeb {o:oh}(h:Val (Hy o)=true):(opP o).length<=4000001:=by unfold opP;have:=fmt5 h;rw[ay,bC];omega
theorem Qo {l:List oh}(h:EH l=true):l.length<=12/\∀o,o∈l->JS o=true:=by unfold EH at h;simp only[ah,decide_eq_true_eq,bg]at h;exact⟨h.2,h.1⟩
theorem T.kG {l:List oh}(hl:JQ l)(h:EH l=true):Ev (λf=>G.kG f l) (if okO l then(opsT l,true)else([],false)):=by
 obtain⟨h12,hv⟩:=Qo h;have L:∀(k i:Nat) (z:aO),i+k=l.length->z.length+4000001*k<=60000000->Ev (λf=>G.kG.L1 f l i z) (if okO (l.drop i)then(z++opsT (l.drop i),true)else([],false)):=by
  intro k
  induction k with
  | zero=>intro i z hi hz;refine Ev.up ?_;simp only[G.kG.L1];rw[ak (by omega)];exact Ev.cf (decide_eq_false (by omega)) (Ev.bind (T.bs' (by show z.length<=_;omega)) (Ev.ret' (by simp[okO,opsT])))
  | succ k ih=>
    intro i z hi hz;have hil:i<l.length:=(by omega);have hm:=getD_mem default hil;have hov:=hv _ hm;have hO:=T.rV (o:=l.getD i default) (hl.2 _ hm);rw[hov]at hO;rw[dI default hil];refine Ev.up ?_;simp only[G.kG.L1,ai,oh.eta,dA (show i+1<9223372036854775808 by omega)];refine Ev.ct (decide_eq_true (by omega)) (Ev.chk (by omega) (Ev.bind hO ?_));cases hn:Val (Hy (l.getD i default))with
    | false=>have e:okO (l.getD i default::l.drop (i+1))=false:=(by unfold okO;rw[dJ,hn];rfl);rw[e];simp only[oH,hn,if_true,if_false,Bool.false_eq_true];exact Ev.cf rfl (Ev.ret _)
    | true=>have e:okO (l.getD i default::l.drop (i+1))=okO (l.drop (i+1)):=(by unfold okO;rw[dJ,hn];rfl);have hf:=fmt5 hn;rw[e];simp only[oH,hn,if_true,oK];refine Ev.ct rfl (Ev.bind (T.bP 5 (lF hn) (by omega)) (Ev.bind (DY 59 (by rw[ay];omega)) ?_));refine(ih (i+1) _ (by omega) (by rw[ay,ay,bC];omega)).eq ?_;have:opsT (l.getD i default::l.drop (i+1))=opP (l.getD i default)++opsT (l.drop (i+1)):=(by unfold opsT;rw[bF]);rw[this];unfold opP;simp only[dh]
 refine Ev.up ?_;simp only[G.kG];exact(L l.length 0 [] (by omega) (by simp;omega)).eq (by rw[bZ,gJ])
def Hl : List aO:=[[],[103,101,116],[112,117,116],[100,101,108,101,116,101],[112,97,116,99,104],[109,101,114,103,101]]
def hdT (q:RequestT):aO:=Hl.getD q.Method.toNat default++[32]++q.Name++[32]++Ei q.Want++[32]++Ei q.oJ++[32]
def Jl (q:RequestT):aO:=hdT q++(if q.Method=4 then opsT q.Ops else nT 5 q.Body)
def lean (q:RequestT):Bool:=(q.Body.Kind==0||q.Method==2||q.Method==5)&&(q.Ops.isEmpty||q.Method==4)
def xQ (q:RequestT):aO:=if OU q&&(lean q&&okO q.Ops)then Jl q else []
structure RqP (q:RequestT):Prop where
 lo:1<=q.Method
 hi:q.Method<=5
 Me:UR q.Name=true
 want:zC q.Want=true
 avoid:zC q.oJ=true
 body:Val q.Body=true
 ops:EH q.Ops=true
theorem Ur {q:RequestT}(h:OU q=true):RqP q:=by unfold OU at h;simp only[ah,decide_eq_true_eq]at h;obtain⟨⟨a,b⟩,c,d,e,f,g⟩:=h;exact⟨a,b,c,d,e,f,g⟩
theorem meth {q:RequestT}(h:RqP q):q.Method=1\/q.Method=2\/q.Method=3\/q.Method=4\/q.Method=5:=by have:=h.lo;have:=h.hi;omega
theorem YJ {q:RequestT}(h:RqP q):(Hl.getD q.Method.toNat default).length<=6:=by rcases meth h with e|e|e|e|e<;>rw[e]<;>decide
theorem MX {l:List aO}(h:zC l=true):Sm l:=by obtain⟨h1,h2⟩:=zW h;refine⟨by unfold big;omega,λt ht=>?_⟩;have:=G9 (h2 t ht);unfold big;omega
theorem aec {l:List oh}(h:okO l=true):(opsT l).length<=l.length*4000001:=by
 unfold okO at h
 induction l with
 |nil=>simp[opsT]
 | cons o l ih=>rw[dJ,ah]at h;have h1:=aeb h.1;have h2:=ih h.2;unfold opsT at *;rw[bF,ay,dB,Nat.add_mul];omega
theorem agp (a b c d e:aO):sH [a,b,c,d,e] [32]=a++[32]++b++[32]++c++[32]++d++[32]++e:=by simp[sH,DD,DF,List.flatten]
section
variable {q:RequestT} (hq:JR 60 q)
include hq
theorem T.aT : Ev (λf=>G.aT f q) (xQ q):=by
 refine Ev.up ?_;simp only[G.aT];unfold xQ;refine Ev.bind (T.lI yS hq) (Ev.ite (λe=>?_) (λe=>Ev.ret' (by rw[e];rfl)));have hr:=Ur e;obtain⟨D,hD⟩:=hq.body;have hF:=T.jL yS hD;have eF:SC q.Body=nT 5 q.Body:=by unfold SC;rw[if_pos hr.body]
 rw[eF]at hF;have h5:=fmt5 hr.body;have hn:=(I9 hr.Me).2;have hv:=YJ hr;have t1:=O7 q.Want;have t2:=O7 q.oJ;have hm:Ev (λf=>G.ny f q.Method) (Hl.getD q.Method.toNat default):=by refine Ev.up ?_;simp only[G.ny];rcases meth hr with e|e|e|e|e<;>rw[e]<;>exact evd
 have hT1:=T.gB (MX hr.want);have hT2:=T.gB (MX hr.avoid);have hJ:∀c:aO,c.length<=60000000->Ev (λf=>G.strings_Join f [Hl.getD q.Method.toNat default,q.Name,Ei q.Want,Ei q.oJ,c] [32]) (hdT q++c):=λc hc=>by refine Ev.up ?_;simp only[G.strings_Join];rw[agp];refine Ev.chk ⟨by simp,?_⟩ (Ev.ret' rfl);simp only[ay,bC];omega
 have K2:∀c:aO,c.length<=60000000->Ev (λf=>G.aT.K2 f q c) (hdT q++c)/\Ev (λf=>G.aT.K4 f q c) (hdT q++c):=λc hc=>by
  constructor<;>refine Ev.up ?_
  ·simp only[G.aT.K2];exact Ev.bind hm (Ev.bind hT1 (Ev.bind hT2 (Ev.bind (hJ c hc) (Ev.ret _))))
  ·simp only[G.aT.K4];exact Ev.bind hm (Ev.bind hT1 (Ev.bind hT2 (Ev.bind (hJ c hc) (Ev.ret _))))
 have hO:=T.kG hq.ops hr.ops;have hol:=(Qo hr.ops).1;have K1:(q.Ops.isEmpty||q.Method==4)=true->Ev (λf=>G.aT.K1 f q) (if okO q.Ops then Jl q else [])/\Ev (λf=>G.aT.K3 f q) (if okO q.Ops then Jl q else []):=λhc=>by
  unfold Jl;by_cases c4:q.Method=4
  ·rw[if_pos c4];cases ho:okO q.Ops with
   | true=>
     rw[ho]at hO;have:=aec ho;have hlen:(opsT q.Ops).length<=60000000:=by have:q.Ops.length*4000001<=12*4000001:=bD _ hol;omega
     constructor<;>refine Ev.up ?_
     ·simp only[G.aT.K1];exact Ev.bind hF (Ev.ct (by simpa using c4) (Ev.bind hO (Ev.ct rfl (K2 _ hlen).1)))
     ·simp only[G.aT.K3];exact Ev.bind hF (Ev.ct (by simpa using c4) (Ev.bind hO (Ev.ct rfl (K2 _ hlen).2)))
   | false=>
     rw[ho]at hO;constructor<;>refine Ev.up ?_
     ·simp only[G.aT.K1];exact Ev.bind hF (Ev.ct (by simpa using c4) (Ev.bind hO (Ev.cf rfl (Ev.ret _))))
     ·simp only[G.aT.K3];exact Ev.bind hF (Ev.ct (by simpa using c4) (Ev.bind hO (Ev.cf rfl (Ev.ret _))))
  ·rw[if_neg c4];have he:q.Ops=[]:=by
    have:q.Ops.isEmpty=true:=(by simpa[c4]using hc);simpa using this
   have ho:okO q.Ops=true:=(by rw[he];rfl);rw[ho];constructor<;>refine Ev.up ?_
   ·simp only[G.aT.K1];exact Ev.bind hF (Ev.cf (by simpa using c4) (K2 _ (by omega)).1)
   ·simp only[G.aT.K3];exact Ev.bind hF (Ev.cf (by simpa using c4) (K2 _ (by omega)).2)
 have eo:decide ((0:Int)<(q.Ops.length:Int)) = !q.Ops.isEmpty:=by cases q.Ops<;>simp
 rw[e];unfold lean;simp only[eo];have fin:∀b:Bool,(b&&(q.Ops.isEmpty||q.Method==4))=true->((if(true&&((b&&(q.Ops.isEmpty||q.Method==4))&&okO q.Ops))=true then Jl q else [])=if okO q.Ops then Jl q else []):=λb hb=>by rw[hb];simp
 have g:∀(b:Bool) (g:Nat->Option aO),b=true->((q.Ops.isEmpty||q.Method==4)=true->Ev g (if okO q.Ops then Jl q else [])) ->
  Ev (λf=>cond (q.Method != 4) (cond (!q.Ops.isEmpty) (some []) (g f)) (g f)) (if(true&&((b&&(q.Ops.isEmpty||q.Method==4))&&okO q.Ops))=true then Jl q else []):=λb g hb hg=>by
  subst hb;refine Ev.ite (λc4=>Ev.ite (λco=>Ev.ret' ?_) (λco=>?_)) (λc4=>?_)
  ·have h1:q.Ops.isEmpty=false:=(by simpa using co);have h2:(q.Method==4)=false:=(by simpa using c4);rw[h1,h2];rfl
  ·have h1:q.Ops.isEmpty=true:=(by simpa using co);have h2:(q.Ops.isEmpty||q.Method==4)=true:=(by rw[h1];rfl);rw[fin true (by rw[h2];rfl)];exact hg h2
  ·have h1:(q.Method==4)=true:=(by simpa using c4);have h2:(q.Ops.isEmpty||q.Method==4)=true:=(by rw[h1];simp);rw[fin true (by rw[h2];rfl)];exact hg h2
 refine Ev.ite (λc2=>g _ _ (by rw[c2];simp) (λh=>(K1 h).1)) (λc2=>Ev.ite (λc5=>g _ _ (by rw[c5];simp) (λh=>(K1 h).2)) (λc5=>Ev.ite (λc0=>Ev.ret' ?_) (λc0=>?_)))
 ·have h0:(q.Body.Kind==0)=false:=by simpa using c0
  rw[h0,c2,c5];rfl
 ·have h0:(q.Body.Kind==0)=true:=by simpa using c0
  exact g _ _ (by rw[h0];rfl) (λh=>(K1 h).2)
theorem T.dm : Ev (λf=>G.dm f q) (xQ q):=by
 have hM:=maxL;refine Ev.up ?_;simp only[G.dm];unfold xQ;refine Ev.bind (T.kS yS hq) (Ev.ite (λe=>?_) (λe=>Ev.ret' (by rw[e];rfl)));have hr:=Ur e;have h5:=fmt5 hr.body;have hn:=(I9 hr.Me).2;have hv:=YJ hr;have t1:=O7 q.Want;have t2:=O7 q.oJ;obtain⟨h12,hov⟩:=Qo hr.ops;have hT1:=T.fK (MX hr.want);have hT2:=T.fK (MX hr.avoid);have lo:=hr.lo;have hi:=hr.hi;have hd:(hdT q).length<=100:=by unfold hdT;simp only[ay,bC];omega
 have L1:okO q.Ops=true->∀(k i:Nat) (z:aO),i+k=q.Ops.length->z.length+4000001*k<=60000000->Ev (λf=>G.jq.L1 f q z i) (z++opsT (q.Ops.drop i)):=by
  intro ho k
  induction k with
  | zero=>intro i z hi hz;refine Ev.up ?_;simp only[G.jq.L1];rw[ak (by omega)];exact Ev.cf (decide_eq_false (by omega)) (Ev.ret' (by simp[opsT]))
  | succ k ih=>
    intro i z hi hz;have hil:i<q.Ops.length:=(by omega);have hm:=getD_mem default hil;have hn:Val (Hy (q.Ops.getD i default))=true:=by unfold okO at ho;exact bg.1 ho _ hm
    have hf:=fmt5 hn;rw[dI default hil];refine Ev.up ?_;simp only[G.jq.L1,ai,oh.eta,dA (show i+1<9223372036854775808 by omega)];refine Ev.ct (decide_eq_true (by omega)) (Ev.chk (by omega) (Ev.bind (T.pW (hov _ hm)) (Ev.bind (T.dW 5 (by omega) (lF hn)) (Ev.chk (by omega) (Ev.chk (by omega) ?_)))));refine(ih (i+1) _ (by omega) (by rw[ay,ay,bC];omega)).eq ?_;have:opsT (q.Ops.getD i default::q.Ops.drop (i+1))=opP (q.Ops.getD i default)++opsT (q.Ops.drop (i+1)):=(by unfold opsT;rw[bF]);rw[this];unfold opP;simp only[dh]
 have F:okO q.Ops=true->Ev (λf=>G.jq f q) (Jl q):=λho=>by
  refine Ev.up ?_;simp only[G.jq];have hmn:(q.Method.toNat:Int)=q.Method:=by omega
  refine Ev.bind (a:=Hl) (Ev.up ?_) (Ev.chk (by show 0<=q.Method/\q.Method<((6:Nat):Int);omega) (Ev.chk (by omega) (Ev.chk (by omega) (Ev.chk (by omega) (Ev.bind hT1 (Ev.chk (by omega) (Ev.chk (by omega) (Ev.bind hT2 (Ev.chk (by omega) (Ev.chk (by omega) (Ev.ite (λc4=>?_) (λc4=>?_))))))))))))
  ·simp only[G.vU];exact Ev.ret _
  ·unfold Jl;rw[if_pos (by simpa using c4)];have:=bD 4000001 h12;exact(L1 ho q.Ops.length 0 (hdT q) (by omega) (by omega)).eq (by rw[bZ])
  ·unfold Jl;rw[if_neg (by simpa using c4)];exact Ev.bind (T.dW 5 (by omega) (lF hr.body)) (Ev.chk (by omega) (Ev.ret' rfl))
 have L2:∀(k i:Nat),i+k=q.Ops.length->okO q.Ops=okO (q.Ops.drop i)->Ev (λf=>G.dm.L2 f q i) (if okO q.Ops then Jl q else []):=by
  intro k
  induction k with
  | zero=>intro i hi ho;rw[ak (by omega)]at ho;have ho:okO q.Ops=true:=ho;refine Ev.up ?_;simp only[G.dm.L2];rw[ho];exact Ev.cf (decide_eq_false (by omega)) (Ev.bind (F ho) (Ev.ret _))
  | succ k ih=>
    intro i hi ho;have hil:i<q.Ops.length:=(by omega);have hm:=getD_mem default hil;rw[dI default hil]at ho;refine Ev.up ?_;simp only[G.dm.L2,ai,oh.eta,dA (show i+1<9223372036854775808 by omega)];refine Ev.ct (decide_eq_true (by omega)) (Ev.chk (by omega) (Ev.bind (T.pW (hov _ hm)) (Ev.bind (T.eG Bh (VP (hov _ hm))) (Ev.ite (λhn=>?_) (λhn=>Ev.ret' ?_)))))
    ·refine ih (i+1) (by omega) ?_;rw[ho];unfold okO;rw[dJ,hn];rfl
    ·have:okO q.Ops=false:=(by rw[ho];unfold okO;rw[dJ,hn];rfl);rw[this];rfl
 have K1:Ev (λf=>G.dm.K1 f q) (if okO q.Ops then Jl q else []):=by refine Ev.up ?_;simp only[G.dm.K1];exact L2 q.Ops.length 0 (by omega) (by rw[bZ])
 have eo:decide ((0:Int)<(q.Ops.length:Int)) = !q.Ops.isEmpty:=by cases q.Ops<;>simp
 have e2:(q.Method != 2) = !(q.Method==2):=rfl;have e5:(q.Method != 5) = !(q.Method==5):=rfl;have e4:(q.Method != 4) = !(q.Method==4):=rfl;have e0:(q.Body.Kind != 0) = !(q.Body.Kind==0):=rfl;rw[e];unfold lean;simp only[eo,e2,e5,e4,e0];clear L1 F L2 eo e2 e5 e4 e0;generalize (q.Body.Kind==0)=b0;generalize (q.Method==2)=b2;generalize (q.Method==5)=b5;generalize (q.Method==4)=b4;generalize q.Ops.isEmpty=bo;cases b0<;>cases b2<;>cases b5<;>cases b4<;>cases bo<;>exact evd
end
end
theorem afc {α:Type}{l:List α}{i:Nat}(d:α)(h:i<l.length):l.getD i d∈l:=by rw[fZ d h];exact dO h
theorem acz {α:Type}{l z:List α}{i:Nat}(hi:i<l.length)(hz:z.length=l.length)(ht:z.take i=l.take i):(z.set i l[i]).take (i+1)=l.take (i+1):=by rw[iH (by rw[yl];omega),iH hi,List.getElem_set_self,List.take_set_of_le (au i),ht]
theorem T.afK {l:List aO}(hl:l.length<=lim):Ev (λf=>G.kP f l) l:=by
 unfold lim at hl;have L:∀(k i:Nat) (z:List aO),i+k=l.length->z.length=l.length->z.take i=l.take i->Ev (λf=>G.kP.L1 f l i z) l:=by
  intro k
  induction k with
  | zero=>intro i z hi hz ht;refine Ev.up ?_;simp only[G.kP.L1];rw[aF (by omega),aF (by omega)]at ht;exact Ev.cf (decide_eq_false (by omega)) (Ev.ret' ht)
  | succ k ih=>intro i z hi hz ht;have hil:i<l.length:=(by omega);refine Ev.up ?_;simp only[G.kP.L1,ai,dA (show i+1<9223372036854775808 by omega)];refine Ev.ct (decide_eq_true (by omega)) (Ev.chk (by omega) (Ev.chk (by omega) (ih (i+1) _ (by omega) (by rw[yl];exact hz) ?_)));rw[fZ _ hil];exact acz hil hz ht
 refine Ev.up ?_;simp only[G.kP];exact Ev.chk (by omega) (L l.length 0 _ (by omega) (by simp) rfl)
theorem T.afb {l:List aO}(hl:l.length<=lim):Ev (λf=>G.lJ f l l) true:=by
 unfold lim at hl;have L:∀(k i:Nat),i+k=l.length->Ev (λf=>G.lJ.L1 f l l i) true:=by
  intro k
  induction k with
  | zero=>intro i hi;refine Ev.up ?_;simp only[G.lJ.L1];exact Ev.cf (decide_eq_false (by omega)) (Ev.ret _)
  | succ k ih=>intro i hi;refine Ev.up ?_;simp only[G.lJ.L1,dA (show i+1<9223372036854775808 by omega)];exact Ev.ct (decide_eq_true (by omega)) (Ev.chk (by omega) (Ev.chk (by omega) (Ev.ct (by simp) (ih (i+1) (by omega)))))
 refine Ev.up ?_;simp only[G.lJ];exact Ev.cf (by simp) (L l.length 0 (by omega))
def mx : Nat:=9223372036854775807
theorem Nb {x:Int}(h0 : -9223372036854775808<=x)(h1:x<9223372036854775808):af .i64 x=x:=by simp only[af,Go.IntKind.bits,Go.IntKind.signed];simp;omega
theorem T.afI {l:List aO}(h1:l.length<=mx)(h2:∀s,s∈l->s.length<=mx){left:Int}(h0:0<=left)(hl:left<=1048576) :
 ∃r,Ev (λf=>G.kN f l left) r/\r<=left/\(0<=r->(l.length:Int)<=left/\∀s,s∈l->(s.length:Int)<=left):=by
 unfold mx at *;have w0:af .i64 (left-(l.length:Int))=left-(l.length:Int):=Nb (by omega) (by omega);by_cases c:left-(l.length:Int)<0
 ·refine⟨-1,Ev.up ?_,by omega,λh=>by omega⟩;simp only[G.kN,w0];exact Ev.ct (decide_eq_true c) (Ev.ret _)
 ·have L:∀(k i:Nat) (a:Int),i+k=l.length->0<=a->a<=1048576->∃r,Ev (λf=>G.kN.L1 f l a i) r/\r<=a/\(0<=r->∀s,s∈l.drop i->(s.length:Int)<=a):=by
   intro k
   induction k with
   | zero=>
     intro i a hi ha ha2;refine⟨a,Ev.up ?_,by omega,λ_ s hs=>?_⟩
     ·simp only[G.kN.L1];exact Ev.cf (decide_eq_false (by omega)) (Ev.ret _)
     ·rw[ak (by omega)]at hs;cases hs
   | succ k ih=>
     intro i a hi ha ha2;have hil:i<l.length:=(by omega);have hb:=h2 _ (afc default hil);have w1:af .i64 (a-((l.getD i default).length:Int))=a-((l.getD i default).length:Int):=Nb (by omega) (by omega);by_cases c1:a-((l.getD i default).length:Int)<0
     ·refine⟨-1,Ev.up ?_,by omega,λh=>by omega⟩;simp only[G.kN.L1,ai,w1];exact Ev.ct (decide_eq_true (by omega)) (Ev.chk (by omega) (Ev.ct (decide_eq_true c1) (Ev.ret _)))
     ·obtain⟨r,g,g1,g2⟩:=ih (i+1) (a-((l.getD i default).length:Int)) (by omega) (by omega) (by omega);refine⟨r,Ev.up ?_,by omega,λh s hs=>?_⟩
      ·simp only[G.kN.L1,ai,w1,dA (show i+1<9223372036854775808 by omega)];exact Ev.ct (decide_eq_true (by omega)) (Ev.chk (by omega) (Ev.cf (decide_eq_false c1) g))
      ·rw[dI default hil]at hs;rcases cO.1 hs with e|e
       ·rw[e];omega
       ·have:=g2 h s e;omega
  obtain⟨r,g,g1,g2⟩:=L l.length 0 (left-(l.length:Int)) (by omega) (by omega) (by omega);refine⟨r,Ev.up ?_,by omega,λh=>⟨by omega,λs hs=>?_⟩⟩
  ·simp only[G.kN,w0];exact Ev.cf (decide_eq_false c) g
  ·have:=g2 h s (by rw[bZ];exact hs);omega
structure Iw (B D:Nat)(o:oh):Prop where
 path:o.Path.length<=B/\∀s,s∈o.Path->s.length<=B
 from_:o.From.length<=B/\∀s,s∈o.From->s.length<=B
 val:vH B D o.Value
theorem Iw.mono {B D D':Nat}{o:oh}(h:Iw B D o)(hD:D<=D'):Iw B D' o:=⟨h.path,h.from_,h.val.mono (au _) hD⟩
theorem Iw.all {B:Nat} : ∀{l:List oh} (D:Nat),(∀o,o∈l->∃D,Iw B D o)->∃D',D<=D'/\∀o,o∈l->Iw B D' o
 |[],D,_=>⟨D,au _,λo h=>by cases h⟩
 | o::l,D,h=>by
   obtain⟨d,hd⟩:=h o (bz ..);obtain⟨D',h1,h2⟩:=Iw.all (l:=l) (max D d) (λo ho=>h o (dF _ ho));refine⟨D',by omega,λx hx=>?_⟩;rcases cO.1 hx with e|e
   ·rw[e];exact hd.mono (by omega)
   ·exact h2 x e
theorem ad4 : 1048576<=lim:=by decide
def KX (l:List oh):Prop:=l.length<=1048576/\∀o,o∈l->∃D,Iw 1048576 D o
theorem T0.nY {B D:Nat}{o:oh}(hB:B<=lim)(h:Iw B D o):Ev (λf=>G.nY f o) (JS o):=by refine Ev.up ?_;simp only[G.nY];unfold JS;refine Ev.bind (T.fP _ _ _) (Ev.ite (λe1=>?_) (λe1=>Ev.ret' (by rw[e1];rfl)));refine Ev.bind (T.jk _ (VV hB h.path.1 h.path.2)) (Ev.ite (λe2=>?_) (λe2=>Ev.ret' (by rw[e1,e2];rfl)));refine Ev.bind (T.jk _ (VV hB h.from_.1 h.from_.2)) (Ev.ite (λe3=>?_) (λe3=>Ev.ret' (by rw[e1,e2,e3];rfl)));exact Ev.bind (T0.eG hB h.val) (Ev.ret' (by rw[e1,e2,e3];rfl))
theorem T0.rq {B D:Nat}{o:oh}(hB:B<=lim)(h:Iw B D o):Ev (λf=>G.rq f o) (JS o):=by refine Ev.up ?_;simp only[G.rq];unfold JS;refine Ev.ite (λe0=>?_) (λe0=>Ev.ret' (by rw[e0];rfl));refine Ev.ite (λe1=>?_) (λe1=>Ev.ret' (by rw[e0,e1];rfl));refine Ev.bind (T.iI _ (VV hB h.path.1 h.path.2)) (Ev.ite (λe2=>?_) (λe2=>Ev.ret' (by rw[e0,e1,e2];rfl)));refine Ev.bind (T.iI _ (VV hB h.from_.1 h.from_.2)) (Ev.ite (λe3=>?_) (λe3=>Ev.ret' (by rw[e0,e1,e2,e3];rfl)));exact Ev.bind (T0.aX hB h.val) (Ev.ret' (by rw[e0,e1,e2,e3];rfl))
theorem T0.fB.L1 {l:List oh}(h:KX l):∀(k i:Nat),i+k=l.length->Ev (λf=>G.fB.L1 f l i) ((l.drop i).all JS):=by
 obtain⟨hl,ho⟩:=h;intro k
 induction k with
 | zero=>intro i hi;refine Ev.up ?_;simp only[G.fB.L1];refine Ev.cf (by simp;omega) (Ev.ret' ?_);rw[ak (by omega)];rfl
 | succ k ih=>
   intro i hi;have hlt:i<l.length:=(by omega);refine Ev.up ?_;simp only[G.fB.L1,ai,oh.eta,dA (show i+1<9223372036854775808 by omega)];obtain⟨E,hf⟩:=ho _ (getD_mem default hlt);refine Ev.ct (by simpa using hlt) (Ev.chk (by omega) (Ev.bind (T0.rq ad4 hf) ?_));rw[dI (default:oh) hlt,dJ];refine Ev.ite (λe=>?_) (λe=>?_)
   ·rw[e,bQ];exact ih (i+1) (by omega)
   ·rw[e,uO];exact Ev.ret _
theorem T0.fB {l:List oh}(h:KX l):Ev (λf=>G.fB f l) (EH l):=by
 refine Ev.up ?_;simp only[G.fB];have hL:=T0.fB.L1 h l.length 0 (by omega);unfold EH;refine Ev.ite (λe=>Ev.ret' ?_) (λe=>?_)
 ·have:¬l.length<=12:=by simp at e;omega
  simp[this]
 ·have:l.length<=12:=by simp at e;omega
  simp only[this,decide_true,pz];exact hL
theorem T0.gu.L1 {l:List oh}(h:KX l):∀(k i:Nat),i+k=l.length->Ev (λf=>G.gu.L1 f l i) ((l.drop i).all JS&&decide (l.length<=12)):=by
 obtain⟨hl,ho⟩:=h;intro k
 induction k with
 | zero=>intro i hi;refine Ev.up ?_;simp only[G.gu.L1];refine Ev.cf (by simp;omega) (Ev.ret' ?_);rw[ak (by omega),wz,bQ];simp;omega
 | succ k ih=>
   intro i hi;have hlt:i<l.length:=(by omega);refine Ev.up ?_;simp only[G.gu.L1,ai,oh.eta,dA (show i+1<9223372036854775808 by omega)];obtain⟨E,hf⟩:=ho _ (getD_mem default hlt);refine Ev.ct (by simpa using hlt) (Ev.chk (by omega) (Ev.bind (T0.nY ad4 hf) ?_));rw[dI (default:oh) hlt,dJ];refine Ev.ite (λe=>?_) (λe=>?_)
   ·rw[e,bQ];exact ih (i+1) (by omega)
   ·rw[e,uO];exact Ev.ret _
theorem T0.gu {l:List oh}(h:KX l):Ev (λf=>G.gu f l) (EH l):=by refine Ev.up ?_;simp only[G.gu];exact T0.gu.L1 h l.length 0 (by omega)
section
def aeS (B:Nat)(n:aj):Prop:=∃D,vH B D n
structure aeT (B:Nat)(s:StoreT):Prop where
 len:s.Items.length<=B
 Me:∀it,it∈s.Items->it.Name.length<=B
 nod:∀it,it∈s.Items->aeS B it.Node
structure aaN (B:Nat)(q:RequestT):Prop where
 Me:q.Name.length<=B
 want:wM B q.Want
 avoid:wM B q.oJ
 body:aeS B q.Body
 ops:KX q.Ops
theorem aeT.at_ {B:Nat}{s:StoreT}(h:aeT B s){i:Nat}(hi:i<s.Items.length):(s.Items.getD i default).Name.length<=B/\aeS B (s.Items.getD i default).Node:=
 ⟨h.Me _ (getD_mem default hi),h.nod _ (getD_mem default hi)⟩
section
variable {B:Nat} {s:StoreT} (hB:B<=lim) (h:aeT B s)
include hB h
theorem T0.gY.L1 : ∀(k i:Nat),i+k=s.Items.length->Ev (λf=>G.gY.L1 f s i) (((s.Items.drop i).all (KT s.Clock)&&Asc ((uC s.Items).drop (i-1)))&&(decide (s.Items.length<=10)&&(decide (0<=s.Clock)&&decide (s.Clock<=999)))):=by
 have hl:=h.len;unfold lim at hB;intro k
 induction k with
 | zero=>
   intro i hi;refine Ev.up ?_;simp only[G.gY.L1];rw[ak (by omega),OW (by rw[x9];omega)];refine Ev.cf (decide_eq_false (by omega)) (Ev.ite (λe=>?_) (λe=>Ev.ret' ?_))
   ·refine Ev.bind (T.fP _ _ _) (Ev.ret' ?_);rw[decide_eq_true (show s.Items.length<=10 by simp only[decide_eq_true_eq]at e;omega)];simp
   ·rw[decide_eq_false (show ¬s.Items.length<=10 by simp only[decide_eq_false_iff_not]at e;omega)];simp
 | succ k ih=>
   intro i hi;have hil:i<s.Items.length:=(by omega);obtain⟨hn,⟨D,hd⟩⟩:=h.at_ hil;refine Ev.up ?_;simp only[G.gY.L1,ai,dA (show i+1<9223372036854775808 by omega)];rw[dI (default:bG) hil,dJ];refine Ev.ct (decide_eq_true (by omega)) (Ev.chk (by omega) ?_);unfold KT;refine Ev.bind (T.iU _ (by unfold big;omega)) (Ev.ite (λe1=>?_) (λe1=>Ev.ret' (by rw[e1];simp)));refine Ev.bind (T0.eG (by unfold lim;omega) hd) (Ev.ite (λe2=>?_) (λe2=>Ev.ret' (by rw[e2];simp)));refine Ev.bind (T.fP _ _ _) (Ev.ite (λe3=>?_) (λe3=>Ev.ret' (by rw[e3];simp)));rw[e1,e2,e3];have ih':=ih (i+1) (by omega);unfold KT at ih';rw[jb]at ih';by_cases h0:0<i
   ·have e:af .i64 ((i:Int)-1)=((i-1:Nat):Int):=wrapN (by omega) (by omega);rw[e,ai];rw[Lh h0 (by rw[x9];exact hil),DR hil,DR (by omega:i-1<s.Items.length)];refine Ev.ct (decide_eq_true (by omega)) (Ev.chk (by omega) (Ev.ite (λh1=>Ev.ret' ?_) (λh1=>Ev.ite (λh2=>Ev.ret' ?_) (λh2=>?_))))
    ·rw[show bl (s.Items.getD (i-1) default).Name (s.Items.getD i default).Name=false from Lj h1];simp
    ·rw[beq_iff_eq]at h2;rw[show bl (s.Items.getD (i-1) default).Name (s.Items.getD i default).Name=false by rw[h2];exact Ko _];simp
    ·have hb:bl (s.Items.getD (i-1) default).Name (s.Items.getD i default).Name=true:=by
      cases hb:bl (s.Items.getD (i-1) default).Name (s.Items.getD i default).Name with
      |true=>rfl
      |false=>rw[IL h1 hb]at h2;simp at h2
     rw[hb];exact ih'.eq (by simp)
   ·have:i=0:=(by omega);subst this;exact Ev.cf (by decide) (ih'.eq (by simp))
theorem T0.gY : Ev (λf=>G.gY f s) (Nk s):=by refine Ev.up ?_;simp only[G.gY];exact T0.gY.L1 hB h s.Items.length 0 (by omega)
theorem T0.cZ.L1 : ∀(k i:Nat),i+k=s.Items.length->Ev (λf=>G.cZ.L1 f s i) ((s.Items.drop i).all (KT s.Clock)&&Asc ((uC s.Items).drop (i-1))):=by
 have hl:=h.len;unfold lim at hB;intro k
 induction k with
 | zero=>intro i hi;refine Ev.up ?_;simp only[G.cZ.L1];rw[ak (by omega),OW (by rw[x9];omega)];exact Ev.cf (decide_eq_false (by omega)) (Ev.ret _)
 | succ k ih=>
   intro i hi;have hil:i<s.Items.length:=(by omega);obtain⟨hn,⟨D,hd⟩⟩:=h.at_ hil;refine Ev.up ?_;simp only[G.cZ.L1,ai,dA (show i+1<9223372036854775808 by omega)];rw[dI (default:bG) hil,dJ];have ih':=ih (i+1) (by omega);rw[jb]at ih';refine Ev.ct (decide_eq_true (by omega)) (Ev.chk (by omega) ?_);refine Ev.bind (T.jJ _ (by unfold big;omega)) (Ev.ite (λe1=>?_) (λe1=>Ev.ret' (by unfold KT;rw[e1];simp)));have tail:∀q:Bool,(q=true->Asc ((uC s.Items).drop (i-1))=Asc ((uC s.Items).drop i))->q=true->Ev (λf=>cond (decide ((s.Items.getD i default).Version<1)) (some false) (cond (decide (s.Clock<(s.Items.getD i default).Version)) (some false)
    (jc (G.aX f (s.Items.getD i default).Node) λv=>cond v (G.cZ.L1 f s ((i+1:Nat):Int)) (some false)))) (KT s.Clock (s.Items.getD i default)&&(s.Items.drop (i+1)).all (KT s.Clock)&&Asc ((uC s.Items).drop (i-1))):=λq hq hq'=>by
    rw[hq hq'];refine Ev.ite (λv1=>Ev.ret' ?_) (λv1=>Ev.ite (λv2=>Ev.ret' ?_) (λv2=>?_))
    ·simp only[decide_eq_true_eq]at v1;unfold KT;rw[decide_eq_false (show ¬ 1<=(s.Items.getD i default).Version by omega)];simp
    ·simp only[decide_eq_true_eq]at v2;unfold KT;rw[decide_eq_false (show ¬(s.Items.getD i default).Version<=s.Clock by omega)];simp
    ·simp only[decide_eq_false_iff_not]at v1 v2;refine Ev.bind (T0.aX (by unfold lim;omega) hd) (Ev.ite (λe2=>?_) (λe2=>Ev.ret' (by unfold KT;rw[e2];simp)));refine ih'.eq ?_;have:KT s.Clock (s.Items.getD i default)=true:=by
      unfold KT;rw[e1,e2,decide_eq_true (show 1<=(s.Items.getD i default).Version by omega),decide_eq_true (show(s.Items.getD i default).Version<=s.Clock by omega)];rfl
     rw[this];rfl
   by_cases h0:0<i
   ·have e:af .i64 ((i:Int)-1)=((i-1:Nat):Int):=wrapN (by omega) (by omega);rw[e,ai];have hst:=Lh h0 (l:=uC s.Items) (by rw[x9];exact hil);rw[DR hil,DR (by omega:i-1<s.Items.length)]at hst;refine Ev.ct (decide_eq_true (by omega)) (Ev.chk (by omega) (Ev.ite (λh1=>?_) (λh1=>Ev.ret' ?_)))
    ·exact tail true (λ_=>by rw[hst,show bl (s.Items.getD (i-1) default).Name (s.Items.getD i default).Name=true from h1];rfl) rfl
    ·rw[hst,show bl (s.Items.getD (i-1) default).Name (s.Items.getD i default).Name=false from h1];simp
   ·have:i=0:=(by omega);subst this;exact Ev.cf (by decide) (tail true (λ_=>rfl) rfl)
theorem T0.cZ : Ev (λf=>G.cZ f s) (Nk s):=by
 refine Ev.up ?_;simp only[G.cZ];unfold Nk;refine Ev.ite (λe=>Ev.ret' ?_) (λe=>Ev.ite (λe2=>Ev.ret' ?_) (λe2=>Ev.ite (λe3=>Ev.ret' ?_) (λe3=>?_)))
 ·rw[decide_eq_false (show ¬s.Items.length<=10 by simp only[decide_eq_true_eq]at e;omega)];simp
 ·rw[decide_eq_false (show ¬ 0<=s.Clock by simp only[decide_eq_true_eq]at e2;omega)];simp
 ·rw[decide_eq_false (show ¬s.Clock<=999 by simp only[decide_eq_true_eq]at e3;omega)];simp
 ·simp only[decide_eq_false_iff_not]at e e2 e3;refine(T0.cZ.L1 hB h s.Items.length 0 (by omega)).eq ?_;rw[decide_eq_true (show s.Items.length<=10 by omega),decide_eq_true (show 0<=s.Clock by omega),decide_eq_true (show s.Clock<=999 by omega),bZ];simp
end
section
variable {B:Nat} {q:RequestT} (hB:B<=lim) (h:aaN B q)
include hB h
theorem T0.kS : Ev (λf=>G.kS f q) (OU q):=by obtain⟨E,hb⟩:=h.body;have hn:=h.Me;unfold lim at hB;refine Ev.up ?_;simp only[G.kS];unfold OU;refine Ev.bind (T.fP _ _ _) (Ev.ite (λe1=>?_) (λe1=>Ev.ret' (by rw[e1];rfl)));refine Ev.bind (T.iU _ (by unfold big;omega)) (Ev.ite (λe2=>?_) (λe2=>Ev.ret' (by rw[e1,e2];rfl)));refine Ev.bind (T.gZ (h.want.sm (by unfold lim;omega))) (Ev.ite (λe3=>?_) (λe3=>Ev.ret' (by rw[e1,e2,e3];rfl)));refine Ev.bind (T.gZ (h.avoid.sm (by unfold lim;omega))) (Ev.ite (λe4=>?_) (λe4=>Ev.ret' (by rw[e1,e2,e3,e4];rfl)));refine Ev.bind (T0.eG (by unfold lim;omega) hb) (Ev.ite (λe5=>?_) (λe5=>Ev.ret' (by rw[e1,e2,e3,e4,e5];rfl)));exact Ev.bind (T0.gu h.ops) (Ev.ret' (by rw[e1,e2,e3,e4,e5];rfl))
theorem T0.lI : Ev (λf=>G.lI f q) (OU q):=by obtain⟨E,hb⟩:=h.body;have hn:=h.Me;unfold lim at hB;refine Ev.up ?_;simp only[G.lI];unfold OU;refine Ev.ite (λe0=>?_) (λe0=>Ev.ret' (by rw[e0];rfl));refine Ev.ite (λe1=>?_) (λe1=>Ev.ret' (by rw[e0,e1];rfl));refine Ev.bind (T.jJ _ (by unfold big;omega)) (Ev.ite (λe2=>?_) (λe2=>Ev.ret' (by rw[e0,e1,e2];rfl)));refine Ev.bind (T.iZ (h.want.sm (by unfold lim;omega))) (Ev.ite (λe3=>?_) (λe3=>Ev.ret' (by rw[e0,e1,e2,e3];rfl)));refine Ev.bind (T.iZ (h.avoid.sm (by unfold lim;omega))) (Ev.ite (λe4=>?_) (λe4=>Ev.ret' (by rw[e0,e1,e2,e3,e4];rfl)));refine Ev.bind (T0.aX (by unfold lim;omega) hb) (Ev.ite (λe5=>?_) (λe5=>Ev.ret' (by rw[e0,e1,e2,e3,e4,e5];rfl)));exact Ev.bind (T0.fB h.ops) (Ev.ret' (by rw[e0,e1,e2,e3,e4,e5];rfl))
end
end
structure At (s:aO)(a:Nat):Prop where
 le:a<=s.length
 len:s.length<=1000000
theorem Xw {s p:aO} : iO s p=true<->p <+: s:=by unfold iO;exact List.isPrefixOf_iff_prefix
theorem Kw (p r:aO):iO (p++r) p=true:=Xw.2 (List.prefix_append p r)
theorem T.hasPrefix (s p:aO):Ev (λf=>G.strings_HasPrefix f s p) (iO s p):=by refine Ev.up ?_;simp only[G.strings_HasPrefix];exact Ev.ret _
def XZ (s:aO)(a:Nat)(p:aO):Bool×bf:=if iO (s.drop a) p then(true,bf.mk s ((a+p.length:Nat):Int))else(false,bf.mk s (a:Int))
theorem IX {s p:aO}{a:Nat}(ha:a<=s.length)(h:iO (s.drop a) p=true):a+p.length<=s.length:=by have:=(Xw.1 h).length_le;rw[fH]at this;omega
theorem T.take {s p:aO}{a:Nat}(h:At s a):Ev (λf=>G.iE f (bf.mk s (a:Int)) p) (XZ s a p):=by
 have h1:=h.le;have h2:=h.len;refine Ev.up ?_;simp only[G.iE,ai];unfold XZ;refine Ev.chk ⟨by omega,by omega,by omega⟩ (Ev.bind (T.hasPrefix _ _) (Ev.ite (λe=>?_) (λe=>?_)))
 ·rw[if_pos e];have:=IX h1 e;exact Ev.ret' (by rw[wrapN (m:=a+p.length) (by omega) (by omega)])
 ·rw[if_neg (by rw[e];simp)];exact Ev.ret _
theorem drop_tail {s x r:aO}{a:Nat}(h:s.drop a=x++r):s.drop (a+x.length)=r:=by rw[<- List.drop_drop,h,List.drop_left]
theorem Yg {s x r:aO}{a:Nat}(ha:a<=s.length)(h:s.drop a=x++r):a+x.length<=s.length:=by have:=congrArg kE h;rw[fH,ay]at this;omega
theorem xu {s r:aO}{a:Nat}{b:UInt8}(h:s.drop a=b::r):a<s.length/\s.getD a 0=b/\s.drop (a+1)=r:=by
 have hl:a<s.length:=by have:=congrArg kE h;rw[fH,dB]at this;omega
 refine⟨hl,?_,?_⟩
 ·rw[dI (0:UInt8) hl]at h;exact(kQ h).1
 ·rw[dI (0:UInt8) hl]at h;exact(kQ h).2
theorem yF (b:UInt8)(c:UInt8):(((b.toNat:Int))==(c.toNat:Int))=(b==c):=by rw[pg,beq_iff_eq,beq_iff_eq];exact⟨λh=>nZ.1 (by omega),λh=>by rw[h]⟩
theorem SY (b:UInt8)(c:UInt8):(((b.toNat:Int)) != (c.toNat:Int)) = !(b==c):=by show(!(((b.toNat:Int))==(c.toNat:Int)))=_;rw[yF]
structure RdQ (s:aO)(a:Nat)(v:aO×Bool×bf):Prop where
 pos:∃b:Nat,v.2.2=bf.mk s (b:Int)/\a<=b/\b<=s.length/\(v.2.1=true->a<b)
 len:v.1.length<=s.length
 all:∀t r,s.drop a=DV t++r->v=(t,true,bf.mk s ((a+(DV t).length:Nat):Int))
theorem EC {t r q:aO}{b:UInt8}(h:b::q=t.flatMap CG++34::r):(b=34/\t=[]/\q=r) \/
 (b=92/\∃c t',(c=34\/c=92)/\t=c::t'/\q=c::(t'.flatMap CG++34::r))\/(b≠34/\b≠92/\∃t',t=b::t'/\q=t'.flatMap CG++34::r):=by
 cases t with
 | nil=>simp at h;exact .inl ⟨h.1,rfl,h.2⟩
 | cons c t'=>
   rw[bF]at h;by_cases hc:c=34\/c=92
   ·have e:CG c=[92,c]:=if_pos hc;rw[e]at h;simp at h;exact .inr (.inl ⟨h.1,c,t',hc,rfl,h.2⟩)
   ·have e:CG c=[c]:=if_neg hc;rw[e]at h;simp at h;obtain⟨rfl,h2⟩:=h;exact .inr (.inr ⟨λe=>hc (.inl e),λe=>hc (.inr e),t',rfl,h2⟩)
theorem T.ML.L3 {s:aO}{v1:Bool×bf}(hv:v1.2.text=s)(hl:s.length<=1000000):∀(k y:Nat) (z:aO),y+k=s.length->z.length<=y ->
 Tot (λv=>(∃b:Nat,v.2.2=bf.mk s (b:Int)/\y<=b/\b<=s.length/\(v.2.1=true->y<b))/\v.1.length<=s.length/\∀t r,s.drop y=t.flatMap CG++34::r->v=(z++t,true,bf.mk s ((y+(t.flatMap CG).length+1:Nat):Int)))
  (λf=>G.bI.L3 f v1 (y:Int) z):=by
 intro k
 induction k using dw with|_ k ih=>
 intro y z hy hz;refine Tot.up ?_;simp only[G.bI.L3,hv,ai];refine Tot.ite (λe=>?_) (λe=>?_)
 ·have hyl:y<s.length:=by simp only[decide_eq_true_eq]at e;omega
  have w1:af .i64 ((y:Int)+1)=((y+1:Nat):Int):=dA (by omega);have w2:af .i64 (((y+1:Nat):Int)+1)=((y+2:Nat):Int):=dA (by omega);have hd:=dI (0:UInt8) hyl;have wr:∀(b:UInt8) (y':Nat),y<y'->y'<=s.length->Tot (λv=>(∃b:Nat,v.2.2=bf.mk s (b:Int)/\y<=b/\b<=s.length/\(v.2.1=true->y<b))/\v.1.length<=s.length /\
   ∀t r,s.drop y'=t.flatMap CG++34::r->v=(z++b::t,true,bf.mk s ((y'+(t.flatMap CG).length+1:Nat):Int))) (λf=>G.bI.K4 f v1 z ((b.toNat:Int)) (y':Int)):=λb y' h1 h2=>by
   refine Tot.up ?_;simp only[G.bI.K4];refine Tot.rY (DY b (by omega)) ((ih (s.length-y') (by omega) y' (z++[b]) (by omega) (by simp;omega)).mono ?_);rintro v ⟨⟨p,e1,e2,e3,e4⟩,e5,e6⟩;refine⟨⟨p,e1,by omega,e3,λh=>by have:=e4 h;omega⟩,e5,λt r h=>?_⟩;rw[e6 t r h];simp
  refine Tot.chk ⟨by omega,by omega⟩ ?_;rw[show(34:Int)=((34:UInt8).toNat:Int)from rfl,show(92:Int)=((92:UInt8).toNat:Int)from rfl];refine Tot.ite (λe1=>?_) (λe1=>Tot.ite (λe2=>?_) (λe2=>?_))
  ·rw[yF,beq_iff_eq]at e1;refine Tot.rY (T.bs' (by show z.length<=_;omega)) (Tot.ret ?_);rw[w1];refine⟨⟨y+1,rfl,by omega,by omega,λ_=>by omega⟩,by show z.length<=_;omega,λt r h=>?_⟩;rw[hd]at h;rcases EC h with⟨_,rfl,_⟩|⟨WC,_⟩|⟨RJ,_⟩
   ·simp
   ·rw[e1]at WC;exact absurd WC (by decide)
   ·exact absurd e1 RJ
  ·rw[yF,beq_iff_eq]at e2;rw[w1];refine Tot.ite (λe3=>Tot.ret ?_) (λe3=>?_)
   ·have e3 : y + 1 = s.length := by have:((y+1:Nat):Int)=(s.length:Int):=by simpa using e3
                                     omega
    refine⟨⟨y+1,rfl,by omega,by omega,λh=>by cases h⟩,aN _,λt r h=>?_⟩;rw[hd]at h;rcases EC h with⟨RJ,_⟩|⟨_,c,t',_,_,hq⟩|⟨_,WC,_⟩
    ·rw[e2]at RJ;exact absurd RJ (by decide)
    ·rw[ak (by omega)]at hq;cases hq
    ·exact absurd e2 WC
   ·have hy1:y+1<s.length:=by
     have:¬((y+1:Nat):Int)=(s.length:Int):=(by simpa using e3);omega
    simp only[w2,ai];have hd1:=dI (0:UInt8) hy1;have good:(s.getD (y+1) 0=34\/s.getD (y+1) 0=92)->Tot (λv=>(∃b:Nat,v.2.2=bf.mk s (b:Int)/\y<=b/\b<=s.length/\(v.2.1=true->y<b))/\v.1.length<=s.length/\∀t r,s.drop y=t.flatMap CG++34::r->v=(z++t,true,bf.mk s ((y+(t.flatMap CG).length+1:Nat):Int)))
     (λf=>G.bI.K4 f v1 z (((s.getD (y+1) 0).toNat:Int)) ((y+2:Nat):Int)):=λhc=>(wr (s.getD (y+1) 0) (y+2) (by omega) (by omega)).mono λv ⟨p1,p2,p3⟩=>⟨p1,p2,λt r h=>by
     rw[hd]at h;rcases EC h with⟨RJ,_⟩|⟨_,c,t',hc',rfl,hq⟩|⟨_,WC,_⟩
     ·rw[e2]at RJ;exact absurd RJ (by decide)
     ·rw[hd1]at hq;obtain⟨rfl,hq2⟩:=kQ hq;rw[p3 t' r hq2,bF,show CG (s.getD (y+1) 0)=[92,s.getD (y+1) 0]from if_pos hc'];simp;omega
     ·exact absurd e2 WC⟩
    refine Tot.chk ⟨by omega,by omega⟩ ?_;refine Tot.ite (λe4=>?_) (λe4=>?_)
    ·refine Tot.chk ⟨by omega,by omega⟩ (Tot.ite (λe5=>Tot.ret ?_) (λe5=>?_))
     ·rw[SY]at e4 e5;refine⟨⟨y+1,rfl,by omega,by omega,λh=>by cases h⟩,aN _,λt r h=>?_⟩;rw[hd]at h;rcases EC h with⟨RJ,_⟩|⟨_,c,t',hc',_,hq⟩|⟨_,WC,_⟩
      ·rw[e2]at RJ;exact absurd RJ (by decide)
      ·rw[hd1]at hq;obtain⟨rfl,_⟩:=kQ hq;rcases hc' with h|h<;>rw[h]at e4 e5
       ·exact absurd e4 (by decide)
       ·exact absurd e5 (by decide)
      ·exact absurd e2 WC
     ·rw[SY]at e5;exact Tot.chk ⟨by omega,by omega⟩ (good (.inr (by simpa using e5)))
    ·rw[SY]at e4;exact Tot.chk ⟨by omega,by omega⟩ (good (.inl (by simpa using e4)))
  ·rw[yF]at e1 e2;have n1:s.getD y 0≠34:=(by simpa using e1);have n2:s.getD y 0≠92:=(by simpa using e2);rw[w1];refine(wr (s.getD y 0) (y+1) (by omega) (by omega)).mono λv ⟨p1,p2,p3⟩=>⟨p1,p2,λt r h=>?_⟩;rw[hd]at h;rcases EC h with⟨RJ,_⟩|⟨WC,_⟩|⟨_,_,t',rfl,hq⟩
   ·exact absurd RJ n1
   ·exact absurd WC n2
   ·rw[p3 t' r hq,bF,show CG (s.getD y 0)=[s.getD y 0]from if_neg (λh=>h.elim n1 n2)];simp;omega
 ·have hyl:y=s.length:=by simp only[decide_eq_false_iff_not]at e;omega
  refine Tot.ret ⟨⟨y,rfl,au _,by omega,λh=>by cases h⟩,aN _,λt r h=>?_⟩;rw[ak (by omega)]at h;have:=congrArg kE h;simp at this
theorem T.ML {s:aO}{a:Nat}(h:At s a):Tot (RdQ s a) (λf=>G.bI f (bf.mk s (a:Int))):=by
 have h1:=h.le;have h2:=h.len;refine Tot.up ?_;simp only[G.bI];refine Tot.rY (T.take h) ?_;unfold XZ;by_cases e:iO (s.drop a) [34]=true
 ·rw[if_pos e];have hb:=IX h1 e;refine Tot.ite (λ_=>?_) (λh=>by cases h);refine(T.ML.L3 (s:=s) (v1:=(true,bf.mk s ((a+[34].length:Nat):Int))) rfl h2 (s.length-(a+1)) (a+1) [] (by simp at hb;omega) (by simp)).mono ?_;rintro v ⟨⟨p,e1,e2,e3,e4⟩,e5,e6⟩;refine⟨⟨p,e1,by omega,e3,λh=>by have:=e4 h;omega⟩,e5,λt r h=>?_⟩;unfold DV at h⊢;have hd:=xu (h.trans (dY ..));rw[e6 t r (by rw[hd.2.2];simp)];simp;omega
 ·rw[if_neg e];refine Tot.ite (λh=>by cases h) (λ_=>Tot.ret ⟨⟨a,rfl,au _,h1,λh=>by cases h⟩,aN _,λt r h=>?_⟩);exfalso;apply e;rw[h];unfold DV;exact Kw [34] _
def Iy (b:UInt8):Bool:=b==45||(decide (48<=b.toNat)&&decide (b.toNat<=57))
def okR (r:aO):Prop:=∀b,r.head? = some b->Iy b=false
theorem Yz : okR []:=λb h=>by cases h
theorem MG {b:UInt8}{r:aO}(h:Iy b=false):okR (b::r):=λc hc=>by cases hc;exact h
theorem aba : ∀k:Nat,k<10->Iy (dR (48+k))=true:=by decide
theorem Vj (i:Nat):∀b,b∈xR i->Iy b=true:=by
 induction i using dw with|_ i ih=>
 intro b hb;by_cases h:i<10
 ·rw[xO h,bM]at hb;rw[hb];exact aba i h
 ·rw[Ci h]at hb;rcases aW.1 hb with e|e
  ·exact ih (i/10) (by omega) b e
  ·rw[bM]at e;rw[e];exact aba (i%10) (by omega)
theorem PY (z:Int):∀b,b∈Ah z->Iy b=true:=by
 intro b hb;unfold Ah at hb;split at hb
 ·rcases cO.1 hb with e|e
  ·rw[e];rfl
  ·exact Vj _ b e
 ·exact Vj _ b hb
theorem Ls (i:Nat):xR i≠[]:=by
 by_cases h:i<10
 ·rw[xO h];simp
 ·rw[Ci h];simp
theorem Yf (z:Int):Ah z≠[]:=by
 unfold Ah;split
 ·simp
 ·exact Ls _
theorem ZV (acc:Nat):∀i:Nat,acc*10^(xR i).length+i<1000000000->∀r,wH acc (xR i++r)=wH (acc*10^(xR i).length+i) r:=by
 intro i
 induction i using dw generalizing acc with|_ i ih=>
 intro hb r;have dig:∀k:Nat,k<10->(dR (48+k)).toNat=48+k:=λk hk=>by rw[wL];omega
 have one:∀(acc k:Nat) (r:aO),k<10->acc*10+k<1000000000->wH acc (dR (48+k)::r)=wH (acc*10+k) r:=λacc k r hk hb=>by
  rw[wH];simp only[dig k hk];rw[if_pos (by omega),if_neg (by omega),if_neg (by omega)]
  congr 1;omega
 by_cases h:i<10
 ·rw[xO h]at hb⊢;simp only[bC,Nat.pow_one]at hb⊢;exact one acc i r h hb
 ·rw[Ci h]at hb⊢;rw[ay,bC,xX]at hb⊢;have e:acc*(10^(xR (i/10)).length*10)+i=(acc*10^(xR (i/10)).length+i/10)*10+i%10:=by rw[<- Nat.mul_assoc];omega
  rw[e]at hb⊢;rw[dh,ih (i/10) (by omega) acc (by omega)];exact one _ _ r (by omega) hb
theorem Pq {z:Int}(h1 : -999999<=z)(h2:z<=999999):Gx (Ah z)=(z,false):=by
 have hP:∀i:Nat,i<=999999->Lib.parseMag (xR i) = .ok i:=λi hi=>by unfold Lib.parseMag;rw[if_neg (Ls i)];have:=ZV 0 i (by omega) [];rw[eX,Nat.zero_mul,Nat.zero_add]at this;rw[this];rfl
 have h0:∀(i:Nat) b,(xR i).head? = some b->48<=b.toNat:=λi=>by
  induction i using dw with|_ i ih=>
  intro b hb;by_cases h:i<10
  ·rw[xO h]at hb;cases hb;rw[wL];omega
  ·rw[Ci h]at hb;refine ih (i/10) (by omega) b ?_;cases hd:xR (i/10)with
   |nil=>exact absurd hd (Ls _)
   |cons c l=>rw[hd]at hb;exact hb
 unfold Gx Ah;by_cases hz:z<0
 ·rw[if_pos hz];have e:yI (45::xR (-z).toNat) = .ok z:=by
   rw[Lib.atoiAll_minus,hP (-z).toNat (by omega)];unfold Lib.signed
   dsimp only
   rw[if_neg (by omega)]
   congr 1;omega
  rw[e]
 ·rw[if_neg hz];cases hd:xR z.toNat with
  |nil=>exact absurd hd (Ls _)
  | cons c l=>
    have hc:=h0 z.toNat c (by rw[hd];rfl);have e:yI (c::l) = .ok z:=by
     rw[Lib.atoiAll_plain c l (by omega) (by omega),<- hd,hP z.toNat (by omega)];unfold Lib.signless
     dsimp only
     rw[if_neg (by omega)]
     congr 1;omega
    rw[e]
theorem Et {p:UInt8->Bool} : ∀{x r:aO},(∀b,b∈x->p b=true)->(∀b,r.head? = some b->p b=false)->(x++r).takeWhile p=x
 |[],[],_,_=>rfl
 | [],b::r,_,h=>by have:=h b rfl;simp[List.takeWhile,this]
 | a::x,r,h,k=>by rw[dY,List.takeWhile_cons,if_pos (h a (bz ..)),Et (λb hb=>h b (dF _ hb)) k]
structure RdN (s:aO)(a:Nat)(v:aj×Bool×bf):Prop where
 pos:∃b:Nat,v.2.2=bf.mk s (b:Int)/\a<=b/\b<=s.length/\(v.2.1=true->a<b)
 fin:∃z,v.1=aj.mk 0 0 [] [] []\/v.1=aj.mk 1 z [] [] []
 all:∀z r,-999999<=z->z<=999999->okR r->s.drop a=Ah z++r->v=(aj.mk 1 z [] [] [],true,bf.mk s ((a+(Ah z).length:Nat):Int))
theorem T.atoi (s:aO)(hl:s.length<=1000000):Ev (λf=>G.strconv_Atoi f s) (Gx s):=by refine Ev.up ?_;simp only[G.strconv_Atoi];exact Ev.chk (by omega) (Ev.ret _)
theorem Y5 (s:aO)(h:(Gx s).2=false) : -9223372036854775808<=(Gx s).1/\(Gx s).1<=9223372036854775807/\s≠[]:=by
 unfold Gx at h⊢;cases e:yI s with
 | ok v=>have:=Lib.atoiAll_bounds e;refine⟨this.1,this.2,λh0=>?_⟩;subst h0;cases e
 |range=>rw[e]at h;cases h
 | _ =>rw[e]at h;cases h
theorem T.O1 {z:Int}(h : -9223372036854775808<=z/\z<=9223372036854775807):Ev (λf=>G.strconv_Itoa f z) (Ah z):=by rw[<- VI];refine Ev.up ?_;simp only[G.strconv_Itoa];exact Ev.chk ⟨h,ig (Lib.itoa_length_le z (by omega) (by omega)) (by decide)⟩ (Ev.ret _)
theorem T.XL {s:aO}{a:Nat}(h:At s a):Tot (RdN s a) (λf=>G.dL f (bf.mk s (a:Int))):=by
 have h1:=h.le;have h2:=h.len;have W:∀x:Nat,a<=x->x<=s.length->((s.drop a).takeWhile Iy=(s.take x).drop a)->Tot (RdN s a) (λn=>jc (G.strconv_Atoi n ((s.take x).drop a)) λv3=>cond v3.2 (some ((aj.mk 0 0 [] [] []),false,bf.mk s (a:Int)))
  (jc (G.strconv_Itoa n v3.1) λv4=>cond (v4==((s.take x).drop a)) (some ((aj.mk 1 v3.1 [] [] []),true,(bf.mk s (x:Int)))) (some ((aj.mk 0 0 [] [] []),false,bf.mk s (a:Int))))):=λx hx hxl hw=>by
  have hlen:((s.take x).drop a).length=x-a:=by rw[fH,dZ];omega
  have cmp:∀z r,-999999<=z->z<=999999->okR r->s.drop a=Ah z++r->(s.take x).drop a=Ah z:=λz r _ _ hr hd=>by rw[<- hw,hd,Et (PY z) hr]
  refine Tot.rY (T.atoi _ (by omega)) (Tot.ite (λe=>Tot.ret ?_) (λe=>?_))
  ·refine⟨⟨a,rfl,au _,h1,λh=>by cases h⟩,⟨0,.inl rfl⟩,λz r z1 z2 hr hd=>?_⟩;rw[cmp z r z1 z2 hr hd,Pq z1 z2]at e;cases e
  ·obtain⟨b1,b2,b3⟩:=Y5 _ e;refine Tot.rY (T.O1 ⟨b1,b2⟩) (Tot.ite (λe2=>Tot.ret ?_) (λe2=>Tot.ret ?_))
   ·have e2:Ah (Gx ((s.take x).drop a)).1=(s.take x).drop a:=(by simpa using e2);have hpos:a<x:=by
     have:(s.take x).drop a≠[]:=b3;have:=List.length_pos_iff.2 this;omega
    refine⟨⟨x,rfl,by omega,hxl,λ_=>hpos⟩,⟨_,.inr rfl⟩,λz r z1 z2 hr hd=>?_⟩;have hc:=cmp z r z1 z2 hr hd;rw[hc,Pq z1 z2];rw[hc]at hlen;have:x=a+(Ah z).length:=(by omega);rw[this]
   ·refine⟨⟨a,rfl,au _,h1,λh=>by cases h⟩,⟨0,.inl rfl⟩,λz r z1 z2 hr hd=>?_⟩;have hc:=cmp z r z1 z2 hr hd;rw[hc,Pq z1 z2]at e2;simp at e2
 have L:∀(k x:Nat),x+k=s.length->a<=x->(∀b,b∈(s.take x).drop a->Iy b=true)->Tot (RdN s a) (λf=>G.dL.L1 f (bf.mk s (a:Int)) (x:Int)):=by
  intro k
  induction k with
  | zero=>
    intro x hx ha hdg;refine Tot.up ?_;simp only[G.dL.L1,ai];refine Tot.ite (λe=>by simp only[decide_eq_true_eq]at e;omega) (λ_=>Tot.chk ⟨by omega,by omega,by omega⟩ (W x ha (by omega) ?_));have hs:s.take x=s:=aF (by omega);rw[hs]at hdg⊢;have:=Et (r:=[]) hdg (λb h=>by cases h)
    rwa[eX]at this
  | succ k ih=>
    intro x hx ha hdg;have hxl:x<s.length:=(by omega);have hsplit:(s.drop a)=(s.take x).drop a++(s.getD x 0::s.drop (x+1)):=by
     rw[<- dI (0:UInt8) hxl]
     conv=>lhs;rw[<- xP x s]
     rw[uM (by rw[dZ];omega)]
    have stp:(s.take (x+1)).drop a=(s.take x).drop a++[s.getD x 0]:=(by rw[iH hxl,uM (by rw[dZ];omega),fZ (0:UInt8) hxl]);have go:Iy (s.getD x 0)=true->Tot (RdN s a) (λf=>G.dL.L1 f (bf.mk s (a:Int)) ((x+1:Nat):Int)):=λhb=>ih (x+1) (by omega) (by omega) (λb hm=>by
     rw[stp]at hm;rcases aW.1 hm with e|e
     ·exact hdg b e
     ·rw[bM]at e;rw[e];exact hb)
    have no:Iy (s.getD x 0)=false->(s.drop a).takeWhile Iy=(s.take x).drop a:=λhb=>by rw[hsplit];exact Et hdg (λb h=>by cases h;exact hb)
    refine Tot.up ?_;simp only[G.dL.L1,ai,dA (show x+1<9223372036854775808 by omega)];refine Tot.ite (λ_=>?_) (λe=>by simp only[decide_eq_false_iff_not]at e;omega);refine Tot.chk ⟨by omega,by omega⟩ ?_;rw[show(45:Int)=((45:UInt8).toNat:Int)from rfl];refine Tot.ite (λe=>?_) (λe=>?_)
    ·rw[yF]at e;exact go (by unfold Iy;rw[e];rfl)
    ·rw[yF]at e;refine Tot.chk ⟨by omega,by omega⟩ (Tot.ite (λe1=>Tot.chk ⟨by omega,by omega⟩ (Tot.ite (λe2=>?_) (λe2=>?_))) (λe1=>?_))
     ·simp only[decide_eq_true_eq]at e1 e2;exact go (by unfold Iy;rw[e,decide_eq_true (show 48<=(s.getD x 0).toNat by omega),decide_eq_true (show(s.getD x 0).toNat<=57 by omega)];rfl)
     ·simp only[decide_eq_true_eq,decide_eq_false_iff_not]at e1 e2;exact Tot.chk ⟨by omega,by omega,by omega⟩ (W x ha (by omega) (no (by unfold Iy;rw[e,decide_eq_false (show ¬(s.getD x 0).toNat<=57 by omega)];simp)))
     ·simp only[decide_eq_false_iff_not]at e1;exact Tot.chk ⟨by omega,by omega,by omega⟩ (W x ha (by omega) (no (by unfold Iy;rw[e,decide_eq_false (show ¬ 48<=(s.getD x 0).toNat by omega)];simp)))
 refine Tot.up ?_;simp only[G.dL];refine L (s.length-a) a (by omega) (au _) (λb hb=>?_);rw[ak (by rw[dZ];omega)]at hb;cases hb
section
theorem Tot.ct {α:Type}{Q:α->Prop}{F F':Nat->Option α}{c:Bool}(hc:c=true)(h:Tot Q F):Tot Q (λn=>cond c (F n) (F' n)):=by subst hc;exact h
theorem Tot.cf {α:Type}{Q:α->Prop}{F F':Nat->Option α}{c:Bool}(hc:c=false)(h:Tot Q F'):Tot Q (λn=>cond c (F n) (F' n)):=by subst hc;exact h
def eAt (s r:aO):bf:=bf.mk s ((s.length-r.length:Nat):Int)
theorem PZ {s x r:aO}{a:Nat}(ha:a<=s.length)(h:s.drop a=x++r):bf.mk s ((a+x.length:Nat):Int)=eAt s r:=by
 have:=congrArg kE h;rw[fH,ay]at this;unfold eAt
 congr 2;omega
theorem IQ {s x r:aO}{a:Nat}(ha:a<=s.length)(h:s.drop a=x++r):s.drop (s.length-r.length)=r/\s.length-r.length<=s.length/\a+x.length=s.length-r.length:=by
 have hl:=congrArg kE h;rw[fH,ay]at hl;have e:s.length-r.length=a+x.length:=by omega
 rw[e];exact⟨drop_tail h,by omega,rfl⟩
structure RdT (d:Nat)(s:aO)(a:Nat)(v:aj×Bool×bf):Prop where
 pos:∃b:Nat,v.2.2=bf.mk s (b:Int)/\a<=b/\b<=s.length/\(v.2.1=true->a<b)
 fin:vH 1000000 (d+1) v.1
 all:∀n r,Shape d n=true->okR r->s.drop a=nT d n++r->v=(n,true,eAt s r)
theorem Bz {d:Nat}{k z:Int}{t:aO}(ht:t.length<=1000000):vH 1000000 (d+1) (aj.mk k z t [] []):=
 ⟨ht,aN _,λs h=>(by cases h),aN _,trivial,λk h=>(by cases h)⟩
theorem CE (n:aj):aj.mk n.Kind n.Num n.Text n.Names n.Kids=n:=by cases n;rfl
def FB (F:aj->aO)(n:aj)(i:Nat):aO:=(if n.Kind=4 then DV (n.Names.getD i default)++[58]else [])++F (n.Kids.getD i default)
def wQ (F:aj->aO)(n:aj)(i:Nat)(cl r:aO):aO:=(aQ i (n.Kids.length-i)).flatMap (DI F n)++(cl++r)
theorem En {F:aj->aO}{n:aj}{i:Nat}{cl r:aO}(h:n.Kids.length<=i):wQ F n i cl r=cl++r:=by unfold wQ;rw[show n.Kids.length-i=0 by omega];rfl
theorem Eo {F:aj->aO}{n:aj}{i:Nat}{cl r:aO}(h:i<n.Kids.length)(h0:0<i):wQ F n i cl r=44::(FB F n i++wQ F n (i+1) cl r):=by unfold wQ;obtain⟨k,hk⟩:∃k,n.Kids.length-i=k+1:=⟨n.Kids.length-i-1,by omega⟩;rw[hk,jV,bF,LH,if_pos h0,show n.Kids.length-(i+1)=k by omega];unfold FB;simp
theorem Ic {F:aj->aO}{n:aj}{cl r:aO}(h:0<n.Kids.length):wQ F n 0 cl r=FB F n 0++wQ F n 1 cl r:=by unfold wQ;obtain⟨k,hk⟩:∃k,n.Kids.length-0=k+1:=⟨n.Kids.length-1,by omega⟩;rw[hk,jV,bF,LH,if_neg (Nat.lt_irrefl 0),show n.Kids.length-(0+1)=k by omega];unfold FB;simp
theorem QJ {F:aj->aO}{n:aj}{i:Nat}{c:UInt8}{r:aO}(hc:c=93\/c=125)(h0:0<i):okR (wQ F n i [c] r):=by
 by_cases h:i<n.Kids.length
 ·rw[Eo h h0];exact MG rfl
 ·rw[En (by omega)];rcases hc with rfl|rfl<;>exact MG rfl
structure Big (d:Nat)(k:Int)(n:aj):Prop where
 kd:n.Kind=k
 num:n.Num=0
 text:n.Text=[]
 Me:k=3->n.Names=[]
 len:k=4->n.Names.length=n.Kids.length
 kids:∀k,k∈n.Kids->Shape d k=true
theorem take_snoc {α:Type}{l:List α}{i:Nat}(d:α)(h:i<l.length):l.take i++[l.getD i d]=l.take (i+1):=by rw[fZ d h,iH h]
theorem JH {s p:aO}{a:Nat}(h:iO (s.drop a) p=false):XZ s a p=(false,bf.mk s (a:Int)):=by unfold XZ;rw[if_neg (by rw[h];simp)]
theorem He {s p:aO}{a:Nat}(h:iO (s.drop a) p=true):XZ s a p=(true,bf.mk s ((a+p.length:Nat):Int)):=by unfold XZ;rw[if_pos h]
theorem abA {a b:UInt8}{r:aO}(h:a≠b):iO (a::r) [b]=false:=by
 cases e:iO (a::r) [b]with
 |false=>rfl
 | true=>have:=Xw.1 e;rw[List.cons_prefix_cons]at this;exact absurd this.1.symm h
theorem Qm {n:aj}(h:Parts n=true)(hk:n.Kind≠1):n.Num=0:=by unfold Parts at h;simp only[ah,iJ,beq_iff_eq]at h;exact h.1.1.1.resolve_left hk
theorem Qn {n:aj}(h:Parts n=true)(hk:n.Kind≠2):n.Text=[]:=by unfold Parts at h;simp only[ah,iJ,beq_iff_eq]at h;exact h.1.1.2.resolve_left hk
theorem KH {n:aj}(h:Parts n=true)(hk:n.Kind=0):n.Num=0/\n.Text=[]:=⟨Qm h (by omega),Qn h (by omega)⟩
theorem Qa {d:Nat}{n:aj}(h:Shape d n=true):∃b q,nT d n=b::q/\b≠93/\b≠125:=by
 cases d with
 |zero=>cases h
 | succ d=>
   rcases Hz (kL h)with k|k|k|k|k
   ·rw[rH,if_neg (by omega),if_neg (by omega),if_pos k];exact⟨_,_,rfl,by decide,by decide⟩
   ·rw[rH,if_pos k];cases hz:Ah n.Num with
    |nil=>exact absurd hz (Yf _)
    | cons b q=>have hb:=PY n.Num b (by rw[hz];exact bz ..);exact⟨b,q,rfl,λe=>by rw[e]at hb;exact absurd hb (by decide),λe=>by rw[e]at hb;exact absurd hb (by decide)⟩
   ·rw[rH,if_neg (by omega),if_pos k];exact⟨_,_,rfl,by decide,by decide⟩
   ·rw[rH,if_neg (by omega),if_neg (by omega),if_neg (by omega),if_neg (by omega)];exact⟨_,_,rfl,by decide,by decide⟩
   ·rw[rH,if_neg (by omega),if_neg (by omega),if_neg (by omega),if_pos k];exact⟨_,_,rfl,by decide,by decide⟩
structure RdP (d:Nat)(kind:Int)(c:UInt8)(s:aO)(y:Nat)(z5:List aO)(z6:List aj)(v:aj×Bool×bf):Prop where
 pos:∃b:Nat,v.2.2=bf.mk s (b:Int)/\y<=b/\b<=s.length
 fin:vH 1000000 (d+2) v.1
 all:∀n r,Big d kind n->z6.length<n.Kids.length->z6=n.Kids.take z6.length->z5=(if kind=4 then n.Names.take z6.length else []) ->
  s.drop y=FB (nT d) n z6.length++wQ (nT d) n (z6.length+1) [c] r->v=(n,true,eAt s r)
section
variable {d:Nat} (hd:d<=4) (IH:∀(s:aO) (a:Nat) (lv:Int),At s a->lv=6-(d:Int)->Tot (RdT d s a) (λf=>G.iw f (bf.mk s (a:Int)) lv))
 {kind:Int} {c:UInt8} (hk:kind=3/\c=93\/kind=4/\c=125) {s:aO} (hl:s.length<=1000000) {lv:Int} (hlv:lv=5-(d:Int))
include hd IH hk hl hlv
theorem T.JD.L3 : ∀(k y:Nat) (z5:List aO) (z6:List aj),y+k=s.length->z6.length<=y->z5.length<=y->(∀t,t∈z5->t.length<=1000000)->(∀n,n∈z6->vH 1000000 (d+1) n) ->
 Tot (RdP d kind c s y z5 z6) (λf=>G.cu.L3 f kind lv [c] s (y:Int) z5 z6):=by
 have hc:c=93\/c=125:=by rcases hk with⟨_,h⟩|⟨_,h⟩<;>simp[h]
 have ag5:(44:UInt8)≠c:=by rcases hc with h|h<;>rw[h]<;>decide
 intro k
 induction k using dw with|_ k ih=>
 intro y z5 z6 hy h6 h5 ht hn;have K4:∀(p:Nat) (z7:List aO),y<=p->p<=s.length->z7.length<=p+1->(∀t,t∈z7->t.length<=1000000) ->
  Tot (λv=>(∃b:Nat,v.2.2=bf.mk s (b:Int)/\y<=b/\b<=s.length)/\vH 1000000 (d+2) v.1/\∀n r,Big d kind n->z6.length<n.Kids.length->z6=n.Kids.take z6.length->z7=(if kind=4 then n.Names.take (z6.length+1)else []) ->
   s.drop p=nT d (n.Kids.getD z6.length default)++wQ (nT d) n (z6.length+1) [c] r->v=(n,true,eAt s r))
  (λf=>G.cu.K4 f kind lv [c] z6 s (p:Int) z7):=λp z7 hp hpl h7 ht7=>by
  refine Tot.up ?_;simp only[G.cu.K4];have w1:af .i64 (lv+1)=6-(d:Int):=by rw[Eu (by omega) (by omega)];omega
  rw[w1];refine Tot.bind (IH s p _ ⟨hpl,hl⟩ rfl) ?_;rintro⟨m,ok,q⟩⟨⟨b,hb1,hb2,hb3,hb4⟩,hf,hall⟩;simp only at hb1 hb4 hf;subst hb1;cases ok with
  | false=>refine Tot.cf rfl (Tot.ret ⟨⟨b,rfl,by omega,hb3⟩,Bz (aN _),λn r hB hlt _ _ hdr=>?_⟩);have:=hall _ _ (hB.kids _ (getD_mem default hlt)) (QJ hc (xY _)) hdr;cases this
  | true=>
    have hpb:=hb4 rfl;have hAt:At s b:=⟨hb3,hl⟩;have hfin:∀(z7':List aO),z7'.length<=1000000->(∀t,t∈z7'->t.length<=1000000)->vH 1000000 (d+2) (aj.mk kind 0 [] z7' (z6++[m])):=λz7' g1 g2=>
     ⟨aN _,g1,g2,by show(z6++[m]).length<=_;rw[ay,bC];omega,trivial,λx hx=>by
      rcases aW.1 hx with e|e
      ·exact hn x e
      ·rw[bM]at e;subst e;exact hf⟩
    refine Tot.ct rfl (Tot.chk (by omega) (Tot.rY (T.take hAt) ?_));have kid:∀n r,Big d kind n->z6.length<n.Kids.length->s.drop p=nT d (n.Kids.getD z6.length default)++wQ (nT d) n (z6.length+1) [c] r->m=n.Kids.getD z6.length default/\s.drop b=wQ (nT d) n (z6.length+1) [c] r:=λn r hB hlt hdr=>by have h1:=hall _ _ (hB.kids _ (getD_mem default hlt)) (QJ hc (xY _)) hdr;have h2:=IQ hpl hdr;simp only[aI]at h1;refine⟨h1.1,?_⟩;have h3:=h1.2.2;unfold eAt at h3;have h4:(b:Int)=((s.length-(wQ (nT d) n (z6.length+1) [c] r).length:Nat):Int):=(by injection h3);have h5:b=s.length-(wQ (nT d) n (z6.length+1) [c] r).length:=(by omega);rw[h5];exact h2.1
    cases e1:iO (s.drop b) [c]with
    | true=>
      rw[He e1];have hb':=IX hb3 e1;refine Tot.ct rfl (Tot.ret ⟨⟨b+1,rfl,by omega,by simpa using hb'⟩,hfin z7 (by omega) ht7,λn r hB hlt RN h7e hdr=>?_⟩);obtain⟨hm,hdb⟩:=kid n r hB hlt hdr;have hend:¬z6.length+1<n.Kids.length:=λh=>(by rw[hdb,Eo h (xY _),abA ag5]at e1;cases e1);rw[En (by omega)]at hdb;have hkids:z6++[m]=n.Kids:=by have:=take_snoc (default:aj) hlt;rw[<- RN,<- hm,aF (by omega)]at this;exact this
      have aby:z7=n.Names:=by
       rw[h7e];rcases hk with⟨k3,_⟩|⟨k4,_⟩
       ·rw[if_neg (by omega),hB.Me k3]
       ·rw[if_pos k4,aF (by have:=hB.len k4;omega)]
      have hpos:bf.mk s ((b+[c].length:Nat):Int)=eAt s r:=PZ hb3 hdb;rw[hpos,hkids,aby,<- hB.kd,<- CE n,hB.num,hB.text]
    | false=>
      rw[JH e1];refine Tot.cf rfl (Tot.rY (T.take hAt) ?_);have agu:∀n r,Big d kind n->z6.length<n.Kids.length->s.drop p=nT d (n.Kids.getD z6.length default)++wQ (nT d) n (z6.length+1) [c] r->z6.length+1<n.Kids.length:=λn r hB hlt hdr=>by
       obtain⟨_,hdb⟩:=kid n r hB hlt hdr;by_cases h:z6.length+1<n.Kids.length
       ·exact h
       ·rw[hdb,En (by omega),Kw]at e1;cases e1
      cases e2:iO (s.drop b) [44]with
      | true=>
        rw[He e2];have hb':=IX hb3 e2;simp only[bC]at hb'⊢;refine Tot.ct rfl ((ih (s.length-(b+1)) (by omega) (b+1) z7 (z6++[m]) (by omega) (by rw[ay,bC];omega) (by omega) ht7 (λx hx=>?_)).mono ?_)
        ·rcases aW.1 hx with e|e
         ·exact hn x e
         ·rw[bM]at e;subst e;exact hf
        rintro v ⟨⟨b2,g1,g2,g3⟩,g4,g5⟩;refine⟨⟨b2,g1,by omega,g3⟩,g4,λn r hB hlt RN h7e hdr=>?_⟩;obtain⟨hm,hdb⟩:=kid n r hB hlt hdr;have hnx:=agu n r hB hlt hdr;rw[Eo hnx (xY _)]at hdb;have hlen:(z6++[m]).length=z6.length+1:=(by simp);refine g5 n r hB (by rw[hlen];exact hnx) ?_ (by rw[hlen];exact h7e) (by rw[hlen];exact(xu hdb).2.2);rw[hlen];have:=take_snoc (default:aj) hlt;rw[<- RN,<- hm]at this;exact this
      | false=>rw[JH e2];refine Tot.cf rfl (Tot.ret ⟨⟨b,rfl,by omega,hb3⟩,Bz (aN _),λn r hB hlt RN h7e hdr=>?_⟩);obtain⟨_,hdb⟩:=kid n r hB hlt hdr;rw[hdb,Eo (agu n r hB hlt hdr) (xY _)]at e2;have:=Kw [44] (FB (nT d) n (z6.length+1)++wQ (nT d) n (z6.length+1+1) [c] r);rw[AZ]at this;rw[this]at e2;cases e2
 refine Tot.up ?_;simp only[G.cu.L3];refine Tot.ite (λe=>?_) (λe=>?_)
 ·have k4:kind=4:=by simpa using e
  refine Tot.bind (T.ML ⟨by omega,hl⟩) ?_;rintro⟨t,ok,q⟩⟨⟨b,hb1,hb2,hb3,hb4⟩,hlen,hall⟩;simp only at hb1 hb4 hlen;subst hb1;have key:∀n r,s.drop y=FB (nT d) n z6.length++wQ (nT d) n (z6.length+1) [c] r->n.Kind=4->s.drop y=DV (n.Names.getD z6.length default)++(58::(nT d (n.Kids.getD z6.length default)++wQ (nT d) n (z6.length+1) [c] r)):=λn r hdr hk4=>by rw[hdr];unfold FB;rw[if_pos hk4];simp
  cases ok with
  | false=>refine Tot.cf rfl (Tot.ret ⟨⟨b,rfl,hb2,hb3⟩,Bz (aN _),λn r hB hlt _ _ hdr=>?_⟩);have:=hall _ _ (key n r hdr (by rw[hB.kd,k4]));cases this
  | true=>
    have hpb:=hb4 rfl;refine Tot.ct rfl (Tot.rY (T.take (p:=[58]) ⟨hb3,hl⟩) ?_);have after:∀n r,Big d kind n->s.drop y=FB (nT d) n z6.length++wQ (nT d) n (z6.length+1) [c] r->t=n.Names.getD z6.length default/\s.drop b=58::(nT d (n.Kids.getD z6.length default)++wQ (nT d) n (z6.length+1) [c] r):=λn r hB hdr=>by have hk':=key n r hdr (by rw[hB.kd,k4]);have h1:=hall _ _ hk';simp only[aI]at h1;refine⟨h1.1,?_⟩;have h4:(b:Int)=((y+(DV (n.Names.getD z6.length default)).length:Nat):Int):=(by injection h1.2.2);have h5:b=y+(DV (n.Names.getD z6.length default)).length:=(by omega);rw[h5];exact drop_tail hk'
    cases e2:iO (s.drop b) [58]with
    | false=>rw[JH e2];refine Tot.cf rfl (Tot.ret ⟨⟨b,rfl,hb2,hb3⟩,Bz (aN _),λn r hB hlt _ _ hdr=>?_⟩);have h1:=(after n r hB hdr).2;rw[h1]at e2;have:=Kw [58] (nT d (n.Kids.getD z6.length default)++wQ (nT d) n (z6.length+1) [c] r);rw[AZ]at this;rw[this]at e2;cases e2
    | true=>
      rw[He e2];have hb':=IX hb3 e2;simp only[bC]at hb'⊢;refine Tot.ct rfl (Tot.chk (by omega) ((K4 (b+1) (z5++[t]) (by omega) hb' (by rw[ay,bC];omega) (λx hx=>?_)).mono ?_))
      ·rcases aW.1 hx with e|e
       ·exact ht x e
       ·rw[bM]at e;subst e;omega
      rintro v ⟨g1,g2,g3⟩;refine⟨g1,g2,λn r hB hlt RN VA hdr=>?_⟩;obtain⟨h1,h2⟩:=after n r hB hdr;refine g3 n r hB hlt RN ?_ (xu h2).2.2;rw[if_pos k4]at VA⊢;have hnl:=hB.len k4;rw[VA,h1];exact take_snoc (default:aO) (by omega)
 ·have k3:kind=3:=by
   rcases hk with⟨h,_⟩|⟨h,_⟩
   ·exact h
   ·rw[h]at e;simp at e
  refine(K4 y z5 (au _) (by omega) (by omega) ht).mono ?_;rintro v ⟨g1,g2,g3⟩;refine⟨g1,g2,λn r hB hlt RN VA hdr=>?_⟩;refine g3 n r hB hlt RN ?_ ?_
  ·rw[if_neg (by omega)]at VA⊢;exact VA
  ·unfold FB at hdr;rw[if_neg (by rw[hB.kd];omega)]at hdr;simpa using hdr
theorem T.JD {a:Nat}(ha:a<=s.length):Tot (λv:aj×Bool×bf=>(∃b:Nat,v.2.2=bf.mk s (b:Int)/\a<=b/\b<=s.length)/\vH 1000000 (d+2) v.1/\∀n r,Big d kind n->s.drop a=wQ (nT d) n 0 [c] r->v=(n,true,eAt s r))
 (λf=>G.cu f (bf.mk s (a:Int)) kind lv [c]):=by
 have hc:c=93\/c=125:=by rcases hk with⟨_,h⟩|⟨_,h⟩<;>simp[h]
 refine Tot.up ?_;simp only[G.cu];refine Tot.rY (T.take ⟨ha,hl⟩) ?_;cases e1:iO (s.drop a) [c]with
 | true=>
   rw[He e1];have hb:=IX ha e1;refine Tot.ct rfl (Tot.ret ⟨⟨a+1,rfl,by omega,by simpa using hb⟩,Bz (aN _),λn r hB hdr=>?_⟩);have h0:n.Kids.length=0:=by
    by_cases h:0<n.Kids.length
    ·exfalso;rw[hdr,Ic h]at e1;unfold FB at e1;rcases hk with⟨k3,rfl⟩|⟨k4,rfl⟩
     ·rw[if_neg (by rw[hB.kd];omega)]at e1;have hS:=hB.kids _ (getD_mem default h);obtain⟨b,q,hq,hb⟩:=Qa hS;rw[gJ,hq,dY,abA hb.1]at e1;cases e1
     ·rw[if_pos (by rw[hB.kd];omega)]at e1;unfold DV at e1;rw[dY,dY,dY,abA (by decide)]at e1;cases e1
    ·omega
   rw[En (by omega)]at hdr;have hpos:bf.mk s ((a+[c].length:Nat):Int)=eAt s r:=PZ ha hdr;have hkids:n.Kids=[]:=di h0;have aby:n.Names=[]:=by
    rcases hk with⟨k3,_⟩|⟨k4,_⟩
    ·exact hB.Me k3
    ·exact di (by rw[hB.len k4,h0])
   rw[hpos,<- CE n,hB.kd,hB.num,hB.text,aby,hkids]
 | false=>
   rw[JH e1];refine Tot.cf rfl ((T.JD.L3 hd IH hk hl hlv (s.length-a) a [] [] (by omega) (aN _) (aN _) (λt h=>by cases h) (λt h=>by cases h)).mono ?_);rintro v ⟨g1,g2,g3⟩;refine⟨g1,g2,λn r hB hdr=>?_⟩;have h0:0<n.Kids.length:=by
    by_cases h:0<n.Kids.length
    ·exact h
    ·rw[hdr,En (by omega),Kw]at e1;cases e1
   refine g3 n r hB h0 rfl (by split<;>rfl) ?_;rw[hdr];exact Ic h0
end
theorem SQ {d:Nat}{n:aj}(h:Shape (d+1) n=true)(hk:n.Kind=3\/n.Kind=4):Big d n.Kind n:=by
 have hp:=kL h;rcases hk with k|k
 ·obtain⟨h1,h2,h3,_⟩:=Df hp k;exact⟨rfl,h1,h2,λ_=>h3,λh=>by omega,tJ h⟩
 ·have hm:=xH hp k;exact⟨rfl,hm.1,hm.2.1,λh=>by omega,λ_=>hm.2.2.2.2.symm,tJ h⟩
theorem LJ {d:Nat}{n:aj}(r:aO)(k:n.Kind=3):nT (d+1) n++r=91::wQ (nT d) n 0 [93] r:=by rw[rH,if_neg (by omega),if_neg (by omega),if_neg (by omega),if_neg (by omega)];unfold wQ;simp
theorem OZ {d:Nat}{n:aj}(r:aO)(k:n.Kind=4):nT (d+1) n++r=123::wQ (nT d) n 0 [125] r:=by rw[rH,if_neg (by omega),if_neg (by omega),if_neg (by omega),if_pos k];unfold wQ;simp
theorem T.MK : ∀(d:Nat),d<=5->∀(s:aO) (a:Nat) (lv:Int),At s a->lv=6-(d:Int)->Tot (RdT d s a) (λf=>G.iw f (bf.mk s (a:Int)) lv)
 | 0,_,s,a,lv,h,hlv=>by refine Tot.up ?_;simp only[G.iw];refine Tot.ct (decide_eq_true (by omega)) (Tot.ret ⟨⟨a,rfl,au _,h.le,λh=>by cases h⟩,Bz (aN _),λn r hS=>by cases hS⟩)
 | d+1,hd,s,a,lv,h,hlv=>by
   have h1:=h.le;have h2:=h.len;refine Tot.up ?_;simp only[G.iw,ai];refine Tot.cf (decide_eq_false (by omega)) (Tot.ite (λe=>Tot.ret ?_) (λe=>?_))
   ·simp only[decide_eq_true_eq]at e;refine⟨⟨a,rfl,au _,h1,λh=>by cases h⟩,Bz (aN _),λn r hS _ hdr=>?_⟩;obtain⟨b,q,hq,_⟩:=Qa hS;rw[hq,ak (by omega)]at hdr;cases hdr
   have hal:a<s.length:=(by simp only[decide_eq_false_iff_not]at e;omega);have hdd:=dI (0:UInt8) hal;have Y6:∀n r,Shape (d+1) n=true->s.drop a=nT (d+1) n++r->(n.Kind=0/\s.getD a 0=110)\/(n.Kind=1/\Iy (s.getD a 0)=true)\/(n.Kind=2/\s.getD a 0=34)\/(n.Kind=3/\s.getD a 0=91)\/(n.Kind=4/\s.getD a 0=123):=λn r hS hdr=>by
    rw[hdd]at hdr;rcases Hz (kL hS)with k|k|k|k|k
    ·rw[rH,if_neg (by omega),if_neg (by omega),if_pos k]at hdr;exact .inl ⟨k,(kQ hdr).1⟩
    ·rw[rH,if_pos k]at hdr;cases hz:Ah n.Num with
     |nil=>exact absurd hz (Yf _)
     | cons b q=>rw[hz]at hdr;refine .inr (.inl ⟨k,?_⟩);rw[(kQ hdr).1];exact PY n.Num b (by rw[hz];exact bz ..)
    ·rw[rH,if_neg (by omega),if_pos k]at hdr;exact .inr (.inr (.inl ⟨k,(kQ hdr).1⟩))
    ·rw[LJ r k]at hdr;exact .inr (.inr (.inr (.inl ⟨k,(kQ hdr).1⟩)))
    ·rw[OZ r k]at hdr;exact .inr (.inr (.inr (.inr ⟨k,(kQ hdr).1⟩)))
   have w1:af .i64 ((a:Int)+1)=((a+1:Nat):Int):=dA (by omega);refine Tot.chk ⟨by omega,by omega⟩ ?_;rw[show(110:Int)=((110:UInt8).toNat:Int)from rfl,show(34:Int)=((34:UInt8).toNat:Int)from rfl,show(91:Int)=((91:UInt8).toNat:Int)from rfl,show(123:Int)=((123:UInt8).toNat:Int)from rfl];have dn:∀{b:UInt8} (c:UInt8),Iy b=true->Iy c=false->b≠c:=λc h1 h2 e=>(by rw[e,h2]at h1;cases h1);refine Tot.ite (λe0=>?_) (λe0=>Tot.ite (λe2=>?_) (λe2=>Tot.ite (λe3=>?_) (λe3=>Tot.ite (λe4=>?_) (λe4=>?_))))
   ·rw[yF,beq_iff_eq]at e0;refine Tot.rY (T.take h) (Tot.ret ?_);cases e1:iO (s.drop a) [110,117,108,108]with
    | true=>
      rw[He e1];have hb:=IX h1 e1;refine⟨⟨a+4,rfl,by omega,by simpa using hb,λ_=>by omega⟩,Bz (aN _),λn r hS _ hdr=>?_⟩;rcases Y6 n r hS hdr with⟨k,_⟩|⟨_,hx⟩|⟨_,hx⟩|⟨_,hx⟩|⟨_,hx⟩
      ·have hp:=kL hS;have hl:=zl hp (by omega) (by omega);have hn0:n.Num=0/\n.Text=[]:=KH hp k;rw[rH,if_neg (by omega),if_neg (by omega),if_pos k]at hdr;have hpos:bf.mk s ((a+[110,117,108,108].length:Nat):Int)=eAt s r:=PZ h1 hdr;have hn:aj.mk 0 0 [] [] []=n:=(by conv=>rhs;rw[<- CE n,k,hn0.1,hn0.2,hl.1,hl.2]);exact rG hn (rG rfl hpos)
      ·exact absurd e0 (dn 110 hx rfl)
      all_goals(rw[hx]at e0;exact absurd e0 (by decide))
    | false=>
      rw[JH e1];refine⟨⟨a,rfl,au _,h1,λh=>by cases h⟩,Bz (aN _),λn r hS _ hdr=>?_⟩;rcases Y6 n r hS hdr with⟨k,_⟩|⟨_,hx⟩|⟨_,hx⟩|⟨_,hx⟩|⟨_,hx⟩
      ·rw[rH,if_neg (by omega),if_neg (by omega),if_pos k]at hdr;rw[hdr,Kw]at e1;cases e1
      ·exact absurd e0 (dn 110 hx rfl)
      all_goals(rw[hx]at e0;exact absurd e0 (by decide))
   ·rw[yF,beq_iff_eq]at e2;refine Tot.bind (T.ML h) ?_;rintro⟨t,ok,q⟩⟨hpos,hlen,hall⟩;refine Tot.ret ⟨hpos,Bz (ig hlen h2),λn r hS _ hdr=>?_⟩;rcases Y6 n r hS hdr with⟨_,hx⟩|⟨_,hx⟩|⟨k,_⟩|⟨_,hx⟩|⟨_,hx⟩
    ·rw[hx]at e2;exact absurd e2 (by decide)
    ·exact absurd e2 (dn 34 hx rfl)
    ·have hp:=kL hS;have hl:=zl hp (by omega) (by omega);have hn0:n.Num=0:=Qm hp (by omega);rw[rH,if_neg (by omega),if_pos k]at hdr;have h3:=hall _ _ hdr;rw[PZ h1 hdr]at h3;simp only[aI]at h3;obtain⟨rfl,rfl,rfl⟩:=h3;refine rG ?_ rfl;show aj.mk 2 0 n.Text [] []=n
     conv=>rhs;rw[<- CE n,k,hn0,hl.1,hl.2]
    all_goals(rw[hx]at e2;exact absurd e2 (by decide))
   ·rw[yF,beq_iff_eq]at e3;rw[w1];refine Tot.bind (T.JD (by omega) (λs a lv h hlv=>T.MK d (by omega) s a lv h hlv) (.inl ⟨rfl,rfl⟩) h2 (by omega) (show a+1<=s.length by omega)) ?_;rintro⟨m,ok,q⟩⟨⟨b,hb1,hb2,hb3⟩,hf,hall⟩;refine Tot.ret ⟨⟨b,hb1,by omega,hb3,λ_=>by omega⟩,hf,λn r hS _ hdr=>?_⟩;rcases Y6 n r hS hdr with⟨_,hx⟩|⟨_,hx⟩|⟨_,hx⟩|⟨k,_⟩|⟨_,hx⟩
    ·rw[hx]at e3;exact absurd e3 (by decide)
    ·exact absurd e3 (dn 91 hx rfl)
    ·rw[hx]at e3;exact absurd e3 (by decide)
    ·rw[LJ r k]at hdr;have hB:=SQ hS (.inl k);rw[k]at hB;exact hall n r hB (xu hdr).2.2
    ·rw[hx]at e3;exact absurd e3 (by decide)
   ·rw[yF,beq_iff_eq]at e4;rw[w1];refine Tot.bind (T.JD (by omega) (λs a lv h hlv=>T.MK d (by omega) s a lv h hlv) (.inr ⟨rfl,rfl⟩) h2 (by omega) (show a+1<=s.length by omega)) ?_;rintro⟨m,ok,q⟩⟨⟨b,hb1,hb2,hb3⟩,hf,hall⟩;refine Tot.ret ⟨⟨b,hb1,by omega,hb3,λ_=>by omega⟩,hf,λn r hS _ hdr=>?_⟩;rcases Y6 n r hS hdr with⟨_,hx⟩|⟨_,hx⟩|⟨_,hx⟩|⟨_,hx⟩|⟨k,_⟩
    ·rw[hx]at e4;exact absurd e4 (by decide)
    ·exact absurd e4 (dn 123 hx rfl)
    ·rw[hx]at e4;exact absurd e4 (by decide)
    ·rw[hx]at e4;exact absurd e4 (by decide)
    ·rw[OZ r k]at hdr;have hB:=SQ hS (.inr k);rw[k]at hB;exact hall n r hB (xu hdr).2.2
   ·rw[yF]at e0 e2 e3 e4;refine Tot.bind (T.XL h) ?_;rintro⟨m,ok,q⟩⟨hpos,⟨z,hf⟩,hall⟩;refine Tot.ret ⟨hpos,by rcases hf with e|e<;>(simp only at e;rw[e];exact Bz (aN _)),λn r hS hr hdr=>?_⟩;rcases Y6 n r hS hdr with⟨_,hx⟩|⟨k,_⟩|⟨_,hx⟩|⟨_,hx⟩|⟨_,hx⟩
    ·rw[hx]at e0;exact absurd e0 (by decide)
    ·have hp:=kL hS;have hl:=zl hp (by omega) (by omega);have hn:=GU hp k;have ht:=Qn hp (by omega);rw[rH,if_pos k]at hdr;have h3:=hall n.Num r hn.1 hn.2 hr hdr;rw[PZ h1 hdr]at h3;rw[h3];refine rG ?_ rfl;show aj.mk 1 n.Num [] [] []=n
     conv=>rhs;rw[<- CE n,k,ht,hl.1,hl.2]
    ·rw[hx]at e2;exact absurd e2 (by decide)
    ·rw[hx]at e3;exact absurd e3 (by decide)
    ·rw[hx]at e4;exact absurd e4 (by decide)
end
theorem JV {c:UInt8} : ∀{a b:aO},c ∉ a->dX (a++c::b) c=(a.length:Int)
 |[],b,_=>by simp[dX]
 | x::a,b,h=>by
   have h1:(x==c)=false:=by rw[beq_eq_false_iff_ne];intro e;exact h (by rw[e];exact bz ..)
   have ih:=JV (a:=a) (b:=b) (λe=>h (dF _ e));have h2:((a.length:Int) == -1)=false:=(by rw[beq_eq_false_iff_ne];omega);rw[dY,dX,h1,ih,h2];simp
theorem Ia {a b:aO}{k:Nat}(h:(32:UInt8) ∉ a):oG [32] 0 (k+1) (a++32::b)=a::oG [32] 0 k b:=by
 have h2:((a.length:Int) == -1)=false:=by rw[beq_eq_false_iff_ne];omega
 rw[oG,Lib.index_one,JV h,h2,if_neg (by simp)];simp
theorem QH : ∀{k:Nat} {s t:aO},t∈oG [32] 0 k s->t.length<=s.length
 | 0,s,t,h=>by rw[oG,bM]at h;rw[h];exact au _
 | k+1,s,t,h=>by
   rw[oG]at h;split at h
   ·rw[bM]at h;rw[h];exact au _
   ·rcases cO.1 h with e|e
    ·rw[e,dZ];omega
    ·have:=QH e;rw[fH]at this;omega
theorem acI {a b c d e:aO}(ha:(32:UInt8) ∉ a)(hb:(32:UInt8) ∉ b)(hc:(32:UInt8) ∉ c)(hd:(32:UInt8) ∉ d):oG [32] 0 4 (a++[32]++b++[32]++c++[32]++d++[32]++e)=[a,b,c,d,e]:=by
 have:a++[32]++b++[32]++c++[32]++d++[32]++e=a++32::(b++32::(c++32::(d++32::e))):=by simp
 rw[this,Ia ha,Ia hb,Ia hc,Ia hd];rfl
theorem acT {q:RequestT}(h:RqP q):(32:UInt8) ∉ Hl.getD q.Method.toNat default:=by rcases meth h with e|e|e|e|e<;>rw[e]<;>decide
theorem ab1 {s:aO}(h:UR s=true):(32:UInt8) ∉ s:=λe=>by unfold UR at h;simp only[ah,bg]at h;have:=h.1 _ e;exact absurd this (by decide)
theorem O6 {t:aO}(h:Gf t=true)(c:UInt8)(hc:c=32\/c=44):c ∉ Fq t:=λe=>by
 unfold Fq at e;split at e
 ·rw[bM]at e;rcases hc with h|h<;>rw[h]at e<;>exact absurd e (by decide)
 ·rename_i hn;have hs:F9 t=true:=by
   unfold Gf at h;simp only[iJ,beq_iff_eq]at h;exact h.resolve_left hn
  unfold F9 at hs;simp only[ah,bg]at hs;simp only[cO,aW,Ad,or_false]at e;rcases e with e|e|e
  ·rcases hc with h|h<;>rw[h]at e<;>exact absurd e (by decide)
  ·have:=hs.1 _ e;rcases hc with h|h<;>rw[h]at this<;>exact absurd this (by decide)
  ·rcases hc with h|h<;>rw[h]at e<;>exact absurd e (by decide)
theorem UF (l:List aO):(32:UInt8) ∉ Ei l:=λe=>by
 unfold Ei at e;split at e
 ·rename_i h;obtain⟨i,hi,e⟩:=List.mem_flatMap.1 e;have hi:i<l.length:=by simpa using hi
  have hv:=(zW h).2 _ (getD_mem default hi);unfold UD at e;rcases aW.1 e with e|e
  ·split at e
   ·rw[bM]at e;exact absurd e (by decide)
   ·cases e
  ·exact O6 hv 32 (.inl rfl) e
 ·cases e
def Hr (t:aO):aO:=44::Fq t
theorem Wh (l:List aO):∀(k i:Nat),0<i->i+k=l.length->(aQ i k).flatMap (UD l)=(l.drop i).flatMap Hr
 |0,i,_,h=>by rw[ak (by omega)];rfl
 | k+1,i,h0,h=>by rw[jV,bF,Wh l k (i+1) (by omega) (by omega),dI (default:aO) (by omega:i<l.length),bF];unfold UD Hr;rw[if_pos h0];rfl
theorem QN {t:aO}{l:List aO}(h:zC (t::l)=true):Ei (t::l)=Fq t++l.flatMap Hr:=by unfold Ei;rw[if_pos h,dB,jV,bF,Wh (t::l) l.length (0+1) (by omega) (by simp;omega)];rfl
theorem Zi {x r:aO}(h:(44:UInt8) ∉ x):BQ (x++44::r)=x::BQ r:=by
 induction x with
 |nil=>rfl
 | cons b x ih=>have hb:b≠44:=λe=>h (by rw[e];exact bz ..);rw[dY,BQ,if_neg hb,ih (λe=>h (dF _ e))]
theorem Zj {x:aO}(h:(44:UInt8) ∉ x):BQ x=[x]:=by
 induction x with
 |nil=>rfl
 | cons b x ih=>have hb:b≠44:=λe=>h (by rw[e];exact bz ..);rw[BQ,if_neg hb,ih (λe=>h (dF _ e))]
theorem PU : ∀{l:List aO} {t:aO},(∀y,y∈t::l->Gf y=true)->BQ (Fq t++l.flatMap Hr)=Fq t::l.map Fq
 | [],t,h=>by rw[List.flatMap_nil,eX,Zj (O6 (h t (bz ..)) 44 (.inr rfl))];rfl
 | u::l,t,h=>by rw[bF];show BQ (Fq t++44::(Fq u++l.flatMap Hr))=_;rw[Zi (O6 (h t (bz ..)) 44 (.inr rfl)),PU (λy hy=>h y (dF _ hy))];rfl
theorem acX {t:aO}(h:Gf t=true):Oz Ib (Fq t)=some t:=by
 unfold Oz Fq;by_cases c:t=[42]
 ·rw[if_pos c,if_pos rfl,c]
 ·rw[if_neg c];have hs:F9 t=true:=by
   unfold Gf at h;simp only[iJ,beq_iff_eq]at h;exact h.resolve_left c
  have hl:=G8 hs;have e4:((34::(t++[34])).drop 1).take 4=t:=by rw[FM,bZ,o5 (by omega),aF (by omega)]
  have e5:(34::(t++[34])).getD 5 0=34:=by rw[List.getD_cons_succ,bu,List.getElem?_append_right (by omega),hl];rfl
  rw[if_neg (λe=>by have:=congrArg kE e;simp at this),e4,if_pos ⟨by simp[hl],rfl,e5,hs⟩]
theorem Vg : ∀{l p:List aO},(∀y,y∈l->Gf y=true)->p.length+l.length<=4->(l.map Fq).foldl (colS Ib) (some p)=some (p++l)
 |[],p,_,_=>by simp
 | t::l,p,h,hl=>by
   simp only[dB]at hl;have e:colS Ib (some p) (Fq t)=some (p++[t]):=by unfold colS;rw[gz,if_neg (by omega),acX (h t (bz ..))];rfl
   rw[bJ,lT,e,Vg (λy hy=>h y (dF _ hy)) (by simp;omega)];simp
theorem YB {l:List aO}(h:zC l=true):Um Ib (Ei l)=(l,true):=by
 obtain⟨h4,hv⟩:=zW h;cases l with
 |nil=>rfl
 | cons t l=>
   have hne:Ei (t::l)≠[]:=by rw[QN h];unfold Fq;split<;>simp
   unfold Um;rw[if_neg hne,QN h,PU hv];unfold adK;have:=Vg (l:=t::l) (p:=[]) hv (by simpa using h4);rw[bJ]at this;rw[this];rfl
theorem aa3 {ws:List aO} : ∀{a:Option (List aO)},(∀p,a=some p->p.length<=4/\∀t,t∈p->t.length<=4)->∀l,ws.foldl (colS Ib) a=some l->l.length<=4/\∀t,t∈l->t.length<=4:=by
 induction ws with
 |nil=>intro a h l e;exact h l e
 | cons w ws ih=>
   intro a h l e;refine ih (λp hp=>?_) l e;cases a with
   |none=>cases hp
   | some z=>
     obtain⟨h1,h2⟩:=h z rfl;unfold colS at hp;rw[gz]at hp;split at hp
     ·cases hp
     ·rename_i hn;cases hw:Oz Ib w with
      |none=>rw[hw]at hp;cases hp
      | some y=>
        rw[hw]at hp;cases hp;refine⟨by simp;omega,λt ht=>?_⟩;rcases aW.1 ht with e|e
        ·exact h2 t e
        ·rw[bM]at e;subst e;unfold Oz at hw;split at hw
         ·cases hw;rename_i c;rw[c];decide
         ·split at hw
          ·cases hw;rw[dZ];omega
          ·cases hw
theorem YA (s:aO):wM 60 (Um Ib s).1:=by
 unfold Um;split
 ·exact⟨by simp,λt h=>by cases h⟩
 ·split
  ·rename_i l e;obtain⟨h1,h2⟩:=aa3 (a:=some []) (λp hp=>by cases hp;exact⟨by simp,λt h=>by cases h⟩) l e;exact⟨by show l.length<=_;omega,λt ht=>by have:=h2 t ht;omega⟩
  ·exact⟨by simp,λt h=>by cases h⟩
theorem T.uo {s:aO}(h:s.length<=1000000):Ev (λf=>G.uo f s) (Um Ib s):=by refine Ev.up ?_;simp only[G.uo];exact Ev.chk h (Ev.ret _)
theorem ZE : 1000000<=lim:=by decide
theorem AL (B d:Nat):vH B (d+1) (aj.mk 0 0 [] [] []):=⟨aN _,aN _,λs h=>(by cases h),aN _,trivial,λk h=>(by cases h)⟩
theorem T.qG {s:aO}(h:s.length<=1000000):Tot (λv:aj×Bool=>vH 1000000 6 v.1/\∀n,Val n=true->s.length<=2000->s=nT 5 n->v=(n,true)) (λf=>G.qG f s):=by
 refine Tot.up ?_;simp only[G.qG];refine Tot.ite (λe=>Tot.ret ⟨AL _ _,λn _ hl=>by simp only[decide_eq_true_eq]at e;omega⟩) (λ_=>Tot.bind (T.MK 5 (by omega) s 0 1 ⟨aN _,h⟩ rfl) ?_);rintro⟨m,ok,q⟩⟨⟨b,hb,_,hbl,_⟩,hf,hall⟩;simp only at hb hf;subst hb;have key:∀n,Val n=true->s=nT 5 n->m=n/\ok=true/\b=s.length:=λn hn hs=>by
  have:=hall n [] (lF hn) Yz (by rw[bZ,eX];exact hs);simp only[aI]at this;refine⟨this.1,this.2.1,?_⟩;have h3:=this.2.2;unfold eAt at h3
  injection h3 with _ h4
  simp at h4;omega
 refine Tot.ite (λe=>Tot.ite (λe1=>Tot.ret ⟨AL _ _,λn hn _ hs=>?_⟩) (λ_=>?_)) (λe=>Tot.ret ⟨AL _ _,λn hn _ hs=>?_⟩)
 ·rw[(key n hn hs).2.2]at e1;simp at e1
 ·refine Tot.rY (T0.aX ZE hf) (Tot.ite (λe2=>Tot.rY (T0.aP ZE hf) (Tot.ret ⟨hf,λn hn _ hs=>?_⟩)) (λe2=>Tot.ret ⟨AL _ _,λn hn _ hs=>?_⟩))
  ·rw[(key n hn hs).1]
  ·rw[(key n hn hs).1,hn]at e2;cases e2
 ·rw[(key n hn hs).2.1]at e;cases e
theorem T.jF {d:Nat}{n:aj}(h:vH 1000000 (d+1) n):Tot (λv:List aO×Bool=>wM 1000000 v.1/\∀p,PP p=true->n=EF p->v=(p,true)) (λf=>G.jF f n):=by
 have fin0:wM 1000000 []:=⟨by simp,λt h=>by cases h⟩;have hk:=h.kids;have L:∀(k i:Nat) (z:List aO),i+k=n.Kids.length->z.length=i->(∀t,t∈z->t.length<=1000000)->Tot (λv:List aO×Bool=>wM 1000000 v.1/\∀p,PP p=true->n=EF p->z=p.take i->v=(p,true)) (λf=>G.jF.L1 f n (i:Int) z):=by
  intro k
  induction k with
  | zero=>
    intro i z hi hz ht;have hfz:wM 1000000 z:=⟨by omega,ht⟩;refine Tot.up ?_;simp only[G.jF.L1];refine Tot.cf (decide_eq_false (by omega)) (Tot.rY (T.iI _ (hfz.sm ZE)) (Tot.ret ⟨hfz,λp hp hn he=>?_⟩));have:z=p:=by rw[he,aF];rw[hn]at hi;simp[EF]at hi;omega
    rw[this,hp]
  | succ k ih=>
    intro i z hi hz ht;have hil:i<n.Kids.length:=(by omega);refine Tot.up ?_;simp only[G.jF.L1,ai,dA (show i+1<9223372036854775808 by omega)];have kid:∀p,n=EF p->i<p.length/\n.Kids.getD i default=Gp (p.getD i default):=λp hn=>by rw[hn]at hil⊢;have hip:i<p.length:=(by simpa[EF]using hil);refine⟨hip,?_⟩;show(p.map Gp).getD i default=_;rw[fZ _ (by simpa using hip),fZ _ hip,xM]
    refine Tot.ct (decide_eq_true (by omega)) (Tot.chk (by omega) (Tot.ite (λe=>Tot.ret ⟨fin0,λp _ hn _=>?_⟩) (λe=>Tot.chk (by omega) ((ih (i+1) _ (by omega) (by simp[hz]) (λt hm=>?_)).mono λv hv=>⟨hv.1,λp hp hn he=>hv.2 p hp hn ?_⟩))))
    ·rw[(kid p hn).2]at e;exact absurd e (by simp[Gp])
    ·rcases aW.1 hm with e|e
     ·exact ht t e
     ·rw[bM]at e;subst e;have:=h.kid hil;cases d with
      |zero=>exact this.elim
      |succ d=>exact this.1
    ·rw[(kid p hn).2,he];exact take_snoc (default:aO) (kid p hn).1
 refine Tot.up ?_;simp only[G.jF];refine Tot.ite (λe=>Tot.ret ⟨fin0,λp _ hn=>?_⟩) (λ_=>(L n.Kids.length 0 [] (by omega) rfl (λt h=>by cases h)).mono λv hv=>⟨hv.1,λp hp hn=>hv.2 p hp hn rfl⟩);rw[hn]at e;exact absurd e (by simp[EF])
theorem VQ : ∀i:Nat,i<7->∀j:Nat,j<7->Gm.getD i default=Gm.getD j default->i=j:=by decide
theorem Wj : ∀i:Nat,i<6->∀j:Nat,j<6->Hl.getD i default=Hl.getD j default->i=j:=by decide
theorem T.Q9 (s:aO):Tot (λv:Int×Bool=>∀j:Nat,1<=j->j<=6->s=Gm.getD j default->v=((j:Int),true)) (λf=>G.gX f s 1 6):=by
 have W:∀x:Nat,1<=x->x<=6->Ev (λf=>G.tH f (x:Int)) (Gm.getD x default):=λx h1 h2=>by
  refine Ev.up ?_;simp only[G.tH];have:x=1\/x=2\/x=3\/x=4\/x=5\/x=6:=by omega
  rcases this with e|e|e|e|e|e<;>subst e<;>exact evd
 have L:∀(k x:Nat),x+k=7->1<=x->Tot (λv:Int×Bool=>∀j:Nat,x<=j->j<=6->s=Gm.getD j default->v=((j:Int),true)) (λf=>G.gX.L1 f s 6 (x:Int)):=by
  intro k
  induction k with
  | zero=>intro x hx h1;refine Tot.up ?_;simp only[G.gX.L1];exact Tot.cf (decide_eq_false (by omega)) (Tot.ret λj h1 h2=>by omega)
  | succ k ih=>
    intro x hx h1;refine Tot.up ?_;simp only[G.gX.L1,dA (show x+1<9223372036854775808 by omega)];refine Tot.ct (decide_eq_true (by omega)) (Tot.rY (W x h1 (by omega)) (Tot.ite (λe=>Tot.ret λj h1 h2 hs=>?_) (λe=>(ih (x+1) (by omega) (by omega)).mono λv hv j h1 h2 hs=>hv j ?_ h2 hs)))
    ·have:Gm.getD x default=Gm.getD j default:=(by rw[<- hs];simpa using e);rw[VQ x (by omega) j (by omega) this]
    ·have:j≠x:=λhe=>(by rw[he]at hs;rw[<- hs]at e;simp at e);omega
 refine Tot.up ?_;simp only[G.gX];exact L 6 1 (by omega) (by omega)
theorem T.LZ (s:aO):Tot (λv:Int×Bool=>∀j:Nat,1<=j->j<=5->s=Hl.getD j default->v=((j:Int),true)) (λf=>G.fC f s 1 5):=by
 have W:∀x:Nat,1<=x->x<=5->Ev (λf=>G.ny f (x:Int)) (Hl.getD x default):=λx h1 h2=>by
  refine Ev.up ?_;simp only[G.ny];have:x=1\/x=2\/x=3\/x=4\/x=5:=by omega
  rcases this with e|e|e|e|e<;>subst e<;>exact evd
 have L:∀(k x:Nat),x+k=6->1<=x->Tot (λv:Int×Bool=>∀j:Nat,x<=j->j<=5->s=Hl.getD j default->v=((j:Int),true)) (λf=>G.fC.L1 f s 5 (x:Int)):=by
  intro k
  induction k with
  | zero=>intro x hx h1;refine Tot.up ?_;simp only[G.fC.L1];exact Tot.cf (decide_eq_false (by omega)) (Tot.ret λj h1 h2=>by omega)
  | succ k ih=>
    intro x hx h1;refine Tot.up ?_;simp only[G.fC.L1,dA (show x+1<9223372036854775808 by omega)];refine Tot.ct (decide_eq_true (by omega)) (Tot.rY (W x h1 (by omega)) (Tot.ite (λe=>Tot.ret λj h1 h2 hs=>?_) (λe=>(ih (x+1) (by omega) (by omega)).mono λv hv j h1 h2 hs=>hv j ?_ h2 hs)))
    ·have:Hl.getD x default=Hl.getD j default:=(by rw[<- hs];simpa using e);rw[Wj x (by omega) j (by omega) this]
    ·have:j≠x:=λhe=>(by rw[he]at hs;rw[<- hs]at e;simp at e);omega
 refine Tot.up ?_;simp only[G.fC];exact L 5 1 (by omega) (by omega)
theorem aao {n:aj}(h:Val n=true)(hk:n.Kind=4):n.Names.length<=6/\n.Kids.length=n.Names.length:=by have:=xH (kL (lF h)) hk;exact this.2.2.2
theorem T.rU {d:Nat}{n:aj}(h:vH 1000000 (d+2) n):Tot (λv:oh×Bool=>(∃D,Iw 1000000 D v.1)/\∀o,JS o=true->Val (Hy o)=true->n=Hy o->v=(o,true)) (λf=>G.rU f n):=by
 have no:∃D,Iw 1000000 D (oh.mk 0 [] [] (aj.mk 0 0 [] [] [])):=⟨1,⟨by simp,λt h=>by cases h⟩,⟨by simp,λt h=>by cases h⟩,AL _ _⟩;refine Tot.up ?_;simp only[G.rU];refine Tot.rY (T0.aX ZE h) (Tot.ite (λev=>Tot.ite (λe4=>Tot.ret ⟨no,λo _ _ hn=>?_⟩) (λe4=>?_)) (λev=>Tot.ret ⟨no,λo _ hv hn=>?_⟩))
 ·rw[hn]at e4;exact absurd e4 (by simp[Hy])
 ·have e4:n.Kind=4:=by simpa using e4
  have hnm:=h.sm ZE;refine Tot.rY (T.slices_Equal_string hnm.1) (Tot.ite (λen=>?_) (λen=>Tot.ret ⟨no,λo _ _ hn=>?_⟩))
  ·have en:n.Names=Ql:=of_decide_eq_true en;have hl:n.Kids.length=4:=(by rw[(aao ev e4).2,en];rfl);have kf:∀i,i<4->vH 1000000 (d+1) (n.Kids.getD i default):=λi hi=>h.kid (by omega);refine Tot.chk (by omega) (Tot.bind (T.jF (kf 0 (by omega))) ?_);rintro⟨p0,k0⟩⟨f0,c0⟩;refine Tot.ite (λe0=>Tot.chk (by omega) (Tot.ite (λe1=>Tot.ret ⟨no,λo _ _ hn=>?_⟩) (λe1=>Tot.chk (by omega) (Tot.bind (T.Q9 _) ?_)))) (λe0=>Tot.ret ⟨no,λo ho _ hn=>?_⟩)
   ·rw[hn]at e1;exact absurd e1 (by simp[Hy,Gp])
   ·rintro⟨m,km⟩ cm;refine Tot.ite (λem=>Tot.chk (by omega) (Tot.bind (T.jF (kf 2 (by omega))) ?_)) (λem=>Tot.ret ⟨no,λo ho _ hn=>?_⟩)
    ·rintro⟨p2,k2⟩⟨f2,c2⟩;refine Tot.ite (λe2=>Tot.chk (by omega) (Tot.rY (T0.aP ZE (kf 3 (by omega))) (Tot.ret ⟨⟨_,f2,f0,kf 3 (by omega)⟩,λo ho _ hn=>?_⟩))) (λe2=>Tot.ret ⟨no,λo ho _ hn=>?_⟩)
     ·have hf:=uN ho;have k1:=hf.k1;have k6:=hf.k6;have h0:=c0 o.From hf.from_ (by rw[hn];rfl);have h2:=c2 o.Path hf.path (by rw[hn];rfl);have hm:=cm o.Kind.toNat (by omega) (by omega) (by rw[hn];rfl);simp only[aI]at h0 h2 hm;have hmk:m=o.Kind:=(by rw[hm.1];omega);refine rG ?_ rfl;show oh.mk m p2 p0 (n.Kids.getD 3 default)=o;rw[h0.1,h2.1,hmk,hn];rfl
     ·have:=c2 o.Path (uN ho).path (by rw[hn];rfl);simp only[aI]at this;rw[this.2]at e2;cases e2
    ·have hf:=uN ho;have k1:=hf.k1;have k6:=hf.k6;have:=cm o.Kind.toNat (by omega) (by omega) (by rw[hn];rfl);simp only[aI]at this;rw[this.2]at em;cases em
   ·have:=c0 o.From (uN ho).from_ (by rw[hn];rfl);simp only[aI]at this;rw[this.2]at e0;cases e0
  ·rw[hn]at en;exact absurd en (by simp[Hy,Ql])
 ·rw[hn,hv]at ev;cases ev
theorem ab8 (o:oh):opP o≠[]:=by unfold opP;simp
theorem T.l7 {s:aO}(h:s.length<=1000000):Tot (λv:List oh×Bool=>KX v.1/\∀l,EH l=true->okO l=true->s=opsT l->v=(l,true)) (λf=>G.l7 f s):=by
 have fin0:KX []:=⟨by simp,λo h=>by cases h⟩;have L:∀(k a:Nat) (z:List oh),a+k=s.length->z.length<=a->(∀o,o∈z->∃D,Iw 1000000 D o)->Tot (λv:List oh×Bool=>KX v.1/\∀l,EH l=true->okO l=true->z.length<=l.length->z=l.take z.length->s.drop a=opsT (l.drop z.length)->v=(l,true)) (λf=>G.l7.L1 f s z s (a:Int)):=by
  intro k
  induction k using dw with|_ k ih=>
  intro a z ha hz hf;refine Tot.up ?_;simp only[G.l7.L1];refine Tot.ite (λe=>?_) (λe=>Tot.ret ⟨⟨by show z.length<=_;omega,λo ho=>?_⟩,λl _ _ hzl he hd=>?_⟩)
  ·have hal:a<s.length:=(by simp only[decide_eq_true_eq]at e;omega);refine Tot.bind (T.MK 5 (by omega) s a 1 ⟨by omega,h⟩ rfl) ?_;rintro⟨m,ok,q⟩⟨⟨b,hb,hab,hbl,hlt⟩,hfm,hall⟩;simp only at hb hfm hlt;subst hb;have nxt:∀l,EH l=true->okO l=true->z.length<=l.length->s.drop a=opsT (l.drop z.length)->z.length<l.length/\JS (l.getD z.length default)=true/\Val (Hy (l.getD z.length default))=true /\
    m=Hy (l.getD z.length default)/\ok=true/\s.drop b=59::opsT (l.drop (z.length+1)):=λl hp ho hzl hd=>by
    have hlt:z.length<l.length:=by
     rcases wC z.length l.length with h|h
     ·exact h
     ·rw[ak h]at hd;have:=congrArg kE hd;rw[fH]at this;simp[opsT]at this;omega
    have hm:=getD_mem default hlt;have hv:Val (Hy (l.getD z.length default))=true:=by unfold okO at ho;exact bg.1 ho _ hm
    have hd2:s.drop a=nT 5 (Hy (l.getD z.length default))++(59::opsT (l.drop (z.length+1))):=by rw[hd,dI default hlt];unfold opsT;rw[bF];unfold opP;simp
    have h1:=hall _ _ (lF hv) (MG rfl) hd2;simp only[aI]at h1;have h3:=h1.2.2;unfold eAt at h3
    injection h3 with _ h4
    have h5:b=s.length-(59::opsT (l.drop (z.length+1))).length:=(by omega);refine⟨hlt,(Qo hp).2 _ hm,hv,h1.1,h1.2.1,?_⟩;rw[h5];exact(IQ (by omega) hd2).1
   cases ok with
   |false=>exact Tot.cf rfl (Tot.ret ⟨fin0,λl hp ho hzl _ hd=>by have:=(nxt l hp ho hzl hd).2.2.2.2.1;cases this⟩)
   | true=>
     have hab':=hlt rfl;refine Tot.ct rfl (Tot.rY (T.take (p:=[59]) ⟨hbl,h⟩) ?_);cases e1:iO (s.drop b) [59]with
     | false=>rw[JH e1];refine Tot.cf rfl (Tot.ret ⟨fin0,λl hp ho hzl _ hd=>?_⟩);rw[(nxt l hp ho hzl hd).2.2.2.2.2]at e1;have:=Kw [59] (opsT (l.drop (z.length+1)));rw[AZ]at this;rw[this]at e1;cases e1
     | true=>
       rw[He e1];have hb':=IX hbl e1;simp only[bC]at hb'⊢;refine Tot.ct rfl (Tot.bind (T.rU (d:=4) hfm) ?_);rintro⟨o,ko⟩⟨fo,co⟩;refine Tot.ite (λe2=>Tot.ite (λe3=>Tot.ret ⟨fin0,λl hp ho hzl _ hd=>?_⟩) (λe3=>Tot.chk (by omega) ((ih (s.length-(b+1)) (by omega) (b+1) (z++[o]) (by omega) (by simp;omega) (λx hx=>?_)).mono λv hv=>⟨hv.1,λl hp ho hzl he hd=>?_⟩))) (λe2=>Tot.ret ⟨fin0,λl hp ho hzl _ hd=>?_⟩)
       ·have:=(nxt l hp ho hzl hd).1;have:=(Qo hp).1;simp only[beq_iff_eq]at e3;omega
       ·rcases aW.1 hx with e|e
        ·exact hf x e
        ·rw[bM]at e;subst e;exact fo
       ·obtain⟨n1,n2,n3,n4,_,n6⟩:=nxt l hp ho hzl hd;have hc:=co _ n2 n3 n4;simp only[aI]at hc;have hlen:(z++[o]).length=z.length+1:=(by simp);refine hv.2 l hp ho (by rw[hlen];omega) ?_ (by rw[hlen];exact(xu n6).2.2);rw[hlen,<- take_snoc default n1,<- he,<- hc.1]
       ·obtain⟨_,n2,n3,n4,_,_⟩:=nxt l hp ho hzl hd;have hc:=co _ n2 n3 n4;simp only[aI]at hc;rw[hc.2]at e2;cases e2
  ·obtain⟨D,hD⟩:=hf o ho;exact⟨D,⟨by have:=hD.path.1;omega,λs hs=>by have:=hD.path.2 s hs;omega⟩,⟨by have:=hD.from_.1;omega,λs hs=>by have:=hD.from_.2 s hs;omega⟩,hD.val.mono (by omega) (au _)⟩
  ·have hal:a=s.length:=(by simp only[decide_eq_false_iff_not]at e;omega);have hd:opsT (l.drop z.length)=[]:=(by rw[<- hd,ak (by omega)]);have:l.length<=z.length:=by
    rcases wC z.length l.length with h|h
    ·rw[dI default h]at hd;unfold opsT at hd;rw[bF]at hd;exact absurd (Am.1 hd).1 (ab8 _)
    ·exact h
   rw[aF this]at he;rw[he]
 refine Tot.up ?_;simp only[G.l7];exact(L s.length 0 [] (by omega) (by simp) (λo h=>by cases h)).mono λv hv=>⟨hv.1,λl hp ho hs=>hv.2 l hp ho (aN _) rfl (by simpa using hs)⟩
def JZ : RequestT:=RequestT.mk 0 [] [] [] (aj.mk 0 0 [] [] []) []
theorem Jc {q:RequestT}(h:OU q=true):JR 60 q:=by
 have hr:=Ur h;have P:∀{l:List aO},zC l=true->wM 60 l:=λ{l} hl=>by obtain⟨h1,h2⟩:=zW hl;exact⟨by omega,λs hs=>by have:=G9 (h2 s hs);omega⟩
 exact⟨by have:=I9 hr.Me;omega,P hr.want,P hr.avoid,⟨5,yR hr.body⟩,Zn hr.ops⟩
theorem acU {q:RequestT}(h:OU q=false):xQ q=[]:=by unfold xQ;rw[h];rfl
theorem T0.aT {B:Nat}{q:RequestT}(hB:B<=lim)(h:aaN B q):Ev (λf=>G.aT f q) (xQ q):=by
 cases e:OU q with
 |true=>exact T.aT (Jc e)
 | false=>refine Ev.up ?_;simp only[G.aT];exact Ev.bind (T0.lI hB h) (Ev.cf e (Ev.ret' (acU e).symm))
theorem BB {q:RequestT}(h:xQ q≠[]):OU q=true/\lean q=true/\okO q.Ops=true/\xQ q=Jl q:=by
 unfold xQ at h⊢;split
 ·rename_i c;simp only[ah]at c;exact⟨c.1,c.2.1,c.2.2,rfl⟩
 ·rename_i c;rw[if_neg c]at h;exact absurd rfl h
structure PR (s:aO)(v:RequestT×Bool):Prop where
 no:v.2=false->v.1=JZ
 yes:v.2=true->xQ v.1=s/\s≠[]/\s.length<=2000
 all:∀q,s≠[]->s.length<=2000->xQ q=s->v=(q,true)
theorem PR.uniq {s:aO}{v w:RequestT×Bool}(h:PR s v)(k:PR s w):v=w:=by
 obtain⟨q,b⟩:=v;obtain⟨p,c⟩:=w;cases b with
 | true=>obtain⟨h1,h2,h3⟩:=h.yes rfl;exact(k.all q h2 h3 h1).symm
 | false=>
   cases c with
   | true=>obtain⟨h1,h2,h3⟩:=k.yes rfl;exact h.all p h2 h3 h1
   |false=>rw[show q=JZ from h.no rfl,show p=JZ from k.no rfl]
theorem RS {q:RequestT}(h:OU q=true)(hl:lean q=true)(hm:q.Method=4):q.Body=aj.mk 0 0 [] [] []:=by
 have hr:=Ur h;unfold lean at hl;simp only[ah,iJ,beq_iff_eq]at hl;have hk:q.Body.Kind=0:=by
  rcases hl.1 with(h|h)|h
  ·exact h
  ·omega
  ·omega
 have hp:=kL (lF hr.body);have h1:=zl hp (by omega) (by omega);have h2:=KH hp hk;rw[<- CE q.Body,hk,h1.1,h1.2,h2.1,h2.2]
theorem VK {q:RequestT}(hl:lean q=true)(hm:q.Method≠4):q.Ops=[]:=by unfold lean at hl;simp only[ah,iJ,beq_iff_eq]at hl;exact List.isEmpty_iff.1 (hl.2.resolve_right hm)
theorem Ov {s:aO}(h:∀q,s≠[]->s.length<=2000->xQ q=s->False):PR s (JZ,false):=⟨λ_=>rfl,λh=>(by cases h),λq h1 h2 h3=>(h q h1 h2 h3).elim⟩
theorem T.je {s:aO}(hl:s.length<=4000000000):Tot (PR s) (λf=>G.je f s):=by
 refine Tot.up ?_;simp only[G.je];refine Tot.rY (a:=oG [32] 0 (min 5 (s.length+1)-1) s) (Ev.up ?_) ?_
 ·simp only[G.strings_SplitN];exact Ev.chk ⟨by omega,by simp,by omega,by omega⟩ (Ev.ret _)
 generalize hv1:oG [32] 0 (min 5 (s.length+1)-1) s=v1;have words:∀q,s≠[]->xQ q=s->v1=[Hl.getD q.Method.toNat default,q.Name,Ei q.Want,Ei q.oJ,if q.Method=4 then opsT q.Ops else nT 5 q.Body]:=λq h0 hw=>by
  have hne:xQ q≠[]:=by rw[hw];exact h0
  obtain⟨o1,o2,o3,o4⟩:=BB hne;have hr:=Ur o1;rw[hw]at o4;have hlen:4<=s.length:=by rw[o4];unfold Jl hdT;simp only[ay,bC];omega
  rw[show min 5 (s.length+1)-1=4 by omega,o4]at hv1;rw[<- hv1];unfold Jl hdT;exact acI (acT hr) (ab1 hr.Me) (UF _) (UF _)
 have aci:∀i,i<v1.length->(v1.getD i default).length<=s.length:=λi hi=>QH (k:=min 5 (s.length+1)-1) (by rw[hv1];exact getD_mem default hi);refine Tot.ite (λe=>Tot.ret (Ov λq _ h2 _=>by simp only[decide_eq_true_eq]at e;omega)) (λe=>Tot.ite (λe5=>Tot.ret (Ov λq h1 _ h3=>?_)) (λe5=>?_))
 ·rw[words q h1 h3]at e5;exact absurd e5 (by simp)
 have hlen:v1.length=5:=by
  have:(v1.length:Int)=5:=by simpa using e5
  omega
 have p0:=aci 0 (by omega);have p1:=aci 1 (by omega);have p2:=aci 2 (by omega);have p3:=aci 3 (by omega);have p4:=aci 4 (by omega);have hs2:s.length<=2000:=by simp only[decide_eq_false_iff_not]at e;omega
 refine Tot.chk (by omega) (Tot.bind (T.LZ _) ?_);rintro⟨m,km⟩ cm;have hm:∀q,s≠[]->xQ q=s->m=q.Method/\km=true:=λq h0 hw=>by have hr:=Ur (BB (show xQ q≠[] by rw[hw];exact h0)).1;have lo:=hr.lo;have hi:=hr.hi;have:=cm q.Method.toNat (by omega) (by omega) (by rw[words q h0 hw];rfl);simp only[aI]at this;exact⟨by rw[this.1];omega,this.2⟩
 refine Tot.chk (by omega) (Tot.rY (T.uo (by omega)) (Tot.chk (by omega) (Tot.rY (T.uo (by omega)) ?_)));have hw2:∀q,s≠[]->xQ q=s->Um Ib (v1.getD 2 default)=(q.Want,true):=λq h0 hw=>by rw[words q h0 hw];exact YB (Ur (BB (show xQ q≠[] by rw[hw];exact h0)).1).want
 have hw3:∀q,s≠[]->xQ q=s->Um Ib (v1.getD 3 default)=(q.oJ,true):=λq h0 hw=>by rw[words q h0 hw];exact YB (Ur (BB (show xQ q≠[] by rw[hw];exact h0)).1).avoid
 refine Tot.ite (λem=>Tot.ite (λew=>Tot.ite (λea=>?_) (λea=>Tot.ret (Ov λq h1 _ h3=>?_))) (λew=>Tot.ret (Ov λq h1 _ h3=>?_))) (λem=>Tot.ret (Ov λq h1 _ h3=>?_))
 ·have hf2:=YA (v1.getD 2 default);have hf3:=YA (v1.getD 3 default);have mono:∀{l:List aO},wM 60 l->wM 1048576 l:=λh=>⟨by have:=h.1;omega,λt ht=>by have:=h.2 t ht;omega⟩;have K:∀(ok:Bool) (n:aj) (l:List oh),vH 1000000 6 n->KX l->(∀q,s≠[]->xQ q=s->q=RequestT.mk m (v1.getD 1 default) (Um Ib (v1.getD 2 default)).1 (Um Ib (v1.getD 3 default)).1 n l/\ok=true) ->
   Tot (PR s) (λf=>G.je.K1 f s v1 (m,km) (Um Ib (v1.getD 2 default)) (Um Ib (v1.getD 3 default)) ok n.Kind n.Num n.Text n.Names n.Kids l):=λok n l hn hL hq=>by
   refine Tot.up ?_;simp only[G.je.K1,aj.eta];have hFQ:aaN 1048576 (RequestT.mk m (v1.getD 1 default) (Um Ib (v1.getD 2 default)).1 (Um Ib (v1.getD 3 default)).1 n l):=⟨by show(v1.getD 1 default).length<=_;omega,mono hf2,mono hf3,⟨6,hn.mono (by omega) (au _)⟩,hL⟩;refine Tot.ite (λe1=>Tot.rY (T0.aT ad4 hFQ) (Tot.ite (λe2=>Tot.ret ⟨λh=>(by cases h),λ_=>⟨by simpa using e2,λh0=>?_,hs2⟩,λq h1 _ h3=>?_⟩) (λe2=>Tot.ret (Ov λq h1 _ h3=>?_)))) (λe1=>Tot.ret (Ov λq h1 _ h3=>?_))
   ·rw[h0]at hv1;rw[<- hv1]at hlen;exact absurd hlen (by decide)
   ·rw[<- (hq q h1 h3).1]
   ·rw[<- (hq q h1 h3).1,h3]at e2;simp at e2
   ·rw[(hq q h1 h3).2]at e1;cases e1
  have base:∀q,s≠[]->xQ q=s->q=RequestT.mk m (v1.getD 1 default) (Um Ib (v1.getD 2 default)).1 (Um Ib (v1.getD 3 default)).1 q.Body q.Ops:=λq h1 h3=>by rw[hw2 q h1 h3,hw3 q h1 h3,(hm q h1 h3).1,words q h1 h3];rfl
  refine Tot.chk (by omega) (Tot.ite (λe4=>Tot.chk (by omega) (Tot.bind (T.l7 (by omega)) ?_)) (λe4=>Tot.chk (by omega) (Tot.bind (T.qG (by omega)) ?_)))
  ·rintro⟨l,kl⟩⟨fl,cl⟩;have e4:m=4:=(by simpa using e4);refine K kl (aj.mk 0 0 [] [] []) l (AL _ _) fl (λq h1 h3=>?_);obtain⟨o1,o2,o3,_⟩:=BB (show xQ q≠[] by rw[h3];exact h1);have hm4:q.Method=4:=(by rw[<- (hm q h1 h3).1];exact e4);have:=cl q.Ops (Ur o1).ops o3 (by rw[words q h1 h3,if_pos hm4];rfl);simp only[aI]at this;refine⟨?_,this.2⟩;rw[this.1,<- RS o1 o2 hm4];exact base q h1 h3
  ·rintro⟨n,kn⟩⟨fn,cn⟩;have e4:m≠4:=(by simpa using e4);refine K kn n [] fn ⟨by simp,λo h=>by cases h⟩ (λq h1 h3=>?_);obtain⟨o1,o2,o3,_⟩:=BB (show xQ q≠[] by rw[h3];exact h1);have hm4:q.Method≠4:=(by rw[<- (hm q h1 h3).1];exact e4);have:=cn q.Body (Ur o1).body (by omega) (by rw[words q h1 h3,if_neg hm4];rfl);simp only[aI]at this;refine⟨?_,this.2⟩;rw[this.1,<- VK o2 hm4];exact base q h1 h3
 ·rw[hw3 q h1 h3]at ea;cases ea
 ·rw[hw2 q h1 h3]at ew;cases ew
 ·rw[(hm q h1 h3).2]at em;cases em
section
def KC : Nat:=1048576
def V8 (s r:aO):dG:=dG.mk s ((s.length-r.length:Nat):Int) false
theorem Qy {s x r:aO}{a:Nat}(ha:a<=s.length)(h:s.drop a=x++r):dG.mk s ((a+x.length:Nat):Int) false=V8 s r:=by
 have:=congrArg kE h;rw[fH,ay]at this;unfold V8
 congr 2;omega
def pk (s:aO)(a:Nat):Int:=if a<s.length then((s.getD a 0).toNat:Int)else 0
theorem xh {s r:aO}{a:Nat}{b:UInt8}(h:s.drop a=b::r):pk s a=(b.toNat:Int):=by have:=xu h;unfold pk;rw[if_pos this.1,this.2.1]
theorem Iq {s:aO}{a:Nat}(h:pk s a≠0):a<s.length/\pk s a=((s.getD a 0).toNat:Int):=by
 unfold pk at h⊢;split
 ·rename_i hl;exact⟨hl,rfl⟩
 ·rename_i hl;rw[if_neg hl]at h;exact absurd rfl h
theorem acg (s:aO)(a:Nat):0<=pk s a/\pk s a<=255:=by
 unfold pk;split
 ·have:=(s.getD a 0).toNat_lt;omega
 ·omega
section
variable {s:aO} {a:Nat} {bd:Bool} (ha:a<=s.length) (hl:s.length<=1000000)
include ha hl
theorem T.peek : Ev (λf=>G.gm f (dG.mk s (a:Int) bd)) (pk s a,dG.mk s (a:Int) bd):=by
 have _:=hl;refine Ev.up ?_;simp only[G.gm,ai];unfold pk;refine Ev.ite (λe=>?_) (λe=>?_)
 ·simp only[decide_eq_true_eq]at e;rw[if_neg (by omega)];exact Ev.ret _
 ·simp only[decide_eq_false_iff_not]at e;rw[if_pos (by omega)];exact Ev.chk ⟨by omega,by omega⟩ (Ev.ret _)
theorem T.agD (c:Int):Ev (λf=>G.jU f (dG.mk s (a:Int) bd) c) (if pk s a=c then dG.mk s ((a+1:Nat):Int) bd else dG.mk s (a:Int) true):=by
 refine Ev.up ?_;simp only[G.jU];refine Ev.bind (T.peek ha hl) (Ev.ite (λe=>?_) (λe=>?_))
 ·have:pk s a≠c:=by simpa using e
  rw[if_neg this];exact Ev.ret _
 ·have:pk s a=c:=by simpa using e
  rw[if_pos this];exact Ev.ret' (by simp only[dA (show a+1<9223372036854775808 by omega)])
def InS (s:aO)(a:Nat)(bd:Bool)(v:dG):Prop:=∃(b:Nat) (KU:Bool),v=dG.mk s (b:Int) KU/\a<=b/\b<=s.length/\(bd=true->KU=true)
theorem T.QL (c:Int)(hc:c≠0):Tot (λv=>InS s a bd v/\(pk s a=c->v=dG.mk s ((a+1:Nat):Int) bd)/\(pk s a≠c->v=dG.mk s (a:Int) true)) (λf=>G.jU f (dG.mk s (a:Int) bd) c):=by
 refine⟨_,T.agD ha hl c,?_,λh=>by rw[if_pos h],λh=>by rw[if_neg h]⟩;by_cases h:pk s a=c
 ·have:=Iq (h▸hc);rw[if_pos h];exact⟨a+1,bd,rfl,by omega,by omega,λh=>h⟩
 ·rw[if_neg h];exact⟨a,true,rfl,au _,ha,λ_=>rfl⟩
end
theorem afA {b:UInt8}(h:okB b=true):b≠0:=λe=>by rw[e]at h;exact absurd h (by decide)
theorem acn {t:aO}(h:PT t=true):∀b,b∈t->b≠0:=λb hb=>by unfold PT at h;simp only[ah,bg]at h;exact afA (h.1 b hb)
structure RdV (s:aO)(a:Nat)(bd:Bool)(v:aO×dG):Prop where
 pos:∃(b:Nat) (KU:Bool),v.2=dG.mk s (b:Int) KU/\a<=b/\b<=s.length/\(KU=false->a<b/\bd=false)
 len:v.1.length<=1000000
 all:bd=false->∀t r,(∀b,b∈t->b≠0)->s.drop a=DV t++r->v=(t,V8 s r)
theorem T.quoted.L3t {s:aO}(hl:s.length<=1000000){y:Nat}{z:List Int}(hy:y<=s.length)(hz:z.length<=y) :
 Tot (λv:aO×dG=>(∃(b:Nat),v.2=dG.mk s (b:Int) true/\y<=b/\b<=s.length)/\v.1.length<=1000000) (λf=>G.eU.L3 f s (y:Int) true z):=by
 have hM:=maxL;refine Tot.up ?_;simp only[G.eU.L3];refine Tot.ct rfl (Tot.bind (T.QL hy hl 34 (by decide)) ?_);rintro v ⟨⟨b,KU,rfl,h1,h2,h3⟩,_⟩;refine Tot.chk (by omega) (Tot.ret ⟨⟨b,by rw[h3 rfl],h1,h2⟩,?_⟩);rw[AB];omega
theorem WX {z:List Int}{b:UInt8}{t:aO} : yO (z++[(b.toNat:Int)])++t=yO z++b::t:=by unfold yO;rw[sK,List.map_singleton,ai,UInt8.ofNat_toNat];simp
theorem T.quoted.L3 {s:aO}(hl:s.length<=1000000):∀(k y:Nat) (z:List Int),y+k=s.length->z.length<=y ->
 Tot (λv:aO×dG=>(∃(b:Nat) (KU:Bool),v.2=dG.mk s (b:Int) KU/\y<=b/\b<=s.length)/\v.1.length<=1000000/\∀t r,(∀b,b∈t->b≠0)->s.drop y=t.flatMap CG++34::r->v=(yO z++t,V8 s r))
  (λf=>G.eU.L3 f s (y:Int) false z):=by
 have hM:=maxL;intro k
 induction k using dw with|_ k ih=>
 intro y z hy hz;have K4:∀y':Nat,y<=y'->y'<=s.length->Tot (λv:aO×dG=>(∃(b:Nat) (KU:Bool),v.2=dG.mk s (b:Int) KU/\y<=b/\b<=s.length)/\v.1.length<=1000000 /\
  ∀b t r,b≠0->(∀c,c∈t->c≠0)->s.drop y'=b::(t.flatMap CG++34::r)->v=(yO z++b::t,V8 s r)) (λf=>G.eU.K4 f z s (y':Int) false):=λy' h1 h2=>by
  refine Tot.up ?_;simp only[G.eU.K4];refine Tot.rY (T.peek h2 hl) (Tot.ite (λe=>Tot.ret ⟨⟨y',true,rfl,h1,h2⟩,aN _,λb t r hb _ hd=>?_⟩) (λe=>Tot.rY (T.peek h2 hl) (Tot.chk (by omega) ?_)))
  ·have e:pk s y'=0:=(by simpa using e);rw[xh hd]at e;exact absurd (nZ.1 (show b.toNat=(0:UInt8).toNat by show b.toNat=0;omega)) hb
  ·have e:pk s y'≠0:=(by simpa using e);obtain⟨hlt,hp⟩:=Iq e;simp only[dA (show y'+1<9223372036854775808 by omega)];rw[hp];refine(ih (s.length-(y'+1)) (by omega) (y'+1) _ (by omega) (by simp;omega)).mono ?_;rintro v ⟨⟨b,KU,p1,p2,p3⟩,p4,p5⟩;refine⟨⟨b,KU,p1,by omega,p3⟩,p4,λb t r hb ht hd=>?_⟩;obtain⟨_,g2,g3⟩:=xu hd;rw[p5 t r ht g3,g2,WX]
 refine Tot.up ?_;simp only[G.eU.L3];refine Tot.cf rfl (Tot.rY (T.peek (by omega) hl) (Tot.ite (λe=>Tot.rY (T.peek (by omega) hl) ?_) (λe=>Tot.bind (T.QL (by omega) hl 34 (by decide)) ?_)))
 ·have n34:pk s y≠34:=by simpa using e
  refine Tot.ite (λe2=>?_) (λe2=>?_)
  ·have e2:pk s y=92:=(by simpa using e2);have hlt:=(Iq (show pk s y≠0 by omega)).1;simp only[dA (show y+1<9223372036854775808 by omega)];refine(K4 (y+1) (by omega) (by omega)).mono ?_;rintro v ⟨p1,p4,p5⟩;refine⟨p1,p4,λt r ht hd=>?_⟩;have hd0:=dI (0:UInt8) hlt;rw[hd0]at hd;have hb:=xh hd0;rcases EC hd with⟨RJ,_⟩|⟨_,c,t',hc,rfl,hq⟩|⟨_,WC,_⟩
   ·rw[RJ]at hb;exact absurd hb n34
   ·exact p5 c t' r (ht c (bz ..)) (λb hb=>ht b (dF _ hb)) hq
   ·exact absurd (nZ.1 (show(s.getD y 0).toNat=(92:UInt8).toNat by show _=92;omega)) WC
  ·have e2:pk s y≠92:=(by simpa using e2);refine(K4 y (au _) (by omega)).mono ?_;rintro v ⟨p1,p4,p5⟩;refine⟨p1,p4,λt r ht hd=>?_⟩;cases hdy:s.drop y with
   |nil=>rw[hdy]at hd;have:=congrArg kE hd;simp at this
   | cons b q=>
     have hb:=xh hdy;rw[hdy]at hd;rcases EC hd with⟨RJ,_⟩|⟨WC,_⟩|⟨_,_,t',rfl,hq⟩
     ·rw[RJ]at hb;exact absurd hb n34
     ·rw[WC]at hb;exact absurd hb e2
     ·exact p5 b t' r (ht b (bz ..)) (λc hc=>ht c (dF _ hc)) (by rw[hdy,hq])
 ·have e34:pk s y=34:=by simpa using e
  rintro v ⟨_,h1,_⟩;rw[h1 e34];have hlt:=(Iq (show pk s y≠0 by omega)).1;refine Tot.chk (by omega) (Tot.ret ⟨⟨y+1,false,rfl,by omega,by omega⟩,by rw[AB];omega,λt r ht hd=>?_⟩);have hd0:=dI (0:UInt8) hlt;rw[hd0]at hd;have hb:=xh hd0;rcases EC hd with⟨RJ,rfl,hr⟩|⟨WC,_⟩|⟨RJ,_⟩
  ·have:dG.mk s ((y+[34].length:Nat):Int) false=V8 s r:=Qy (x:=[34]) (r:=r) (EZ hlt) (by rw[hd0,hr,RJ];rfl);rw[eX,<- this];rfl
  ·rw[WC]at hb;exact absurd (hb.symm.trans e34) (by decide)
  ·exact absurd (nZ.1 (show(s.getD y 0).toNat=(34:UInt8).toNat by show _=34;omega)) RJ
theorem T.quoted {s:aO}(hl:s.length<=1000000){a:Nat}(ha:a<=s.length)(bd:Bool):Tot (RdV s a bd) (λf=>G.eU f (dG.mk s (a:Int) bd)):=by
 refine Tot.up ?_;simp only[G.eU];refine Tot.bind (T.QL ha hl 34 (by decide)) ?_;rintro v ⟨_,h1,h2⟩;by_cases e:pk s a=34
 ·rw[h1 e];have hlt:=(Iq (show pk s a≠0 by omega)).1;cases bd with
  | true=>refine(T.quoted.L3t (s:=s) hl (y:=a+1) (z:=[]) (by omega) (by simp)).mono ?_;rintro v ⟨⟨b,p1,p2,p3⟩,p4⟩;exact⟨⟨b,true,p1,by omega,p3,λh=>by cases h⟩,p4,λh=>by cases h⟩
  | false=>refine(T.quoted.L3 hl (s.length-(a+1)) (a+1) [] (by omega) (by simp)).mono ?_;rintro v ⟨⟨b,KU,p1,p2,p3⟩,p4,p5⟩;refine⟨⟨b,KU,p1,by omega,p3,λ_=>⟨by omega,rfl⟩⟩,p4,λ_ t r ht hd=>?_⟩;unfold DV at hd;rw[p5 t r ht (by rw[(xu (hd.trans (dY ..))).2.2];simp)];rfl
 ·rw[h2 e];refine(T.quoted.L3t (s:=s) hl (y:=a) (z:=[]) ha (by simp)).mono ?_;rintro v ⟨⟨b,p1,p2,p3⟩,p4⟩;refine⟨⟨b,true,p1,p2,p3,λh=>by cases h⟩,p4,λ_ t r _ hd=>?_⟩;unfold DV at hd;exact absurd (xh (hd.trans (dY ..))) e
def afL (acc:Nat)(x:aO):Nat:=x.foldl (λn b=>10*n+(b.toNat-48)) acc
theorem Wi (i:Nat):afL 0 (xR i)=i:=by
 induction i using dw with|_ i ih=>
 have dig:∀k:Nat,k<10->(dR (48+k)).toNat=48+k:=λk hk=>by rw[wL];omega
 by_cases h:i<10
 ·rw[xO h];show 10*0+((dR (48+i)).toNat-48)=i;rw[dig i h];omega
 ·have:=ih (i/10) (by omega);rw[Ci h];unfold afL at this⊢;rw[uS,this,lT,Bf,dig _ (by omega)];omega
def isD (b:UInt8):Prop:=48<=b.toNat/\b.toNat<=57
theorem PX (i:Nat):∀b,b∈xR i->isD b:=by
 induction i using dw with|_ i ih=>
 have dig:∀k:Nat,k<10->isD (dR (48+k)):=λk hk=>by unfold isD;rw[wL];omega
 intro b hb;by_cases h:i<10
 ·rw[xO h,bM]at hb;rw[hb];exact dig i h
 ·rw[Ci h]at hb;rcases aW.1 hb with e|e
  ·exact ih (i/10) (by omega) b e
  ·rw[bM]at e;rw[e];exact dig (i%10) (by omega)
theorem T.number.L2 {s:aO}(hl:s.length<=1000000){sg:Int}(hs:sg=1\/sg = -1){bd:Bool} : ∀(j k y n:Nat),k+j=7->y<=s.length->n<10^k ->
 Tot (λv:Int×dG=>(∃b:Nat,v.2=dG.mk s (b:Int) bd/\y<=b/\b<=s.length/\(48<=pk s y->pk s y<=57->0<j->y<b))/\∀x r,x.length<=j->(∀b,b∈x->isD b)->okR r->s.drop y=x++r->v=(sg*((afL n x:Nat):Int),dG.mk s ((y+x.length:Nat):Int) bd))
  (λf=>G.fA.L2 f sg (n:Int) (k:Int) s (y:Int) bd):=by
 have wm:∀n:Nat,n<10000000->af .i64 (sg*(n:Int))=sg*(n:Int):=λn hn=>Nb (by rcases hs with e|e<;>rw[e]<;>omega) (by rcases hs with e|e<;>rw[e]<;>omega);intro j
 induction j with
 | zero=>intro k y n hk hy hn;have hk7:k=7:=(by omega);subst hk7;refine Tot.up ?_;simp only[G.fA.L2];refine Tot.cf (decide_eq_false (by omega)) (Tot.ret ⟨⟨y,rfl,au _,hy,λ_ _ h=>by omega⟩,λx r hx _ _ hd=>?_⟩);have:x=[]:=di (by omega);subst this;rw[wm n (by simpa using hn)];rfl
 | succ j ih=>
   intro k y n hk hy hn;have hk6:10^k<=10^6:=Nat.pow_le_pow_right (by decide) (by omega);have hn6:n<1000000:=Nat.lt_of_lt_of_le hn (by simpa using hk6);have hp:=acg s y;have w0:af .i64 (pk s y)=pk s y:=Nb (by omega) (by omega);refine Tot.up ?_;simp only[G.fA.L2];refine Tot.ct (decide_eq_true (by omega)) (Tot.rY (T.peek hy hl) (Tot.rY (T.fP _ _ _) (Tot.ite (λe=>Tot.rY (T.peek hy hl) ?_) (λe=>Tot.ret ⟨⟨y,rfl,au _,hy,λh1 h2 _=>?_⟩,λx r hx hd0 hr hd=>?_⟩))))
   ·simp only[w0,ah,decide_eq_true_eq]at e;obtain⟨hlt,hb⟩:=Iq (show pk s y≠0 by omega);have hw:af .i64 (af .i64 (af .i64 (10*(n:Int))+af .i64 (pk s y))-48)=((10*n+((s.getD y 0).toNat-48):Nat):Int):=by
     rw[w0,Nb (x:=10*(n:Int)) (by omega) (by omega),Nb (x:=10*(n:Int)+pk s y) (by omega) (by omega),Nb (by omega) (by omega)];omega
    simp only[hw,dA (show k+1<9223372036854775808 by omega),dA (show y+1<9223372036854775808 by omega)];refine(ih (k+1) (y+1) _ (by omega) (by omega) (by rw[xX];omega)).mono ?_;rintro v ⟨⟨b,p1,p2,p3,_⟩,p5⟩;refine⟨⟨b,p1,by omega,p3,λ_ _ _=>by omega⟩,λx r hx hd0 hr hd=>?_⟩;cases x with
    | nil=>rw[gJ]at hd;have:=hr (s.getD y 0) (by rw[<- hd,dI (0:UInt8) hlt];rfl);unfold Iy at this;rw[decide_eq_true (show 48<=(s.getD y 0).toNat by omega),decide_eq_true (show(s.getD y 0).toNat<=57 by omega)]at this;simp at this
    | cons c x=>
      obtain⟨_,g2,g3⟩:=xu (hd.trans (dY ..));rw[p5 x r (by simpa using hx) (λb hb=>hd0 b (dF _ hb)) hr g3,g2];refine rG rfl ?_;show dG.mk _ _ _=dG.mk _ _ _
      congr 2
      simp only[dB];omega
   ·simp only[w0,sU,decide_eq_false_iff_not]at e;omega
   ·simp only[w0,sU,decide_eq_false_iff_not]at e;cases x with
    |nil=>rw[wm n (by omega)];rfl
    | cons c x=>have:=xh (hd.trans (dY ..));have hc:=hd0 c (bz ..);unfold isD at hc;omega
theorem Ye (i:Nat):∃b q,xR i=b::q/\isD b:=by
 cases h:xR i with
 |nil=>exact absurd h (Ls i)
 |cons b q=>exact⟨b,q,rfl,PX i b (by rw[h];exact bz ..)⟩
theorem T.number {s:aO}(hl:s.length<=1000000){a:Nat}(ha:a<=s.length)(h0:pk s a=45\/(48<=pk s a/\pk s a<=57)) :
 Tot (λv:Int×dG=>(∃b:Nat,v.2=dG.mk s (b:Int) false/\a<b/\b<=s.length)/\∀z r,-999999<=z->z<=999999->okR r->s.drop a=Ah z++r->v=(z,V8 s r)) (λf=>G.fA f (dG.mk s (a:Int) false)):=by
 have hlt:=(Iq (show pk s a≠0 by omega)).1;refine Tot.up ?_;simp only[G.fA];refine Tot.rY (T.peek ha hl) (Tot.ite (λe=>Tot.up ?_) (λe=>Tot.up ?_))
 ·have e:pk s a=45:=by simpa using e
  simp only[G.fA.K1,dA (show a+1<9223372036854775808 by omega)];refine(T.number.L2 hl (.inr rfl) 7 0 (a+1) 0 (by omega) (by omega) (by decide)).mono ?_;rintro v ⟨⟨b,p1,p2,p3,_⟩,p5⟩;refine⟨⟨b,p1,by omega,p3⟩,λz r h1 h2 hr hd=>?_⟩;by_cases hz:z<0
  ·have ez:Ah z=45::xR (-z).toNat:=if_pos hz;rw[ez]at hd;have g3:=(xu (hd.trans (dY ..))).2.2;have hlen:=Ey (i:=(-z).toNat) (by omega);rw[p5 _ r (by omega) (PX _) hr g3,Wi];refine rG (by show(-1:Int)*_=z;omega) ?_;rw[<- Qy (show a+1<=s.length by omega) g3]
  ·have ez:Ah z=xR z.toNat:=if_neg hz;rw[ez]at hd;obtain⟨b,q,hb,hd0⟩:=Ye z.toNat
   rw[hb]at hd;have:=xh (hd.trans (dY ..));unfold isD at hd0;omega
 ·have e:pk s a≠45:=by simpa using e
  simp only[G.fA.K1];refine(T.number.L2 hl (.inl rfl) 7 0 a 0 (by omega) ha (by decide)).mono ?_;rintro v ⟨⟨b,p1,p2,p3,p4⟩,p5⟩;refine⟨⟨b,p1,p4 (by omega) (by omega) (by omega),p3⟩,λz r h1 h2 hr hd=>?_⟩;by_cases hz:z<0
  ·have ez:Ah z=45::xR (-z).toNat:=if_pos hz;rw[ez]at hd;exact absurd (xh (hd.trans (dY ..))) e
  ·have ez:Ah z=xR z.toNat:=if_neg hz;rw[ez]at hd;have hlen:=Ey (i:=z.toNat) (by omega);rw[p5 _ r (by omega) (PX _) hr hd,Wi];refine rG (by show(1:Int)*_=z;omega) ?_;rw[<- Qy ha hd]
end
section
theorem acf {n:aj}(h:Parts n=true)(hk:n.Kind=2):PT n.Text=true:=by unfold Parts at h;rw[if_neg (by omega),if_neg (by omega),if_pos hk]at h;simp only[ah]at h;exact h.2.1
structure RdS (d:Nat)(s:aO)(a:Nat)(v:aj×dG):Prop where
 pos:∃(b:Nat) (bd:Bool),v.2=dG.mk s (b:Int) bd/\a<=b/\b<=s.length/\(bd=false->a<b)
 fin:vH KC (d+1) v.1
 all:∀n r,Shape d n=true->okR r->s.drop a=nT d n++r->v=(n,V8 s r)
theorem Fj {d:Nat}{k z:Int}{t:aO}(ht:t.length<=1000000):vH KC (d+1) (aj.mk k z t [] []):=
 ⟨ig ht (by decide),aN _,λs h=>(by cases h),aN _,trivial,λk h=>(by cases h)⟩
theorem T.ab4 {s:aO}{a:Nat}(lv:Int):Ev (λf=>G.jT f (dG.mk s (a:Int) true) lv) (aj.mk 0 0 [] [] [],dG.mk s (a:Int) true):=by refine Ev.up ?_;simp only[G.jT];exact Ev.ite (λ_=>Ev.ret _) (λ_=>Ev.ct rfl (Ev.ret _))
structure RdI (d:Nat)(kind:Int)(c:UInt8)(s:aO)(y:Nat)(bd:Bool)(z5:List aO)(z6:List aj)(v:aj×dG):Prop where
 pos:∃(b:Nat) (KU:Bool),v.2=dG.mk s (b:Int) KU/\y<=b/\b<=s.length
 fin:vH KC (d+2) v.1
 all:bd=false->∀n r,Big d kind n->z6.length<=n.Kids.length->z6=n.Kids.take z6.length->z5=(if kind=4 then n.Names.take z6.length else []) ->
  (∀t,t∈n.Names->PT t=true)->s.drop y=wQ (nT d) n z6.length [c] r->v=(n,V8 s r)
section
variable {d:Nat} (hd:d<=4) (IH:∀(s:aO) (a:Nat),a<=s.length->s.length<=1000000->Tot (RdS d s a) (λf=>G.jT f (dG.mk s (a:Int) false) (d:Int)))
 {kind:Int} {c:UInt8} (hk:kind=3/\c=93\/kind=4/\c=125) {s:aO} (hl:s.length<=1000000)
include hd IH hk hl
theorem T.inside.L5t {y:Nat}{z5:List aO}{z6:List aj}(hy:y<=s.length)(h6:z6.length<=y+1)(h5:z5.length<=y+1)(ht:∀t,t∈z5->t.length<=1000000)(hn:∀n,n∈z6->vH KC (d+1) n) :
 Tot (RdI d kind c s y true z5 z6) (λf=>G.bK.L5 f (aj.mk kind 0 [] [] []) (c.toNat:Int) ((d+1:Nat):Int) s (y:Int) true z5 z6):=by
 have _:=hd;have _:=IH;have hc:(c.toNat:Int)≠0:=by rcases hk with⟨_,h⟩|⟨_,h⟩<;>rw[h]<;>decide
 refine Tot.up ?_;simp only[G.bK.L5];refine Tot.ct rfl (Tot.bind (T.QL hy hl _ hc) ?_);rintro v ⟨⟨b,KU,rfl,h1,h2,h3⟩,_⟩;refine Tot.ret ⟨⟨b,KU,rfl,h1,h2⟩,⟨aN _,?_,λt h=>ig (ht t h) (by decide),?_,trivial,hn⟩,λh=>by cases h⟩
 ·show z5.length<=KC;unfold KC;omega
 ·show z6.length<=KC;unfold KC;omega
theorem T.inside.L5 : ∀(k y:Nat) (z5:List aO) (z6:List aj),y+k=s.length->z6.length<=y->z5.length<=y->(∀t,t∈z5->t.length<=1000000)->(∀n,n∈z6->vH KC (d+1) n) ->
 Tot (RdI d kind c s y false z5 z6) (λf=>G.bK.L5 f (aj.mk kind 0 [] [] []) (c.toNat:Int) ((d+1:Nat):Int) s (y:Int) false z5 z6):=by
 have hc:c=93\/c=125:=by rcases hk with⟨_,h⟩|⟨_,h⟩<;>simp[h]
 have hc0:(c.toNat:Int)≠0:=by rcases hc with h|h<;>rw[h]<;>decide
 have cne:∀{b:UInt8},b≠c->(b.toNat:Int)≠(c.toNat:Int):=λh e=>h (nZ.1 (by omega));intro k
 induction k using dw with|_ k ih=>
 intro y z5 z6 hy h6 h5 ht hn;have hM:=maxL;have K7:∀(p:Nat) (bd:Bool) (z7:List aO),y<=p->p<=s.length->z7.length<=p+1->(∀t,t∈z7->t.length<=1000000) ->
  Tot (λv:aj×dG=>(∃(b:Nat) (KU:Bool),v.2=dG.mk s (b:Int) KU/\y<=b/\b<=s.length)/\vH KC (d+2) v.1/\(bd=false->∀n r,Big d kind n->z6.length<n.Kids.length->z6=n.Kids.take z6.length->z7=(if kind=4 then n.Names.take (z6.length+1)else []) ->
   (∀t,t∈n.Names->PT t=true)->s.drop p=nT d (n.Kids.getD z6.length default)++wQ (nT d) n (z6.length+1) [c] r->v=(n,V8 s r)))
  (λf=>G.bK.K7 f (aj.mk kind 0 [] [] []) (c.toNat:Int) ((d+1:Nat):Int) z6 s (p:Int) bd z7):=λp bd z7 hp hpl h7 ht7=>by
  refine Tot.up ?_;simp only[G.bK.K7];have w1:af .i64 (((d+1:Nat):Int)-1)=(d:Int):=by rw[Nb (by omega) (by omega)];omega
  rw[w1];cases bd with
  | true=>
    refine Tot.rY (T.ab4 _) (Tot.chk (by omega) ((T.inside.L5t hd IH hk hl (y:=p) (z5:=z7) (z6:=z6++[aj.mk 0 0 [] [] []]) hpl (by simp;omega) h7 ht7 (λx hx=>?_)).mono ?_))
    ·rcases aW.1 hx with e|e
     ·exact hn x e
     ·rw[bM]at e;subst e;exact Fj (aN _)
    rintro v ⟨⟨b,KU,g1,g2,g3⟩,g4,_⟩;exact⟨⟨b,KU,g1,by omega,g3⟩,g4,λh=>by cases h⟩
  | false=>
    refine Tot.bind (IH s p hpl hl) ?_;rintro⟨m,q⟩⟨⟨b,bd,hb1,hb2,hb3,hb4⟩,hf,hall⟩;simp only at hb1 hf;subst hb1;have hn':∀x,x∈z6++[m]->vH KC (d+1) x:=λx hx=>by
     rcases aW.1 hx with e|e
     ·exact hn x e
     ·rw[bM]at e;subst e;exact hf
    have kid:∀n r,Big d kind n->z6.length<n.Kids.length->s.drop p=nT d (n.Kids.getD z6.length default)++wQ (nT d) n (z6.length+1) [c] r->m=n.Kids.getD z6.length default/\bd=false/\s.drop b=wQ (nT d) n (z6.length+1) [c] r:=λn r hB hlt hdr=>by
     have h1:=hall _ (wQ (nT d) n (z6.length+1) [c] r) (hB.kids _ (getD_mem default hlt)) (QJ hc (xY _)) hdr;simp only[aI]at h1;have h3:=h1.2;unfold V8 at h3
     injection h3 with _ h4 h5
     refine⟨h1.1,h5,?_⟩;have h6:b=s.length-(wQ (nT d) n (z6.length+1) [c] r).length:=(by omega);rw[h6];exact(IQ hpl hdr).1
    cases bd with
    | true=>refine Tot.chk (by omega) ((T.inside.L5t hd IH hk hl (y:=b) (z5:=z7) (z6:=z6++[m]) hb3 (by simp;omega) (by omega) ht7 hn').mono ?_);rintro v ⟨⟨b2,KU,g1,g2,g3⟩,g4,_⟩;exact⟨⟨b2,KU,g1,by omega,g3⟩,g4,λ_ n r hB hlt _ _ _ hdr=>by have:=(kid n r hB hlt hdr).2.1;cases this⟩
    | false=>have hpb:=hb4 rfl;refine Tot.chk (by omega) ((ih (s.length-b) (by omega) b z7 (z6++[m]) (by omega) (by simp;omega) (by omega) ht7 hn').mono ?_);rintro v ⟨⟨b2,KU,g1,g2,g3⟩,g4,g5⟩;refine⟨⟨b2,KU,g1,by omega,g3⟩,g4,λ_ n r hB hlt RN h7e hnm hdr=>?_⟩;obtain⟨hm,_,hdb⟩:=kid n r hB hlt hdr;have hlen:(z6++[m]).length=z6.length+1:=(by simp);refine g5 rfl n r hB (by rw[hlen];omega) ?_ (by rw[hlen];exact h7e) hnm (by rw[hlen];exact hdb);rw[hlen,<- take_snoc default hlt,<- RN,<- hm]
 have K6:∀(p:Nat) (bd:Bool),y<=p->p<=s.length ->
  Tot (λv:aj×dG=>(∃(b:Nat) (KU:Bool),v.2=dG.mk s (b:Int) KU/\y<=b/\b<=s.length)/\vH KC (d+2) v.1/\(bd=false->∀n r,Big d kind n->z6.length<n.Kids.length->z6=n.Kids.take z6.length->z5=(if kind=4 then n.Names.take z6.length else []) ->
   (∀t,t∈n.Names->PT t=true)->s.drop p=FB (nT d) n z6.length++wQ (nT d) n (z6.length+1) [c] r->v=(n,V8 s r)))
  (λf=>G.bK.K6 f (aj.mk kind 0 [] [] []) (c.toNat:Int) ((d+1:Nat):Int) z5 z6 s (p:Int) bd):=λp bd hp hpl=>by
  refine Tot.up ?_;simp only[G.bK.K6];refine Tot.ite (λe=>?_) (λe=>?_)
  ·have k4:kind=4:=(by simpa using e);refine Tot.bind (T.quoted hl hpl bd) ?_;rintro⟨t,q⟩⟨⟨b,bd1,hb1,hb2,hb3,hb4⟩,hlen,hall⟩;simp only at hb1 hlen;subst hb1;refine Tot.chk (by omega) (Tot.bind (T.QL hb3 hl 58 (by decide)) ?_);rintro v ⟨⟨b2,bd2,rfl,c1,c2,c3⟩,c4,c5⟩;refine(K7 b2 bd2 (z5++[t]) (by omega) c2 (by simp;omega) (λx hx=>?_)).mono ?_
   ·rcases aW.1 hx with e|e
    ·exact ht x e
    ·rw[bM]at e;subst e;exact hlen
   rintro v ⟨g1,g2,g3⟩;refine⟨g1,g2,λhbd n r hB hlt RN VA hnm hdr=>?_⟩;have hnl:=hB.len k4;have hlt':z6.length<n.Names.length:=(by omega);have hd2:s.drop p=DV (n.Names.getD z6.length default)++(58::(nT d (n.Kids.getD z6.length default)++wQ (nT d) n (z6.length+1) [c] r)):=(by rw[hdr];unfold FB;rw[if_pos (by rw[hB.kd,k4])];simp);have h1:=hall hbd _ _ (acn (hnm _ (getD_mem default hlt'))) hd2;simp only[aI]at h1;have h3:=h1.2;unfold V8 at h3
   injection h3 with _ h4 h5'
   have h6':b=s.length-(58::(nT d (n.Kids.getD z6.length default)++wQ (nT d) n (z6.length+1) [c] r)).length:=(by omega);have hdb:=(IQ hpl hd2).1;rw[<- h6']at hdb;have h7:=c4 (xh hdb)
   injection h7 with _ h8 h9
   have h10:b2=b+1:=(by omega);refine g3 (by rw[h9,h5']) n r hB hlt RN ?_ hnm (by rw[h10];exact(xu hdb).2.2);rw[if_pos k4]at VA⊢;rw[VA,h1.1];exact take_snoc (default:aO) (by omega)
  ·have k3:kind=3:=by
    rcases hk with⟨h,_⟩|⟨h,_⟩
    ·exact h
    ·rw[h]at e;simp at e
   refine(K7 p bd z5 hp hpl (by omega) ht).mono ?_;rintro v ⟨g1,g2,g3⟩;refine⟨g1,g2,λhbd n r hB hlt RN VA hnm hdr=>g3 hbd n r hB hlt RN ?_ hnm ?_⟩
   ·rw[if_neg (by omega)]at VA⊢;exact VA
   ·unfold FB at hdr;rw[if_neg (by rw[hB.kd];omega)]at hdr;simpa using hdr
 refine Tot.up ?_;simp only[G.bK.L5];refine Tot.cf rfl (Tot.rY (T.peek (by omega) hl) (Tot.ite (λe=>?_) (λe=>?_)))
 ·have ne:pk s y≠(c.toNat:Int):=by simpa using e
  have more:∀n r,s.drop y=wQ (nT d) n z6.length [c] r->z6.length<n.Kids.length:=λn r hdr=>by
   rcases wC z6.length n.Kids.length with h|h
   ·exact h
   ·rw[En h]at hdr;exact absurd (xh hdr) ne
  refine Tot.ite (λe0=>Tot.bind (T.QL (by omega) hl 44 (by decide)) ?_) (λe0=>?_)
  ·have h0:0<z6.length:=(by simp only[decide_eq_true_eq]at e0;omega);rintro v ⟨⟨b,KU,rfl,c1,c2,_⟩,c4,_⟩;refine(K6 b KU c1 c2).mono ?_;rintro v ⟨g1,g2,g3⟩;refine⟨g1,g2,λ_ n r hB hle RN VA hnm hdr=>?_⟩;have hlt:=more n r hdr;rw[Eo hlt h0]at hdr;have h7:=c4 (xh hdr)
   injection h7 with _ h8 h9
   have h10:b=y+1:=(by omega);exact g3 h9 n r hB hlt RN VA hnm (by rw[h10];exact(xu hdr).2.2)
  ·have h0:z6.length=0:=(by simp only[decide_eq_false_iff_not]at e0;omega);refine(K6 y false (au _) (by omega)).mono ?_;rintro v ⟨g1,g2,g3⟩;refine⟨g1,g2,λ_ n r hB hle RN VA hnm hdr=>?_⟩;have hlt:=more n r hdr;refine g3 rfl n r hB hlt RN VA hnm ?_;rw[hdr,h0];exact Ic (by omega)
 ·have ec:pk s y=(c.toNat:Int):=by simpa using e
  have hlt:=(Iq (show pk s y≠0 by rw[ec];exact hc0)).1;refine Tot.bind (T.QL (by omega) hl _ hc0) ?_;rintro v ⟨_,h1,_⟩;rw[h1 ec];refine Tot.ret ⟨⟨y+1,false,rfl,by omega,by omega⟩,⟨aN _,?_,λt h=>ig (ht t h) (by decide),?_,trivial,hn⟩,λ_ n r hB hle RN VA hnm hdr=>?_⟩
  ·show z5.length<=KC;unfold KC;omega
  ·show z6.length<=KC;unfold KC;omega
  ·have hend:z6.length=n.Kids.length:=by
    rcases wC z6.length n.Kids.length with h|h
    ·exfalso;by_cases h0:0<z6.length
     ·rw[Eo h h0]at hdr;exact cne (show(44:UInt8)≠c by rcases hc with e|e<;>rw[e]<;>decide) ((xh hdr).symm.trans ec)
     ·have h0:z6.length=0:=(by omega);rw[h0]at hdr h;rw[Ic h]at hdr;unfold FB at hdr;rcases hk with⟨k3,rfl⟩|⟨k4,rfl⟩
      ·rw[if_neg (by rw[hB.kd];omega)]at hdr;obtain⟨b,q,hq,hb⟩:=Qa (hB.kids _ (getD_mem default h));rw[gJ,hq,dY]at hdr;exact cne hb.1 ((xh hdr).symm.trans ec)
      ·rw[if_pos (by rw[hB.kd];omega)]at hdr;unfold DV at hdr;rw[dY,dY,dY]at hdr;exact cne (show(34:UInt8)≠125 by decide) ((xh hdr).symm.trans ec)
    ·omega
   rw[En (by omega)]at hdr;have hpos:dG.mk s ((y+[c].length:Nat):Int) false=V8 s r:=Qy (x:=[c]) (EZ hlt) hdr;have hkids:z6=n.Kids:=(by rw[RN,aF (by omega)]);have aby:z5=n.Names:=by
    rw[VA];rcases hk with⟨k3,_⟩|⟨k4,_⟩
    ·rw[if_neg (by omega),hB.Me k3]
    ·rw[if_pos k4,aF (by have:=hB.len k4;omega)]
   refine rG ?_ hpos;show aj.mk kind 0 [] z5 z6=n;rw[hkids,aby]
   conv=>rhs;rw[<- CE n,hB.kd,hB.num,hB.text]
end
theorem T.node : ∀(d:Nat),d<=5->∀(s:aO) (a:Nat),a<=s.length->s.length<=1000000->Tot (RdS d s a) (λf=>G.jT f (dG.mk s (a:Int) false) (d:Int))
 | 0,_,s,a,ha,hl=>by refine Tot.up ?_;simp only[G.jT];exact Tot.ct (by simp) (Tot.ret ⟨⟨a,true,rfl,au _,ha,λh=>by cases h⟩,Fj (aN _),λn r hS=>by cases hS⟩)
 | d+1,hd,s,a,ha,hl=>by
   have hp:=acg s a;have w0:af .i64 (pk s a)=pk s a:=Nb (by omega) (by omega);have w1:af .i64 ((a:Int)+1)=((a+1:Nat):Int):=dA (by omega);have w4:af .i64 ((a:Int)+4)=((a+4:Nat):Int):=wrapN (m:=a+4) (by omega) (by omega);have Y6:∀n r,Shape (d+1) n=true->s.drop a=nT (d+1) n++r->(n.Kind=0/\pk s a=110)\/(n.Kind=1/\(pk s a=45\/(48<=pk s a/\pk s a<=57)))\/(n.Kind=2/\pk s a=34)\/(n.Kind=3/\pk s a=91)\/(n.Kind=4/\pk s a=123):=λn r hS hdr=>by
    rcases Hz (kL hS)with k|k|k|k|k
    ·rw[rH,if_neg (by omega),if_neg (by omega),if_pos k]at hdr;exact .inl ⟨k,xh hdr⟩
    ·rw[rH,if_pos k]at hdr;refine .inr (.inl ⟨k,?_⟩);by_cases hz:n.Num<0
     ·rw[show Ah n.Num=45::xR (-n.Num).toNat from if_pos hz]at hdr;exact .inl (xh hdr)
     ·rw[show Ah n.Num=xR n.Num.toNat from if_neg hz]at hdr;obtain⟨b,q,hb,h0⟩:=Ye n.Num.toNat
      rw[hb]at hdr;have:=xh hdr;unfold isD at h0;exact .inr (by omega)
    ·rw[rH,if_neg (by omega),if_pos k]at hdr;exact .inr (.inr (.inl ⟨k,xh hdr⟩))
    ·rw[LJ r k]at hdr;exact .inr (.inr (.inr (.inl ⟨k,xh hdr⟩)))
    ·rw[OZ r k]at hdr;exact .inr (.inr (.inr (.inr ⟨k,xh hdr⟩)))
   have sub:∀{kind:Int} {c:UInt8},(kind=3/\c=93\/kind=4/\c=125)->a<s.length->Tot (RdI d kind c s (a+1) false [] []) (λf=>G.bK f (dG.mk s (a:Int) false) (aj.mk kind 0 [] [] []) (c.toNat:Int) ((d+1:Nat):Int)):=λ{kind c} hk hlt=>by refine Tot.up ?_;simp only[G.bK];rw[w1];exact T.inside.L5 (by omega) (λs a h1 h2=>T.node d (by omega) s a h1 h2) hk hl (s.length-(a+1)) (a+1) [] [] (by omega) (aN _) (aN _) (λt h=>by cases h) (λn h=>by cases h)
   have num:(pk s a=45\/(48<=pk s a/\pk s a<=57))->Tot (RdS (d+1) s a) (λf=>jc (G.fA f (dG.mk s (a:Int) false)) λv9=>some ((aj.mk 1 v9.1 [] [] []),v9.2)):=λh0=>by
    refine Tot.bind (T.number hl ha h0) ?_;rintro⟨z,q⟩⟨⟨b,p1,p2,p3⟩,p5⟩;refine Tot.ret ⟨⟨b,false,p1,by omega,p3,λ_=>p2⟩,Fj (aN _),λn r hS hr hdr=>?_⟩;have k:n.Kind=1:=(by rcases Y6 n r hS hdr with⟨_,hx⟩|⟨k,_⟩|⟨_,hx⟩|⟨_,hx⟩|⟨_,hx⟩<;>omega);have hpp:=kL hS;have hlf:=zl hpp (by omega) (by omega);have hnn:=GU hpp k;have htt:=Qn hpp (by omega);rw[rH,if_pos k]at hdr;have h3:=p5 n.Num r hnn.1 hnn.2 hr hdr;simp only[aI]at h3;refine rG ?_ h3.2;show aj.mk 1 z [] [] []=n
    conv=>rhs;rw[<- CE n,k,htt,hlf.1,hlf.2,<- h3.1]
   refine Tot.up ?_;simp only[G.jT];refine Tot.cf (by simp;omega) (Tot.cf rfl (Tot.rY (T.peek ha hl) (Tot.ite (λe2=>?_) (λe2=>Tot.rY (T.peek ha hl) (Tot.ite (λe3=>?_) (λe3=>Tot.rY (T.peek ha hl) (Tot.ite (λe4=>?_) (λe4=>Tot.rY (T.peek ha hl) (Tot.ite (λe0=>?_) (λe0=>Tot.rY (T.peek ha hl) (Tot.ite (λe1=>?_) (λe1=>Tot.rY (T.peek ha hl) (Tot.rY (T.fP _ _ _) (Tot.ite (λe5=>?_) (λe5=>?_)))))))))))))))
   ·have e2:pk s a=34:=(by simpa using e2);refine Tot.bind (T.quoted hl ha false) ?_;rintro⟨t,q⟩⟨⟨b,bd,p1,p2,p3,p4⟩,hlen,hall⟩;refine Tot.ret ⟨⟨b,bd,p1,p2,p3,λh=>(p4 h).1⟩,Fj hlen,λn r hS _ hdr=>?_⟩;have k:n.Kind=2:=(by rcases Y6 n r hS hdr with⟨_,hx⟩|⟨_,hx⟩|⟨k,_⟩|⟨_,hx⟩|⟨_,hx⟩<;>omega);have hpp:=kL hS;have hlf:=zl hpp (by omega) (by omega);have hn0:n.Num=0:=Qm hpp (by omega);rw[rH,if_neg (by omega),if_pos k]at hdr;have h3:=hall rfl _ _ (acn (acf hpp k)) hdr;simp only[aI]at h3;refine rG ?_ h3.2;show aj.mk 2 0 t [] []=n
    conv=>rhs;rw[<- CE n,k,hn0,hlf.1,hlf.2,<- h3.1]
   ·have e3:pk s a=91:=(by simpa using e3);have hlt:=(Iq (show pk s a≠0 by omega)).1;refine Tot.bind (sub (.inl ⟨rfl,rfl⟩) hlt) ?_;rintro⟨m,q⟩⟨⟨b,bd,p1,p2,p3⟩,hf,hall⟩;refine Tot.ret ⟨⟨b,bd,p1,by omega,p3,λ_=>by omega⟩,hf,λn r hS _ hdr=>?_⟩;have k:n.Kind=3:=(by rcases Y6 n r hS hdr with⟨_,hx⟩|⟨_,hx⟩|⟨_,hx⟩|⟨k,_⟩|⟨_,hx⟩<;>omega);rw[LJ r k]at hdr;have hB:=SQ hS (.inl k);rw[k]at hB;exact hall rfl n r hB (aN _) rfl rfl (λt ht=>by rw[hB.Me rfl]at ht;cases ht) (xu hdr).2.2
   ·have e4:pk s a=123:=(by simpa using e4);have hlt:=(Iq (show pk s a≠0 by omega)).1;refine Tot.bind (sub (.inr ⟨rfl,rfl⟩) hlt) ?_;rintro⟨m,q⟩⟨⟨b,bd,p1,p2,p3⟩,hf,hall⟩;refine Tot.ret ⟨⟨b,bd,p1,by omega,p3,λ_=>by omega⟩,hf,λn r hS _ hdr=>?_⟩;have k:n.Kind=4:=(by rcases Y6 n r hS hdr with⟨_,hx⟩|⟨_,hx⟩|⟨_,hx⟩|⟨_,hx⟩|⟨k,_⟩<;>omega);rw[OZ r k]at hdr;have hB:=SQ hS (.inr k);rw[k]at hB;exact hall rfl n r hB (aN _) rfl rfl (Ub (xH (kL hS) k).2.2.1) (xu hdr).2.2
   ·have e0:pk s a=110:=(by simpa using e0);have hlt:=(Iq (show pk s a≠0 by omega)).1;rw[w4];have hpos:(if(s.length:Int)<((a+4:Nat):Int)then(s.length:Int)else((a+4:Nat):Int))=((min s.length (a+4):Nat):Int):=(by split<;>omega);refine Tot.ret ⟨⟨min s.length (a+4),false,by rw[<- hpos],by omega,by omega,λ_=>by omega⟩,Fj (aN _),λn r hS _ hdr=>?_⟩;have k:n.Kind=0:=(by rcases Y6 n r hS hdr with⟨k,_⟩|⟨_,hx⟩|⟨_,hx⟩|⟨_,hx⟩|⟨_,hx⟩<;>omega);have hpp:=kL hS;have hlf:=zl hpp (by omega) (by omega);have hn0:n.Num=0/\n.Text=[]:=KH hpp k;rw[rH,if_neg (by omega),if_neg (by omega),if_pos k]at hdr;have hl4:=Yg ha hdr;have hq:dG.mk s ((a+[110,117,108,108].length:Nat):Int) false=V8 s r:=Qy ha hdr;refine rG ?_ ?_
    ·show aj.mk 0 0 [] [] []=n
     conv=>rhs;rw[<- CE n,k,hn0.1,hn0.2,hlf.1,hlf.2]
    ·rw[<- hq];simp only[hpos]
     congr 2
     simp only[dB,gI]at hl4⊢;omega
   ·have e1:pk s a=45:=(by simpa using e1);exact num (.inl e1)
   ·simp only[w0,ah,decide_eq_true_eq]at e5;exact num (.inr e5)
   ·have ne5:¬(48<=pk s a/\pk s a<=57):=by
     simp only[w0,sU,decide_eq_false_iff_not]at e5;omega
    have n2:pk s a≠34:=(by simpa using e2);have n3:pk s a≠91:=(by simpa using e3);have n4:pk s a≠123:=(by simpa using e4);have n0:pk s a≠110:=(by simpa using e0);have n1:pk s a≠45:=(by simpa using e1);refine Tot.ret ⟨⟨a,true,rfl,au _,ha,λh=>by cases h⟩,Fj (aN _),λn r hS _ hdr=>?_⟩;exfalso;rcases Y6 n r hS hdr with⟨_,hx⟩|⟨_,hx⟩|⟨_,hx⟩|⟨_,hx⟩|⟨_,hx⟩<;>omega
end
theorem ad5 : KC<=lim:=by decide
theorem T.qJ {s:aO}(hl:s.length<=1000000):Tot (λv:aj×Bool=>vH KC 6 v.1/\∀n,Val n=true->s.length<=2000->s=nT 5 n->v=(n,true)) (λf=>G.qJ f s):=by
 refine Tot.up ?_;simp only[G.qJ];refine Tot.ite (λe=>Tot.ret ⟨AL _ _,λn _ hl=>by simp only[decide_eq_true_eq]at e;omega⟩) (λ_=>Tot.bind (T.node 5 (by omega) s 0 (aN _) hl) ?_);rintro⟨m,q⟩⟨⟨b,bd,hb,_,hbl,_⟩,hf,hall⟩;simp only at hb hf;subst hb;have key:∀n,Val n=true->s=nT 5 n->m=n/\bd=false:=λn hn hs=>by
  have:=hall n [] (lF hn) Yz (by rw[bZ,eX];exact hs);simp only[aI]at this;have h3:=this.2;unfold V8 at h3
  injection h3 with _ _ h5
  exact⟨this.1,h5⟩
 refine Tot.ite (λe=>Tot.ret ⟨AL _ _,λn hn _ hs=>?_⟩) (λe=>Tot.rY (T0.eG ad5 hf) (Tot.ite (λev=>Tot.rY (T.dW 5 (by omega) (lF ev)) (Tot.ite (λe2=>Tot.ret ⟨hf,λn hn _ hs=>?_⟩) (λe2=>Tot.ret ⟨AL _ _,λn hn _ hs=>?_⟩))) (λev=>Tot.ret ⟨AL _ _,λn hn _ hs=>?_⟩)))
 ·rw[(key n hn hs).2]at e;cases e
 ·rw[(key n hn hs).1]
 ·rw[(key n hn hs).1,<- hs]at e2;simp at e2
 ·rw[(key n hn hs).1,hn]at ev;cases ev
theorem aa5 {l:List aO}(h:l.flatMap Hr=[]):l=[]:=by
 cases l with
 |nil=>rfl
 |cons t l=>rw[bF]at h;cases h
theorem acO (t:aO):Fq t≠[]:=by unfold Fq;split<;>simp
theorem T.iY {s:aO}(hl:s.length<=1000000):Tot (λv:List aO×Bool=>wM 60 v.1/\∀l,zC l=true->s=Ei l->v=(l,true)) (λf=>G.iY f s):=by
 have fin0:wM 60 []:=⟨by simp,λt h=>by cases h⟩;have L:∀(k a:Nat) (z:List aO),a+k=s.length->z.length<=5->(∀t,t∈z->t.length<=4) ->
  Tot (λv:List aO×Bool=>wM 60 v.1/\∀rest,zC (z++rest)=true->s=Ei (z++rest)->(((0<a\/rest=[])/\s.drop a=rest.flatMap Hr)\/(∃t r',rest=t::r'/\s.drop a=Fq t++r'.flatMap Hr))->v=(z++rest,true))
   (λf=>G.iY.L1 f s (a:Int) z):=by
  intro k
  induction k using dw with|_ k ih=>
  intro a z ha hz ht;have hfz:wM 60 z:=⟨by omega,λt h=>by have:=ht t h;omega⟩;have hsz:Sm z:=hfz.sm yS;have fin:(∀rest,zC (z++rest)=true->s=Ei (z++rest)->(((0<a\/rest=[])/\s.drop a=rest.flatMap Hr)\/(∃t r',rest=t::r'/\s.drop a=Fq t++r'.flatMap Hr))->rest=[]) ->
   Tot (λv:List aO×Bool=>wM 60 v.1/\∀rest,zC (z++rest)=true->s=Ei (z++rest)->(((0<a\/rest=[])/\s.drop a=rest.flatMap Hr)\/(∃t r',rest=t::r'/\s.drop a=Fq t++r'.flatMap Hr))->v=(z++rest,true))
    (λn=>jc (G.fK n z) λv1=>cond (v1==s) (jc (G.gZ n z) λv2=>cond v2 (some (z,true)) (some ([],false))) (some ([],false))):=λh=>by
   refine Tot.rY (T.fK hsz) (Tot.ite (λe=>Tot.rY (T.gZ hsz) (Tot.ite (λe2=>Tot.ret ⟨hfz,λrest h1 h2 h3=>?_⟩) (λe2=>Tot.ret ⟨fin0,λrest h1 h2 h3=>?_⟩))) (λe=>Tot.ret ⟨fin0,λrest h1 h2 h3=>?_⟩))
   ·rw[h rest h1 h2 h3,eX]
   ·have:=h rest h1 h2 h3;rw[this,eX]at h1;rw[h1]at e2;cases e2
   ·have:=h rest h1 h2 h3;rw[this,eX]at h2;rw[<- h2]at e;simp at e
  refine Tot.up ?_;simp only[G.iY.L1];refine Tot.ite (λe=>?_) (λe=>fin λrest _ _ h=>?_)
  ·have hal:a<s.length:=(by simp only[decide_eq_true_eq]at e;omega);refine Tot.ite (λe4=>?_) (λe4=>fin λrest h1 _ _=>?_)
   ·have h4:z.length<=4:=(by simp only[decide_eq_true_eq]at e4;omega);have w1:af .i64 ((a:Int)+1)=((a+1:Nat):Int):=dA (by omega);have w5:af .i64 ((a:Int)+5)=((a+5:Nat):Int):=wrapN (m:=a+5) (by omega) (by omega);have w6:af .i64 ((a:Int)+6)=((a+6:Nat):Int):=wrapN (m:=a+6) (by omega) (by omega);have hd0:=dI (0:UInt8) hal;have tag:(∀rest,(((0<a\/rest=[])/\s.drop a=rest.flatMap Hr)\/(∃t r',rest=t::r'/\s.drop a=Fq t++r'.flatMap Hr))->∃t r',rest=t::r'/\s.drop a=Fq t++r'.flatMap Hr) ->
     Tot (λv:List aO×Bool=>wM 60 v.1/\∀rest,zC (z++rest)=true->s=Ei (z++rest)->(((0<a\/rest=[])/\s.drop a=rest.flatMap Hr)\/(∃t r',rest=t::r'/\s.drop a=Fq t++r'.flatMap Hr))->v=(z++rest,true))
     (λn=>chk (0<=(a:Int)/\(a:Int)<(s.length:Int)) (cond (((s.getD a 0).toNat:Int)==42)
      (chk ((z.length+1)*18<=2^46) (G.iY.L1 n s ((a+1:Nat):Int) (z++[[42]])))
      (cond (decide (((a+6:Nat):Int)<=(s.length:Int)))
      (chk (0<=((a+1:Nat):Int)/\((a+1:Nat):Int)<=((a+5:Nat):Int)/\((a+5:Nat):Int)<=(s.length:Int))
      (chk ((z.length+1)*18<=2^46) (G.iY.L1 n s ((a+6:Nat):Int) (z++[((s.take (a+5)).drop (a+1))]))))
      (some ([],false))))):=λhr=>by
     rw[show(42:Int)=((42:UInt8).toNat:Int)from rfl];have tgs:∀{t:aO} {r':List aO},zC (z++t::r')=true->Gf t=true:=λ{t r'} h=>(zW h).2 t (jX _ (bz ..));refine Tot.chk ⟨by omega,by omega⟩ (Tot.ite (λe1=>Tot.chk (by omega) ((ih (s.length-(a+1)) (by omega) (a+1) (z++[[42]]) (by omega) (by simp;omega) (λt h=>?_)).mono ?_)) (λe1=>Tot.ite (λe2=>Tot.chk ⟨by omega,by omega,?_⟩ (Tot.chk (by omega) ((ih (s.length-(a+6)) (by omega) (a+6) (z++[(s.take (a+5)).drop (a+1)]) ?_ (by simp;omega) (λt h=>?_)).mono ?_))) (λe2=>Tot.ret ⟨fin0,λrest h1 h2 h3=>?_⟩)))
     ·rcases aW.1 h with e|e
      ·exact ht t e
      ·rw[bM]at e;rw[e];decide
     ·rintro v ⟨g1,g2⟩;refine⟨g1,λrest h1 h2 h3=>?_⟩;obtain⟨t,r',rfl,hd⟩:=hr rest h3;rw[yF,beq_iff_eq]at e1;rw[hd0,e1]at hd;have h42:t=[42]:=by
       unfold Fq at hd;split at hd
       ·rename_i c;exact c
       ·have:=(kQ hd).1;exact absurd this (by decide)
      subst h42;have hq:Fq [42]=[42]:=rfl;rw[hq]at hd;have h5:=g2 r' (by rw[dh];exact h1) (by rw[dh];exact h2) (.inl ⟨.inl (by omega),(kQ hd).2⟩);rw[h5,dh];rfl
     ·simp only[decide_eq_true_eq]at e2;omega
     ·simp only[decide_eq_true_eq]at e2;omega
     ·rcases aW.1 h with e|e
      ·exact ht t e
      ·rw[bM]at e;rw[e,fH,dZ];omega
     ·rintro v ⟨g1,g2⟩;refine⟨g1,λrest h1 h2 h3=>?_⟩;obtain⟨t,r',rfl,hd⟩:=hr rest h3;rw[yF]at e1;have htv:=tgs h1;have hne:t≠[42]:=λh42=>by
       subst h42;have hq:Fq [42]=[42]:=rfl;rw[hq,hd0]at hd;rw[(kQ hd).1]at e1;exact absurd e1 (by decide)
      have hq:Fq t=34::(t++[34]):=if_neg hne;have hsv:F9 t=true:=by unfold Gf at htv;simp only[iJ,beq_iff_eq]at htv;exact htv.resolve_left hne
      have h4':=G8 hsv;have hd6:s.drop (a+6)=r'.flatMap Hr:=by have:=drop_tail hd;rw[hq]at this;simpa[h4']using this
      have ht4:(s.take (a+5)).drop (a+1)=t:=by
       rw[hq]at hd;have e1:s.drop (a+1)=t++([34]++r'.flatMap Hr):=by have:=(xu (hd.trans (dY ..))).2.2;rw[this,dh]
       rw[List.drop_take,e1,show a+5-(a+1)=4 by omega,o5 (by omega),aF (by omega)]
      rw[ht4]at g2;have h5:=g2 r' (by rw[dh];exact h1) (by rw[dh];exact h2) (.inl ⟨.inl (by omega),hd6⟩);rw[h5,dh];rfl
     ·obtain⟨t,r',rfl,hd⟩:=hr rest h3;rw[yF]at e1;have hne:t≠[42]:=λh42=>by
       subst h42;have hq:Fq [42]=[42]:=rfl;rw[hq,hd0]at hd;rw[(kQ hd).1]at e1;exact absurd e1 (by decide)
      have hq:Fq t=34::(t++[34]):=if_neg hne;have hsv:F9 t=true:=by have htv:=tgs h1;unfold Gf at htv;simp only[iJ,beq_iff_eq]at htv;exact htv.resolve_left hne
      have h4':=G8 hsv;have:=Yg (EZ hal) hd;rw[hq]at this;simp[h4']at this;simp only[decide_eq_false_iff_not]at e2;omega
    simp only[w1,w5,w6,ai];refine Tot.ite (λe0=>Tot.chk ⟨by omega,by omega⟩ ?_) (λe0=>tag λrest h=>?_)
    ·rw[show(44:Int)=((44:UInt8).toNat:Int)from rfl];refine Tot.ite (λe1=>?_) (λe1=>tag λrest h=>?_)
     ·rw[yF,beq_iff_eq]at e1;refine(ih (s.length-(a+1)) (by omega) (a+1) z (by omega) hz ht).mono ?_;rintro v ⟨g1,g2⟩;refine⟨g1,λrest h1 h2 h3=>g2 rest h1 h2 ?_⟩;rcases h3 with⟨_,h3⟩|⟨t,r',rfl,h3⟩
      ·rw[hd0]at h3;cases rest with
       |nil=>cases h3
       | cons t r'=>rw[bF]at h3;exact .inr ⟨t,r',rfl,(kQ h3).2⟩
      ·exfalso;rw[hd0,e1]at h3;have htv:=(zW h1).2 t (jX _ (bz ..));cases hq:Fq t with
       |nil=>exact acO t hq
       | cons b q=>rw[hq]at h3;have hb:(44:UInt8)=b:=(kQ h3).1;exact O6 htv 44 (.inr rfl) (by rw[hq,hb];exact bz ..)
     ·rw[yF]at e1;rcases h with⟨_,h⟩|h
      ·exfalso;rw[hd0]at h;cases rest with
       |nil=>cases h
       | cons t r'=>rw[bF]at h;have hb:s.getD a 0=44:=(kQ h).1;rw[hb]at e1;exact absurd e1 (by decide)
      ·exact h
    ·have h0:a=0:=(by simp only[decide_eq_false_iff_not]at e0;omega);rcases h with⟨h|h,h2⟩|h
     ·omega
     ·rw[h,hd0]at h2;cases h2
     ·exact h
   ·simp only[decide_eq_false_iff_not]at e4;have:=(zW h1).1;rw[ay]at this;omega
  ·simp only[decide_eq_false_iff_not]at e;have hd:s.drop a=[]:=ak (by omega);rw[hd]at h;rcases h with⟨_,h⟩|⟨t,r',_,h⟩
   ·exact aa5 h.symm
   ·exact absurd (Am.1 h.symm).1 (acO t)
 refine Tot.up ?_;simp only[G.iY];refine(L s.length 0 [] (by omega) (by simp) (λt h=>by cases h)).mono λv hv=>⟨hv.1,λl h1 h2=>hv.2 l h1 h2 ?_⟩;rw[bZ,h2];cases l with
 |nil=>exact .inl ⟨.inr rfl,rfl⟩
 |cons t r=>exact .inr ⟨t,r,rfl,QN h1⟩
theorem T.nD {d:Nat}{n:aj}(h:vH KC (d+1) n):Tot (λv:List aO=>wM KC v/\∀p,n=EF p->v=p) (λf=>G.nD f n):=by
 have hk:=h.kids;have hmx:KC=1048576:=rfl;have L:∀(k i:Nat) (z:List aO),i+k=n.Kids.length->z.length=i->(∀t,t∈z->t.length<=KC)->Tot (λv:List aO=>wM KC v/\∀p,n=EF p->z=p.take i->v=p) (λf=>G.nD.L1 f n (i:Int) z):=by
  intro k
  induction k with
  | zero=>intro i z hi hz ht;refine Tot.up ?_;simp only[G.nD.L1];refine Tot.cf (decide_eq_false (by omega)) (Tot.ret ⟨⟨by omega,ht⟩,λp hn he=>?_⟩);rw[he,aF];rw[hn]at hi;simp[EF]at hi;omega
  | succ k ih=>
    intro i z hi hz ht;have hil:i<n.Kids.length:=(by omega);refine Tot.up ?_;simp only[G.nD.L1,ai,dA (show i+1<9223372036854775808 by omega)];refine Tot.ct (decide_eq_true (by omega)) (Tot.chk (by omega) (Tot.chk (by omega) ((ih (i+1) _ (by omega) (by simp[hz]) (λt hm=>?_)).mono λv hv=>⟨hv.1,λp hn he=>hv.2 p hn ?_⟩)))
    ·rcases aW.1 hm with e|e
     ·exact ht t e
     ·rw[bM]at e;subst e;have:=h.kid hil;cases d with
      |zero=>exact this.elim
      |succ d=>exact this.1
    ·rw[hn]at hil⊢;have hip:i<p.length:=(by simpa[EF]using hil);have:(EF p).Kids.getD i default=Gp (p.getD i default):=by
      show(p.map Gp).getD i default=_;rw[fZ _ (by simpa using hip),fZ _ hip,xM]
     rw[this,he];exact take_snoc (default:aO) hip
 refine Tot.up ?_;simp only[G.nD];exact(L n.Kids.length 0 [] (by omega) rfl (λt h=>by cases h)).mono λv hv=>⟨hv.1,λp hn=>hv.2 p hn rfl⟩
theorem ZU {o:oh}(h:JS o=true):Shape 6 (Hy o)=true:=by
 have hf:=uN h;have W:∀(d:Nat) {s:aO},PT s=true->Shape (d+1) (Gp s)=true:=λd s hs=>by unfold Shape Parts;simp[Gp,hs]
 have S:∀(d:Nat) {p:List aO},PP p=true->Shape (d+2) (EF p)=true:=λd p hp=>by unfold PP at hp;simp only[ah,decide_eq_true_eq,bg]at hp;unfold Shape Parts;simp only[EF,List.all_map,kJ,ah,bg];refine⟨by simp;omega,λs hs=>W d (hp.1 s hs)⟩
 have e:Shape 6 (Hy o)=(Parts (Hy o)&&(Hy o).Kids.all (Shape 5)):=rfl;rw[e,ah];refine⟨?_,?_⟩
 ·unfold Parts;have:NM Ql=true:=by decide
  simp only[Hy,this];rfl
 ·show [EF o.From,Gp (Gm.getD o.Kind.toNat default),EF o.Path,o.Value].all (Shape 5)=true;simp only[dJ,wz,ah,and_true];refine⟨S 3 hf.from_,W 4 ?_,S 3 hf.path,lF hf.val⟩;rcases Ud hf with e|e|e|e|e|e<;>rw[e]<;>decide
theorem T.kZ {d:Nat}{n:aj}(h:vH KC (d+2) n):Tot (λv:oh×Bool=>(∃D,Iw KC D v.1)/\∀o,JS o=true->Val (Hy o)=true->n=Hy o->v=(o,true)) (λf=>G.kZ f n):=by
 have no:∃D,Iw KC D (oh.mk 0 [] [] (aj.mk 0 0 [] [] [])):=⟨1,⟨aN _,λt h=>by cases h⟩,⟨aN _,λt h=>by cases h⟩,AL _ _⟩;refine Tot.up ?_;simp only[G.kZ];refine Tot.rY (T0.eG ad5 h) (Tot.ite (λev=>Tot.ite (λe4=>Tot.ret ⟨no,λo _ _ hn=>?_⟩) (λe4=>Tot.ite (λek=>Tot.ret ⟨no,λo _ _ hn=>?_⟩) (λek=>Tot.rY (a:=Gm) (Ev.up ?_) ?_))) (λev=>Tot.ret ⟨no,λo _ hv hn=>?_⟩))
 ·rw[hn]at e4;exact absurd e4 (by simp[Hy])
 ·rw[hn]at ek;exact absurd ek (by simp[Hy])
 ·simp only[G.uf];exact Ev.ret _
 ·have hl:n.Kids.length=4:=by
   have:(n.Kids.length:Int)=4:=(by simpa using ek);omega
  have kf:∀i,i<4->vH KC (d+1) (n.Kids.getD i default):=λi hi=>h.kid (by omega);have L:∀(k i:Nat) (kd:Int),i+k=7->1<=i->Tot (λv:oh×Bool=>(∃D,Iw KC D v.1)/\∀o,JS o=true->Val (Hy o)=true->n=Hy o->(o.Kind.toNat<i->kd=o.Kind)->v=(o,true)) (λf=>G.kZ.L1 f n Gm kd (i:Int)):=by
   intro k
   induction k with
   | zero=>
     intro i kd hi h1;refine Tot.up ?_;simp only[G.kZ.L1];refine Tot.cf (decide_eq_false (by show ¬(i:Int)<((7:Nat):Int);omega)) (Tot.chk (by omega) (Tot.bind (T.nD (kf 2 (by omega))) ?_));rintro p2 ⟨f2,c2⟩;refine Tot.chk (by omega) (Tot.bind (T.nD (kf 0 (by omega))) ?_);rintro p0 ⟨f0,c0⟩;refine Tot.chk (by omega) (Tot.rY (T0.aY ad5 (kf 3 (by omega))) ?_);have hfo:Iw KC (d+1) (oh.mk kd p2 p0 (n.Kids.getD 3 default)):=⟨f2,f0,kf 3 (by omega)⟩;have eq:∀o,JS o=true->n=Hy o->(o.Kind.toNat<i->kd=o.Kind)->oh.mk kd p2 p0 (n.Kids.getD 3 default)=o:=λo ho hn hkd=>by have hf:=uN ho;have k1:=hf.k1;have k6:=hf.k6;rw[c2 o.Path (by rw[hn];rfl),c0 o.From (by rw[hn];rfl),hkd (by omega),hn];rfl
     refine Tot.rY (T0.nY ad5 hfo) (Tot.ite (λeo=>Tot.rY (T.pW eo) ?_) (λeo=>Tot.ret ⟨no,λo ho _ hn hkd=>?_⟩))
     ·obtain⟨w,gw,hw⟩:=T.vz (ZU eo) (lF ev);refine Tot.rY gw (Tot.ite (λes=>Tot.ret ⟨⟨_,hfo⟩,λo ho _ hn hkd=>?_⟩) (λes=>Tot.ret ⟨no,λo ho _ hn hkd=>?_⟩))
      ·rw[eq o ho hn hkd]
      ·have:=hw.2 (by rw[eq o ho hn hkd,hn]);rw[this]at es;cases es
     ·rw[eq o ho hn hkd,ho]at eo;cases eo
   | succ k ih=>
     intro i kd hi h1;refine Tot.up ?_;simp only[G.kZ.L1,ai,dA (show i+1<9223372036854775808 by omega)];refine Tot.ct (decide_eq_true (by show(i:Int)<((7:Nat):Int);omega)) (Tot.chk (by omega) (Tot.chk (by show 0<=(i:Int)/\(i:Int)<((7:Nat):Int);omega) (Tot.ite (λe=>(ih (i+1) (i:Int) (by omega) (by omega)).mono λv hv=>⟨hv.1,λo ho hv' hn hkd=>hv.2 o ho hv' hn λhlt=>?_⟩) (λe=>(ih (i+1) kd (by omega) (by omega)).mono λv hv=>⟨hv.1,λo ho hv' hn hkd=>hv.2 o ho hv' hn λhlt=>?_⟩))))
     ·have hf:=uN ho;have k1:=hf.k1;have k6:=hf.k6;have:Gm.getD o.Kind.toNat default=Gm.getD i default:=by
       rw[hn]at e;have e:Gm.getD o.Kind.toNat default=Gm.getD i default:=beq_iff_eq.1 e;exact e
      have:=VQ _ (by omega) _ (by omega) this;omega
     ·have hf:=uN ho;have k1:=hf.k1;have k6:=hf.k6;refine hkd ?_;have:o.Kind.toNat≠i:=λhe=>by
       rw[hn]at e;have e:Gm.getD o.Kind.toNat default≠Gm.getD i default:=beq_eq_false_iff_ne.1 e;rw[he]at e;exact e rfl
      omega
  exact(L 6 1 0 (by omega) (by omega)).mono λv hv=>⟨hv.1,λo ho hv' hn=>hv.2 o ho hv' hn λhlt=>by have hf:=uN ho;have k1:=hf.k1;omega⟩
 ·rw[hn,hv]at ev;cases ev
theorem T.l9 {s:aO}(hl:s.length<=1000000):Tot (λv:List oh×Bool=>KX v.1/\∀l,EH l=true->okO l=true->s=opsT l->v=(l,true)) (λf=>G.l9 f s):=by
 have fin0:KX []:=⟨aN _,λo h=>by cases h⟩;have L:∀(k:Nat) (s:aO) (z:List oh),s.length=k->s.length<=1000000->z.length<=13->(∀o,o∈z->∃D,Iw KC D o)->Tot (λv:List oh×Bool=>KX v.1/\∀l,EH l=true->okO l=true->z.length<=l.length->z=l.take z.length->s=opsT (l.drop z.length)->v=(l,true)) (λf=>G.l9.L1 f s z):=by
  intro k
  induction k using dw with|_ k ih=>
  intro s z hk hl hz hf;have fz:KX z:=⟨by omega,hf⟩;refine Tot.up ?_;simp only[G.l9.L1];refine Tot.ite (λe=>Tot.ite (λe12=>?_) (λe12=>Tot.ret ⟨fz,λl hp _ hzl _ _=>?_⟩)) (λe=>Tot.ret ⟨fz,λl _ _ hzl he hd=>?_⟩)
  ·have hal:0<s.length:=(by simp only[decide_eq_true_eq]at e;omega);have aio:z.length<=12:=(by simp only[decide_eq_true_eq]at e12;omega);refine Tot.bind (T.node 5 (by omega) s 0 (aN _) hl) ?_;rintro⟨m,q⟩⟨⟨b,bd,hb,_,hbl,_⟩,hfm,hall⟩;simp only at hb hfm;subst hb;have nxt:∀l,EH l=true->okO l=true->z.length<=l.length->s=opsT (l.drop z.length)->z.length<l.length/\JS (l.getD z.length default)=true/\Val (Hy (l.getD z.length default))=true /\
    m=Hy (l.getD z.length default)/\bd=false/\s.drop b=59::opsT (l.drop (z.length+1)):=λl hp ho hzl hd=>by
    have hlt:z.length<l.length:=by
     rcases wC z.length l.length with h|h
     ·exact h
     ·rw[ak h]at hd;have:s.length=0:=(by rw[hd];rfl);omega
    have hm:=getD_mem default hlt;have hv:Val (Hy (l.getD z.length default))=true:=by unfold okO at ho;exact bg.1 ho _ hm
    have hd2:s.drop 0=nT 5 (Hy (l.getD z.length default))++(59::opsT (l.drop (z.length+1))):=by rw[bZ,hd,dI default hlt];unfold opsT;rw[bF];unfold opP;simp
    have h1:=hall _ _ (lF hv) (MG rfl) hd2;simp only[aI]at h1;have h3:=h1.2;unfold V8 at h3
    injection h3 with _ h4 h5
    have h6:b=s.length-(59::opsT (l.drop (z.length+1))).length:=(by omega);refine⟨hlt,(Qo hp).2 _ hm,hv,h1.1,h5,?_⟩;rw[h6];exact(IQ (aN _) hd2).1
   refine Tot.bind (T.kZ (d:=4) hfm) ?_;rintro⟨o,ko⟩⟨fo,co⟩;refine Tot.ite (λeb=>Tot.ret ⟨fin0,λl hp ho hzl _ hd=>?_⟩) (λeb=>Tot.ite (λe2=>Tot.rY (T.peek hbl hl) (Tot.ite (λe59=>Tot.ret ⟨fin0,λl hp ho hzl _ hd=>?_⟩) (λe59=>Tot.chk (by omega) ?_))) (λe2=>Tot.ret ⟨fin0,λl hp ho hzl _ hd=>?_⟩))
   ·rw[(nxt l hp ho hzl hd).2.2.2.2.1]at eb;cases eb
   ·have:=xh (nxt l hp ho hzl hd).2.2.2.2.2;rw[this]at e59;simp at e59
   ·have e59:pk s b=59:=(by simpa using e59);have ah7:=(Iq (show pk s b≠0 by omega)).1;simp only[dA (show b+1<9223372036854775808 by omega),ai];refine Tot.chk ⟨by omega,by omega,by omega⟩ ((ih (s.length-(b+1)) (by omega) (s.drop (b+1)) (z++[o]) (by rw[fH]) (by rw[fH];omega) (by simp;omega) (λx hx=>?_)).mono λv hv=>⟨hv.1,λl hp ho hzl he hd=>?_⟩)
    ·rcases aW.1 hx with e|e
     ·exact hf x e
     ·rw[bM]at e;subst e;exact fo
    ·obtain⟨n1,n2,n3,n4,_,n6⟩:=nxt l hp ho hzl hd;have hc:=co _ n2 n3 n4;simp only[aI]at hc;have hlen:(z++[o]).length=z.length+1:=(by simp);refine hv.2 l hp ho (by rw[hlen];omega) ?_ (by rw[hlen];exact(xu n6).2.2);rw[hlen,<- take_snoc default n1,<- he,<- hc.1]
   ·obtain⟨_,n2,n3,n4,_,_⟩:=nxt l hp ho hzl hd;have hc:=co _ n2 n3 n4;simp only[aI]at hc;rw[hc.2]at e2;cases e2
  ·simp only[decide_eq_false_iff_not]at e12;have:=(Qo hp).1;omega
  ·have hal:s.length=0:=(by simp only[decide_eq_false_iff_not]at e;omega);have hd:opsT (l.drop z.length)=[]:=(by rw[<- hd];exact di hal);have:l.length<=z.length:=by
    rcases wC z.length l.length with h|h
    ·rw[dI default h]at hd;unfold opsT at hd;rw[bF]at hd;exact absurd (Am.1 hd).1 (ab8 _)
    ·exact h
   rw[aF this]at he;rw[he]
 refine Tot.up ?_;simp only[G.l9];exact(L s.length s [] rfl hl (by simp) (λo h=>by cases h)).mono λv hv=>⟨hv.1,λl hp ho hs=>hv.2 l hp ho (aN _) rfl (by simpa using hs)⟩
theorem T.qK {s:aO}(hl:s.length<=1000000):Tot (λv:aO×aO=>v.1.length<=s.length/\v.2.length<=s.length/\∀a b,(32:UInt8) ∉ a->s=a++32::b->v=(a,b)) (λf=>G.qK f s):=by
 have L:∀(k i:Nat),i+k=s.length->Tot (λv:aO×aO=>v.1.length<=s.length/\v.2.length<=s.length/\∀a b,(32:UInt8) ∉ a->s=a++32::b->i<=a.length->v=(a,b)) (λf=>G.qK.L1 f s (i:Int)):=by
  intro k
  induction k with
  | zero=>intro i hi;refine Tot.up ?_;simp only[G.qK.L1];refine Tot.cf (decide_eq_false (by omega)) (Tot.ret ⟨au _,aN _,λa b _ hs hle=>?_⟩);have:=congrArg kE hs;simp at this;omega
  | succ k ih=>
    intro i hi;have hil:i<s.length:=(by omega);refine Tot.up ?_;simp only[G.qK.L1,ai,dA (show i+1<9223372036854775808 by omega)];rw[show(32:Int)=((32:UInt8).toNat:Int)from rfl];have at_:∀a b,s=a++32::b->i<=a.length->(i<a.length->s.getD i 0∈a)/\(i=a.length->s.getD i 0=32):=λa b hs hle=>by
     constructor
     ·intro h;rw[fZ (0:UInt8) hil];have:s[i]=a[i]:=by
       simp only[hs];rw[List.getElem_append_left h]
      rw[this];exact dO h
     ·intro h;subst h;rw[fZ (0:UInt8) hil];simp only[hs];rw[List.getElem_append_right (au _)];simp
    refine Tot.ct (decide_eq_true (by omega)) (Tot.chk ⟨by omega,by omega⟩ (Tot.ite (λe=>Tot.chk ⟨by omega,by omega,by omega⟩ (Tot.chk ⟨by omega,by omega,by omega⟩ (Tot.ret ⟨by rw[dZ];omega,by rw[fH];omega,λa b ha hs hle=>?_⟩))) (λe=>(ih (i+1) (by omega)).mono λv hv=>⟨hv.1,hv.2.1,λa b ha hs hle=>hv.2.2 a b ha hs ?_⟩)))
    ·rw[yF,beq_iff_eq]at e;obtain⟨h1,h2⟩:=at_ a b hs hle
     have:i=a.length:=by
      rcases wC i a.length with h|h
      ·have:=h1 h;rw[e]at this;exact absurd this ha
      ·omega
     subst this;rw[hs];refine rG ?_ ?_
     ·show(a++32::b).take a.length=a;simp
     ·show(a++32::b).drop (a.length+1)=b;simp
    ·rw[yF]at e;obtain⟨h1,h2⟩:=at_ a b hs hle
     have:i≠a.length:=λh=>(by rw[h2 h]at e;exact absurd e (by decide));omega
 refine Tot.up ?_;simp only[G.qK];exact(L s.length 0 (by omega)).mono λv hv=>⟨hv.1,hv.2.1,λa b ha hs=>hv.2.2 a b ha hs (aN _)⟩
theorem T0.dm {B:Nat}{q:RequestT}(hB:B<=lim)(h:aaN B q):Ev (λf=>G.dm f q) (xQ q):=by
 cases e:OU q with
 |true=>exact T.dm (Jc e)
 | false=>refine Ev.up ?_;simp only[G.dm];exact Ev.bind (T0.kS hB h) (Ev.cf e (Ev.ret' (acU e).symm))
theorem T.fG (s:aO):Tot (PR s) (λf=>G.fG f s):=by
 refine Tot.up ?_;simp only[G.fG];refine Tot.ite (λe=>Tot.ret (Ov λq _ h2 _=>by simp only[decide_eq_true_eq]at e;omega)) (λe=>?_);have hs2:s.length<=2000:=by simp only[decide_eq_false_iff_not]at e;omega
 have hl:s.length<=1000000:=by omega
 refine Tot.bind (T.qK hl) ?_;rintro⟨w1,x1⟩⟨a1,b1,c1⟩;have a1:w1.length<=s.length:=a1;have b1:x1.length<=s.length:=b1;refine Tot.bind (T.qK (s:=x1) (by omega)) ?_;rintro⟨w2,x2⟩⟨a2,b2,c2⟩;have a2:w2.length<=x1.length:=a2;have b2:x2.length<=x1.length:=b2;refine Tot.bind (T.qK (s:=x2) (by omega)) ?_;rintro⟨w3,x3⟩⟨a3,b3,c3⟩;have a3:w3.length<=x2.length:=a3;have b3:x3.length<=x2.length:=b3;refine Tot.bind (T.qK (s:=x3) (by omega)) ?_;rintro⟨w4,x4⟩⟨a4,b4,c4⟩;have a4:w4.length<=x3.length:=a4;have b4:x4.length<=x3.length:=b4;have words:∀q,s≠[]->xQ q=s->w1=Hl.getD q.Method.toNat default/\w2=q.Name/\w3=Ei q.Want/\w4=Ei q.oJ/\x4=(if q.Method=4 then opsT q.Ops else nT 5 q.Body):=λq h0 hw=>by
  have hne:xQ q≠[]:=by rw[hw];exact h0
  obtain⟨o1,o2,o3,o4⟩:=BB hne;have hr:=Ur o1;rw[hw]at o4;have e1:s=Hl.getD q.Method.toNat default++32::(q.Name++32::(Ei q.Want++32::(Ei q.oJ++32::(if q.Method=4 then opsT q.Ops else nT 5 q.Body)))):=by rw[o4];unfold Jl hdT;simp
  have h1:=c1 _ _ (acT hr) e1;simp only[aI]at h1;have h2:=c2 _ _ (ab1 hr.Me) h1.2;simp only[aI]at h2;have h3:=c3 _ _ (UF _) h2.2;simp only[aI]at h3;have h4:=c4 _ _ (UF _) h3.2;simp only[aI]at h4;exact⟨h1.1,h2.1,h3.1,h4.1,h4.2⟩
 refine Tot.rY (a:=Hl) (Ev.up ?_) ?_
 ·simp only[G.vU];exact Ev.ret _
 have L:∀(k i:Nat) (m:Int),i+k=6->1<=i->Tot (λv:RequestT×Bool=>(v.2=false->v.1=JZ)/\(v.2=true->xQ v.1=s/\s≠[]/\s.length<=2000)/\∀q,s≠[]->s.length<=2000->xQ q=s->(q.Method.toNat<i->m=q.Method)->v=(q,true)) (λf=>G.fG.L1 f s (w1,x1) (w2,x2) (w3,x3) (w4,x4) Hl (i:Int) m):=by
  intro k
  induction k with
  | zero=>
    intro i m hi h1;have no:(∀q,s≠[]->s.length<=2000->xQ q=s->(q.Method.toNat<i->m=q.Method)->False)->(λv:RequestT×Bool=>(v.2=false->v.1=JZ)/\(v.2=true->xQ v.1=s/\s≠[]/\s.length<=2000)/\∀q,s≠[]->s.length<=2000->xQ q=s->(q.Method.toNat<i->m=q.Method)->v=(q,true)) (JZ,false):=
     λh=>⟨λ_=>rfl,λh=>(by cases h),λq g1 g2 g3 g4=>(h q g1 g2 g3 g4).elim⟩
    refine Tot.up ?_;simp only[G.fG.L1];refine Tot.cf (decide_eq_false (by show ¬(i:Int)<((6:Nat):Int);omega)) (Tot.bind (T.iY (s:=w3) (by omega)) ?_);rintro⟨p3,k3⟩⟨f3,d3⟩;refine Tot.bind (T.iY (s:=w4) (by omega)) ?_;rintro⟨p4,k4⟩⟨f4,d4⟩;have mono:∀{l:List aO},wM 60 l->wM 1048576 l:=λh=>⟨by have:=h.1;omega,λt ht=>by have:=h.2 t ht;omega⟩;have hd3:∀q,s≠[]->xQ q=s->p3=q.Want/\k3=true:=λq h0 hw=>by have:=d3 q.Want (Ur (BB (show xQ q≠[] by rw[hw];exact h0)).1).want (words q h0 hw).2.2.1;simp only[aI]at this;exact this
    have hd4:∀q,s≠[]->xQ q=s->p4=q.oJ/\k4=true:=λq h0 hw=>by have:=d4 q.oJ (Ur (BB (show xQ q≠[] by rw[hw];exact h0)).1).avoid (words q h0 hw).2.2.2.1;simp only[aI]at this;exact this
    have hmq:∀q,s≠[]->xQ q=s->(q.Method.toNat<i->m=q.Method)->m=q.Method:=λq h0 hw hm=>by have hr:=Ur (BB (show xQ q≠[] by rw[hw];exact h0)).1;have lo:=hr.lo;have hi':=hr.hi;exact hm (by omega)
    have K:∀(ok:Bool) (n:aj) (l:List oh),vH KC 6 n->KX l->(∀q,s≠[]->xQ q=s->m=q.Method->n=q.Body/\l=q.Ops/\ok=true) ->
     Tot (λv:RequestT×Bool=>(v.2=false->v.1=JZ)/\(v.2=true->xQ v.1=s/\s≠[]/\s.length<=2000)/\∀q,s≠[]->s.length<=2000->xQ q=s->(q.Method.toNat<i->m=q.Method)->v=(q,true))
      (λf=>G.fG.K2 f s (w2,x2) m (p3,k3) (p4,k4) ok n.Kind n.Num n.Text n.Names n.Kids l):=λok n l hn hL hq=>by
     refine Tot.up ?_;simp only[G.fG.K2,aj.eta];have hFQ:aaN 1048576 (RequestT.mk m w2 p3 p4 n l):=⟨by show w2.length<=_;omega,mono f3,mono f4,⟨6,hn⟩,hL⟩;have same:∀q,s≠[]->xQ q=s->(q.Method.toNat<i->m=q.Method)->RequestT.mk m w2 p3 p4 n l=q/\ok=true:=λq h0 hw hm=>by have h5:=hmq q h0 hw hm;obtain⟨h6,h7,h8⟩:=hq q h0 hw h5;refine⟨?_,h8⟩;rw[h5,(words q h0 hw).2.1,(hd3 q h0 hw).1,(hd4 q h0 hw).1,h6,h7]
     refine Tot.ite (λe3=>Tot.ite (λe4=>Tot.ite (λe1=>Tot.rY (T0.dm ad4 hFQ) (Tot.ite (λe2=>Tot.ite (λe0=>Tot.ret (no λq g1 _ _ _=>?_)) (λe0=>Tot.ret ⟨λh=>(by cases h),λ_=>⟨by simpa using e2,by simpa using e0,hs2⟩,λq g1 _ g3 g4=>?_⟩)) (λe2=>Tot.ret (no λq g1 _ g3 g4=>?_)))) (λe1=>Tot.ret (no λq g1 _ g3 g4=>?_))) (λe4=>Tot.ret (no λq g1 _ g3 g4=>?_))) (λe3=>Tot.ret (no λq g1 _ g3 g4=>?_))
     ·exact g1 (by simpa using e0)
     ·rw[(same q g1 g3 g4).1]
     ·rw[(same q g1 g3 g4).1,g3]at e2;simp at e2
     ·rw[(same q g1 g3 g4).2]at e1;cases e1
     ·rw[(hd4 q g1 g3).2]at e4;cases e4
     ·rw[(hd3 q g1 g3).2]at e3;cases e3
    refine Tot.ite (λem=>Tot.bind (T.l9 (s:=x4) (by omega)) ?_) (λem=>Tot.bind (T.qJ (s:=x4) (by omega)) ?_)
    ·rintro⟨l,kl⟩⟨fl,cl⟩;have em:m=4:=(by simpa using em);refine K kl (aj.mk 0 0 [] [] []) l (AL _ _) fl (λq g1 g3 g4=>?_);obtain⟨o1,o2,o3,_⟩:=BB (show xQ q≠[] by rw[g3];exact g1);have hm4:q.Method=4:=(by omega);have:=cl q.Ops (Ur o1).ops o3 (by rw[(words q g1 g3).2.2.2.2,if_pos hm4]);simp only[aI]at this;exact⟨(RS o1 o2 hm4).symm,this.1,this.2⟩
    ·rintro⟨n,kn⟩⟨fn,cn⟩;have em:m≠4:=(by simpa using em);refine K kn n [] fn ⟨aN _,λo h=>by cases h⟩ (λq g1 g3 g4=>?_);obtain⟨o1,o2,o3,_⟩:=BB (show xQ q≠[] by rw[g3];exact g1);have hm4:q.Method≠4:=(by omega);have:=cn q.Body (Ur o1).body (by omega) (by rw[(words q g1 g3).2.2.2.2,if_neg hm4]);simp only[aI]at this;exact⟨this.1,(VK o2 hm4).symm,this.2⟩
  | succ k ih=>
    intro i m hi h1;refine Tot.up ?_;simp only[G.fG.L1,ai,dA (show i+1<9223372036854775808 by omega)];refine Tot.ct (decide_eq_true (by show(i:Int)<((6:Nat):Int);omega)) (Tot.chk (by show 0<=(i:Int)/\(i:Int)<((6:Nat):Int);omega) (Tot.ite (λe=>(ih (i+1) (i:Int) (by omega) (by omega)).mono λv hv=>⟨hv.1,hv.2.1,λq g1 g2 g3 g4=>hv.2.2 q g1 g2 g3 λhlt=>?_⟩) (λe=>(ih (i+1) m (by omega) (by omega)).mono λv hv=>⟨hv.1,hv.2.1,λq g1 g2 g3 g4=>hv.2.2 q g1 g2 g3 λhlt=>?_⟩)))
    ·have hr:=Ur (BB (show xQ q≠[] by rw[g3];exact g1)).1;have lo:=hr.lo;have hi':=hr.hi;have e:Hl.getD i default=w1:=(by simpa using e);rw[(words q g1 g3).1]at e;have:=Wj _ (by omega) _ (by omega) e;omega
    ·have hr:=Ur (BB (show xQ q≠[] by rw[g3];exact g1)).1;have lo:=hr.lo;have hi':=hr.hi;refine g4 ?_;have e:Hl.getD i default≠w1:=(by simpa using e);rw[(words q g1 g3).1]at e;have:q.Method.toNat≠i:=λhe=>(by rw[he]at e;exact e rfl);omega
 exact(L 5 1 0 (by omega) (by omega)).mono λv hv=>⟨hv.1,hv.2.1,λq g1 g2 g3=>hv.2.2 q g1 g2 g3 λhlt=>by have hr:=Ur (BB (show xQ q≠[] by rw[g3];exact g1)).1;have lo:=hr.lo;omega⟩
theorem Xq : JR 60 JZ:=⟨by simp[JZ],Vr,Vr,⟨5,yR Oc⟩,Zm⟩
theorem PR.fine {s:aO}{v:RequestT×Bool}(h:PR s v):JR 60 v.1:=by
 cases e:v.2 with
 | true=>obtain⟨h1,h2,_⟩:=h.yes e;exact Jc (BB (show xQ v.1≠[] by rw[h1];exact h2)).1
 |false=>rw[h.no e];exact Xq
section
def jn : List aO->aO
 |[]=>[]
 |[x]=>x
 |x::y::r=>x++32::jn (y::r)
theorem Yr : ∀l:List aO,sH l [32]=jn l
 |[]=>rfl
 |[x]=>by simp[sH,jn,DD,DF]
 | x::y::r=>by have:=Yr (y::r);unfold jn;rw[<- this];simp[sH,DD,DF]
theorem Yt : ∀{l:List aO} {x:aO},l≠[]->jn (l++[x])=(jn l++[32])++x
 |[],_,h=>absurd rfl h
 |[y],x,_=>by simp[jn]
 | y::z::r,x,_=>by have:=Yt (l:=z::r) (x:=x) (by simp);show y++32::jn ((z::r)++[x])=_;rw[this];simp[jn]
theorem XB : ∀{l:List aO},(∀t,t∈l->t.length<=8)->(jn l).length<=9*l.length
 |[],_=>by simp[jn]
 |[x],h=>by have:=h x (bz ..);simp[jn];omega
 | x::y::r,h=>by have h1:=XB (l:=y::r) (λt ht=>h t (dF _ ht));have h2:=h x (bz ..);unfold jn;simp only[ay,dB]at h1⊢;omega
theorem Qk {s:StoreT}(hs:QZ s):(jn (uC s.Items)).length<=90/\(uC s.Items).length=s.Items.length/\∀t,t∈uC s.Items->t.length<=8:=by
 have h8:∀t,t∈uC s.Items->t.length<=8:=λt ht=>by obtain⟨it,hit,rfl⟩:=oZ.1 ht;have:=hs.itm it hit;unfold KT at this;simp only[ah]at this;exact(I9 this.1).2
 have hl:(uC s.Items).length=s.Items.length:=by simp[uC]
 have:=XB h8;have:=hs.len;exact⟨by omega,hl,h8⟩
def FK (l:List bG):Nat:=(l.map λit=>it.Name.length+(nT 5 it.Node).length).sum
theorem IY {s:StoreT}(hs:QZ s){it:bG}(h:it∈s.Items):it.Name.length<=8/\Val it.Node=true:=by have:=hs.itm it h;unfold KT at this;simp only[ah]at this;exact⟨(I9 this.1).2,this.2.1⟩
theorem Uz {l:List bG}(h:∀it,it∈l->it.Name.length<=8/\Val it.Node=true):FK l<=4000008*l.length:=by
 induction l with
 |nil=>simp[FK]
 | cons it l ih=>have h1:=h it (bz ..);have h2:=fmt5 h1.2;have h3:=ih λx hx=>h x (dF _ hx);unfold FK at h3⊢;rw[bJ,List.sum_cons,dB];omega
theorem acj (s:aO):∃v,PR s v:=by obtain⟨v,_,h⟩:=T.fG s;exact⟨v,h⟩
noncomputable def OC (s:aO):RequestT×Bool:=(acj s).choose
theorem ack {s:aO}{v:RequestT×Bool}(h:PR s v):v=OC s:=h.uniq (acj s).choose_spec
theorem T.abD {s:aO}(hl:s.length<=4000000000):Ev (λf=>G.je f s) (OC s):=by
 obtain⟨v,g,h⟩:=T.je hl
 rwa[ack h]at g
theorem T.acH (s:aO):Ev (λf=>G.fG f s) (OC s):=by
 obtain⟨v,g,h⟩:=T.fG s
 rwa[ack h]at g
theorem Ul {s:aO}(h:(OC s).2=true):OU (OC s).1=true:=by
 obtain⟨h1,h2,_⟩:=(acj s).choose_spec.yes h;exact(BB (q:=(OC s).1) (by have:xQ (OC s).1=s:=h1;rw[this];exact h2)).1
def VR (q:RequestT)(r:gy):aO:=(Ah r.Status++(if r.Tag=[]then []else 32::r.Tag))++(if q.Method=1/\r.Status=200 then 32::nT 5 r.Body else [])
theorem ac5 {s:StoreT}{t:aO}{n:aj}{c:Int}(hc:0<=c/\c<=999):0<=(KP s t n c).2.Status/\(KP s t n c).2.Status<=999:=by
 unfold KP;split
 ·exact hc
 ·exact⟨by show(0:Int)<=422;omega,by show(422:Int)<=999;omega⟩
theorem Yq {s:StoreT}{q:RequestT} : 0<=(Cj s q).2.Status/\(Cj s q).2.Status<=999:=by
 have A:∀c:Int,0<=c/\c<=999->0<=(s,ans c).2.Status/\(s,ans c).2.Status<=999:=λc h=>h;have ck:∀t b,0<=FP q.Want q.oJ t b/\FP q.Want q.oJ t b<=999:=λt b=>by rcases ND q.Want q.oJ t b with h|h|h<;>omega
 unfold Cj;split
 ·split
  ·split
   ·exact ac5 ⟨by omega,by omega⟩
   ·exact A _ (ck _ _)
  ·exact A _ ⟨by omega,by omega⟩
 ·split
  ·unfold Zr;split
   ·exact⟨by show(0:Int)<=200;omega,by show(200:Int)<=999;omega⟩
   ·split
    ·split
     ·exact⟨by show(0:Int)<=200;omega,by show(200:Int)<=999;omega⟩
     ·exact A _ ⟨by omega,by omega⟩
    ·split
     ·exact ac5 ⟨by omega,by omega⟩
     ·exact A _ ⟨by omega,by omega⟩
  ·exact A _ (ck _ _)
theorem QI {t:aO}(h:F9 t=true):t.length<=4:=by rw[G8 h];exact au _
theorem adV {s:StoreT}{q:RequestT}{p:StoreT×gy}(hr:RqF q)(h:YP s q p):p.2.Tag.length<=4:=by
 cases h with
 |no c=>exact aN _
 |get it h1 h2=>exact QI (MW (NJ h2).2.2.2)
 |drop it m h1 h2 h3=>exact aN _
 |made m h1 h2 h3=>exact QI (MW hr.body)
 |put it n m h1 h2 h3 h4=>exact QI (MW (VN (KI.2 hr) h3))
structure Ans (p:StoreT×gy):Prop where
 st:QZ p.1
 body:Val p.2.Body=true
 lo:0<=p.2.Status
 hi:p.2.Status<=999
 tag:p.2.Tag.length<=4
theorem TS {s:StoreT}{q:RequestT}(hs:QZ s)(hr:RqF q):Ans (Cj s q):=by have h:=Zt (s:=s) hr;have h1:=adW hs h;exact⟨Bd.1 h1.1,h1.2,Yq.1,Yq.2,adV hr h⟩
theorem aed {q:RequestT}{p:StoreT×gy}(h:Ans p):(VR q p.2).length<=4000020:=by have h1:=IM (z:=p.2.Status) (by have:=h.lo;omega) (by have:=h.hi;omega);have h2:=h.tag;have h3:=fmt5 h.body;unfold VR;simp only[ay];split<;>split<;>simp only[dB,gI]<;>omega
abbrev SS :=StoreT×StoreT
structure SV (x:SS):Prop where
 now:QZ x.1
 kept:QZ x.2
noncomputable def EK (x:SS)(l:aO):aO×SS:=
 if l=[108,105,115,116]then(jn (uC x.1.Items),x)else if l=[99,108,111,99,107]then(Ah x.1.Clock,x)else if l=[115,105,122,101]then(xR (FK x.1.Items),x)else
 if l=[107,101,101,112]then([111,107],(x.1,x.1))else if l=[98,97,99,107]then([111,107],(x.2,x.2))else
 if(OC l).2=true then(VR (OC l).1 (Cj x.1 (OC l).1).2,((Cj x.1 (OC l).1).1,x.2))else([119,104,97,116],x)
theorem adI {s:StoreT}(hs:QZ s):(Ah s.Clock).length<=7:=IM (by have:=hs.lo;omega) (by have:=hs.hi;omega)
theorem MQ {s:StoreT}(hs:QZ s):FK s.Items<=40000080:=by have h1:=Uz (l:=s.Items) (λit h=>IY hs h);have h2:=BJ 4000008 hs.len;omega
theorem Vk : ∀(k i:Nat),i<10^(k+1)->(xR i).length<=k+1
 |0,i,h=>by rw[xO (by omega)];simp
 | k+1,i,h=>by
   by_cases c:i<10
   ·rw[xO c];simp
   ·rw[Ci c,ay,bC];have:=Vk k (i/10) (by rw[xX]at h;omega);omega
theorem Yi {x:SS}(hx:SV x)(l:aO):SV (EK x l).2/\(EK x l).1.length<=5000000:=by
 unfold EK;have hn:=(Qk hx.now).1;have hc:=adI hx.now;have hz:=MQ hx.now;split
 ·exact⟨hx,by show(jn _).length<=_;omega⟩
 split
 ·exact⟨hx,by show(Ah _).length<=_;omega⟩
 split
 ·have:=Vk 9 (FK x.1.Items) (by omega);exact⟨hx,by show(xR _).length<=_;omega⟩
 split
 ·exact⟨⟨hx.now,hx.now⟩,by show 2<=5000000;omega⟩
 split
 ·exact⟨⟨hx.kept,hx.kept⟩,by show 2<=5000000;omega⟩
 split
 ·rename_i h;have ha:=TS hx.now (KI.1 (Ul h));have:=aed (q:=(OC l).1) ha;exact⟨⟨ha.st,hx.kept⟩,by show(VR _ _).length<=_;omega⟩
 ·exact⟨hx,by show 4<=5000000;omega⟩
theorem RZ {l:List bG}{i:Nat}(h:i<l.length):FK (l.take (i+1))=FK (l.take i)+((l.getD i default).Name.length+(nT 5 (l.getD i default).Node).length):=by rw[<- take_snoc default h];unfold FK;simp
section
variable {now kept:StoreT} (hn:QZ now) (hk:QZ kept)
include hn
theorem T.Xy : Ev (λf=>G.jo f (mg.mk now kept)) (jn (uC now.Items),mg.mk now kept):=by
 have hl:=hn.len;obtain⟨h1,h2,h3⟩:=Qk hn;have L:∀(k i:Nat),i+k=now.Items.length->Ev (λf=>G.jo.L1 f (mg.mk now kept) (i:Int) ((uC now.Items).take i)) (jn (uC now.Items),mg.mk now kept):=by
  intro k
  induction k with
  | zero=>intro i hi;refine Ev.up ?_;simp only[G.jo.L1];refine Ev.cf (decide_eq_false (by omega)) (Ev.bind (a:=jn (uC now.Items)) (Ev.up ?_) (Ev.ret _));simp only[G.strings_Join];rw[aF (by omega),Yr];exact Ev.chk ⟨by omega,by omega⟩ (Ev.ret _)
  | succ k ih=>
    intro i hi;have hil:i<now.Items.length:=(by omega);refine Ev.up ?_;simp only[G.jo.L1,ai,dA (show i+1<9223372036854775808 by omega)];refine Ev.ct (decide_eq_true (by omega)) (Ev.chk (by omega) (Ev.chk (by rw[dZ];omega) ?_));have:(uC now.Items).take i++[(now.Items.getD i default).Name]=(uC now.Items).take (i+1):=by
     rw[<- take_snoc (default:aO) (by omega:i<(uC now.Items).length)]
     congr 2
     unfold uC;rw[fZ _ hil,fZ _ (by simpa using hil),xM]
    rw[this];exact ih (i+1) (by omega)
 refine Ev.up ?_;simp only[G.jo];exact L now.Items.length 0 (by omega)
theorem T.aak : Ev (λf=>G.kY f (vO.mk now kept)) (jn (uC now.Items),vO.mk now kept):=by
 have hM:=maxL;have hl:=hn.len;obtain⟨h1,h2,h3⟩:=Qk hn;have L:∀(k i:Nat),i+k=now.Items.length->Ev (λf=>G.kY.L1 f (vO.mk now kept) (jn ((uC now.Items).take i)) (i:Int)) (jn (uC now.Items),vO.mk now kept):=by
  intro k
  induction k with
  | zero=>intro i hi;refine Ev.up ?_;simp only[G.kY.L1];exact Ev.cf (decide_eq_false (by omega)) (Ev.ret' (by rw[aF (by omega)]))
  | succ k ih=>
    intro i hi;have hil:i<now.Items.length:=(by omega);have hi2:i<(uC now.Items).length:=(by omega);have hb:=XB (l:=(uC now.Items).take i) (λt ht=>h3 t (fJ ht));have ht:((uC now.Items).take i).length=i:=(by rw[dZ];omega);rw[ht]at hb;have hnm:(now.Items.getD i default).Name=(uC now.Items).getD i default:=by unfold uC;rw[fZ _ hil,fZ _ (by simpa using hil),xM]
    have hnl:=h3 _ (getD_mem (default:aO) hi2);refine Ev.up ?_;simp only[G.kY.L1,ai,dA (show i+1<9223372036854775808 by omega),hnm];have hts:=take_snoc (default:aO) hi2;refine Ev.ct (decide_eq_true (by omega)) (Ev.ite (λe=>?_) (λe=>?_))
    ·have h0:0<i:=(by simp only[decide_eq_true_eq]at e;omega);have hne:(uC now.Items).take i≠[]:=λh=>(by rw[h]at ht;simp at ht;omega);refine Ev.chk (by omega) (Ev.chk (by omega) (Ev.chk (by omega) ?_));rw[<- Yt hne,hts];exact ih (i+1) (by omega)
    ·have h0:i=0:=(by simp only[decide_eq_false_iff_not]at e;omega);subst h0;refine Ev.chk (by omega) (Ev.chk (by omega) ?_);have:jn ((uC now.Items).take 0)++(uC now.Items).getD 0 default=jn ((uC now.Items).take (0+1)):=(by rw[<- hts];rfl);rw[this];exact ih (0+1) (by omega)
 refine Ev.up ?_;simp only[G.kY];exact L now.Items.length 0 (by omega)
theorem T.ZA : Ev (λf=>G.lH f now) ((FK now.Items:Nat):Int):=by
 have hl:=hn.len;have hz:=MQ hn;have L:∀(k i:Nat),i+k=now.Items.length->Ev (λf=>G.lH.L1 f now ((FK (now.Items.take i):Nat):Int) (i:Int)) ((FK now.Items:Nat):Int):=by
  intro k
  induction k with
  | zero=>intro i hi;refine Ev.up ?_;simp only[G.lH.L1];exact Ev.cf (decide_eq_false (by omega)) (Ev.ret' (by rw[aF (by omega)]))
  | succ k ih=>
    intro i hi;have hil:i<now.Items.length:=(by omega);have hv:=IY hn (getD_mem default hil);have hf:=fmt5 hv.2;have hb:=Uz (l:=now.Items.take i) (λit h=>IY hn (fJ h));have hb2:(now.Items.take i).length<=10:=(by rw[dZ];omega);have hb3:=BJ 4000008 hb2;have gi:Ev (λf=>G.uB f (bG.mk (now.Items.getD i default).Name (now.Items.getD i default).Version (now.Items.getD i default).Node)) ((((now.Items.getD i default).Name.length+(nT 5 (now.Items.getD i default).Node).length:Nat)):Int):=by
     refine Ev.up ?_;simp only[G.uB];refine Ev.bind (a:=((nT 5 (now.Items.getD i default).Node).length:Int)) (Ev.up ?_) (Ev.ret' ?_)
     ·simp only[G.uP];have hF:=T.jL yS (yR hv.2);have eF:SC (now.Items.getD i default).Node=nT 5 (now.Items.getD i default).Node:=(by unfold SC;rw[if_pos hv.2]);rw[eF]at hF;exact Ev.bind (T.aX yS (yR hv.2)) (Ev.ct hv.2 (Ev.bind hF (Ev.ret _)))
     ·exact wrapN (by omega) (by omega)
    refine Ev.up ?_;simp only[G.lH.L1,ai,dA (show i+1<9223372036854775808 by omega)];refine Ev.ct (decide_eq_true (by omega)) (Ev.chk (by omega) (Ev.bind gi ?_));have hs:=RZ hil;rw[show af .i64 (((FK (now.Items.take i):Nat):Int)+((((now.Items.getD i default).Name.length+(nT 5 (now.Items.getD i default).Node).length:Nat)):Int))=((FK (now.Items.take (i+1)):Nat):Int)from wrapN (by omega) (by omega)];exact ih (i+1) (by omega)
 refine Ev.up ?_;simp only[G.lH];exact Ev.bind (T.cZ yS hn.fine) (Ev.ct (Bd.2 hn) (L now.Items.length 0 (by omega)))
theorem T.XV : Ev (λf=>G.tq f now) ((FK now.Items:Nat):Int):=by
 have hl:=hn.len;have hz:=MQ hn;have L:∀(k i:Nat),i+k=now.Items.length->Ev (λf=>G.tq.L1 f now ((FK (now.Items.take i):Nat):Int) (i:Int)) ((FK now.Items:Nat):Int):=by
  intro k
  induction k with
  | zero=>intro i hi;refine Ev.up ?_;simp only[G.tq.L1];exact Ev.cf (decide_eq_false (by omega)) (Ev.ret' (by rw[aF (by omega)]))
  | succ k ih=>
    intro i hi;have hil:i<now.Items.length:=(by omega);have hv:=IY hn (getD_mem default hil);have hf:=fmt5 hv.2;have hb:=Uz (l:=now.Items.take i) (λit h=>IY hn (fJ h));have hb2:(now.Items.take i).length<=10:=(by rw[dZ];omega);have hb3:=BJ 4000008 hb2;refine Ev.up ?_;simp only[G.tq.L1,ai,dA (show i+1<9223372036854775808 by omega)];refine Ev.ct (decide_eq_true (by omega)) (Ev.chk (by omega) (Ev.chk (by omega) (Ev.bind (T.dW 5 (by omega) (lF hv.2)) ?_)));have hs:=RZ hil;rw[show af .i64 (((FK (now.Items.take i):Nat):Int)+(((now.Items.getD i default).Name.length:Nat):Int))=((FK (now.Items.take i)+(now.Items.getD i default).Name.length:Nat):Int)from wrapN (by omega) (by omega),
     show af .i64 (((FK (now.Items.take i)+(now.Items.getD i default).Name.length:Nat):Int)+((nT 5 (now.Items.getD i default).Node).length:Int))=((FK (now.Items.take (i+1)):Nat):Int)from wrapN (by omega) (by omega)]
    exact ih (i+1) (by omega)
 refine Ev.up ?_;simp only[G.tq];exact L now.Items.length 0 (by omega)
theorem T.TU {q:RequestT}(hq:OU q=true):Ev (λf=>G.dN f (mg.mk now kept) q) (VR q (Cj now q).2,mg.mk (Cj now q).1 kept):=by
 have hr:=KI.1 hq;have ha:=TS hn hr;have hH:=T.gV hn (Jc hq);have eH:adp now q=Cj now q:=by unfold adp;rw[Bd.2 hn,hq];rfl
 rw[eH]at hH;have hd:=IM (z:=(Cj now q).2.Status) (by have:=ha.lo;omega) (by have:=ha.hi;omega);have h5:=fmt5 ha.body;have htg:=ha.tag;have hF:=T.jL yS (yR ha.body);have eF:SC (Cj now q).2.Body=nT 5 (Cj now q).2.Body:=by unfold SC;rw[if_pos ha.body]
 rw[eF]at hF;have K2:∀z:aO,z.length<=5000000->Ev (λf=>G.dN.K2 f (mg.mk now kept) (Cj now q) z) (z,mg.mk (Cj now q).1 kept):=λz hz=>by refine Ev.up ?_;simp only[G.dN.K2];exact Ev.bind (T.bs' (by show z.length<=_;omega)) (Ev.ret _)
 have K1:∀z:aO,z.length<=100->Ev (λf=>G.dN.K1 f (mg.mk now kept) q (Cj now q) z) (z++(if q.Method=1/\(Cj now q).2.Status=200 then 32::nT 5 (Cj now q).2.Body else []),mg.mk (Cj now q).1 kept):=λz hz=>by
  refine Ev.up ?_;simp only[G.dN.K1];refine Ev.ite (λe1=>Ev.ite (λe2=>?_) (λe2=>?_)) (λe1=>?_)
  ·rw[if_pos ⟨by simpa using e1,by simpa using e2⟩];refine Ev.bind (DY 32 (by omega)) (Ev.bind hF (Ev.bind (T.ws (by show(z++[32]).length+_<=_;rw[ay,bC];omega)) ((K2 _ ?_).eq ?_)))
   ·show((z++[32])++_).length<=_;rw[ay,ay,bC];omega
   ·simp
  ·rw[if_neg (λh=>by rw[h.2]at e2;simp at e2),eX];exact K2 z (by omega)
  ·rw[if_neg (λh=>by rw[h.1]at e1;simp at e1),eX];exact K2 z (by omega)
 refine Ev.up ?_;simp only[G.dN];unfold VR;refine Ev.bind hH (Ev.bind (T.O1 ⟨by have:=ha.lo;omega,by have:=ha.hi;omega⟩) (Ev.bind (T.ws (by show([]:aO).length+_<=_;simp;omega)) (Ev.ite (λe=>?_) (λe=>?_))))
 ·rw[if_pos (by simpa using e),eX];exact(K1 _ (by show([]++Ah _).length<=_;rw[gJ];omega)).eq (by simp)
 ·rw[if_neg (by simpa using e)];refine Ev.bind (DY 32 (by show([]++Ah _).length<_;rw[gJ];omega)) (Ev.bind (T.ws (by show(([]++Ah _)++[32]).length+_<=_;simp;omega)) ((K1 _ ?_).eq (by simp)));show((([]++Ah _)++[32])++_).length<=_;simp only[gJ,ay,bC];omega
theorem T.acG {q:RequestT}(hq:OU q=true):Ev (λf=>G.nR f (vO.mk now kept) q) (VR q (Cj now q).2,vO.mk (Cj now q).1 kept):=by
 have hM:=maxL;have hr:=KI.1 hq;have ha:=TS hn hr;have hH:=T.jS (s:=now) (q:=q) hn (Jc hq) hr;have hd:=IM (z:=(Cj now q).2.Status) (by have:=ha.lo;omega) (by have:=ha.hi;omega);have h5:=fmt5 ha.body;have htg:=ha.tag;have hF:=T.dW 5 (by omega) (lF ha.body);have K1:∀z:aO,z.length<=100->Ev (λf=>G.nR.K1 f (vO.mk now kept) q (Cj now q) z) (z++(if q.Method=1/\(Cj now q).2.Status=200 then 32::nT 5 (Cj now q).2.Body else []),vO.mk (Cj now q).1 kept):=λz hz=>by
  refine Ev.up ?_;simp only[G.nR.K1];refine Ev.ite (λe1=>Ev.ite (λe2=>?_) (λe2=>?_)) (λe1=>?_)
  ·rw[if_pos ⟨by simpa using e1,by simpa using e2⟩];exact Ev.chk (by omega) (Ev.bind hF (Ev.chk (by omega) (Ev.ret' (by simp))))
  ·rw[if_neg (λh=>by rw[h.2]at e2;simp at e2),eX];exact Ev.ret _
  ·rw[if_neg (λh=>by rw[h.1]at e1;simp at e1),eX];exact Ev.ret _
 refine Ev.up ?_;simp only[G.nR];unfold VR;refine Ev.bind hH (Ev.bind (T.Oa (by have:=ha.lo;omega) (by have:=ha.hi;omega)) (Ev.ite (λe=>?_) (λe=>?_)))
 ·rw[if_pos (by simpa using e),eX];exact K1 _ (by omega)
 ·rw[if_neg (by simpa using e)];exact Ev.chk (by omega) (Ev.chk (by omega) ((K1 _ (by simp only[ay,bC];omega)).eq (by simp)))
include hk
theorem T.TT {l:aO}(hl:l.length<=4000000000):Ev (λf=>G.mF f (mg.mk now kept) l) ((EK (now,kept) l).1,mg.mk (EK (now,kept) l).2.1 (EK (now,kept) l).2.2):=by
 have hz:=MQ hn;refine Ev.up ?_;simp only[G.mF];unfold EK;refine Ev.ite (λe=>?_) (λe=>?_)
 ·rw[if_pos (by simpa using e)];exact Ev.bind (T.Xy hn) (Ev.ret _)
 rw[if_neg (by simpa using e)];refine Ev.ite (λe=>?_) (λe=>?_)
 ·rw[if_pos (by simpa using e)];exact Ev.bind (T.O1 ⟨by have:=hn.lo;omega,by have:=hn.hi;omega⟩) (Ev.ret _)
 rw[if_neg (by simpa using e)];refine Ev.ite (λe=>?_) (λe=>?_)
 ·rw[if_pos (by simpa using e)];refine Ev.bind (T.ZA hn) (Ev.bind (T.O1 ⟨by omega,by omega⟩) (Ev.ret' ?_));rw[show Ah ((FK now.Items:Nat):Int)=xR (FK now.Items)from(if_neg (by omega)).trans (by rw[ai])]
 rw[if_neg (by simpa using e)];refine Ev.ite (λe=>?_) (λe=>?_)
 ·rw[if_pos (by simpa using e)];exact Ev.bind (copyS now hn).1 (Ev.ret _)
 rw[if_neg (by simpa using e)];refine Ev.ite (λe=>?_) (λe=>?_)
 ·rw[if_pos (by simpa using e)];exact Ev.bind (copyS kept hk).1 (Ev.ret _)
 rw[if_neg (by simpa using e)];refine Ev.bind (T.abD hl) (Ev.ite (λe=>?_) (λe=>?_))
 ·rw[if_pos e];exact Ev.bind (T.TU hn (Ul e)) (Ev.ret _)
 ·rw[if_neg (by rw[e];simp)];exact Ev.ret _
theorem T.aaj (l:aO):Ev (λf=>G.rJ f (vO.mk now kept) l) ((EK (now,kept) l).1,vO.mk (EK (now,kept) l).2.1 (EK (now,kept) l).2.2):=by
 have hz:=MQ hn;refine Ev.up ?_;simp only[G.rJ];unfold EK;refine Ev.ite (λe=>?_) (λe=>?_)
 ·rw[if_pos (by simpa using e)];exact Ev.bind (T.aak hn) (Ev.ret _)
 rw[if_neg (by simpa using e)];refine Ev.ite (λe=>?_) (λe=>?_)
 ·rw[if_pos (by simpa using e)];exact Ev.bind (T.Oa (by have:=hn.lo;omega) (by have:=hn.hi;omega)) (Ev.ret _)
 rw[if_neg (by simpa using e)];refine Ev.ite (λe=>?_) (λe=>?_)
 ·rw[if_pos (by simpa using e)];exact Ev.bind (T.XV hn) (Ev.bind (T.decimal (by unfold lim;omega)) (Ev.ret _))
 rw[if_neg (by simpa using e)];refine Ev.ite (λe=>?_) (λe=>?_)
 ·rw[if_pos (by simpa using e)];exact Ev.bind (copyS now hn).2 (Ev.ret _)
 rw[if_neg (by simpa using e)];refine Ev.ite (λe=>?_) (λe=>?_)
 ·rw[if_pos (by simpa using e)];exact Ev.bind (copyS kept hk).2 (Ev.ret _)
 rw[if_neg (by simpa using e)];refine Ev.bind (T.acH l) (Ev.ite (λe=>?_) (λe=>?_))
 ·rw[if_pos e];exact Ev.bind (T.acG hn (Ul e)) (Ev.ret _)
 ·rw[if_neg (by rw[e];simp)];exact Ev.ret _
end
noncomputable def MN : SS->List aO->aO
 |_,[]=>[]
 |x,l::ls=>(EK x l).1++10::MN (EK x l).2 ls
def ss0 : SS:=(ZT,ZT)
theorem sv0 : SV ss0:=⟨Bd.1 acK,Bd.1 acK⟩
noncomputable def adx (l:List aO):aO:=MN ss0 (l.take 20)
theorem Sl {l:List aO}{i:Nat}(h:i<l.length)(h2:i<20):(l.drop i).take (20-i)=l.getD i default::(l.drop (i+1)).take (20-(i+1)):=by rw[dI default h,show 20-i=(20-(i+1))+1 by omega,List.take_succ_cons]
theorem T.iF {l:List aO}(hl:l.length<=1000000000)(ht:∀t,t∈l->t.length<=4000000000):Ev (λf=>G.iF f l) (adx l):=by
 have K2:∀(t:Int) (a b:StoreT) (z:aO),z.length<=4000000000->Ev (λf=>G.iF.K2 f t a.Items a.Clock b.Items b.Clock z) z:=λt a b z hz=>by refine Ev.up ?_;simp only[G.iF.K2];exact Ev.bind (T.bs' (by show z.length<=_;omega)) (Ev.ret _)
 have L:∀(k i:Nat) (x:SS) (z:aO),i+k=20->SV x->z.length<=5000001*i->Ev (λf=>G.iF.L3 f l (i:Int) x.1.Items x.1.Clock x.2.Items x.2.Clock z) (z++MN x ((l.drop i).take (20-i))):=by
  intro k
  induction k with
  | zero=>intro i x z hi hx hz;have hi:i=20:=(by omega);subst hi;refine Ev.up ?_;simp only[G.iF.L3];have e:z++MN x ((l.drop 20).take (20-20))=z:=(by simp[MN]);rw[e];exact Ev.ite (λc=>Ev.chk (by simp only[decide_eq_true_eq]at c;omega) (Ev.ct (by simp) (K2 _ _ _ z (by omega)))) (λ_=>K2 _ _ _ z (by omega))
  | succ k ih=>
    intro i x z hi hx hz;refine Ev.up ?_;simp only[G.iF.L3,ai,dA (show i+1<9223372036854775808 by omega)];refine Ev.ite (λc=>?_) (λc=>?_)
    ·have hil:i<l.length:=(by simp only[decide_eq_true_eq]at c;omega);have hv:=Yi hx (l.getD i default);have hE:Ev (λf=>G.mF f (mg.mk (StoreT.mk x.1.Items x.1.Clock) (StoreT.mk x.2.Items x.2.Clock)) (l.getD i default)) ((EK x (l.getD i default)).1,mg.mk (EK x (l.getD i default)).2.1 (EK x (l.getD i default)).2.2):=T.TT hx.now hx.kept (ht _ (getD_mem default hil));have e1:((z++(EK x (l.getD i default)).1)++[10]).length<=5000001*(i+1):=(by simp only[ay,bC];omega);refine Ev.chk (by omega) (Ev.cf (by simp only[beq_eq_false_iff_ne];omega) (Ev.bind hE (Ev.bind (T.ws (by show z.length+(EK x (l.getD i default)).1.length<=_;have:=hv.2;omega)) (Ev.bind (DY 10 (by show(z++(EK x (l.getD i default)).1).length<_;rw[ay];have:=hv.2;omega)) ?_))));rw[Sl hil (by omega)];refine(ih (i+1) _ _ (by omega) hv.1 e1).eq ?_;simp[MN]
    ·have hil:l.length<=i:=(by simp only[decide_eq_false_iff_not]at c;omega);rw[ak hil];have e:z++MN x (([]:List aO).take (20-i))=z:=(by simp[MN]);rw[e];exact K2 _ _ _ z (by omega)
 refine Ev.up ?_;simp only[G.iF];exact(L 20 0 ss0 [] (by omega) sv0 (by simp)).eq (by simp[adx])
theorem T.jW {l:List aO}(hl:l.length<=1000000000):Ev (λf=>G.jW f l) (adx l):=by
 have hM:=maxL;have L:∀(k i:Nat) (x:SS) (z:aO),i+k=20->SV x->z.length<=5000001*i->Ev (λf=>G.jW.L1 f l z (i:Int) x.1.Items x.1.Clock x.2.Items x.2.Clock) (z++MN x ((l.drop i).take (20-i))):=by
  intro k
  induction k with
  | zero=>intro i x z hi hx hz;have hi:i=20:=(by omega);subst hi;refine Ev.up ?_;simp only[G.jW.L1];have e:z++MN x ((l.drop 20).take (20-20))=z:=(by simp[MN]);rw[e];exact Ev.ite (λc=>Ev.cf (by simp) (Ev.ret _)) (λ_=>Ev.ret _)
  | succ k ih=>
    intro i x z hi hx hz;refine Ev.up ?_;simp only[G.jW.L1,ai,dA (show i+1<9223372036854775808 by omega)];refine Ev.ite (λc=>?_) (λc=>?_)
    ·have hil:i<l.length:=(by simp only[decide_eq_true_eq]at c;omega);have hv:=Yi hx (l.getD i default);have hE:Ev (λf=>G.rJ f (vO.mk (StoreT.mk x.1.Items x.1.Clock) (StoreT.mk x.2.Items x.2.Clock)) (l.getD i default)) ((EK x (l.getD i default)).1,vO.mk (EK x (l.getD i default)).2.1 (EK x (l.getD i default)).2.2):=T.aaj hx.now hx.kept (l.getD i default);have e1:((z++(EK x (l.getD i default)).1)++[10]).length<=5000001*(i+1):=(by simp only[ay,bC];omega);refine Ev.ct (decide_eq_true (by omega)) (Ev.chk (by omega) (Ev.bind hE (Ev.chk (by show z.length+(EK x (l.getD i default)).1.length<=_;have:=hv.2;omega) (Ev.chk (by show z.length+(EK x (l.getD i default)).1.length+1<=_;have:=hv.2;omega) ?_))));rw[Sl hil (by omega)];refine(ih (i+1) _ _ (by omega) hv.1 e1).eq ?_;simp[MN]
    ·have hil:l.length<=i:=(by simp only[decide_eq_false_iff_not]at c;omega);rw[ak hil];have e:z++MN x (([]:List aO).take (20-i))=z:=(by simp[MN]);rw[e];exact Ev.ret _
 refine Ev.up ?_;simp only[G.jW];exact(L 20 0 ss0 [] (by omega) sv0 (by simp)).eq (by simp[adx])
end
theorem T.JO {l:List aO}(h1:l.length<=mx)(h2:∀s,s∈l->s.length<=mx):Ev (λf=>G.mY f l) true:=by obtain⟨r,gr,_,hr⟩:=T.afI h1 h2 (left:=1048576) (by omega) (by omega);refine Ev.up ?_;simp only[G.mY];refine Ev.bind gr (Ev.ite (λ_=>Ev.ret _) (λe=>?_));obtain⟨h3,h4⟩:=hr (by simp only[decide_eq_false_iff_not]at e;omega);have gt:=T.afK (l:=l) (by unfold lim;omega);have ge:=T.afb (l:=l) (by unfold lim;omega);have gs:=T.jW (l:=l) (by omega);have gi:=T.iF (l:=l) (by omega) (λt ht=>by have:=h4 t ht;omega);exact Ev.bind gt (Ev.bind gs (Ev.bind gt (Ev.bind gi (Ev.ct (by simp) (Ev.bind gt (Ev.bind ge (Ev.ct rfl (Ev.ret _))))))))
end Go.Ab
section
namespace Go.Proofs
open Go.RowKit Go.Shelf
attribute [local go_sem] Oper.semAt_some
inductive Wds : ByteArray->List ByteArray->Prop
 |last (s:ByteArray) (h:dX s.data.toList 44<0):Wds s [s]
 |more (s:ByteArray) (i:Nat) (ws:List ByteArray) (h:dX s.data.toList 44=i) (t:Wds (s.extract (i+1) s.size) ws):Wds s (s.extract 0 i::ws)
def strLen (W:World)(b:Nat):Nat:=match W.cell? ⟨b,0,none⟩with
 |some (.string s)=>s.size
 |_=>0
theorem Qg : ∀(l:List UInt8) (c:UInt8) (i:Nat),dX l c=i->i<l.length
 |[],c,i,h=>by simp[dX]at h
 | b::l,c,i,h=>by
   unfold dX at h;split at h
   ·have:i=0:=(by omega);subst this;simp
   ·split at h
    ·omega
    ·rename_i h1 h2;have h2:¬dX l c = -1:=(by simpa using h2);have h3:=BF l c;have:=Qg l c (i-1) (by omega);simp only[dB];omega
theorem Sz {x:Int}(h0:0<=x)(h1:x<9223372036854775808):wrap64 x=x:=by unfold wrap64;omega
theorem Kq {W W':World}{b:Nat}(h:W'.heap[b]? = W.heap[b]?):W'.cell? ⟨b,0,none⟩=W.cell? ⟨b,0,none⟩/\W'.frozen? ⟨b,0,none⟩=W.frozen? ⟨b,0,none⟩:=
 ⟨World.cell?_of_block h,World.frozen?_of_block h⟩
theorem Sj {W:World}{b:Nat}{s:ByteArray}(h:W.cell? ⟨b,0,none⟩=some (.string s)):strLen W b=s.size:=by unfold strLen;rw[h]
theorem agz {ρ:Go.Shelf.Ren}(L:Lays.n143 Tryz.prog ρ)(n:Nat)(hn:1<=n)(hf:ρ.f 143=121)(l bp bs bv:Nat)(s:ByteArray)(ws:List ByteArray)(hw:Wds s ws)(hz:s.size<=1000000)(J Jx:List ByteArray->World->Prop)
 (hJ:∀pre (W:World) (v:Value),J pre W->W.frozen? ⟨bs,0,none⟩=false->J pre (W.setCell ⟨bs,0,none⟩ v))
 (hY:∀pre x W,J pre W->pre.length<ws.length->YieldAt lC (n-1) Tryz.prog l #[.string x] W λe W'=>(e = .returned (.bool true)/\J (pre++[x]) W'/\(∀b,b=bp\/b=bs\/b=bv->W'.heap[b]? = W.heap[b]?))\/(e = .returned (.bool false)/\Jx (pre++[x]) W'))
 (W:World) (hd:bs≠bp/\bs≠bv) (hp:W.cell? ⟨bp,0,none⟩=some (.string ⟨#[44]⟩)) (hs:W.cell? ⟨bs,0,none⟩=some (.string s)) (hsf:W.frozen? ⟨bs,0,none⟩=false) (hv:W.cell? ⟨bv,0,none⟩=some (.int .i64 0)) (h0:J [] W) :
 CallsIn lC n Tryz.prog 163 #[.func (.yield l) #[] #[],.pointer (some ⟨bp,0,none⟩),.pointer (some ⟨bs,0,none⟩),.pointer (some ⟨bv,0,none⟩)] W λe W'=>(∃v,e = .returned v) /\
  (J ws W'\/(∃pre,pre <+: ws/\Jx pre W')):=by
 refine callsIn_of_wp Tryz.func163 rfl trivial ?_ rfl;simp only[Tryz.ntmps163,lM,dB,gI,Nat.reduceAdd,Nat.reduceSub,yf,yg,zx,yB,gJ,dY];have hIdx:∀(s:ByteArray) (n:Nat) (w:World),CallsIn lC n Tryz.prog 121 #[.string s,.string ⟨#[44]⟩] w λe w'=>e = .returned (.int .i64 (dX s.data.toList 44))/\w'=w:=λs n w=>by have:=Any.strings_Index_one L s 44 w;rw[hf]at this;exact callsIn_wide.2 this
 gi_wp2
 gi_loopw [] (λwr=>∃(pre rest:List ByteArray) (s':ByteArray),ws=pre++rest/\Wds s' rest/\s'.size<=1000000/\wr.cell? ⟨bp,0,none⟩=some (.string ⟨#[44]⟩)/\wr.cell? ⟨bs,0,none⟩=some (.string s')/\wr.frozen? ⟨bs,0,none⟩=false/\wr.cell? ⟨bv,0,none⟩=some (.int .i64 0)/\J pre wr)
  (λwr=>strLen wr bs)
 case atStart=>exact⟨[],ws,s,rfl,hw,hz,hp,hs,hsf,hv,h0⟩
 case round=>
  obtain⟨pre,rest,s',hx,hwd,hz',hp',hs',ahb,hv',hJs⟩:=hrel;cases hwd with
  | last _ h=>
    obtain⟨fn,tmps,assign,body,hy,hR⟩:=hY pre s' wr hJs (by rw[hx];simp)
    gi_wp2_with (refine⟨trivial,?_⟩;gi_at_call 121;refine(hIdx _ _ _).mono ?_;rintro e w' ⟨rfl,rfl⟩)
    refine hR.mono ?_;rintro e W3 (⟨rfl,hJ3,hk3⟩|⟨rfl,hJx3⟩)
    ·gi_wp2
     go_end0
     exact⟨⟨_,rfl⟩,.inl (by rw[hx];exact hJ3)⟩
    ·gi_wp2
     go_end0
     exact⟨⟨_,rfl⟩,.inr ⟨pre++[s'],by rw[hx];exact List.prefix_rfl,hJx3⟩⟩
  | more _ i ws' h t=>
    have hlt:i<s'.size:=Qg _ _ _ h;have e1:wrap64 (i:Int)=i:=Sz (by omega) (by omega);have e2:wrap64 ((i:Int)+1)=i+1:=Sz (by omega) (by omega);have b0:0<=wrap64 (i:Int):=(by omega);have b1:wrap64 (i:Int)<=s'.size:=(by omega);have c0:0<=wrap64 ((i:Int)+1):=(by omega);have c1:wrap64 ((i:Int)+1)<=s'.size:=(by omega);obtain⟨fn,tmps,assign,body,hy,hR⟩:=hY pre (s'.extract 0 i) wr hJs (by rw[hx];simp)
    gi_wp2_with (refine⟨trivial,?_⟩;gi_at_call 121;refine(hIdx _ _ _).mono ?_;rintro e w' ⟨rfl,rfl⟩)
    refine hR.mono ?_;rintro e W3 (⟨rfl,hJ3,hk3⟩|⟨rfl,hJx3⟩)
    ·have kp:=Kq (hk3 bp (.inl rfl));have ks:=Kq (hk3 bs (.inr (.inl rfl)));have kv:=Kq (hk3 bv (.inr (.inr rfl)));rw[hp']at kp;rw[hs',ahb]at ks;rw[hv']at kv;have hp3:=kp.1;have hs3:=ks.1;have hf3:=ks.2;have hv3:=kv.1;have hd1:=hd.1;have hd2:=hd.2
     gi_wp2
     have hsame:=World.cell?_setCell_same W3 ⟨bs,0,none⟩ (sJ (s'.extract (i+1) s'.size)) hs3;refine⟨⟨pre++[s'.extract 0 i],ws',_,by rw[hx];simp,t,by rw[pX];omega,?_,hsame,by rw[World.frozen?_setCell];exact hf3,?_,hJ _ _ _ hJ3 hf3⟩,?_⟩
     ·rw[World.cell?_setCell_other _ _ _ _ (λh=>hd1 (congrArg Addr.block h))];exact hp3
     ·rw[World.cell?_setCell_other _ _ _ _ (λh=>hd2 (congrArg Addr.block h))];exact hv3
     ·rw[Sj hsame,Sj hs',pX];omega
    ·gi_wp2
     refine bodyPost_ret (results_none rfl _ _ _) rfl ?_;exact⟨⟨_,rfl⟩,.inr ⟨pre++[s'.extract 0 i],⟨ws',by rw[hx];simp⟩,hJx3⟩⟩
theorem afG (n:Nat)(hn:1<=n)(s sep:ByteArray)(W:World):CallsIn lC n Tryz.prog 76 #[.string s,.string sep] W λe W'=>
 e = .returned (.func (.func 163) #[] #[.pointer (some ⟨W.heap.size+1,0,none⟩),.pointer (some ⟨W.heap.size,0,none⟩),.pointer (some ⟨W.heap.size+2,0,none⟩)]) /\
 W'=(((W.alloc (.cells #[.string s] 9)).alloc (.cells #[.string sep] 9)).alloc (.cells #[.int .i64 0] 3)):=by
 have ag2:∀n,CallsIn lC n Tryz.prog 122 #[.string s,.string sep,.int .i64 0] W λe W'=>
  e = .returned (.func (.func 163) #[] #[.pointer (some ⟨W.heap.size+1,0,none⟩),.pointer (some ⟨W.heap.size,0,none⟩),.pointer (some ⟨W.heap.size+2,0,none⟩)]) /\
  W'=(((W.alloc (.cells #[.string s] 9)).alloc (.cells #[.string sep] 9)).alloc (.cells #[.int .i64 0] 3)):=λn=>by
  refine callsIn_of_wp Tryz.func122 rfl trivial ?_ rfl;simp only[Tryz.ntmps122,lM,dB,gI,Nat.reduceAdd,Nat.reduceSub,yf,yg,zx,yB,gJ,dY]
  gi_wp2
  go_ret
  exact⟨rfl,rfl⟩
 refine callsIn_of_wp Tryz.func76 rfl trivial ?_ rfl;simp only[Tryz.ntmps76,lM,dB,gI,Nat.reduceAdd,Nat.reduceSub,yf,yg,zx,yB,gJ,dY]
 gi_wp2_with (refine⟨trivial,?_⟩;gi_at_call 122;refine(ag2 _).mono ?_;rintro e w' ⟨rfl,rfl⟩)
 go_ret
 exact⟨rfl,rfl⟩
section
variable {P:Program} {n:Nat}
theorem RY {l D:Nat}{r:Loop}{W0 W3:World}(jump:Option Code)(hne:l≠D)(hl:W0.heap[l]? = some (.loop r))(hd:W0.heap[D]? = some (.deferred (some [])))(hk:KeepsOthers W0 W3) :
 (Instr.endRound l jump).run P W3 = .ok (.bool jump.isNone) (W3.putObj l (.loop { r with state:=if jump.isNone then .ready else .done,pending:=jump }))/\W3.heap[l]? = some (.loop r) /\
 (W3.putObj l (.loop { r with state:=if jump.isNone then .ready else .done,pending:=jump })).heap[l]? = some (.loop { r with state:=if jump.isNone then .ready else .done,pending:=jump }) /\
 (W3.putObj l (.loop { r with state:=if jump.isNone then .ready else .done,pending:=jump })).heap[D]? = some (.deferred (some [])):=by
 have h3:=hk.same _ _ hl rfl;exact⟨run_endRound jump h3,h3,World.putObj_heap_same (oq.1 h3).1,(sZ (λe=>hne e.symm)).trans (hk.same _ _ hd rfl)⟩
def XC (Kp:World->World->Prop)(I Ix:List ByteArray->World->Prop)(xs:List ByteArray)(W:World):Exit->Act->World->Prop
 |.normal,_,W'=>KeepsOthers W W'/\Kp W W'/\I xs W'
 |.ret,_,W'=>KeepsOthers W W'/\Ix xs W'
 |_,_,_=>False
theorem aef {g:Operand}{p:Tmp}{assign body:Code}{Q:Exit->Act->World->Prop}{a:Act}{w:World}(h1:1<=n){gf:Nat}{lb:Array Value}(hg:a.eval g = .func (.func gf) #[] lb)
 (eg:∀args w,(callFunc gf args).run P w = .ok (.enter gf args) w) (b:Nat) (hb:b<w.heap.size) (ws:List ByteArray) (Kp:World->World->Prop)
 (hKt:∀{A B C:World},Kp A B->Kp B C->Kp A C) (hKp:∀(W:World) (l:Nat) (o:Obj),w.heap.size<=l->Kp W (W.putObj l o))
 (hseq:∀(l:Nat) (J Jx:List ByteArray->World->Prop) (W:World),(∀k,k<w.heap.size->W.heap[k]? = w.heap[k]?)->(∀pre (W:World) (v:Value),J pre W->J pre (W.setCell ⟨b,0,none⟩ v)) ->
  (∀pre x W,J pre W->pre.length<ws.length->YieldAt lC (n-1-1) P l #[.string x] W λe W'=>(e = .returned (.bool true)/\J (pre++[x]) W'/\Kp W W')\/(e = .returned (.bool false)/\Jx (pre++[x]) W')) ->
  J [] W->CallsIn lC (n-1) P gf (#[.func (.yield l) #[] #[]]++lb) W λe W'=>(∃v,e = .returned v)/\(J ws W'\/∃pre,pre <+: ws/\Jx pre W'))
 (I Ix:List ByteArray->World->Prop) (hI:OwnFrom w.heap.size I) (hIx:OwnFrom w.heap.size Ix) (hIb:∀pre (W:World) (v:Value),I pre W->I pre (W.setCell ⟨b,0,none⟩ v)) (h0:I [] w) (a₁:ByteArray->Act)
 (hassign:∀(l:Nat) (x:ByteArray) (W:World) (K:Act->World->Prop),K (a₁ x) W->assign.wpIn (lC.inRound l) (n-1-1) P (Exit.then K (λ_ _ _=>False)) { tmps:=a.tmps.setIfInBounds p (.string x),defers:=[] } W)
 (hbody:∀(l:Nat) (pre:List ByteArray) (x:ByteArray) (W:World),I pre W->pre.length<ws.length->body.wpIn (lC.inRound l) (n-1-1) P (XC Kp I Ix (pre++[x]) W) (a₁ x) W)
 (hdone:∀(D:Nat) (W:World),w.heap.size<=D->I ws W->W.heap[D]? = some (.deferred (some []))->Q .normal { a with defers:={ target:=.collected D,args:= #[] } :: a.defers } W)
 (hstop:∀(D:Nat) (pre:List ByteArray) (W:World),w.heap.size<=D->pre <+: ws->Ix pre W->W.heap[D]? = some (.deferred (some []))->Code.ret.wpIn lC n P Q { a with defers:={ target:=.collected D,args:= #[] } :: a.defers } W) :
 (Code.rangeFunc g #[p] assign body).wpIn lC n P Q a w:=by
 refine wpIn_rangeFunc λfn hfn=>?_
 let D:=w.heap.size
 let l:=w.heap.size+1
 let Ri (st:LoopState) (pe:Option Code):Loop:={ state:=st,pending:=pe,fn,tmps:=a.tmps,params:= #[p],assign,body,defers:=D }
 let W1:=(w.alloc (.deferred (some []))).alloc (.loop (Ri .ready none))
 have hlD:l≠D:=Nat.succ_ne_self _;have hL:W1.heap[l]? = some (.loop (Ri .ready none)):=by have:=World.alloc_heap_new (w.alloc (.deferred (some []))) (.loop (Ri .ready none));rwa[rP]at this
 have hD:W1.heap[D]? = some (.deferred (some [])):=(Below.heap_alloc _ _ _ (by simp[D])).trans (World.alloc_heap_new w _);have hlow:∀k,k<w.heap.size->W1.heap[k]? = w.heap[k]?:= λk hk=>(Below.heap_alloc _ _ _ (by simp;omega)).trans (Below.heap_alloc _ _ _ hk);refine⟨l,[{ target:=.collected D,args:= #[] }],W1,{ target:=.fn (.func gf) lb,args:= #[.func (.yield l) #[] #[]] },W1,gf,#[.func (.yield l) #[] #[]]++lb,W1,run_enterLoop_outer _ _ _ _ _,?_,λf' _=>trivial,?_,λ_=>h1,?_⟩
 ·simp only[resolve,hg];simp[go_sem]
 ·simp[invoke,go_sem,eg]
 refine(hseq l (λpre W=>I pre W/\W.heap[l]? = some (.loop (Ri .ready none))/\W.heap[D]? = some (.deferred (some [])))
  (λpre W=>Ix pre W/\W.heap[l]? = some (.loop (Ri .done (some .ret)))/\W.heap[D]? = some (.deferred (some []))) W1 hlow ?_ ?_ ⟨hI.alloc _ (hI.alloc _ h0),hL,hD⟩).mono ?_
 ·rintro pre W v ⟨hi,hl,hd⟩;exact⟨hIb _ _ _ hi,(Below.heap_setCell W _ v l (by show l≠b;omega)).trans hl,(Below.heap_setCell W _ v D (by show D≠b;omega)).trans hd⟩
 ·rintro pre x W ⟨hi,hl,hd⟩ hlen;have hy:=run_yield (P:=P) (args:= #[.string x]) hl rfl;refine⟨fn,_,assign,body,hy,roundIn_of_wpIn hfn ?_⟩;have e1:((#[p]:Array Tmp).zip #[sJ x]).foldl (λtmps (t,a)=>tmps.setIfInBounds t a) a.tmps=a.tmps.setIfInBounds p (.string x):=by simp
  show Code.wpIn _ _ _ _ _ { tmps:=((#[p]:Array Tmp).zip #[sJ x]).foldl (λtmps (t,a)=>tmps.setIfInBounds t a) a.tmps,defers:=[] } W;rw[e1];refine hassign _ x W _ ⟨_,run_beginRound hl rfl,?_⟩;have hl2:(W.putObj l (.loop { Ri .ready none with state:=.busy })).heap[l]? = some (.loop { Ri .ready none with state:=.busy }):=World.putObj_heap_same (oq.1 hl).1;have hd2:(W.putObj l (.loop { Ri .ready none with state:=.busy })).heap[D]? = some (.deferred (some [])):=(sZ (λe=>hlD e.symm)).trans hd;refine wpIn_mono (hbody _ pre x _ (hI.putObj _ hi (vk _) hl rfl) hlen) ?_;rintro e a3 W3 hp;cases e with
  | normal=>obtain⟨k3,q3,i3⟩:=hp;obtain⟨hr,h3,h4,h5⟩:=RY (P:=P) none hlD hl2 hd2 k3;exact⟨_,_,hr,.inl ⟨rfl,⟨hI.putObj _ i3 (vk _) h3 rfl,h4,h5⟩,hKt (hKt (hKp _ _ _ (vk _)) q3) (hKp _ _ _ (vk _))⟩⟩
  | ret=>obtain⟨k3,i3⟩:=hp;obtain⟨hr,h3,h4,h5⟩:=RY (P:=P) (some .ret) hlD hl2 hd2 k3;exact⟨_,_,hr,.inr ⟨rfl,hIx.putObj _ i3 (vk _) h3 rfl,h4,h5⟩⟩
  |exit id=>exact hp.elim
  |goto t=>exact hp.elim
  |panic ch=>exact hp.elim
  |outgrown=>exact hp.elim
 ·rintro e W2 ⟨⟨v,rfl⟩,(⟨hi,hl,hd⟩|⟨pre,hpre,hi,hl,hd⟩)⟩
  ·exact⟨none,_,run_endLoop hl (by simp[Ri]),hdone D _ (au _) (hI.putObj _ hi (vk _) hl rfl) ((sZ (λe=>hlD e.symm)).trans hd)⟩
  ·exact⟨some .ret,_,run_endLoop hl (by simp[Ri]),hstop D pre _ (au _) hpre (hIx.putObj _ hi (vk _) hl rfl) ((sZ (λe=>hlD e.symm)).trans hd)⟩
end
def EM (sv:ByteArray->Bool)(x:ByteArray):Option ByteArray:=
 if x.toList=[42]then some x else if x.size=6/\x.toList.getD 0 0=34/\x.toList.getD 5 0=34/\sv (x.extract 1 5)=true then some (x.extract 1 5)else none
def Bg (sv:ByteArray->Bool)(acc:Option (List ByteArray))(x:ByteArray):Option (List ByteArray):=
 acc.bind λl=>if l.length=4 then none else(EM sv x).map λy=>l++[y]
def col (sv:ByteArray->Bool)(ws:List ByteArray):Option (List ByteArray):=ws.foldl (Bg sv) (some [])
theorem Vf (sv:ByteArray->Bool)(ws:List ByteArray)(x:ByteArray):col sv (ws++[x])=Bg sv (col sv ws) x:=by unfold col;rw[uS];rfl
theorem aa4 (sv:ByteArray->Bool)(pre:List ByteArray)(h:col sv pre=none):∀(ws:List ByteArray),pre <+: ws->col sv ws=none:=by
 rintro ws ⟨t,rfl⟩;unfold col at h⊢;rw[uS,h]
 induction t with
 |nil=>rfl
 |cons a t ih=>exact ih
theorem Yd (sv:ByteArray->Bool)(ws:List ByteArray)(l:List ByteArray)(h:col sv ws=some l):l.length<=4:=by
 have key:∀(ws:List ByteArray) (a l:List ByteArray),a.length<=4->ws.foldl (Bg sv) (some a)=some l->l.length<=4:=by
  intro ws
  induction ws with
  |nil=>intro a l ha h;cases h;exact ha
  | cons x ws ih=>
    intro a l ha h;rw[lT]at h;cases hs:Bg sv (some a) x with
    | none=>
      rw[hs]at h;have:∀ws:List ByteArray,ws.foldl (Bg sv) none=none:=λws=>by
       induction ws with
       |nil=>rfl
       |cons y ws ih=>exact ih
      rw[this]at h;cases h
    | some b=>
      rw[hs]at h;refine ih b l ?_ h;unfold Bg at hs;simp only[gz]at hs;split at hs
      ·cases hs
      ·obtain⟨y,_,rfl⟩:=pY.1 hs;simp;omega
 exact key ws [] l (by simp) h
def acm (sv:ByteArray->Bool)(s:ByteArray)(ws:List ByteArray)(w:World)(e:Ending)(W':World):Prop:=
 ∃v l ok,e = .returned (.tuple #[v,.bool ok])/\W'.ownsRow w.heap.size 9 1 v l.length (l.map sJ)/\Below w.heap.size w W'/\(if s.toList=[]then some []else col sv ws)=(if ok then some l else none)/\(ok=false->l=[])
structure PTI (w W:World)(acc:List ByteArray)(v:Value):Prop where
 box:Boxed W (w.heap.size+1+1) 22 v
 row:W.ownsRow (w.heap.size+6) 9 1 v acc.length (acc.map sJ)
 b0:Boxed W w.heap.size 22 (.slice none 0 0)
 b1:Boxed W (w.heap.size+1) 4 (.bool false)
 bel:Below w.heap.size w W
 siz:w.heap.size+6<=W.heap.size
theorem acu {W W2:World}{base:Nat}{e:TypeId}{size:Nat}{v:Value}{k:Nat}{xs:List Value}(h:W.ownsRow base e size v k xs)(hg:W.grownBy W2 none):W2.ownsRow base e size v k xs:=
 h.kept hg (by cases hv:v.ownBlock with|none=>exact .inl rfl|some x=>exact .inr (by simp))
theorem JE {W:World}{base:Nat}{e:TypeId}{size:Nat}{v:Value}{k:Nat}{xs:List Value}(h:W.ownsRow base e size v k xs){b:Nat}(hb:b<base)(u:Value):(W.setCell ⟨b,0,none⟩ u).ownsRow base e size v k xs:=by
 refine h.kept (grownBy_setCell' W b u) ?_;rcases h.2 with⟨rfl,_⟩|⟨g,cap,cur,rfl,hg,_⟩
 ·exact .inl rfl
 ·refine .inr λe=>?_;have:g=b:=by simpa[tC]using e
  omega
theorem PTI.kept {w W W2:World}{acc:List ByteArray}{v:Value}(h:PTI w W acc v)(hg:W.grownBy W2 none):PTI w W2 acc v:=
 ⟨h.box.kept hg (by simp),acu h.row hg,h.b0.kept hg (by simp),h.b1.kept hg (by simp),h.bel.grown hg h.bel.size (λk e=>by cases e),ig h.siz hg.size⟩
theorem PTI.ret {w W:World}{acc:List ByteArray}{v:Value}(h:PTI w W acc v):KeepsOthers W ((W.setCell ⟨w.heap.size,0,none⟩ (.slice none 0 0)).setCell ⟨w.heap.size+1,0,none⟩ (.bool false)) /\
 Boxed ((W.setCell ⟨w.heap.size,0,none⟩ (.slice none 0 0)).setCell ⟨w.heap.size+1,0,none⟩ (.bool false)) w.heap.size 22 (.slice none 0 0) /\
 Boxed ((W.setCell ⟨w.heap.size,0,none⟩ (.slice none 0 0)).setCell ⟨w.heap.size+1,0,none⟩ (.bool false)) (w.heap.size+1) 4 (.bool false) /\
 Below w.heap.size w ((W.setCell ⟨w.heap.size,0,none⟩ (.slice none 0 0)).setCell ⟨w.heap.size+1,0,none⟩ (.bool false)):=
 ⟨(xC _ _ _).trans (xC _ _ _),(h.b0.set _).other (by omega) _,(h.b1.other (by omega) _).set _,(h.bel.setCell (p:=⟨w.heap.size,0,none⟩) (au _) _).setCell (p:=⟨w.heap.size+1,0,none⟩) (by simp) _⟩
theorem PTI.app {w W w1:World}{acc:List ByteArray}{v v':Value}{y:ByteArray}{tmp:Obj}(h:PTI w W acc v)(hown:w1.ownsRow (w.heap.size+6) 9 1 v' (acc.length+1) (acc.map sJ++[.string y]))(hg:(W.alloc tmp).grownBy w1 v.ownBlock) :
 Boxed w1 (w.heap.size+1+1) 22 v/\PTI w (w1.setCell ⟨w.heap.size+1+1,0,none⟩ v') (acc++[y]) v'/\KeepsOthers W (w1.setCell ⟨w.heap.size+1+1,0,none⟩ v') /\
 (∀k,k=w.heap.size+1+1+1+1\/k=w.heap.size+1+1+1\/k=w.heap.size+1+1+1+2->(w1.setCell ⟨w.heap.size+1+1,0,none⟩ v').heap[k]? = W.heap[k]?):=by
 have hlow:∀j,j<w.heap.size+6->some j≠v.ownBlock:=λj hj e=>by
  rcases h.row.2 with⟨rfl,_⟩|⟨g,cap,cur,rfl,hgg,_⟩
  ·simp[tC]at e
  ·have:j=g:=(by simpa[tC]using e);omega
 obtain⟨a1,a2,a3,a4,a5⟩:=h.box.appended (n₀:=w.heap.size) (by decide) (h.row.mono (by omega)) h.bel.size (by omega) (hown.mono (by omega)) hg;have hsz:=hg.size;rw[rP]at hsz;have aii:=h.siz;have kb:∀{b:Nat} {t:TypeId} {u:Value},Boxed W b t u->b<w.heap.size+6->Boxed w1 b t u:=λhb hlt=>(hb.alloc tmp).kept hg (hlow _ hlt);refine⟨a1,⟨a2,by rw[ay,bC,sK];exact JE hown (by omega) _,(kb h.b0 (by omega)).other (by omega) _,(kb h.b1 (by omega)).other (by omega) _,h.bel.trans a5,?_⟩,a4,λk hk=>?_⟩
 ·have:(w1.setCell ⟨w.heap.size+1+1,0,none⟩ v').heap.size=w1.heap.size:=by simp[uj]
  rw[this];omega
 ·rw[Below.heap_setCell _ _ _ _ (by show k≠w.heap.size+1+1;omega)];rw[hg.block k (by rw[rP];omega) (hlow k (by omega))];exact Below.heap_alloc _ _ _ (by omega)
theorem Lr {sv:ByteArray->Bool}{pre acc:List ByteArray}{x:ByteArray}(hc:col sv pre=some acc)(h:acc.length=4\/EM sv x=none):col sv (pre++[x])=none:=by
 rw[Vf,hc];unfold Bg;simp only[gz];rcases h with h|h
 ·rw[if_pos h]
 ·rw[h];split<;>rfl
theorem Ve {sv:ByteArray->Bool}{pre acc:List ByteArray}{x y:ByteArray}(hc:col sv pre=some acc)(h:¬acc.length=4)(hw:EM sv x=some y):col sv (pre++[x])=some (acc++[y]):=by rw[Vf,hc];unfold Bg;simp only[gz];rw[if_neg h,hw];rfl
def KPT (w A B:World):Prop:=∀k,k=w.heap.size+1+1+1+1\/k=w.heap.size+1+1+1\/k=w.heap.size+1+1+1+2->B.heap[k]? = A.heap[k]?
def PTJ (sv:ByteArray->Bool)(w:World)(pre:List ByteArray)(W:World):Prop:=∃acc v,col sv pre=some acc/\PTI w W acc v
def PTX (sv:ByteArray->Bool)(w:World)(pre:List ByteArray)(W:World):Prop:=col sv pre=none/\Boxed W w.heap.size 22 (.slice none 0 0)/\Boxed W (w.heap.size+1) 4 (.bool false)/\Below w.heap.size w W
theorem PTX.mk {sv:ByteArray->Bool}{w W:World}{pre acc:List ByteArray}{v:Value}{x:ByteArray}{W0:World}(hk:KeepsOthers W0 W)(hP:PTI w W acc v)(h:col sv (pre++[x])=none){a:Act} :
 XC (KPT w) (PTJ sv w) (PTX sv w) (pre++[x]) W0 Exit.ret a ((W.setCell ⟨w.heap.size,0,none⟩ (.slice none 0 0)).setCell ⟨w.heap.size+1,0,none⟩ (.bool false)):=by
 obtain⟨q1,q2,q3,q4⟩:=hP.ret;exact⟨hk.trans q1,h,q2,q3,q4⟩
theorem PTJ.mk {sv:ByteArray->Bool}{w W W0 W1:World}{pre acc:List ByteArray}{v:Value}(hk:KeepsOthers W0 W)(hp:KPT w W0 W)(k1:KeepsOthers W W1)(p1:KPT w W W1)(hP:PTI w W1 acc v)(h:col sv pre=some acc){a:Act} :
 XC (KPT w) (PTJ sv w) (PTX sv w) pre W0 Exit.normal a W1:=⟨hk.trans k1,λk hk=>(p1 k hk).trans (hp k hk),acc,v,h,hP⟩
theorem get_at {x:ByteArray}{i:Nat}(h:i<x.size):x[i]=x.toList.getD i 0:=by
 rw[xA];have h':i<x.data.toList.length:=by rw[Array.length_toList];exact h
 rw[bu,List.getElem?_eq_getElem h',Ag];rfl
theorem Na {sv:ByteArray->Bool}{x:ByteArray}(h0:(!x.toList==[42])=true)(h:¬(x.size=6/\x.toList.getD 0 0=34/\x.toList.getD 5 0=34/\sv (x.extract 1 5)=true)):EM sv x=none:=by unfold EM;rw[if_neg (by simpa using h0),if_neg h]
theorem aar {sv:ByteArray->Bool}{x:ByteArray}(h0:(!x.toList==[42])=true)(h:x.size=6/\x.toList.getD 0 0=34/\x.toList.getD 5 0=34/\sv (x.extract 1 5)=true):EM sv x=some (x.extract 1 5):=by unfold EM;rw[if_neg (by simpa using h0),if_pos h]
theorem aas {sv:ByteArray->Bool}{x:ByteArray}(h0:(!x.toList==[42])=false):EM sv x=some x:=by unfold EM;rw[if_pos (by simpa using h0)]
theorem aem {b:UInt8} : ((b.toNat:Int)=34)<->b=34:=⟨λh=>nZ.1 (by show b.toNat=34;omega),λh=>by rw[h];rfl⟩
theorem Yk {sv:ByteArray->Bool}{n:Nat}{s:ByteArray}{ws:List ByteArray}{w W W4:World}{D:Nat}{v:Value}{l:List ByteArray}{ok:Bool}{tmps:Array Value}{d:List Deferred}(hd:d=[{ target:=.collected D,args:= #[] }])
 (hne:s.toList.isEmpty=false) (hD:w.heap.size+6<=D) (hk:KeepsOthers W W4) (hK:W.heap[D]? = some (.deferred (some []))) (b0:Boxed W4 w.heap.size 22 v) (b1:Boxed W4 (w.heap.size+1) 4 (.bool ok))
 (hrow:W4.ownsRow (w.heap.size+6) 9 1 v l.length (l.map sJ)) (hB:Below w.heap.size w W4) (hc:col sv ws=if ok then some l else none) (hl:ok=false->l=[])
 (t2:tmps.getD 2 undef = .pointer (some ⟨w.heap.size,0,none⟩):=by rfl) (t3:tmps.getD 3 undef = .pointer (some ⟨w.heap.size+1,0,none⟩):=by rfl) :
 bodyPostM lC n Tryz.prog Tryz.f45 (acm sv s ws w) Exit.ret { tmps:=tmps,defers:=d } W4:=by
 subst hd;have hK4:=hk.same D _ hK rfl;refine⟨by simp,.inl ⟨_,_,rfl,run_takeDeferred hK4,?_⟩⟩;have k0:=cell_kept b0.cell (grownBy_putObj' _ D (.deferred none)) (λr e=>by cases e;exact⟨_,hK4,rfl⟩);have k1:=cell_kept b1.cell (grownBy_putObj' _ D (.deferred none)) (λr e=>by cases e;exact⟨_,hK4,rfl⟩);have hs:s.toList≠[]:=by cases h:s.toList with|nil=>rw[h]at hne;cases hne|cons a l=>simp
 refine⟨.tuple #[v,.bool ok],?_,v,l,ok,rfl,(ownsRow_putObj hrow _ hK4 rfl).mono (by omega),hB.trans (belowK_b (w:=w) (au _) W4 D _ _ (by omega) hK4 rfl rfl),by rw[if_neg hs];exact hc,hl⟩;have t2':tmps[2]?.getD undef = .pointer (some ⟨w.heap.size,0,none⟩):=by simpa using t2
 have t3':tmps[3]?.getD undef = .pointer (some ⟨w.heap.size+1,0,none⟩):=by simpa using t3
 simp[results,Tryz.f45,go_sem,k0,k1,t2',t3',asAddr]
theorem agw (sv:ByteArray->Bool){ρ:Go.Shelf.Ren}(L:Lays.n143 Tryz.prog ρ)(hf:ρ.f 143=121)(n:Nat)(hn:5<=n)(s:ByteArray)(hz:s.size<=1000000)(ws:List ByteArray)(hw:Wds s ws)(w:World)
 (hS:∀(y:ByteArray),y.size=4->∀(l n:Nat) (W:World),Below w.heap.size w W->CallsIn (lC.inRound l) n Tryz.prog 77 #[.string y] W λe W'=>e = .returned (.bool (sv y))/\W.grownBy W' none) :
 CallsIn lC n Tryz.prog 45 #[.string s] w (acm sv s ws w):=by
 obtain⟨i0,hi,hz0,hz1,hz2⟩:=info_parts (show(Tryz.prog.info? 9).map (λi=>(i.zero,i.size,i.bytes))=some (some (.string uD),1,16) by kernel_rfl);refine callsIn_of_wp_marks Tryz.func45 rfl trivial ?_ rfl;simp only[Tryz.ntmps45,lM,dB,gI,Nat.reduceAdd,Nat.reduceSub,yf,yg,zx,yB,gJ,dY]
 gi_wp2_with (refine⟨trivial,λ_=>by omega,?_⟩;gi_at_call 76;refine(afG _ (by omega) _ _ _).mono ?_;rintro e w' ⟨rfl,rfl⟩)
 ·have he:s.toList.isEmpty=true:=by assumption
  have he':s.toList=[]:=by simpa using he
  have n0:=(uK w 22 (.slice none 0 0)).alloc (.cells #[.bool true] 4);have n1:=uK (w.alloc (.cells #[.slice none 0 0] 22)) 4 (.bool true);rw[rP]at n1;have k0:=n0.cell;have k1:=n1.cell;refine⟨.tuple #[.slice none 0 0,.bool true],?_,.slice none 0 0,[],true,rfl,Bj _ _ _ _,((Below.refl _ w).alloc (au _) _).alloc (by simp) _,by rw[if_pos he'];rfl,λh=>by cases h⟩;simp[results,Tryz.f45,go_sem,k0,k1,asAddr]
 ·refine aef (by omega) rfl (enters_of Tryz.func163 (by kernel_rfl) rfl) (w.heap.size+1+1+1) (by simp) ws (KPT w)
   (λh k=>λj hj=>(k j hj).trans (h j hj)) (λW l o hl j hj=>sZ (by simp at hl;omega)) ?seq
   (PTJ sv w) (PTX sv w) ?own ?ahh ?xU ?start
   (λx=>{ tmps:= #[.string s,undef,.pointer (some ⟨w.heap.size,0,none⟩),.pointer (some ⟨w.heap.size+1,0,none⟩),.pointer (some ⟨w.heap.size+1+1,0,none⟩),.string x,.string s,.bool false,.string s,.func (.func 163) #[] #[.pointer (some ⟨w.heap.size+1+1+1+1,0,none⟩),.pointer (some ⟨w.heap.size+1+1+1,0,none⟩),.pointer (some ⟨w.heap.size+1+1+1+2,0,none⟩)],.string x,undef,undef,undef,undef,undef,undef,undef,undef,undef,undef,undef,undef,undef,undef,undef,undef,undef,undef,undef,undef,undef,undef,undef,undef,undef,undef,undef,undef,undef,undef,undef],defers:=[] }) ?assign ?body ?done ?stop
  case assign=>
   intro l x W K hK
   gi_wp2
   exact hK
  case body=>
   rintro l pre x W ⟨acc,v,hc,hP⟩ hlt;have h4:=Yd sv pre acc hc;obtain⟨a,cap,rfl⟩:∃a cap,v = .slice a acc.length cap:=by
    rcases hP.row.2 with⟨rfl,h⟩|⟨g,cap,cur,rfl,_⟩
    ·exact⟨none,0,by rw[h]⟩
    ·exact⟨_,cap,rfl⟩
   have hcv:=hP.box.cell;have hc0:=hP.b0.cell;have hf0:=hP.b0.frozen;have hc1:=hP.b1.cell;have hf1:=hP.b1.frozen;have hko:=KeepsOthers.refl W;have hkp:KPT w W W:=λk _=>rfl
   gi_wp2_with first
    |(gi_at_builtin;refine wpListIn_append_own _ rfl _ _ 22 rfl (w.heap.size+6) 9 i0 (.string uD) 1 16 Tryz.underlying22 hi hz0 hz1 hz2 rfl (by decide) _ _ _ rfl (hP.row.alloc _) _ 1 1 [_] rfl rfl (cell_one_new _ _ _) (by simp[Value.oneCell']) (by simp only[maxLen];omega) (by omega) (by have:=hP.siz;simp;omega) ?_;intro v' w1 hown' hgrow _;obtain⟨g',cap',rfl⟩:=ownsRow_succ hown';obtain⟨q1,q2,q3,q4⟩:=hP.app hown' hgrow;have hc5:=q1.cell;have hf5:=q1.frozen)
    |(refine⟨trivial,λ_=>by omega,?_⟩;gi_at_call 77;refine(hS _ (by rw[pX];omega) l _ _ hP.bel).mono ?_;rintro e W2 ⟨rfl,hg2⟩;have hko:=hko.trans (KeepsOthers.of_grownBy hg2 (λj o e=>by cases e));have hkp:KPT w W W2:=λk hk=>(hg2.block k (by have:=hP.siz;omega) (by simp)).trans (hkp k hk);have hP:=hP.kept hg2;have hcv:=hP.box.cell;have hc0:=hP.b0.cell;have hf0:=hP.b0.frozen;have hc1:=hP.b1.cell;have hf1:=hP.b1.frozen)
    |(refine⟨trivial,?_⟩)
   ·have h:((acc.length:Int)==4)=true:=(by assumption);exact PTX.mk hko hP (Lr hc (.inl (by simp at h;omega)))
   ·have hst:(!x.toList==[42])=true:=(by assumption);have hsv:(!sv (x.extract 1 5))=true:=(by assumption);exact PTX.mk hko hP (Lr hc (.inr (Na hst (λh=>by rw[h.2.2.2]at hsv;cases hsv))))
   ·have hn4:((acc.length:Int)==4)=false:=(by assumption);have hst:(!x.toList==[42])=true:=(by assumption);have h6:(x.size:Int)=6:=(by assumption);have h6':x.size=6:=(by omega);have h0:((x[0]'(by omega)).toNat:Int)=34:=(by assumption);have h5:((x[5]'(by omega)).toNat:Int)=34:=(by assumption);have hsv:(!sv (x.extract 1 5))=false:=(by assumption);exact PTJ.mk hko hkp q3 q4 q2 (Ve hc (by simp at hn4;omega) (aar hst ⟨h6',by rw[<- get_at (by omega)];exact aem.1 h0,by rw[<- get_at (by omega)];exact aem.1 h5,by simpa using hsv⟩))
   ·have hst:(!x.toList==[42])=true:=(by assumption);have h6:(x.size:Int)=6:=(by assumption);have h5:¬((x[5]'(by omega)).toNat:Int)=34:=(by assumption);exact PTX.mk hko hP (Lr hc (.inr (Na hst (λh=>h5 (aem.2 (by rw[get_at (by omega)];exact h.2.2.1))))))
   ·have hst:(!x.toList==[42])=true:=(by assumption);have h6:(x.size:Int)=6:=(by assumption);have h0:¬((x[0]'(by omega)).toNat:Int)=34:=(by assumption);exact PTX.mk hko hP (Lr hc (.inr (Na hst (λh=>h0 (aem.2 (by rw[get_at (by omega)];exact h.2.1))))))
   ·have hst:(!x.toList==[42])=true:=(by assumption);have h6:¬(x.size:Int)=6:=(by assumption);exact PTX.mk hko hP (Lr hc (.inr (Na hst (λh=>h6 (by have:=h.1;omega)))))
   ·have hn4:((acc.length:Int)==4)=false:=(by assumption);have hst:(!x.toList==[42])=false:=(by assumption);exact PTJ.mk hko hkp q3 q4 q2 (Ve hc (by simp at hn4;omega) (aas hst))
  case done=>
   rintro D W hD ⟨acc,v,hc,hP⟩ hK;have h4:=Yd sv ws acc hc;obtain⟨a,cap,rfl⟩:∃a cap,v = .slice a acc.length cap:=by
    rcases hP.row.2 with⟨rfl,h⟩|⟨g,cap,cur,rfl,_⟩
    ·exact⟨none,0,by rw[h]⟩
    ·exact⟨_,cap,rfl⟩
   have hcv:=hP.box.cell;have hc0:=hP.b0.cell;have hf0:=hP.b0.frozen;have hc1:=hP.b1.cell;have hf1:=hP.b1.frozen;have hD6:w.heap.size+6<=D:=(by simpa using hD);have hne:s.toList.isEmpty=false:=by assumption
   gi_wp2
   refine Yk rfl hne hD6 (v:=.slice a acc.length cap) (ok:=true) ((xC _ _ _).trans (xC _ _ _)) hK ((hP.b0.set _).other (by omega) _) ((hP.b1.other (by omega) _).set _) ?_ ?_ hc (λh=>by cases h)
   ·exact JE (JE hP.row (by omega) _) (by omega) _
   ·exact(hP.bel.setCell (p:=⟨w.heap.size,0,none⟩) (au _) _).setCell (p:=⟨w.heap.size+1,0,none⟩) (by simp) _
  case stop=>
   rintro D pre W hD hpre ⟨hc,hb0,hb1,hB⟩ hK;have hc0:=hb0.cell;have hc1:=hb1.cell;have hD6:w.heap.size+6<=D:=(by simpa using hD);have hne:s.toList.isEmpty=false:=by assumption
   gi_wp2
   exact Yk rfl hne hD6 (v:=.slice none 0 0) (l:=[]) (ok:=false) (KeepsOthers.refl _) hK hb0 hb1 (Bj _ _ _ _) hB (aa4 sv pre hc ws hpre) (λ_=>rfl)
  case own=>
   rintro pre A B row ⟨acc,v,hc,hP⟩ hg hr;have hr':∀r,row=some r->w.heap.size+6<=r:=λr e=>(by have:=(hr r e).1;simpa using this);refine⟨acc,v,hc,hP.box.kept hg (λe=>by have:=hr' _ e.symm;omega),hP.row.kept hg ?_,hP.b0.kept hg (λe=>by have:=hr' _ e.symm;omega),hP.b1.kept hg (λe=>by have:=hr' _ e.symm;omega),hP.bel.grown hg hP.bel.size (λk e=>by have:=hr' _ e;omega),ig hP.siz hg.size⟩;rcases hP.row.2 with⟨rfl,_⟩|⟨g,cap,cur,rfl,_,hgb,_⟩
   ·exact .inl rfl
   ·refine .inr λe=>?_;obtain⟨_,o,ho,hcc⟩:=hr g (by simpa[tC]using e.symm);rw[hgb]at ho;cases ho;cases hcc
  case ahh=>rintro pre A B row ⟨hc,hb0,hb1,hB⟩ hg hr;have hr':∀r,row=some r->w.heap.size+6<=r:=λr e=>(by have:=(hr r e).1;simpa using this);exact⟨hc,hb0.kept hg (λe=>by have:=hr' _ e.symm;omega),hb1.kept hg (λe=>by have:=hr' _ e.symm;omega),hB.grown hg hB.size (λk e=>by have:=hr' _ e;omega)⟩
  case xU=>
   rintro pre W u ⟨acc,v,hc,hP⟩;exact⟨acc,v,hc,hP.box.other (by omega) _,JE hP.row (by omega) _,hP.b0.other (by omega) _,hP.b1.other (by omega) _,hP.bel.setCell (p:=⟨w.heap.size+1+1+1,0,none⟩) (by show w.heap.size<=w.heap.size+1+1+1;omega) _,by have:(W.setCell ⟨w.heap.size+1+1+1,0,none⟩ u).heap.size=W.heap.size:=(by simp[uj]);rw[this];exact hP.siz⟩
  case start=>have n0:=uK w 22 (.slice none 0 0);have n1:=uK (w.alloc (.cells #[.slice none 0 0] 22)) 4 (.bool false);have n2:=uK ((w.alloc (.cells #[.slice none 0 0] 22)).alloc (.cells #[.bool false] 4)) 22 (.slice none 0 0);rw[rP]at n1 n2;rw[rP]at n2;refine⟨[],.slice none 0 0,rfl,(((n2.alloc _).alloc _).alloc _),Bj _ _ _ _,(((((n0.alloc _).alloc _).alloc _).alloc _).alloc _),((((n1.alloc _).alloc _).alloc _).alloc _),?_,by simp⟩;exact((((((Below.refl _ w).alloc (au _) _).alloc (by simp) _).alloc (by simp;omega) _).alloc (by simp;omega) _).alloc (by simp;omega) _).alloc (by simp;omega) _
  case seq=>intro l J Jx W hW hJ hY h0;have hlow:∀k,k<w.heap.size+6->W.heap[k]? = _:=λk hk=>hW k (by simp;omega);have n3:=uK (((w.alloc (.cells #[.slice none 0 0] 22)).alloc (.cells #[.bool false] 4)).alloc (.cells #[.slice none 0 0] 22)) 9 (.string s);have n4:=uK ((((w.alloc (.cells #[.slice none 0 0] 22)).alloc (.cells #[.bool false] 4)).alloc (.cells #[.slice none 0 0] 22)).alloc (.cells #[.string s] 9)) 9 (.string ⟨#[44]⟩);have n5:=uK (((((w.alloc (.cells #[.slice none 0 0] 22)).alloc (.cells #[.bool false] 4)).alloc (.cells #[.slice none 0 0] 22)).alloc (.cells #[.string s] 9)).alloc (.cells #[.string ⟨#[44]⟩] 9)) 3 (.int .i64 0);simp only[rP]at n3 n4 n5;have m3:Boxed W (w.heap.size+1+1+1) 9 (.string s):=(hlow _ (by omega)).trans ((n3.alloc _).alloc _);have m4:Boxed W (w.heap.size+1+1+1+1) 9 (.string ⟨#[44]⟩):=(hlow _ (by omega)).trans (n4.alloc _);have m5:Boxed W (w.heap.size+1+1+1+2) 3 (.int .i64 0):=(hlow _ (by omega)).trans n5;refine agz L (n-1) (by omega) hf l (w.heap.size+1+1+1+1) (w.heap.size+1+1+1) (w.heap.size+1+1+1+2) s ws hw hz J Jx (λpre W v h _=>hJ pre W v h) (λpre x W h hl=>?_) W ⟨by omega,by omega⟩ m4.cell m3.cell m3.frozen m5.cell h0;exact hY pre x W h hl
open Go.Ab
def O3 (x:aO):ByteArray:=⟨⟨x⟩⟩
theorem VG : ∀{s:aO},dX s 44<0->BQ s=[s]
 |[],_=>rfl
 | b::s,h=>by
   unfold dX at h;split at h
   ·omega
   ·rename_i hb;have hb:¬b=44:=(by simpa using hb);split at h
    ·rename_i h2;have h2:dX s 44 = -1:=(by simpa using h2);unfold BQ;rw[if_neg hb,VG (s:=s) (by omega)]
    ·have:=BF s 44;rename_i h2;have h2:¬dX s 44 = -1:=(by simpa using h2);omega
theorem VH : ∀{s:aO} {i:Nat},dX s 44=i->BQ s=s.take i::BQ (s.drop (i+1))
 |[],i,h=>by simp[dX]at h
 | b::s,i,h=>by
   unfold dX at h;split at h
   ·rename_i hb;have hb:b=44:=(by simpa using hb);have:i=0:=(by omega);subst this;rw[BQ,if_pos hb,List.take_zero,FM,bZ]
   ·rename_i hb;have hb:¬b=44:=(by simpa using hb);split at h
    ·omega
    ·rename_i h2;have h2:¬dX s 44 = -1:=(by simpa using h2);have h3:=BF s 44;obtain⟨j,rfl⟩:∃j,i=j+1:=⟨i-1,by omega⟩;rw[BQ,if_neg hb,VH (s:=s) (i:=j) (by omega)];rfl
theorem P6 (x:ByteArray)(a b:Nat):(x.extract a b).data.toList=(x.data.toList.drop a).take (b-a):=by rw[ByteArray.data_extract,Array.toList_extract]
theorem TY (x:ByteArray):O3 x.data.toList=x:=by cases x;rfl
theorem aeo : ∀(k:Nat) (s:ByteArray),s.size<=k->Wds s ((BQ s.data.toList).map O3):=by
 intro k
 induction k using dw with|_ k ih=>
 intro s hk;by_cases h:dX s.data.toList 44<0
 ·rw[VG h];show Wds s [O3 s.data.toList];rw[TY];exact .last s h
 ·obtain⟨i,hi⟩:∃i:Nat,dX s.data.toList 44=i:=⟨(dX s.data.toList 44).toNat,by omega⟩;have hlt:=Qg _ _ _ hi;have hsz:s.data.toList.length=s.size:=rfl;have e1:s.data.toList.drop (i+1)=(s.extract (i+1) s.size).data.toList:=by rw[P6,aF (by rw[fH];omega)]
  have e2:s.data.toList.take i=(s.extract 0 i).data.toList:=by rw[P6];rfl
  rw[VH hi,e1,e2,bJ,TY];exact .more s i _ hi (ih (s.size-(i+1)) (by omega) _ (by rw[pX];omega))
theorem aaq (sv:aO->Bool)(x:aO):EM (λy=>sv y.data.toList) (O3 x)=(Oz sv x).map O3:=by
 unfold EM Oz;have e0:(O3 x).toList=x:=by rw[xA];rfl
 have e1:(O3 x).size=x.length:=rfl;have e2:((O3 x).extract 1 5).data.toList=(x.drop 1).take 4:=P6 _ _ _;have e3:(O3 x).extract 1 5=O3 ((x.drop 1).take 4):=by rw[<- e2,TY]
 show(if(O3 x).toList=[42]then some (O3 x)else if(O3 x).size=6/\(O3 x).toList.getD 0 0=34/\(O3 x).toList.getD 5 0=34/\sv ((O3 x).extract 1 5).data.toList=true then some ((O3 x).extract 1 5)else none)=_;rw[e0,e1,e2,e3];split
 ·rfl
 ·split<;>rfl
theorem ae4 (sv:aO->Bool)(ws:List aO):col (λy=>sv y.data.toList) (ws.map O3)=(adK sv ws).map λl=>l.map O3:=by
 have key:∀(ws:List aO) (a:Option (List aO)),(ws.map O3).foldl (Bg λy=>sv y.data.toList) (a.map λl=>l.map O3)=(ws.foldl (colS sv) a).map λl=>l.map O3:=by
  intro ws
  induction ws with
  |nil=>intro a;rfl
  | cons x ws ih=>
    intro a;rw[bJ,lT,lT,<- ih]
    congr 1
    unfold Bg colS;cases a with
    |none=>rfl
    | some l=>
      simp only[lU,gz,kJ];split
      ·rfl
      ·rw[aaq];cases Oz sv x with
       |none=>rfl
       |some y=>simp
 exact key ws (some [])
theorem ZY (sv:aO->Bool){s:aO}(hl:s.length<=1000000){l:List ByteArray}(hc:(if(⟨⟨s⟩⟩:ByteArray).toList=[]then some []else col (λy=>sv y.data.toList) ((BQ (⟨⟨s⟩⟩:ByteArray).data.toList).map O3))=(if true then some l else none)):∀x,x∈l->x.size<=1000000:=by
 have cut_small:∀(s:aO) x,x∈BQ s->x.length<=s.length:=by
  intro s
  induction s with
  |nil=>intro x hx;rw[BQ,bM]at hx;subst hx;exact au _
  | cons b r ih=>
    intro x hx;rw[BQ]at hx;split at hx
    ·rcases cO.1 hx with e|e
     ·subst e;exact aN _
     ·have:=ih x e;simp;omega
    ·split at hx
     ·rw[bM]at hx;subst hx;simp
     ·rename_i y ys hy;rcases cO.1 hx with e|e
      ·have:=ih y (by rw[hy];simp);rw[e];simp;omega
      ·have:=ih x (by rw[hy];simp[e]);simp;omega
 have key:∀(ws:List ByteArray) (a l:List ByteArray),(∀x,x∈ws->x.size<=1000000)->(∀x,x∈a->x.size<=1000000)->ws.foldl (Bg λy=>sv y.data.toList) (some a)=some l->∀x,x∈l->x.size<=1000000:=by
  intro ws
  induction ws with
  |nil=>intro a l _ ha h;cases h;exact ha
  | cons y ws ih=>
    intro a l hw ha h;rw[lT]at h;cases hs:Bg (λy=>sv y.data.toList) (some a) y with
    | none=>
      rw[hs]at h;have:∀ws:List ByteArray,ws.foldl (Bg λy=>sv y.data.toList) none=none:=λws=>by
       induction ws with
       |nil=>rfl
       |cons y ws ih=>exact ih
      rw[this]at h;cases h
    | some b=>
      rw[hs]at h;refine ih b l (λx hx=>hw x (dF _ hx)) (λx hx=>?_) h;unfold Bg at hs;simp only[gz]at hs;split at hs
      ·cases hs
      ·obtain⟨z,hz,rfl⟩:=pY.1 hs;rcases aW.1 hx with e|e
       ·exact ha x e
       ·rw[bM]at e;subst e;have hy:=hw y (bz ..);unfold EM at hz;split at hz
        ·cases hz;exact hy
        ·split at hz
         ·cases hz;rw[pX];omega
         ·cases hz
 by_cases h0:(⟨⟨s⟩⟩:ByteArray).toList=[]
 ·rw[if_pos h0]at hc;simp only[if_true,aJ]at hc;subst hc;intro x hx;cases hx
 ·rw[if_neg h0]at hc;refine key _ [] l (λx hx=>?_) (λx h=>by cases h) hc;obtain⟨y,hy,rfl⟩:=oZ.1 hx;have:=cut_small s y hy;show y.length<=_;omega
theorem Zq {W W':World}{M:Nat->Prop}(h:KR W W' M)(hM:∀k,¬M k):W.grownBy W' none:=⟨h.os,h.tape,h.output,h.size,λk hk _=>h.block k hk (hM k)⟩
theorem SH {ρ:Go.Shelf.Ren}(L:Lays.n143 Tryz.prog ρ)(hf:ρ.f 143=121){sv:aO->Bool}(hs:∀y:aO,y.length=4->dS Tryz.prog 77 [.one (.c (.str y))] (yz (sv y))){s:aO}{r:List aO×Bool}(hl:s.length<=1000000)(hr:r=Um sv s) :
 dS Tryz.prog 45 [.one (.c (.str s))] (.wu [(false,[.c (.sl 1 (r.1.map cS))]),(false,[.c (.lit (.bool r.2))])]):=by
 subst hr;intro I q w vs hT hA hB hG;obtain⟨a,rfl,ha⟩:=LK hG;have hB':∀b,DN [] b = .absent:=λb=>CZ (aN _);obtain⟨e1,_⟩:=Jb (show Rd I a (.str s)from ha);subst e1;have hno:∀k,¬ ∃b,(DN [] b).uses ((λ_=>none:Go.Ab.Ren) b) k:=λk ⟨b,h⟩=>by rw[hB']at h;exact h
 have hS:∀(y:ByteArray),y.size=4->∀(l n:Nat) (W:World),Below w.heap.size w W->CallsIn (lC.inRound l) n Tryz.prog 77 #[.string y] W λe W'=>e = .returned (.bool (sv y.data.toList))/\W.grownBy W' none:=λy hy l n W hW=>by
  refine CallsIn.inRound l (callsIn_wide.2 ?_);have hA2:Agree I W:=hA.other λk c hc=>hW.block k (hA.lt hc);have ey:y=⟨⟨y.data.toList⟩⟩:=by cases y;rfl
  have hm:y.data.toList.length<=maxLen:=by show y.size<=_;rw[hy];decide
  refine(hs y.data.toList hy I (λ_=>none) W [.string y] hT hA2 ⟨λb=>by rw[hB'];rfl,λb b' k h=>(hno k ⟨b,h⟩).elim,λb k h=>(hno k ⟨b,h⟩).elim⟩ ⟨rfl,?_⟩).mono ?_
  ·intro j v x hv hx
   match j with
   | 0=>
     simp only[List.getElem?_cons_zero,aJ]at hv hx;subst hv hx;show Rd I (.string y) (.str y.data.toList)
     conv=>arg 2;rw[ey]
     exact Rd.str _ hm
   |j+1=>simp at hv
  ·rintro e W' ⟨v,J,σ,r,bs,rfl,⟨rfl,rfl⟩,hg,_,_,_,hfr,_⟩;cases hg;exact⟨rfl,Zq hfr hno⟩
 have key:=callsIn_wide.1 (agw (λy=>sv y.data.toList) L hf 5 (au _) ⟨⟨s⟩⟩ hl _ (aeo _ _ (au _)) w hS);refine key.mono ?_;rintro e w' ⟨v,l,ok,rfl,hrow,hb,hc,hn⟩;have hbm:∀x,x∈l->x.size<=1000000:=λx hx=>by
  cases hok:ok with
  |false=>rw[hn hok]at hx;cases hx
  | true=>rw[hok]at hc;exact ZY sv hl hc x hx
 have hr:Um sv s=(l.map λx=>x.data.toList,ok):=by
  unfold Um;have e0:(⟨⟨s⟩⟩:ByteArray).toList=s:=by rw[xA]
  rw[e0]at hc;by_cases h0:s=[]
  ·rw[if_pos h0]at hc⊢;cases ok with
   |true=>simp only[if_true,aJ]at hc;subst hc;rfl
   |false=>cases hc
  ·rw[if_neg h0]at hc⊢;rw[show((⟨⟨s⟩⟩:ByteArray).data.toList)=s from rfl,ae4]at hc;cases hq:adK sv (BQ s)with
   | none=>
     rw[hq]at hc;cases ok with
     |true=>cases hc
     |false=>rw[hn rfl];rfl
   | some l'=>
     rw[hq]at hc;cases ok with
     | true=>simp only[lU,if_true,aJ]at hc;subst hc;simp[O3,Function.comp_def]
     |false=>cases hc
 rw[hr];have hIs:∀k,w.heap.size<=k->I k=none:=λk hk=>by
  cases h:I k with
  |none=>rfl
  |some c=>exact absurd (hA.lt h) (by omega)
 have fin:∀(J:IH),I.le J->Agree J w'->Rd J v (.sl 1 ((l.map λx=>x.data.toList).map cS))->(∀k,k<w.heap.size->J k=I k)->∃(v0:Value) (J:IH) (σ:Go.Ab.Ren) (r:AV) (bs:List Box),Ending.returned (.tuple #[v,.bool ok]) = .returned v0/\(r=AV.wu [(false,[.c (.sl 1 (((l.map λx=>x.data.toList)).map cS))]),(false,[.c (.lit (.bool ok))])]/\bs=[])/\GV J σ v0 r/\Agree J w'/\BX J σ w' (DN bs) /\
  I.le J/\KR w w' (λk=>∃b,(DN [] b).uses (q b) k)/\(∀b k,(DN bs b).uses (σ b) k->w.heap.size<=k\/∃b',(DN [] b').uses (q b') k)/\(∀k,k<w.heap.size->(¬ ∃b,(DN [] b).uses (q b) k)->J k=I k)/\(∀b,b<([]:List Box).length->σ b=q b):=λJ hle hAg hrd hk=>by
  refine⟨_,J,q,_,_,rfl,⟨rfl,rfl⟩,⟨_,rfl,rfl,λj x p hx hp=>?_⟩,hAg,⟨λb=>?_,λb b' k hu=>?_,λb k hu=>?_⟩,hle,Dt hb _,λb k hu=>?_,λk h _=>hk k h,λ_ _=>rfl⟩
  ·match j with
   | 0=>simp at hx hp;subst hx hp;unfold GP;rw[if_neg (by simp)];exact⟨_,rfl,(show Rd J v _ from by rw[<- zL];exact hrd)⟩
   | 1=>simp at hx hp;subst hx hp;unfold GP;rw[if_neg (by simp)];exact⟨_,rfl,Rd.lit _ rfl⟩
   |j+2=>simp at hp
  ·have:=hB.ok b;rw[hB']at this⊢;exact this
  all_goals(rw[hB']at hu;exact hu.elim)
 rcases hrow.2 with⟨rfl,h0⟩|⟨g,cap,cur,rfl,hg,hgb,hle,hmax,hsz,htake⟩
 ·have:l=[]:=di h0;subst this;exact fin I (IH.le_refl I) (hA.other λk1 c hc=>hb.block k1 (hA.lt hc)) (.sl none 0 0 1 [] (λ_ _=>undef) rfl (au _) (aN _) (λe h=>by cases h) (λh=>by omega) (λad h=>by cases h) (λi j c h=>by simp at h)) (λ_ _=>rfl)
 ·refine fin (I.add g cur) (λb c hc=>?_) (λb c hc=>?_) ?_ (λk hk=>?_)
  ·unfold IH.add;by_cases h:b=g
   ·rw[h,hIs g hg]at hc;cases hc
   ·rw[if_neg h];exact hc
  ·unfold IH.add at hc;by_cases h:b=g
   ·rw[if_pos h]at hc;cases hc;subst h;exact⟨_,_,hgb⟩
   ·rw[if_neg h]at hc;exact(hA.other λk1 c hc=>hb.block k1 (hA.lt hc)) b c hc
  ·refine Rd.sl (some ⟨g,0,none⟩) l.length cap 1 _ (λi _=>.string (l.getD i uD)) (by simp) hle hmax (λe he=>?_) (λ_ h=>by cases h) (λad had i j hi hj=>?_) (λi j c hc=>?_)
   ·obtain⟨x,_,rfl⟩:=oZ.1 he;rfl
   ·cases had;have e:(⟨g,0,none⟩:Addr).add (i*1+j)=⟨g,i,none⟩:=by
     have:i*1+j=i:=(by omega);rw[this];by_cases h0:i=0
     ·subst h0;rfl
     ·simp[Go.Addr.add,h0]
    rw[e];unfold IH.cell IH.add;rw[if_neg (by simp)];simp only[if_true];have h1:cur.toList[i]? = (l.map sJ)[i]?:=(by rw[<- htake,List.getElem?_take_of_lt (by omega)]);rw[<- Array.getElem?_toList,h1,List.getElem?_map];simp[bu,hi]
   ·rw[zL]at hc;by_cases hi:i<l.length
    ·have e1:((l.map (cS∘λx:ByteArray=>x.data.toList)).getD i [])=cS (l[i]).data.toList:=(by simp[bu,hi]);rw[e1]at hc
     match j with
     | 0=>simp[cS]at hc;subst hc;have e2:l.getD i uD=⟨⟨(l[i]).data.toList⟩⟩:=(by simp[bu,hi]);rw[e2];refine Rd.str _ ?_;have:=hbm l[i] (dO hi);have h3:(l[i]).data.toList.length=(l[i]).size:=rfl;have hml:1000000<=maxLen:=(by decide);omega
     |j+1=>simp[cS]at hc
    ·have:((l.map (cS∘λx:ByteArray=>x.data.toList)).getD i [])=[]:=(by simp[bu,nG (by simpa using hi:(l.map _).length<=i)]);rw[this]at hc;simp at hc
  ·unfold IH.add;rw[if_neg (by omega)]
end Go.Proofs
end
namespace Go.Ab
open Go
theorem F.cmp_isNaN_int {n:Nat} : ∀{sN r},G.cmp_isNaN_int n sN=some r->dS pZ 254 [.one (wI sN)] (.one (.c (.lit (.bool r)))):=by
 intro sN r h;refine aZ K.cmp_isNaN_int (qi ?_);unfold C.cmp_isNaN_int;rcases n with _|n<;>simp only[G.cmp_isNaN_int,reduceCtorEq]at h;have z:=pp () <|pp () <|pp () <|pp () <|pp () <|pp () <|()
 exact rf
theorem F.cmp_Compare_int {n:Nat} : ∀{sN J5 r},G.cmp_Compare_int n sN J5=some r->dS pZ 251 [.one (wI sN),.one (wI J5)] (.one (wI r)):=by
 intro sN J5 r h;refine aZ K.cmp_Compare_int (qi ?_);unfold C.cmp_Compare_int;rcases n with _|n<;>simp only[G.cmp_Compare_int,reduceCtorEq]at h;have z:=pp (pp @F.cmp_isNaN_int ()) <|pp () <|pp () <|pp () <|pp () <|pp () <|()
 exact rf
theorem F.cmp_isNaN_string {n:Nat} : ∀{sN r},G.cmp_isNaN_string n sN=some r->dS pZ 242 [.one (wS sN)] (.one (.c (.lit (.bool r)))):=by
 intro sN r h;refine aZ K.cmp_isNaN_string (qi ?_);unfold C.cmp_isNaN_string;rcases n with _|n<;>simp only[G.cmp_isNaN_string,reduceCtorEq]at h;have z:=pp () <|pp () <|pp () <|pp () <|pp () <|pp () <|()
 exact rf
theorem F.cmp_Less_string {n:Nat} : ∀{sN J5 r},G.cmp_Less_string n sN J5=some r->dS pZ 227 [.one (wS sN),.one (wS J5)] (.one (.c (.lit (.bool r)))):=by
 intro sN J5 r h;refine aZ K.cmp_Less_string (qi ?_);unfold C.cmp_Less_string;rcases n with _|n<;>simp only[G.cmp_Less_string,reduceCtorEq]at h;have z:=pp (pp @F.cmp_isNaN_string ()) <|pp () <|pp () <|pp () <|pp () <|pp () <|()
 exact rf
theorem F.OI : ∀(n:Nat),∀{ax r},G.aP n ax=some r->dS pZ 74 [.agg (wN ax)] (.agg (wN r)):=by
 intro n
 induction n using dw with|_ n ih=>
 intro ax r h;refine aZ K.aP (qi ?_);unfold C.aP;rcases n with _|n<;>simp only[G.aP,reduceCtorEq]at h;have z:=pp (pp ih ()) <|pp () <|pp (pp (@qY (List aO×Int×List aj) _ (λn x=>G.aP.L2 n ax x.1 x.2.1 x.2.2) r (λx=>iy.of [eP 2 113,eP 3 114,(37,.v true (.one (wK ax.Kids))),eI 38 (ax.Kids.length:Int),eI 39 x.2.1] [(113,.var zN),(114,.var [wI ax.Kind,wI ax.Num,wS ax.Text,.own 115 x.1.length 1,.own 116 x.2.2.length 5]),(115,.dat 1 (ag cS x.1)),(116,.dat 5 (ag aj.cells x.2.2))])) ()) <|pp (pp (@zh (List aO) _ (λn x=>G.aP.K1 n ax x) r (λx=>iy.of [eP 1 101,eP 2 102,eP 3 103] [(101,.var (wN ax)),(102,.var zN),(103,.var [wI ax.Kind,wI ax.Num,wS ax.Text,.own 104 x.length 1,.jC 5]),(104,.dat 1 (ag cS x))])) ()) <|pp (pp (aV @G.aP.K1.eq_1 <|aV @G.aP.K1.eq_2 <|aV @G.aP.L2.eq_1 <|@G.aP.L2.eq_2) ()) <|pp (pp (@dH [] [(101,10),(102,11),(103,12),(104,13)] []) <|pp (@dH [] [(101,10),(102,11),(103,12)] [104]) <|pp (@dH [] [(113,102),(114,103),(115,104),(116,14)] []) <|pp (@dH [] [(113,113),(114,114),(115,115),(116,116)] []) ()) <|()
 exact rf
theorem F.aP {n:Nat} : ∀{ax:aj} {r:aj},G.aP n ax=some r->dS pZ 74 [.agg (wN ax)] (.agg (wN r)):=F.OI n
theorem F.uT {n:Nat} : ∀{ax r},G.aP n ax=some r->lD pZ 74 [.agg (wN ax)] [] (λr1 b1=>r1 = .agg [wI r.Kind,wI r.Num,wS r.Text,.own 0 r.Names.length 1,.own 1 r.Kids.length 5]/\b1=[.dat 1 (ag cS r.Names),.dat 5 (ag aj.cells r.Kids)]):=by
 intro ax r h;refine mV K.aP (qi ?_);unfold C.aP;rcases n with _|n<;>simp only[G.aP,reduceCtorEq]at h;have z:=pp (pp @F.aP ()) <|pp () <|pp (pp (@qY (List aO×Int×List aj) _ (λn x=>G.aP.L2 n ax x.1 x.2.1 x.2.2) r (λx=>iy.of [eP 2 113,eP 3 114,(37,.v true (.one (wK ax.Kids))),eI 38 (ax.Kids.length:Int),eI 39 x.2.1] [(113,.var zN),(114,.var [wI ax.Kind,wI ax.Num,wS ax.Text,.own 115 x.1.length 1,.own 116 x.2.2.length 5]),(115,.dat 1 (ag cS x.1)),(116,.dat 5 (ag aj.cells x.2.2))])) ()) <|pp (pp (@zh (List aO) _ (λn x=>G.aP.K1 n ax x) r (λx=>iy.of [eP 1 101,eP 2 102,eP 3 103] [(101,.var (wN ax)),(102,.var zN),(103,.var [wI ax.Kind,wI ax.Num,wS ax.Text,.own 104 x.length 1,.jC 5]),(104,.dat 1 (ag cS x))])) ()) <|pp (pp (aV @G.aP.K1.eq_1 <|aV @G.aP.K1.eq_2 <|aV @G.aP.L2.eq_1 <|@G.aP.L2.eq_2) ()) <|pp (pp (@dH [] [(101,10),(102,11),(103,12),(104,13)] []) <|pp (@dH [] [(101,10),(102,11),(103,12)] [104]) <|pp (@dH [] [(113,102),(114,103),(115,104),(116,14)] []) <|pp (@dH [] [(113,113),(114,114),(115,115),(116,116)] []) ()) <|(pp (@yc [] [(0,115),(1,116)] []) <|pp (@yc [] [(0,104)] [1]) ())
 exact rf
theorem F.slices_isNaN_string {n:Nat} : ∀{sN r},G.slices_isNaN_string n sN=some r->dS pZ 228 [.one (wS sN)] (.one (.c (.lit (.bool r)))):=by
 intro sN r h;refine aZ K.slices_isNaN_string (qi ?_);unfold C.slices_isNaN_string;rcases n with _|n<;>simp only[G.slices_isNaN_string,reduceCtorEq]at h;have z:=pp () <|pp () <|pp () <|pp () <|pp () <|pp () <|()
 exact rf
theorem F.slices_BinarySearch_string {n:Nat} : ∀{sN pV r},G.slices_BinarySearch_string n sN pV=some r->dS pZ 212 [.one (wT sN),.one (wS pV)] (.wu [(false,[wI r.1]),(false,[.c (.lit (.bool r.2))])]):=by
 intro sN pV r h;refine aZ K.slices_BinarySearch_string (qi ?_);unfold C.slices_BinarySearch_string;rcases n with _|n<;>simp only[G.slices_BinarySearch_string,reduceCtorEq]at h;have z:=pp (pp @F.cmp_Less_string <|pp @F.slices_isNaN_string ()) <|pp () <|pp (pp (@qY (Int×Int) _ (λn x=>G.slices_BinarySearch_string.L1 n sN pV x.1 x.2) r (λx=>iy.of [eT 0 sN,eS 1 pV,eI 6 (sN.length:Int),eI 7 x.1,eI 8 x.2] [])) ()) <|pp () <|pp (pp (aV @G.slices_BinarySearch_string.L1.eq_1 <|@G.slices_BinarySearch_string.L1.eq_2) ()) <|pp (pp (@dH [] [] []) ()) <|()
 exact rf
def B.ren : Go.Shelf.Ren:=⟨λn=>match n with|138=>120|143=>121|147=>42|172=>165|195=>159|197=>160|205=>218|217=>164|218=>161|219=>162|221=>75|224=>192|225=>191|244=>195|245=>196|247=>204|260=>190|266=>194|267=>193|268=>119|279=>205|280=>206|281=>207|282=>208|287=>216|314=>203|316=>217|321=>232|322=>233|99=>127|129=>154|156=>37|165=>69|166=>10|167=>12|169=>13|171=>22|206=>166|240=>20|241=>113|243=>38|246=>70|276=>36|277=>152|283=>114|284=>115|285=>116|286=>117|317=>153|318=>155|319=>156|320=>157|337=>186|338=>187|_=>0,λn=>match n with|21=>21|85=>205|105=>180|119=>198|138=>200|139=>201|143=>227|145=>229|146=>202|167=>204|168=>207|175=>216|210=>219|0=>0|2=>2|3=>3|4=>4|5=>5|9=>9|20=>20|31=>22|37=>38|46=>178|51=>175|53=>141|70=>37|72=>40|75=>42|76=>43|80=>46|127=>60|164=>78|171=>140|173=>144|212=>174|213=>176|232=>196|233=>197|_=>0,λn=>match n with|1=>1|3=>4|4=>5|15=>6|16=>7|17=>0|18=>2|19=>3|_=>0⟩
theorem B.x72 : Go.Proofs.Builder.X72 pZ B.ren:=by constructor<;>kernel_rfl
theorem B.x : Go.Proofs.Builder.Extra pZ B.ren:=by constructor<;>first|exact B.x72|kernel_rfl|(intro w;kernel_rfl)|decide
theorem B.lays171 : Go.Proofs.Lays.n171 pZ B.ren:=by constructor<;>first|kernel_rfl|(intro w;kernel_rfl)
theorem B.laysM171 : Go.Proofs.LaysM.n171 pZ B.ren:=by constructor<;>first|exact B.lays171|kernel_rfl|(intro w;kernel_rfl)
theorem F.strconv_Itoa {n:Nat} : ∀{Gt:Int} {r:aO},G.strconv_Itoa n Gt=some r->dS pZ 22 [.one (wI Gt)] (.one (wS r)):=by intro i r h;rcases n with _|n<;>simp only[G.strconv_Itoa,reduceCtorEq]at h;obtain⟨⟨h0,hl⟩,h⟩:=yP.1 h;exact adB B.laysM171 h0 (ig hl (by decide)) (by cases h;rfl)
theorem F.gQ {n:Nat} : ∀{ax jO r},G.gQ n ax jO=some r->dS pZ 238 [.agg (wN ax),.one (wS jO)] (.wu [(false,[wI r.1]),(false,[.c (.lit (.bool r.2))])]):=by
 intro ax jO r h;refine aZ K.gQ (qi ?_);unfold C.gQ;rcases n with _|n<;>simp only[G.gQ,reduceCtorEq]at h;have z:=pp (pp @F.slices_BinarySearch_string <|pp @F.strconv_Itoa ()) <|pp () <|pp (pp (@qY (Int) _ (λn x=>G.gQ.L1 n ax jO x) r (λx=>iy.of [eS 1 jO,eI 21 (ax.Kids.length:Int),eI 22 x] [])) ()) <|pp () <|pp (pp (aV @G.gQ.L1.eq_1 <|@G.gQ.L1.eq_2) ()) <|pp (pp (@dH [] [] []) ()) <|()
 exact rf
theorem F.iW {n:Nat} : ∀{aA:List aj} {Gt:Int} {CY:List aj} {r:List aj},G.iW n aA Gt CY=some r ->
 lD pZ 230 [.one (.own 0 aA.length 5),.one (wI Gt),.one (.own 1 CY.length 5)] [.dat 5 (ag aj.cells aA),.dat 5 (ag aj.cells CY)]
  (λr1 b1=>r1 = .one (.own 2 r.length 5)/\b1=[.dead,.dat 5 (ag aj.cells CY),.dat 5 (ag aj.cells r)]):=by
 intro s i v r h;rcases n with _|n<;>simp only[G.iW,reduceCtorEq]at h;exact FG.ins _ (cb:=80) (by decide) K.iW h
theorem F.mG {n:Nat} : ∀{aA:List aO} {Gt:Int} {CY:List aO} {r:List aO},G.mG n aA Gt CY=some r ->
 lD pZ 229 [.one (.own 0 aA.length 1),.one (wI Gt),.one (.own 1 CY.length 1)] [.dat 1 (ag cS aA),.dat 1 (ag cS CY)]
  (λr1 b1=>r1 = .one (.own 2 r.length 1)/\b1=[.dead,.dat 1 (ag cS CY),.dat 1 (ag cS r)]):=by
 intro s i v r h;rcases n with _|n<;>simp only[G.mG,reduceCtorEq]at h;exact FG.ins _ (cb:=16) (by decide) K.mG h
theorem F.oL {n:Nat} : ∀{Ai eY iP r},G.oL n Ai eY iP=some r->lD pZ 213 [.one (.ptr 0 0),.one (wS eY),.agg (wN iP)] [.var [wI Ai.Kind,wI Ai.Num,wS Ai.Text,.own 1 Ai.Names.length 1,.own 2 Ai.Kids.length 5],.dat 1 (ag cS Ai.Names),.dat 5 (ag aj.cells Ai.Kids)] (λr1 b1=>r1 = .wu []/\b1=[.var [wI r.Kind,wI r.Num,wS r.Text,.own 3 r.Names.length 1,.own 4 r.Kids.length 5],.dead,.dead,.dat 1 (ag cS r.Names),.dat 5 (ag aj.cells r.Kids)]):=by
 intro Ai eY iP r h;refine mV K.oL (qi ?_);unfold C.oL;rcases n with _|n<;>simp only[G.oL,reduceCtorEq]at h;have z:=pp (pp @F.slices_BinarySearch_string ()) <|pp (pp (pp @F.mG (@cG [1,11] [101])) <|pp (pp @F.iW (@cG [2,12] [102])) ()) <|pp () <|pp () <|pp () <|pp () <|(pp (@yc [] [(0,0),(1,1),(2,2),(3,1),(4,2)] []) <|pp (@yc [] [(0,0),(1,1),(2,2),(3,101),(4,102)] []) ())
 exact rf
theorem F.lu {n:Nat} : ∀{ax jO iP r},G.lu n ax jO iP=some r->dS pZ 236 [.agg (wN ax),.one (wS jO),.agg (wN iP)] (.wu [(true,(wN r.1)),(false,[.c (.lit (.bool r.2))])]):=by
 intro ax jO iP r h;refine aZ K.lu (qi ?_);unfold C.lu;rcases n with _|n<;>simp only[G.lu,reduceCtorEq]at h;have z:=pp (pp @F.gQ <|pp @F.strconv_Itoa ()) <|pp (pp (pp @F.uT (@cG [] [101,102])) <|pp (pp @F.uT (@cG [] [103,104])) <|pp (pp @F.oL (@cH [13,101,102] [105,106])) <|pp (pp @F.uT (@cG [] [112,113])) <|pp (pp @F.iW (@cG [111,14] [114])) ()) <|pp () <|pp (pp (@zh (aj×Int×Bool) _ (λn x=>G.lu.K1 n iP x.1 x.2.1 x.2.2) r (λx=>iy.of [eP 5 107,eP 6 108,eP 8 109,eI 9 x.2.1,(10,.v true (.one (.c (.lit (.bool x.2.2)))))] [(107,.var (wN iP)),(108,.var zN),(109,.var [wI x.1.Kind,wI x.1.Num,wS x.1.Text,.own 110 x.1.Names.length 1,.own 111 x.1.Kids.length 5]),(110,.dat 1 (ag cS x.1.Names)),(111,.dat 5 (ag aj.cells x.1.Kids))])) ()) <|pp (pp (aV @G.lu.K1.eq_1 <|@G.lu.K1.eq_2) ()) <|pp (pp (@dH [] [(107,11),(108,12),(109,13),(110,101),(111,102)] []) ()) <|()
 exact rf
theorem F.sO {n:Nat} : ∀{yu kH oI yH r},G.sO n yu kH oI yH=some r->lD pZ 235 [.agg (wN yu),.one (.ptr 0 0),.one (.ptr 1 0),.one (.ptr 2 0)] [.var [wT kH],.var [wI oI],.var (wN yH)] (λr1 b1=>r1 = .wu [(true,(wN r.1)),(false,[.c (.lit (.bool r.2))])]/\b1=[.var [wT kH],.var [wI oI],.var (wN yH)]):=by
 intro yu kH oI yH r h;refine mV K.sO (qi ?_);unfold C.sO;rcases n with _|n<;>simp only[G.sO,reduceCtorEq]at h;have z:=pp (pp @F.lu ()) <|pp () <|pp () <|pp () <|pp () <|pp () <|(pp (@yc [] [(0,0),(1,1),(2,2)] []) ())
 exact rf
theorem F.gK {n:Nat} : ∀{aA r},G.gK n aA=some r->dS pZ 188 [.one (wS aA)] (.one (.c (.lit (.bool r)))):=by
 intro aA r h;refine aZ K.gK (qi ?_);unfold C.gK;rcases n with _|n<;>simp only[G.gK,reduceCtorEq]at h;have z:=pp () <|pp () <|pp (pp (@qY (Int) _ (λn x=>G.gK.L1 n aA x) r (λx=>iy.of [eS 0 aA,eI 3 x] [])) ()) <|pp () <|pp (pp (aV @G.gK.L1.eq_1 <|@G.gK.L1.eq_2) ()) <|pp (pp (@dH [] [] []) ()) <|()
 exact rf
theorem F.jQ {n:Nat} : ∀{vP r},G.jQ n vP=some r->dS pZ 189 [.one (wT vP)] (.one (.c (.lit (.bool r)))):=by
 intro vP r h;refine aZ K.jQ (qi ?_);unfold C.jQ;rcases n with _|n<;>simp only[G.jQ,reduceCtorEq]at h;have z:=pp (pp @F.gK ()) <|pp () <|pp (pp (@qY (Int) _ (λn x=>G.jQ.L1 n vP x) r (λx=>iy.of [eT 0 vP,eT 8 vP,eI 9 (vP.length:Int),eI 10 x] [])) ()) <|pp () <|pp (pp (aV @G.jQ.L1.eq_1 <|@G.jQ.L1.eq_2) ()) <|pp (pp (@dH [] [] []) ()) <|()
 exact rf
theorem F.gW {n:Nat} : ∀{ax r},G.gW n ax=some r->dS pZ 158 [.agg (wN ax)] (.one (.c (.lit (.bool r)))):=by
 intro ax r h;refine aZ K.gW (qi ?_);unfold C.gW;rcases n with _|n<;>simp only[G.gW,reduceCtorEq]at h;have z:=pp (pp @F.gK <|pp @F.jQ ()) <|pp () <|pp () <|pp (pp (@zh (Unit) _ (λn x=>G.gW.K1 n ax) r (λx=>iy.of [eP 1 101,(20,.v true (.one (.c (.lit (.bool false)))))] [(101,.var (wN ax))])) ()) <|pp (pp (aV @G.gW.K1.eq_1 <|@G.gW.K1.eq_2) ()) <|pp (pp (@dH [] [(101,10)] []) ()) <|()
 exact rf
theorem F.Ky : ∀(n:Nat),∀{ax mD r},G.fU n ax mD=some r->dS pZ 118 [.agg (wN ax),.one (wI mD)] (.wu [(false,[wI r.1]),(false,[wI r.2.1]),(false,[.c (.lit (.bool r.2.2))])]):=by
 intro n
 induction n using dw with|_ n ih=>
 intro ax mD r h;refine aZ K.fU (qi ?_);unfold C.fU;rcases n with _|n<;>simp only[G.fU,reduceCtorEq]at h;have z:=pp (pp ih <|pp @F.gW ()) <|pp () <|pp (pp (@qY (Int×Int×Int) _ (λn x=>G.fU.L1 n ax mD x.1 x.2.1 x.2.2) r (λx=>iy.of [eI 1 mD,eI 4 x.1,eI 5 x.2.1,(20,.v true (.one (wK ax.Kids))),eI 21 (ax.Kids.length:Int),eI 22 x.2.2] [])) ()) <|pp () <|pp (pp (aV @G.fU.L1.eq_1 <|@G.fU.L1.eq_2) ()) <|pp (pp (@dH [] [] []) ()) <|()
 exact rf
theorem F.fU {n:Nat} : ∀{ax:aj} {mD:Int} {r:Int×Int×Bool},G.fU n ax mD=some r->dS pZ 118 [.agg (wN ax),.one (wI mD)] (.wu [(false,[wI r.1]),(false,[wI r.2.1]),(false,[.c (.lit (.bool r.2.2))])]):=F.Ky n
theorem F.aX {n:Nat} : ∀{ax r},G.aX n ax=some r->dS pZ 72 [.agg (wN ax)] (.one (.c (.lit (.bool r)))):=by
 intro ax r h;refine aZ K.aX (qi ?_);unfold C.aX;rcases n with _|n<;>simp only[G.aX,reduceCtorEq]at h;have z:=pp (pp @F.fU ()) <|pp () <|pp () <|pp () <|pp () <|pp () <|()
 exact rf
theorem F.Ea : ∀(n:Nat),∀{ax aC kH oI yH r},G.jv n ax aC kH oI yH=some r->lD pZ 234 [.agg (wN ax),.one (wT aC),.one (.fn 235 [0,1,2])] [.var [wT kH],.var [wI oI],.var (wN yH)] (λr1 b1=>r1 = .wu [(true,(wN r.1)),(false,[.c (.lit (.bool r.2))])]/\b1=[.var [wT kH],.var [wI oI],.var (wN yH)]):=by
 intro n
 induction n using dw with|_ n ih=>
 intro ax aC kH oI yH r h;refine mV K.jv (qi ?_);unfold C.A7;rcases n with _|n<;>simp only[G.jv,reduceCtorEq]at h;have z:=pp (pp @F.gQ ()) <|pp (pp (pp ih (@cG [0,1,2] [])) <|pp (pp @F.sO (@cG [0,1,2] [])) <|pp (pp @F.uT (@cG [] [101,102])) ()) <|pp () <|pp () <|pp () <|pp () <|(pp (@yc [] [(0,0),(1,1),(2,2)] []) <|pp (@yc [101,102] [(0,0),(1,1),(2,2)] []) ())
 exact rf
theorem F.jv {n:Nat} : ∀{ax:aj} {aC:List aO} {kH:List aO} {oI:Int} {yH:aj} {r:aj×Bool},G.jv n ax aC kH oI yH=some r->lD pZ 234 [.agg (wN ax),.one (wT aC),.one (.fn 235 [0,1,2])] [.var [wT kH],.var [wI oI],.var (wN yH)] (λr1 b1=>r1 = .wu [(true,(wN r.1)),(false,[.c (.lit (.bool r.2))])]/\b1=[.var [wT kH],.var [wI oI],.var (wN yH)]):=F.Ea n
theorem F.mX {n:Nat} : ∀{ax IG r},G.mX n ax IG=some r->dS pZ 169 [.agg (wN ax),.one (.c (.lit (.bool IG)))] (.wu [(true,(wN r.1)),(false,[.c (.lit (.bool r.2))])]):=by
 intro ax IG r h;refine aZ K.mX (qi ?_);unfold C.mX;rcases n with _|n<;>simp only[G.mX,reduceCtorEq]at h;have z:=pp (pp @F.aX ()) <|pp () <|pp () <|pp () <|pp () <|pp () <|()
 exact rf
theorem F.iI {n:Nat} : ∀{aC r},G.iI n aC=some r->dS pZ 167 [.one (wT aC)] (.one (.c (.lit (.bool r)))):=by
 intro aC r h;refine aZ K.iI (qi ?_);unfold C.iI;rcases n with _|n<;>simp only[G.iI,reduceCtorEq]at h;have z:=pp (pp @F.gK ()) <|pp () <|pp (pp (@qY (Int) _ (λn x=>G.iI.L1 n aC x) r (λx=>iy.of [eT 8 aC,eI 9 (aC.length:Int),eI 10 x] [])) ()) <|pp () <|pp (pp (aV @G.iI.L1.eq_1 <|@G.iI.L1.eq_2) ()) <|pp (pp (@dH [] [] []) ()) <|()
 exact rf
theorem F.nX {n:Nat} : ∀{ax aC iP r},G.nX n ax aC iP=some r->dS pZ 219 [.agg (wN ax),.one (wT aC),.agg (wN iP)] (.wu [(true,(wN r.1)),(false,[.c (.lit (.bool r.2))])]):=by
 intro ax aC iP r h;refine aZ K.nX (qi ?_);unfold C.nX;rcases n with _|n<;>simp only[G.nX,reduceCtorEq]at h;have z:=pp (pp @F.aX <|pp @F.iI <|pp @F.aP <|pp @F.mX ()) <|pp (pp (pp @F.jv (@cG [11,14,12] [])) ()) <|pp () <|pp () <|pp () <|pp () <|()
 exact rf
theorem F.jR {n:Nat} : ∀{ax aC r},G.jR n ax aC=some r->dS pZ 240 [.agg (wN ax),.one (wT aC)] (.wu [(true,(wN r.1)),(false,[.c (.lit (.bool r.2))])]):=by
 intro ax aC r h;refine aZ K.jR (qi ?_);unfold C.jR;rcases n with _|n<;>simp only[G.jR,reduceCtorEq]at h;have z:=pp (pp @F.gQ ()) <|pp () <|pp (pp (@qY (Int×Int×Int×aO×List aO×List aj) _ (λn x=>G.jR.L1 n aC x.1 x.2.1 x.2.2.1 x.2.2.2.1 x.2.2.2.2.1 x.2.2.2.2.2) r (λx=>iy.of [eP 2 105,eP 4 106,eT 10 aC,eI 11 (aC.length:Int),eI 12 x.1] [(105,.var [wI x.2.1,wI x.2.2.1,wS x.2.2.2.1,wT x.2.2.2.2.1,wK x.2.2.2.2.2]),(106,.var zN)])) ()) <|pp () <|pp (pp (aV @G.jR.L1.eq_1 <|@G.jR.L1.eq_2) ()) <|pp (pp (@dH [] [(105,10),(106,11)] []) <|pp (@dH [] [(105,105),(106,106)] []) ()) <|()
 exact rf
theorem F.rZ {n:Nat} : ∀{ax aC r},G.rZ n ax aC=some r->dS pZ 223 [.agg (wN ax),.one (wT aC)] (.wu [(true,(wN r.1)),(false,[.c (.lit (.bool r.2))])]):=by
 intro ax aC r h;refine aZ K.rZ (qi ?_);unfold C.rZ;rcases n with _|n<;>simp only[G.rZ,reduceCtorEq]at h;have z:=pp (pp @F.aX <|pp @F.iI <|pp @F.jR <|pp @F.aP ()) <|pp () <|pp () <|pp () <|pp () <|pp () <|()
 exact rf
theorem F.jH {n:Nat} : ∀{aA:List aj} {Gt:Int} {UU:Int} {r:List aj},G.jH n aA Gt UU=some r ->
 lD pZ 226 [.one (.own 0 aA.length 5),.one (wI Gt),.one (wI UU)] [.dat 5 (ag aj.cells aA)]
  (λr1 b1=>r1 = .one (.own 1 r.length 5)/\b1=[.dead,.dat 5 (ag aj.cells r)]):=by
 intro s i j r h;rcases n with _|n<;>simp only[G.jH,reduceCtorEq]at h;exact FG.del _ (cb:=80) (by decide) K.jH h
theorem F.slices_Delete_string {n:Nat} : ∀{aA:List aO} {Gt:Int} {UU:Int} {r:List aO},G.slices_Delete_string n aA Gt UU=some r ->
 lD pZ 225 [.one (.own 0 aA.length 1),.one (wI Gt),.one (wI UU)] [.dat 1 (ag cS aA)]
  (λr1 b1=>r1 = .one (.own 1 r.length 1)/\b1=[.dead,.dat 1 (ag cS r)]):=by
 intro s i j r h;rcases n with _|n<;>simp only[G.slices_Delete_string,reduceCtorEq]at h;exact FG.del _ (cb:=16) (by decide) K.slices_Delete_string h
theorem F.jf {n:Nat} : ∀{yu kH oI r},G.jf n yu kH oI=some r->lD pZ 237 [.agg (wN yu),.one (.ptr 0 0),.one (.ptr 1 0)] [.var [wT kH],.var [wI oI]] (λr1 b1=>r1 = .wu [(true,(wN r.1)),(false,[.c (.lit (.bool r.2))])]/\b1=[.var [wT kH],.var [wI oI]]):=by
 intro yu kH oI r h;refine mV K.jf (qi ?_);unfold C.jf;rcases n with _|n<;>simp only[G.jf,reduceCtorEq]at h;have z:=pp (pp @F.gQ ()) <|pp (pp (pp @F.uT (@cG [] [101,102])) <|pp (pp @F.slices_Delete_string (@cG [101] [109])) <|pp (pp @F.jH (@cG [107] [108])) ()) <|pp () <|pp (pp (@zh ((Int×Bool)×aj×List aO) _ (λn x=>G.jf.K1 n x.1 x.2.1 x.2.2) r (λx=>iy.of [eP 4 104,eI 6 x.1.1,eP 8 105] [(0,.var [wT kH]),(1,.var [wI oI]),(104,.var zN),(105,.var [wI x.2.1.Kind,wI x.2.1.Num,wS x.2.1.Text,.own 106 x.2.2.length 1,.own 107 x.2.1.Kids.length 5]),(106,.dat 1 (ag cS x.2.2)),(107,.dat 5 (ag aj.cells x.2.1.Kids))])) ()) <|pp (pp (aV @G.jf.K1.eq_1 <|@G.jf.K1.eq_2) ()) <|pp (pp (@dH [] [(0,0),(1,1),(104,11),(105,12),(106,109),(107,102)] []) <|pp (@dH [] [(0,0),(1,1),(104,11),(105,12),(106,101),(107,102)] []) ()) <|(pp (@yc [106,108] [(0,0),(1,1)] []) <|pp (@yc [] [(0,0),(1,1)] []) ())
 exact rf
theorem F.C9 : ∀(n:Nat),∀{ax aC kH oI r},G.iQ n ax aC kH oI=some r->lD pZ 234 [.agg (wN ax),.one (wT aC),.one (.fn 237 [0,1])] [.var [wT kH],.var [wI oI]] (λr1 b1=>r1 = .wu [(true,(wN r.1)),(false,[.c (.lit (.bool r.2))])]/\b1=[.var [wT kH],.var [wI oI]]):=by
 intro n
 induction n using dw with|_ n ih=>
 intro ax aC kH oI r h;refine mV K.iQ (qi ?_);unfold C.A7;rcases n with _|n<;>simp only[G.iQ,reduceCtorEq]at h;have z:=pp (pp @F.gQ ()) <|pp (pp (pp ih (@cG [0,1] [])) <|pp (pp @F.jf (@cG [0,1] [])) <|pp (pp @F.uT (@cG [] [101,102])) ()) <|pp () <|pp () <|pp () <|pp () <|(pp (@yc [] [(0,0),(1,1)] []) <|pp (@yc [101,102] [(0,0),(1,1)] []) ())
 exact rf
theorem F.iQ {n:Nat} : ∀{ax:aj} {aC:List aO} {kH:List aO} {oI:Int} {r:aj×Bool},G.iQ n ax aC kH oI=some r->lD pZ 234 [.agg (wN ax),.one (wT aC),.one (.fn 237 [0,1])] [.var [wT kH],.var [wI oI]] (λr1 b1=>r1 = .wu [(true,(wN r.1)),(false,[.c (.lit (.bool r.2))])]/\b1=[.var [wT kH],.var [wI oI]]):=F.C9 n
theorem F.lQ {n:Nat} : ∀{ax aC r},G.lQ n ax aC=some r->dS pZ 220 [.agg (wN ax),.one (wT aC)] (.wu [(true,(wN r.1)),(false,[.c (.lit (.bool r.2))])]):=by
 intro ax aC r h;refine aZ K.lQ (qi ?_);unfold C.lQ;rcases n with _|n<;>simp only[G.lQ,reduceCtorEq]at h;have z:=pp (pp @F.aX <|pp @F.iI ()) <|pp (pp (pp @F.iQ (@cG [11,13] [])) ()) <|pp () <|pp () <|pp () <|pp () <|()
 exact rf
theorem F.sQ {n:Nat} : ∀{kC kH r},G.sQ n kC kH=some r->lD pZ 239 [.agg (wN kC),.one (.ptr 0 0)] [.var (wN kH)] (λr1 b1=>r1 = .wu [(true,(wN r.1)),(false,[.c (.lit (.bool r.2))])]/\b1=[.var (wN kH)]):=by
 intro kC kH r h;refine mV K.sQ (qi ?_);unfold C.sQ;rcases n with _|n<;>simp only[G.sQ,reduceCtorEq]at h;have z:=pp (pp @F.aP ()) <|pp () <|pp () <|pp () <|pp () <|pp () <|(pp (@yc [] [(0,0)] []) ())
 exact rf
theorem F.Eb : ∀(n:Nat),∀{ax aC kH r},G.jy n ax aC kH=some r->lD pZ 234 [.agg (wN ax),.one (wT aC),.one (.fn 239 [0])] [.var (wN kH)] (λr1 b1=>r1 = .wu [(true,(wN r.1)),(false,[.c (.lit (.bool r.2))])]/\b1=[.var (wN kH)]):=by
 intro n
 induction n using dw with|_ n ih=>
 intro ax aC kH r h;refine mV K.jy (qi ?_);unfold C.A7;rcases n with _|n<;>simp only[G.jy,reduceCtorEq]at h;have z:=pp (pp @F.gQ ()) <|pp (pp (pp ih (@cG [0] [])) <|pp (pp @F.sQ (@cG [0] [])) <|pp (pp @F.uT (@cG [] [101,102])) ()) <|pp () <|pp () <|pp () <|pp () <|(pp (@yc [] [(0,0)] []) <|pp (@yc [101,102] [(0,0)] []) ())
 exact rf
theorem F.jy {n:Nat} : ∀{ax:aj} {aC:List aO} {kH:aj} {r:aj×Bool},G.jy n ax aC kH=some r->lD pZ 234 [.agg (wN ax),.one (wT aC),.one (.fn 239 [0])] [.var (wN kH)] (λr1 b1=>r1 = .wu [(true,(wN r.1)),(false,[.c (.lit (.bool r.2))])]/\b1=[.var (wN kH)]):=F.Eb n
theorem F.tY {n:Nat} : ∀{ax aC iP r},G.tY n ax aC iP=some r->dS pZ 221 [.agg (wN ax),.one (wT aC),.agg (wN iP)] (.wu [(true,(wN r.1)),(false,[.c (.lit (.bool r.2))])]):=by
 intro ax aC iP r h;refine aZ K.tY (qi ?_);unfold C.tY;rcases n with _|n<;>simp only[G.tY,reduceCtorEq]at h;have z:=pp (pp @F.aX <|pp @F.iI <|pp @F.mX ()) <|pp (pp (pp @F.jy (@cG [11] [])) ()) <|pp () <|pp () <|pp () <|pp () <|()
 exact rf
theorem F.rq {n:Nat} : ∀{jY r},G.rq n jY=some r->dS pZ 168 [.agg [wI jY.Kind,wT jY.Path,wT jY.From,wI jY.Value.Kind,wI jY.Value.Num,wS jY.Value.Text,wT jY.Value.Names,wK jY.Value.Kids]] (.one (.c (.lit (.bool r)))):=by
 intro jY r h;refine aZ K.rq (qi ?_);unfold C.rq;rcases n with _|n<;>simp only[G.rq,reduceCtorEq]at h;have z:=pp (pp @F.iI <|pp @F.aX ()) <|pp () <|pp () <|pp () <|pp () <|pp () <|()
 exact rf
theorem F.slices_Equal_string {n:Nat} : ∀{FV Ik r},G.slices_Equal_string n FV Ik=some r->dS pZ 128 [.one (wT FV),.one (wT Ik)] (.one (.c (.lit (.bool r)))):=by
 intro FV Ik r h;refine aZ K.slices_Equal_string (qi ?_);unfold C.slices_Equal_string;rcases n with _|n<;>simp only[G.slices_Equal_string,reduceCtorEq]at h;have z:=pp () <|pp () <|pp (pp (@qY (Int) _ (λn x=>G.slices_Equal_string.L1 n FV Ik x) r (λx=>iy.of [eT 0 FV,eT 1 Ik,eI 12 (FV.length:Int),eI 13 x] [])) ()) <|pp () <|pp (pp (aV @G.slices_Equal_string.L1.eq_1 <|@G.slices_Equal_string.L1.eq_2) ()) <|pp (pp (@dH [] [] []) ()) <|()
 exact rf
theorem F.rW {n:Nat} : ∀{ax BL aC r},G.rW n ax BL aC=some r->dS pZ 222 [.agg (wN ax),.one (wT BL),.one (wT aC)] (.wu [(true,(wN r.1)),(false,[.c (.lit (.bool r.2))])]):=by
 intro ax BL aC r h;refine aZ K.rW (qi ?_);unfold C.rW;rcases n with _|n<;>simp only[G.rW,reduceCtorEq]at h;have z:=pp (pp @F.rZ <|pp @F.slices_Equal_string <|pp @F.aP <|pp @F.lQ <|pp @F.nX ()) <|pp () <|pp () <|pp () <|pp () <|pp () <|()
 exact rf
theorem F.iD {n:Nat} : ∀{kC nI r},G.iD n kC nI=some r->dS pZ 197 [.one (wS kC),.one (wS nI)] (.one (wI r)):=by
 intro kC nI r h;refine aZ K.iD (qi ?_);unfold C.iD;rcases n with _|n<;>simp only[G.iD,reduceCtorEq]at h;have z:=pp () <|pp () <|pp () <|pp () <|pp () <|pp () <|()
 exact rf
theorem F.strings_Compare {n:Nat} : ∀{kC nI r},G.strings_Compare n kC nI=some r->dS pZ 173 [.one (wS kC),.one (wS nI)] (.one (wI r)):=by
 intro kC nI r h;refine aZ K.strings_Compare (qi ?_);unfold C.strings_Compare;rcases n with _|n<;>simp only[G.strings_Compare,reduceCtorEq]at h;have z:=pp (pp @F.iD ()) <|pp () <|pp () <|pp () <|pp () <|pp () <|()
 exact rf
theorem F.JM : ∀(n:Nat),∀{kC nI r},G.bY n kC nI=some r->dS pZ 248 [.agg (wN kC),.agg (wN nI)] (.one (wI r)):=by
 intro n
 induction n using dw with|_ n ih=>
 intro kC nI r h;refine aZ K.bY (qi ?_);unfold C.bY;rcases n with _|n<;>simp only[G.bY,reduceCtorEq]at h;have z:=pp (pp ih <|pp @F.cmp_Compare_int <|pp @F.strings_Compare ()) <|pp () <|pp (pp (@qY (Int) _ (λn x=>G.bY.L3 n kC nI x) r (λx=>iy.of [eP 2 109,eP 3 110,eI 8 x] [(109,.var (wN kC)),(110,.var (wN nI))])) ()) <|pp (pp (@zh (Int) _ (λn x=>G.bY.K4 n kC nI x) r (λx=>iy.of [eP 2 111,eP 3 112,eI 8 x] [(111,.var (wN kC)),(112,.var (wN nI))])) ()) <|pp (pp (aV @G.bY.L3.eq_1 <|aV @G.bY.L3.eq_2 <|aV @G.bY.K4.eq_1 <|@G.bY.K4.eq_2) ()) <|pp (pp (@dH [] [(109,10),(110,11)] []) <|pp (@dH [] [(111,109),(112,110)] []) <|pp (@dH [] [(109,111),(110,112)] []) ()) <|()
 exact rf
theorem F.bY {n:Nat} : ∀{kC:aj} {nI:aj} {r:Int},G.bY n kC nI=some r->dS pZ 248 [.agg (wN kC),.agg (wN nI)] (.one (wI r)):=F.JM n
theorem F.rX {n:Nat} : ∀{kC nI r},G.rX n kC nI=some r->dS pZ 241 [.agg (wN kC),.agg (wN nI)] (.one (.c (.lit (.bool r)))):=by
 intro kC nI r h;refine aZ K.rX (qi ?_);unfold C.rX;rcases n with _|n<;>simp only[G.rX,reduceCtorEq]at h;have z:=pp (pp @F.bY ()) <|pp () <|pp () <|pp () <|pp () <|pp () <|()
 exact rf
theorem F.qg {n:Nat} : ∀{ax aC iP r},G.qg n ax aC iP=some r->dS pZ 224 [.agg (wN ax),.one (wT aC),.agg (wN iP)] (.wu [(true,(wN r.1)),(false,[.c (.lit (.bool r.2))])]):=by
 intro ax aC iP r h;refine aZ K.qg (qi ?_);unfold C.qg;rcases n with _|n<;>simp only[G.qg,reduceCtorEq]at h;have z:=pp (pp @F.jR <|pp @F.rX <|pp @F.aP ()) <|pp () <|pp () <|pp () <|pp () <|pp () <|()
 exact rf
theorem F.tN {n:Nat} : ∀{ax jY r},G.tN n ax jY=some r->dS pZ 210 [.agg (wN ax),.agg [wI jY.Kind,wT jY.Path,wT jY.From,wI jY.Value.Kind,wI jY.Value.Num,wS jY.Value.Text,wT jY.Value.Names,wK jY.Value.Kids]] (.wu [(true,(wN r.1)),(false,[.c (.lit (.bool r.2))])]):=by
 intro ax jY r h;refine aZ K.tN (qi ?_);unfold C.tN;rcases n with _|n<;>simp only[G.tN,reduceCtorEq]at h;have z:=pp (pp @F.aX <|pp @F.rq <|pp @F.nX <|pp @F.lQ <|pp @F.tY <|pp @F.rW <|pp @F.rZ <|pp @F.qg ()) <|pp () <|pp () <|pp () <|pp () <|pp () <|()
 exact rf
theorem F.fB {n:Nat} : ∀{aK r},G.fB n aK=some r->dS pZ 132 [.one (.c (.sl 8 (ag oh.cells aK)))] (.one (.c (.lit (.bool r)))):=by
 intro aK r h;refine aZ K.fB (qi ?_);unfold C.fB;rcases n with _|n<;>simp only[G.fB,reduceCtorEq]at h;have z:=pp (pp @F.rq ()) <|pp () <|pp (pp (@qY (Int) _ (λn x=>G.fB.L1 n aK x) r (λx=>iy.of [(8,.v true (.one (.c (.sl 8 (ag oh.cells aK))))),eI 9 (aK.length:Int),eI 10 x] [])) ()) <|pp () <|pp (pp (aV @G.fB.L1.eq_1 <|@G.fB.L1.eq_2) ()) <|pp (pp (@dH [] [] []) ()) <|()
 exact rf
theorem F.kR {n:Nat} : ∀{ax aK r},G.kR n ax aK=some r->dS pZ 199 [.agg (wN ax),.one (.c (.sl 8 (ag oh.cells aK)))] (.wu [(true,(wN r.1)),(false,[wI r.2])]):=by
 intro ax aK r h;refine aZ K.kR (qi ?_);unfold C.kR;rcases n with _|n<;>simp only[G.kR,reduceCtorEq]at h;have z:=pp (pp @F.aP <|pp @F.tN ()) <|pp () <|pp (pp (@qY (Int×Int×Int×aO×List aO×List aj) _ (λn x=>G.kR.L1 n aK x.1 x.2.1 x.2.2.1 x.2.2.2.1 x.2.2.2.2.1 x.2.2.2.2.2) r (λx=>iy.of [(1,.v true (.one (.c (.sl 8 (ag oh.cells aK))))),eP 4 105,eP 6 106,(13,.v true (.one (.c (.sl 8 (ag oh.cells aK))))),eI 14 (aK.length:Int),eI 15 x.1] [(105,.var zN),(106,.var [wI x.2.1,wI x.2.2.1,wS x.2.2.2.1,wT x.2.2.2.2.1,wK x.2.2.2.2.2])])) ()) <|pp () <|pp (pp (aV @G.kR.L1.eq_1 <|@G.kR.L1.eq_2) ()) <|pp (pp (@dH [] [(105,11),(106,12)] []) <|pp (@dH [] [(105,105),(106,106)] []) ()) <|()
 exact rf
theorem F.pF {n:Nat} : ∀{ax aK r},G.pF n ax aK=some r->dS pZ 176 [.agg (wN ax),.one (.c (.sl 8 (ag oh.cells aK)))] (.wu [(true,(wN r.1)),(false,[.c (.lit (.bool r.2))])]):=by
 intro ax aK r h;refine aZ K.pF (qi ?_);unfold C.pF;rcases n with _|n<;>simp only[G.pF,reduceCtorEq]at h;have z:=pp (pp @F.aX <|pp @F.fB <|pp @F.kR ()) <|pp () <|pp () <|pp () <|pp () <|pp () <|()
 exact rf
theorem F.jG {n:Nat} : ∀{aA Gs r},G.jG n aA Gs=some r->dS pZ 164 [.one (wS aA),.one (.c (.lit (.int .u8 Gs)))] (.one (wI r)):=by
 intro aA Gs r h;refine aZ K.jG (qi ?_);unfold C.jG;rcases n with _|n<;>simp only[G.jG,reduceCtorEq]at h;have z:=pp () <|pp () <|pp () <|pp () <|pp () <|pp () <|()
 exact rf
theorem F.strings_IndexByte {n:Nat} : ∀{aA Gs r},G.strings_IndexByte n aA Gs=some r->dS pZ 123 [.one (wS aA),.one (.c (.lit (.int .u8 Gs)))] (.one (wI r)):=by
 intro aA Gs r h;refine aZ K.strings_IndexByte (qi ?_);unfold C.strings_IndexByte;rcases n with _|n<;>simp only[G.strings_IndexByte,reduceCtorEq]at h;have z:=pp (pp @F.jG ()) <|pp () <|pp () <|pp () <|pp () <|pp () <|()
 exact rf
theorem F.nJ {n:Nat} : ∀{aA r},G.nJ n aA=some r->dS pZ 77 [.one (wS aA)] (.one (.c (.lit (.bool r)))):=by
 intro aA r h;refine aZ K.nJ (qi ?_);unfold C.nJ;rcases n with _|n<;>simp only[G.nJ,reduceCtorEq]at h;have z:=pp (pp @F.strings_IndexByte ()) <|pp () <|pp (pp (@qY (Int) _ (λn x=>G.nJ.L1 n aA x) r (λx=>iy.of [eS 0 aA,eI 3 x] [])) ()) <|pp () <|pp (pp (aV @G.nJ.L1.eq_1 <|@G.nJ.L1.eq_2) ()) <|pp (pp (@dH [] [] []) ()) <|()
 exact rf
theorem F.iZ {n:Nat} : ∀{aK r},G.iZ n aK=some r->dS pZ 131 [.one (wT aK)] (.one (.c (.lit (.bool r)))):=by
 intro aK r h;refine aZ K.iZ (qi ?_);unfold C.iZ;rcases n with _|n<;>simp only[G.iZ,reduceCtorEq]at h;have z:=pp (pp @F.nJ ()) <|pp () <|pp (pp (@qY (Int) _ (λn x=>G.iZ.L1 n aK x) r (λx=>iy.of [eT 8 aK,eI 9 (aK.length:Int),eI 10 x] [])) ()) <|pp () <|pp (pp (aV @G.iZ.L1.eq_1 <|@G.iZ.L1.eq_2) ()) <|pp (pp (@dH [] [] []) ()) <|()
 exact rf
theorem F.slices_Index_string {n:Nat} : ∀{aA CY r},G.slices_Index_string n aA CY=some r->dS pZ 198 [.one (wT aA),.one (wS CY)] (.one (wI r)):=by
 intro aA CY r h;refine aZ K.slices_Index_string (qi ?_);unfold C.slices_Index_string;rcases n with _|n<;>simp only[G.slices_Index_string,reduceCtorEq]at h;have z:=pp () <|pp () <|pp (pp (@qY (Int) _ (λn x=>G.slices_Index_string.L1 n aA CY x) r (λx=>iy.of [eT 0 aA,eS 1 CY,eI 7 (aA.length:Int),eI 8 x] [])) ()) <|pp () <|pp (pp (aV @G.slices_Index_string.L1.eq_1 <|@G.slices_Index_string.L1.eq_2) ()) <|pp (pp (@dH [] [] []) ()) <|()
 exact rf
theorem F.slices_Contains_string {n:Nat} : ∀{aA CY r},G.slices_Contains_string n aA CY=some r->dS pZ 174 [.one (wT aA),.one (wS CY)] (.one (.c (.lit (.bool r)))):=by
 intro aA CY r h;refine aZ K.slices_Contains_string (qi ?_);unfold C.slices_Contains_string;rcases n with _|n<;>simp only[G.slices_Contains_string,reduceCtorEq]at h;have z:=pp (pp @F.slices_Index_string ()) <|pp () <|pp () <|pp () <|pp () <|pp () <|()
 exact rf
theorem F.pq {n:Nat} : ∀{aK qW r},G.pq n aK qW=some r->dS pZ 137 [.one (wT aK),.one (wS qW)] (.one (.c (.lit (.bool r)))):=by
 intro aK qW r h;refine aZ K.pq (qi ?_);unfold C.pq;rcases n with _|n<;>simp only[G.pq,reduceCtorEq]at h;have z:=pp (pp @F.slices_Contains_string ()) <|pp () <|pp () <|pp () <|pp () <|pp () <|()
 exact rf
theorem F.kF {n:Nat} : ∀{xZ um qW wO r},G.kF n xZ um qW wO=some r->dS pZ 86 [.one (wT xZ),.one (wT um),.one (wS qW),.one (.c (.lit (.bool wO)))] (.one (wI r)):=by
 intro xZ um qW wO r h;refine aZ K.kF (qi ?_);unfold C.kF;rcases n with _|n<;>simp only[G.kF,reduceCtorEq]at h;have z:=pp (pp @F.iZ <|pp @F.nJ <|pp @F.pq ()) <|pp () <|pp () <|pp (pp (@zh (Unit) _ (λn x=>G.kF.K1 n xZ um qW wO) r (λx=>iy.of [eT 0 xZ,eT 1 um,eS 2 qW,(3,.v true (.one (.c (.lit (.bool wO))))),(25,.v true (.one (.c (.lit (.bool false)))))] [])) ()) <|pp (pp (aV @G.kF.K1.eq_1 <|@G.kF.K1.eq_2) ()) <|pp (pp (@dH [] [] []) ()) <|()
 exact rf
theorem F.jJ {n:Nat} : ∀{aA r},G.jJ n aA=some r->dS pZ 71 [.one (wS aA)] (.one (.c (.lit (.bool r)))):=by
 intro aA r h;refine aZ K.jJ (qi ?_);unfold C.jJ;rcases n with _|n<;>simp only[G.jJ,reduceCtorEq]at h;have z:=pp () <|pp () <|pp (pp (@qY (Int) _ (λn x=>G.jJ.L1 n aA x) r (λx=>iy.of [eS 0 aA,eI 3 x] [])) ()) <|pp () <|pp (pp (aV @G.jJ.L1.eq_1 <|@G.jJ.L1.eq_2) ()) <|pp (pp (@dH [] [] []) ()) <|()
 exact rf
end Go.Ab
