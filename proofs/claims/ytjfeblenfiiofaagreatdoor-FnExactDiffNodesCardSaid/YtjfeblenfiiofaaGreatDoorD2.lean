/- The functions of the program that the laws reach: what they compute, the proofs that they do, the laws of the data (part 2). No conditions. -/
import Derived.Test.YtjfeblenfiiofaaGreatDoorD1
set_option linter.unusedVariables false
set_option linter.unusedSimpArgs false
set_option maxRecDepth 100000
set_option maxHeartbeats 4000000
set_option linter.defProp false
set_option linter.unusedSectionVars false
open Bool renaming and_eq_true->af,true_and->bY,false_and->tq
open Go.DataW renaming trod->iZ
open Go.IntKind renaming wrap->ah,i64->qo
open Go.Lib renaming pow10Tab->pG
open Int renaming toNat_natCast->ak
open List renaming mem_cons->aB,drop_of_length_le->aI,mem_cons_self->aK,map_cons->aP,getD_eq_getElem?_getD->aQ,map->aT,getElem?_append_left->aU,take_of_length_le->aW,mem_iff_getElem->acw,getElem?_eq_getElem->aj,getElem?_eq_some_iff->ax,getElem?_append_right->bJ,mem_cons_of_mem->bW,getElem?_map->bn,getElem_mem->bz,getElem?_cons_succ->dH,drop_zero->dI,getElem?_cons_zero->dY,not_mem_nil->gU,all_cons->iD,length_append->iM,take_succ_eq_append_getElem->kR,range->lF,length_cons->lU,getD_cons_succ->nR,length_map->nX,length_set->pM,take_succ_cons->wP
open Nat renaming le_refl->aA,le_trans->cZ,strongRecOn->eU,zero_le->jq
open Option renaming map_eq_some_iff->bI,bind_some->fG
open Option.some renaming injEq->aG
namespace Go.Ab
open Go
theorem T.kM {n v:ai}{p:List gB}(h:Val n=true)(hp:PP p=true)(hv:Val v=true) :
 ∃o,Ev (λf=>G.kM f n p v) (mM o)/\(∀t,DX n p=some t->t=v->o=some n)/\(∀t,DX n p=some t->t≠v->o=none)/\(DX n p=none->o=none):=by
 have sp:=(rC hp).sm (by decide);have hf:=T.fQ p sp.1 (uf h);cases ha:DX n p with
 | none=>rw[ha]at hf;refine⟨none,Ev.up ?_,(λt e=>by cases e),(λt e=>by cases e),λ_=>rfl⟩;simp only[G.kM];exact Ev.bind hf (Ev.cf rfl (Ev.ret _))
 | some t=>
   rw[ha]at hf;obtain⟨b,gs,hb⟩:=T.lW (uf (IK h ha)) (uf hv);cases b with
   | true=>
     refine⟨some n,Ev.up ?_,λt' _ _=>rfl,λt' e hne=>?_,(λe=>by cases e)⟩
     ·simp only[G.kM];exact Ev.bind hf (Ev.ct rfl (Ev.bind gs (Ev.ct rfl (Ev.bind (T.aO MH (lg h)) (Ev.ret _)))))
     ·cases e;exact absurd (hb.1 rfl) hne
   | false=>
     refine⟨none,Ev.up ?_,λt' e he=>?_,λt' _ _=>rfl,(λe=>by cases e)⟩
     ·simp only[G.kM];exact Ev.bind hf (Ev.ct rfl (Ev.bind gs (Ev.cf rfl (Ev.ret _))))
     ·cases e;have:=hb.2 he;cases this
theorem JL {n:ai}(h:Val n=true):(some n).filter Val=some n:=by simp[Option.filter,h]
theorem T.jX {B D:Nat}{n:ai}{o:tC}(hB:B+2<lim)(h:Fine B D n)(ho:VT B D o):Ev (λf=>G.jX f n o) (mM (yX n o)):=by
 refine Ev.up ?_;simp only[G.jX];unfold yX;refine Ev.bind (T.cu (by omega) h) (Ev.ite (λe1=>?_) (λe1=>Ev.ret' (by rw[e1];rfl)));refine Ev.bind (T.nJ (by omega) ho) (Ev.ite (λe2=>?_) (λe2=>Ev.ret' (by rw[e1,e2];rfl)));rw[e1,e2,if_pos (by rfl)];have fo:=E5 e2;have hn:=lg e1;by_cases k1:o.Kind=1
 ·refine Ev.ct (by simpa using k1) ?_;have e:Rl n o.Path o.Value=(applyN n o).filter Val:=by unfold Rl applyN;rw[e1,fo.path,fo.val,if_pos (by rfl),if_pos k1]
  rw[<- e];exact Ev.bind (T.jv Zy hn (rC fo.path) (lg fo.val)) (Ev.ret _)
 refine Ev.cf (by simpa using k1) ?_;by_cases k2:o.Kind=2
 ·refine Ev.ct (by simpa using k2) ?_;have e:YS n o.Path=(applyN n o).filter Val:=by
   unfold YS applyN;rw[e1,fo.path,if_pos (by rfl),if_neg k1,if_pos k2];cases hr:yG n o.Path with
   |none=>rfl
   |some m=>exact(JL (Ig e1 hr)).symm
  rw[<- e];exact Ev.bind (T.iF Zy hn (rC fo.path)) (Ev.ret _)
 refine Ev.cf (by simpa using k2) ?_;by_cases k3:o.Kind=3
 ·refine Ev.ct (by simpa using k3) ?_;have e:abm n o.Path o.Value=(applyN n o).filter Val:=by unfold abm applyN;rw[e1,fo.path,fo.val,if_pos (by rfl),if_neg k1,if_neg k2,if_pos k3]
  rw[<- e];exact Ev.bind (T.nC Zy hn (rC fo.path) (lg fo.val)) (Ev.ret _)
 refine Ev.cf (by simpa using k3) ?_;have hN:applyN n o=(DX n (if o.Kind=6 then o.Path else o.From)).bind λt=>@ite _ (o.Kind=6) _ (@ite _ (t=o.Value) (Classical.propDecidable _) (some n) none) (if o.Kind=5 then vP n o.Path t else N9 n o.From o.Path t):=by unfold applyN;rw[if_neg k1,if_neg k2,if_neg k3]
 by_cases k4:o.Kind=4
 ·refine Ev.ct (by simpa using k4) ?_;have k6:¬o.Kind=6:=by omega
  have k5:¬o.Kind=5:=by omega
  have e:abe n o.From o.Path=(applyN n o).filter Val:=by
   unfold abe;rw[e1,fo.path,fo.from_,if_pos (by rfl),hN,if_neg k6];cases ha:DX n o.From with
   |none=>rfl
   |some t=>simp only[fG,if_neg k6,if_neg k5]
  rw[<- e];exact Ev.bind (T.lV e1 fo.from_ fo.path) (Ev.ret _)
 refine Ev.cf (by simpa using k4) ?_;by_cases k5:o.Kind=5
 ·refine Ev.ct (by simpa using k5) ?_;have k6:¬o.Kind=6:=by omega
  refine Ev.bind (T.lX Zy hn (rC fo.from_)) ?_;have eA:AtM n o.From=DX n o.From:=by unfold AtM;rw[e1,fo.from_,if_pos (by rfl)]
  rw[eA,hN,if_neg k6];cases ha:DX n o.From with
  |none=>exact Ev.cf rfl (Ev.ret _)
  | some t=>have ht:=IK e1 ha;have hA:=T.jv (v:=t) Zy hn (rC fo.path) (lg ht);have e:Rl n o.Path t=(vP n o.Path t).filter Val:=(by unfold Rl;rw[e1,fo.path,ht,if_pos (by rfl)]);rw[e]at hA;simp only[fG,if_neg k6,if_pos k5];exact Ev.ct rfl (Ev.bind hA (Ev.ret _))
 refine Ev.cf (by simpa using k5) ?_;have k6:o.Kind=6:=by have:=fo.k1;have:=fo.k6;omega
 obtain⟨q,g,h1,h2,h3⟩:=T.kM e1 fo.path fo.val;refine(show Ev _ (mM q)from Ev.bind g (Ev.ret _)).eq (congrArg mM ?_);rw[hN,if_pos k6];cases ha:DX n o.Path with
 |none=>rw[h3 ha];rfl
 | some t=>
   simp only[fG,if_pos k6];by_cases ht:t=o.Value
   ·rw[h1 t ha ht,if_pos ht,JL e1]
   ·rw[h2 t ha ht,if_neg ht];rfl
section
def Tot {α:Type}(Q:α->Prop)(F:Nat->Option α):Prop:=∃x,Ev F x/\Q x
section
variable {α β:Type} {Q:α->Prop} {F F':Nat->Option α}
theorem Tot.up (h:Tot Q (λn=>F (n+1))):Tot Q F:=let ⟨x,g,q⟩:=h;⟨x,Ev.up g,q⟩
theorem Tot.ret {x:α}(h:Q x):Tot Q (λ_=>some x):=⟨x,Ev.ret x,h⟩
theorem Tot.bind {P:β->Prop}{h:Nat->Option β}{k:Nat->β->Option α}(h1:Tot P h)(h2:∀x,P x->Tot Q (λn=>k n x)):Tot Q (λn=>Option.bind (h n) (k n)):=by obtain⟨x,g,p⟩:=h1;obtain⟨y,g',q⟩:=h2 x p;exact⟨y,Ev.bind g g',q⟩
theorem Tot.chk {p:Prop}[Decidable p](hp:p)(h:Tot Q F):Tot Q (λn=>Ab.chk p (F n)):=let ⟨x,g,q⟩:=h;⟨x,Ev.chk hp g,q⟩
theorem Tot.ite {c:Bool}(h:c=true->Tot Q F)(h':c=false->Tot Q F'):Tot Q (λn=>cond c (F n) (F' n)):=by
 cases c
 ·exact h' rfl
 ·exact h rfl
theorem Tot.mono {P:α->Prop}(h:Tot P F)(hq:∀x,P x->Q x):Tot Q F:=let ⟨x,g,q⟩:=h;⟨x,g,hq x q⟩
end
theorem ai0 : 60<=lim:=by decide
end
abbrev aif (o:tC):Prop:=∃E,VT 60 E o
theorem Bg.mono {B C:Nat}{p:List gB}(h:Bg B p)(hB:B<=C):Bg C p:=⟨cZ h.1 hB,λs hs=>cZ (h.2 s hs) hB⟩
structure abb (n:ai)(o:tC)(m:ai):Prop where
 vn:Val n=true
 vo:Rn o=true
 app:applyN n o=some m
 vm:Val m=true
theorem applied {n m:ai}{o:tC}(h:yX n o=some m):abb n o m:=by
 unfold yX at h;split at h
 ·rename_i hv;simp only[af]at hv;obtain⟨h1,h2⟩:=Option.filter_eq_some_iff.1 h;exact⟨hv.1,hv.2,h1,h2⟩
 ·cases h
theorem ah0 {n:ai}{o:tC}(hn:Val n=true)(ho:Rn o=true):yX n o=(applyN n o).filter Val:=by unfold yX;rw[hn,ho];rfl
theorem tC.eta (o:tC):tC.mk o.Kind o.Path o.From o.Value=o:=rfl
theorem aip {o:tC}(h:Rn o=true):VT 12 5 o:=by have f:=E5 h;exact⟨rC f.path,rC f.from_,lg f.val⟩
open Classical in
noncomputable def agE : ai->List tC->Option ai
 |n,[]=>some n
 | n,o::r=>match yX n o with
   |some m=>agE m r
   |none=>none
noncomputable def agN : ai->List tC->Nat
 |_,[]=>0
 | n,o::r=>match yX n o with
   |some m=>agN m r+1
   |none=>0
def acU (l:List tC):Bool:=l.all Rn&&decide (l.length<=12)
noncomputable def aeg (n:ai)(l:List tC):Option ai:=if Val n&&acU l then agE n l else none
theorem ahJ {l:List tC} : ∀{n m:ai},Val n=true->agE n l=some m->Val m=true:=by
 induction l with
 |nil=>intro n m hn h;cases h;exact hn
 | cons o r ih=>
   intro n m hn h;rw[agE]at h;cases ha:yX n o with
   |none=>rw[ha]at h;cases h
   |some k=>rw[ha]at h;exact ih (applied ha).vm h
theorem ahh {l:List tC} : ∀{n:ai},agN n l=l.length<->(agE n l).isSome=true:=by
 induction l with
 |nil=>intro n;simp[agN,agE]
 | cons o l ih=>
   intro n;rw[agN,agE];cases yX n o with
   |none=>simp
   |some k=>simp only[lU,Nat.add_right_cancel_iff];exact ih
theorem ag6 {l:List tC}(h:acU l=true):(∀o,o∈l->Rn o=true)/\l.length<=12:=by unfold acU at h;simp only[af,decide_eq_true_eq,List.all_eq_true]at h;exact h
def ag1 (l:List tC):Prop:=l.length<=1000/\∀o,o∈l->aif o
theorem getD_mem {α:Type}{l:List α}{i:Nat}(d:α)(h:i<l.length):l.getD i d∈l:=by rw[jC d h];exact bz h
theorem T.mV.L1 {l:List tC}(h:ag1 l):∀(k i:Nat),i+k=l.length->Ev (λf=>G.mV.L1 f l i) ((l.drop i).all Rn&&decide (l.length<=12)):=by
 obtain⟨hl,ho⟩:=h;intro k
 induction k with
 | zero=>intro i hi;refine Ev.up ?_;simp only[G.mV.L1];refine Ev.cf (by simp;omega) (Ev.ret' ?_);rw[aI (by omega),List.all_nil,bY];simp;omega
 | succ k ih=>
   intro i hi;have hlt:i<l.length:=(by omega);refine Ev.up ?_;simp only[G.mV.L1,ak,tC.eta,iP (show i+1<9223372036854775808 by omega)];obtain⟨E,hf⟩:=ho _ (getD_mem default hlt);refine Ev.ct (by simpa using hlt) (Ev.chk (by omega) (Ev.bind (T.jO ai0 hf) ?_));rw[iJ (default:tC) hlt,iD];refine Ev.ite (λe=>?_) (λe=>?_)
   ·rw[e,bY];exact ih (i+1) (by omega)
   ·rw[e,tq];exact Ev.ret _
theorem T.mV {l:List tC}(h:ag1 l):Ev (λf=>G.mV f l) (acU l):=by refine Ev.up ?_;simp only[G.mV];exact T.mV.L1 h l.length 0 (by omega)
noncomputable def ah9 (N i:Nat)(n:ai)(l:List tC):ai×Int:=
 match agE n l with
 |some m=>(m,(N:Int))
 |none=>(Gn,((i+agN n l:Nat):Int))
theorem T.acp.L1 {l:List tC}(h:acU l=true):∀(k i:Nat) (n:ai),i+k=l.length->Val n=true ->
 Ev (λf=>G.acp.L1 f l i n.Kind n.Num n.Text n.Names n.Kids) (ah9 l.length i n (l.drop i)):=by
 obtain⟨ho,hl⟩:=ag6 h;intro k
 induction k with
 | zero=>intro i n hi hn;refine Ev.up ?_;simp only[G.acp.L1,ai.eta];refine Ev.cf (by simp;omega) (Ev.ret' ?_);rw[aI (by omega)];rfl
 | succ k ih=>
   intro i n hi hn;have hlt:i<l.length:=(by omega);refine Ev.up ?_;simp only[G.acp.L1,ak,tC.eta,ai.eta,iP (show i+1<9223372036854775808 by omega)];have hv:=ho _ (getD_mem default hlt);have hA:=T.jX Zy (lg hn) (aip hv);refine Ev.ct (by simpa using hlt) (Ev.chk (by omega) (Ev.bind hA ?_));rw[iJ (default:tC) hlt];unfold ah9;rw[agE,agN];cases ha:yX n (l.getD i default)with
   |none=>exact Ev.cf rfl (Ev.ret' rfl)
   | some m=>
     refine Ev.ct rfl ((ih (i+1) m (by omega) (applied ha).vm).eq ?_);unfold ah9;simp only;cases agE m (l.drop (i+1))with
     |some k=>rfl
     | none=>refine congrArg (Prod.mk Gn) ?_;show((i+1+agN m (l.drop (i+1)):Nat):Int)=((i+(agN m (l.drop (i+1))+1):Nat):Int);omega
theorem T.acp {n:ai}{l:List tC}(hn:Val n=true)(h:acU l=true):Ev (λf=>G.acp f n l) (ah9 l.length 0 n l):=by refine Ev.up ?_;simp only[G.acp];exact Ev.bind (T.aO MH (lg hn)) (T.acp.L1 h l.length 0 n (by omega) hn)
theorem ahL {n:ai}{o:tC}(hn:Val n=true)(ho:Rn o=true):Ev (λf=>G.kY f n o) (mM (yX n o)):=by rw[ah0 hn ho];exact T.kY hn (E5 ho)
theorem T.aba.L1 {l:List tC}(h:acU l=true):∀(k i:Nat) (n:ai),i+k=l.length->Val n=true ->
 Ev (λf=>G.aba.L1 f l i n.Kind n.Num n.Text n.Names n.Kids) (mM (agE n (l.drop i))):=by
 obtain⟨ho,hl⟩:=ag6 h;intro k
 induction k with
 | zero=>intro i n hi hn;refine Ev.up ?_;simp only[G.aba.L1,ai.eta];refine Ev.cf (by simp;omega) (Ev.ret' ?_);rw[aI (by omega)];rfl
 | succ k ih=>
   intro i n hi hn;have hlt:i<l.length:=(by omega);refine Ev.up ?_;simp only[G.aba.L1,ak,tC.eta,ai.eta,iP (show i+1<9223372036854775808 by omega)];have hv:=ho _ (getD_mem default hlt);refine Ev.ct (by simpa using hlt) (Ev.chk (by omega) (Ev.bind (ahL hn hv) ?_));rw[iJ (default:tC) hlt,agE];cases ha:yX n (l.getD i default)with
   |none=>exact Ev.cf rfl (Ev.ret' rfl)
   |some m=>exact Ev.ct rfl (ih (i+1) m (by omega) (applied ha).vm)
theorem T.aba {B E:Nat}{n:ai}{l:List tC}(hB:B<=lim)(hn:Fine B E n)(hl:ag1 l):Ev (λf=>G.aba f n l) (mM (aeg n l)):=by refine Ev.up ?_;simp only[G.aba];unfold aeg;refine Ev.bind (T.fZ hB hn) (Ev.ite (λe1=>?_) (λe1=>Ev.ret' (by rw[e1];rfl)));refine Ev.bind (T.mV hl) (Ev.ite (λe2=>?_) (λe2=>Ev.ret' (by rw[e1,e2];rfl)));rw[e1,e2,if_pos (by rfl)];exact Ev.bind (T.bC MH (lg e1)) (T.aba.L1 e2 l.length 0 n (by omega) e1)
theorem Bg.big {B:Nat}{p:List gB}(hB:B<=1000)(h:Bg B p):p.length<Ab.big:=by have:=h.1;unfold Ab.big;omega
structure afE (n:ai):Prop where
 kind:n.Kind=4
 asc:Asc n.Names=true
 len:n.Kids.length=n.Names.length
structure Acc (n:ai)(m:Nat):Prop where
 map:afE n
 num:n.Num=0
 text:n.Text=[]
 len:n.Names.length<=m
 small:∀s,s∈n.Names->s.length<=12
theorem Acc.eq {n:ai}{m:Nat}(h:Acc n m):n=ai.mk 4 0 [] n.Names n.Kids:=by obtain⟨⟨h1,_,_⟩,h2,h3,_,_⟩:=h;cases n;simp only at h1 h2 h3;subst h1;subst h2;subst h3;rfl
def YN (p:List gB)(o:tC):tC:=tC.mk o.Kind (p++o.Path) [] o.Value
theorem Me {α:Type}{l:List α}{i:Nat}(d:α)(h:i<l.length):l.getD i d∈l:=by rw[jC d h];exact bz h
theorem TL {α:Type}{l z:List α}{i:Nat}(hi:i<l.length)(hz:z.length=l.length)(ht:z.take i=l.take i):(z.set i l[i]).take (i+1)=l.take (i+1):=by rw[kR (by rw[pM];omega),kR hi,List.getElem_set_self,List.take_set_of_le (aA i),ht]
theorem T.VJ {l:List gB}(hl:l.length<=lim):Ev (λf=>G.gI f l) l:=by
 unfold lim at hl;have L:∀(k i:Nat) (z:List gB),i+k=l.length->z.length=l.length->z.take i=l.take i->Ev (λf=>G.gI.L1 f l i z) l:=by
  intro k
  induction k with
  | zero=>intro i z hi hz ht;refine Ev.up ?_;simp only[G.gI.L1];rw[aW (by omega),aW (by omega)]at ht;exact Ev.cf (decide_eq_false (by omega)) (Ev.ret' ht)
  | succ k ih=>intro i z hi hz ht;have hil:i<l.length:=(by omega);refine Ev.up ?_;simp only[G.gI.L1,ak,iP (show i+1<9223372036854775808 by omega)];refine Ev.ct (decide_eq_true (by omega)) (Ev.chk (by omega) (Ev.chk (by omega) (ih (i+1) _ (by omega) (by rw[pM];exact hz) ?_)));rw[jC _ hil];exact TL hil hz ht
 refine Ev.up ?_;simp only[G.gI];exact Ev.chk (by omega) (L l.length 0 _ (by omega) (by simp) rfl)
theorem T.ach {l:List ai}(hl:l.length<=lim)(hs:∀k,k∈l->Ev (λf=>G.kW f k) k):Ev (λf=>G.jZ f l) l:=by
 unfold lim at hl;have L:∀(k i:Nat) (z:List ai),i+k=l.length->z.length=l.length->z.take i=l.take i->Ev (λf=>G.jZ.L1 f l i z) l:=by
  intro k
  induction k with
  | zero=>intro i z hi hz ht;refine Ev.up ?_;simp only[G.jZ.L1];rw[aW (by omega),aW (by omega)]at ht;exact Ev.cf (decide_eq_false (by omega)) (Ev.ret' ht)
  | succ k ih=>intro i z hi hz ht;have hil:i<l.length:=(by omega);refine Ev.up ?_;simp only[G.jZ.L1,ak,iP (show i+1<9223372036854775808 by omega)];refine Ev.ct (decide_eq_true (by omega)) (Ev.chk (by omega) (Ev.bind (hs _ (Me default hil)) (Ev.chk (by omega) (ih (i+1) _ (by omega) (by rw[pM];exact hz) ?_))));rw[jC _ hil];exact TL hil hz ht
 refine Ev.up ?_;simp only[G.jZ];exact Ev.chk (by omega) (L l.length 0 _ (by omega) (by simp) rfl)
theorem T.VI {B:Nat}(hB:B<=lim):∀{D:Nat} {n:ai},tu B D n->Ev (λf=>G.kW f n) n
 |0,_,h=>h.elim
 | D+1,n,h=>by have h1:=h.names;have h2:=h.kids;refine Ev.up ?_;simp only[G.kW];exact Ev.bind (T.VJ (by omega)) (Ev.bind (T.ach (by omega) (λk hk=>T.VI hB (h.2.2.2.2.2 k hk))) (Ev.ret' (by cases n;rfl)))
theorem T.UO {l:List gB}(hl:l.length<=lim):Ev (λf=>G.gG f l l) true:=by
 unfold lim at hl;have L:∀(k i:Nat),i+k=l.length->Ev (λf=>G.gG.L1 f l l i) true:=by
  intro k
  induction k with
  | zero=>intro i hi;refine Ev.up ?_;simp only[G.gG.L1];exact Ev.cf (decide_eq_false (by omega)) (Ev.ret _)
  | succ k ih=>intro i hi;refine Ev.up ?_;simp only[G.gG.L1,iP (show i+1<9223372036854775808 by omega)];exact Ev.ct (decide_eq_true (by omega)) (Ev.chk (by omega) (Ev.chk (by omega) (Ev.ct (by simp) (ih (i+1) (by omega)))))
 refine Ev.up ?_;simp only[G.gG];exact Ev.cf (by simp) (L l.length 0 (by omega))
theorem T.abG {l:List ai}(hl:l.length<=lim)(hs:∀k,k∈l->Ev (λf=>G.kE f k k) true):Ev (λf=>G.jY f l l) true:=by
 unfold lim at hl;have L:∀(k i:Nat),i+k=l.length->Ev (λf=>G.jY.L1 f l l i) true:=by
  intro k
  induction k with
  | zero=>intro i hi;refine Ev.up ?_;simp only[G.jY.L1];exact Ev.cf (decide_eq_false (by omega)) (Ev.ret _)
  | succ k ih=>intro i hi;refine Ev.up ?_;simp only[G.jY.L1,ak,iP (show i+1<9223372036854775808 by omega)];exact Ev.ct (decide_eq_true (by omega)) (Ev.chk (by omega) (Ev.chk (by omega) (Ev.bind (hs _ (Me default (by omega))) (Ev.ct rfl (ih (i+1) (by omega))))))
 refine Ev.up ?_;simp only[G.jY];exact Ev.cf (by simp) (L l.length 0 (by omega))
theorem T.Qb {B:Nat}(hB:B<=lim):∀{D:Nat} {n:ai},tu B D n->Ev (λf=>G.kE f n n) true
 |0,_,h=>h.elim
 | D+1,n,h=>by have h1:=h.names;have h2:=h.kids;refine Ev.up ?_;simp only[G.kE];exact Ev.cf (by simp) (Ev.cf (by simp) (Ev.ct (by simp) (Ev.bind (T.UO (by omega)) (Ev.ct rfl (Ev.bind (T.abG (by omega) (λk hk=>T.Qb hB (h.2.2.2.2.2 k hk))) (Ev.ct rfl (Ev.ret _)))))))
def mx : Nat:=9223372036854775807
mutual
def YL : ai->Nat
 |ai.mk _ _ _ ns ks=>3+ns.length+qW ks
def qW : List ai->Nat
 |[]=>0
 |n::r=>YL n+qW r
end
theorem Jk (n:ai):YL n=3+n.Names.length+qW n.Kids:=by cases n;rfl
theorem Io {x:Int}(h0 : -9223372036854775808<=x)(h1:x<9223372036854775808):ah .i64 x=x:=by simp only[ah,Go.IntKind.bits,Go.IntKind.signed];simp;omega
theorem T.VG {l:List gB}(h1:l.length<=mx)(h2:∀s,s∈l->s.length<=mx){left:Int}(h0:0<=left)(hl:left<=1048576) :
 ∃r,Ev (λf=>G.fJ f l left) r/\r<=left/\(0<=r->(l.length:Int)<=left-r/\∀s,s∈l->(s.length:Int)<=left):=by
 unfold mx at *;have w0:ah .i64 (left-(l.length:Int))=left-(l.length:Int):=Io (by omega) (by omega);by_cases c:left-(l.length:Int)<0
 ·refine⟨-1,Ev.up ?_,by omega,λh=>by omega⟩;simp only[G.fJ,w0];exact Ev.ct (decide_eq_true c) (Ev.ret _)
 ·have L:∀(k i:Nat) (a:Int),i+k=l.length->0<=a->a<=1048576->∃r,Ev (λf=>G.fJ.L1 f l a i) r/\r<=a/\(0<=r->∀s,s∈l.drop i->(s.length:Int)<=a):=by
   intro k
   induction k with
   | zero=>
     intro i a hi ha ha2;refine⟨a,Ev.up ?_,by omega,λ_ s hs=>?_⟩
     ·simp only[G.fJ.L1];exact Ev.cf (decide_eq_false (by omega)) (Ev.ret _)
     ·rw[aI (by omega)]at hs;cases hs
   | succ k ih=>
     intro i a hi ha ha2;have hil:i<l.length:=(by omega);have hb:=h2 _ (Me default hil);have w1:ah .i64 (a-((l.getD i default).length:Int))=a-((l.getD i default).length:Int):=Io (by omega) (by omega);by_cases c1:a-((l.getD i default).length:Int)<0
     ·refine⟨-1,Ev.up ?_,by omega,λh=>by omega⟩;simp only[G.fJ.L1,ak,w1];exact Ev.ct (decide_eq_true (by omega)) (Ev.chk (by omega) (Ev.ct (decide_eq_true c1) (Ev.ret _)))
     ·obtain⟨r,g,g1,g2⟩:=ih (i+1) (a-((l.getD i default).length:Int)) (by omega) (by omega) (by omega);refine⟨r,Ev.up ?_,by omega,λh s hs=>?_⟩
      ·simp only[G.fJ.L1,ak,w1,iP (show i+1<9223372036854775808 by omega)];exact Ev.ct (decide_eq_true (by omega)) (Ev.chk (by omega) (Ev.cf (decide_eq_false c1) g))
      ·rw[iJ default hil]at hs;rcases aB.1 hs with e|e
       ·rw[e];omega
       ·have:=g2 h s e;omega
  obtain⟨r,g,g1,g2⟩:=L l.length 0 (left-(l.length:Int)) (by omega) (by omega) (by omega);refine⟨r,Ev.up ?_,by omega,λh=>⟨by omega,λs hs=>?_⟩⟩
  ·simp only[G.fJ,w0];exact Ev.cf (decide_eq_false c) g
  ·have:=g2 h s (by rw[dI];exact hs);omega
theorem T.Q7 : ∀(D:Nat) {n:ai} {left:Int},tu mx D n->0<=left->left<=1048576->∃r,Ev (λf=>G.jE f n left) r/\r<=left/\(0<=r->tu 1048576 D n/\(YL n:Int)<=3*(left-r)+3)
 |0,_,_,h,_,_=>h.elim
 | D+1,n,left,h,h0,hl=>by
   obtain⟨hT,hN,hS,hK,_,hR⟩:=h;have S:∀(left:Int),0<=left->left<=1048576->∃r,Ev (λf=>G.jy f n.Kids left) r/\r<=left/\(0<=r->(n.Kids.length:Int)<=left-r/\(∀k,k∈n.Kids->tu 1048576 D k)/\(qW n.Kids:Int)<=3*(left-r)):=by
    intro left h0 hl;have hK':n.Kids.length<=9223372036854775807:=hK;have w0:ah .i64 (left-(n.Kids.length:Int))=left-(n.Kids.length:Int):=Io (by omega) (by omega);by_cases c:left-(n.Kids.length:Int)<0
    ·refine⟨-1,Ev.up ?_,by omega,λh=>by omega⟩;simp only[G.jy,w0];exact Ev.ct (decide_eq_true c) (Ev.ret _)
    ·have L:∀(k i:Nat) (a:Int),i+k=n.Kids.length->0<=a->a<=1048576->∃r,Ev (λf=>G.jy.L1 f n.Kids a i) r/\r<=a/\(0<=r->(∀k,k∈n.Kids.drop i->tu 1048576 D k)/\(qW (n.Kids.drop i):Int)<=3*(a-r)+3*((n.Kids.length:Int)-i)):=by
      intro k
      induction k with
      | zero=>
        intro i a hi ha ha2;refine⟨a,Ev.up ?_,by omega,λ_=>⟨λs hs=>?_,?_⟩⟩
        ·simp only[G.jy.L1];exact Ev.cf (decide_eq_false (by omega)) (Ev.ret _)
        ·rw[aI (by omega)]at hs;cases hs
        ·rw[aI (by omega)];simp only[qW];omega
      | succ k ih=>
        intro i a hi ha ha2;have hil:i<n.Kids.length:=(by omega);obtain⟨q,gq,q1,q2⟩:=T.Q7 D (hR _ (Me default hil)) ha ha2;by_cases c1:q<0
        ·refine⟨-1,Ev.up ?_,by omega,λh=>by omega⟩;simp only[G.jy.L1,ak];exact Ev.ct (decide_eq_true (by omega)) (Ev.chk (by omega) (Ev.bind gq (Ev.ct (decide_eq_true c1) (Ev.ret _))))
        ·obtain⟨r,g,g1,g2⟩:=ih (i+1) q (by omega) (by omega) (by omega);refine⟨r,Ev.up ?_,by omega,λh=>⟨λs hs=>?_,?_⟩⟩
         ·simp only[G.jy.L1,ak,iP (show i+1<9223372036854775808 by omega)];exact Ev.ct (decide_eq_true (by omega)) (Ev.chk (by omega) (Ev.bind gq (Ev.cf (decide_eq_false c1) g)))
         ·rw[iJ default hil]at hs;rcases aB.1 hs with e|e
          ·rw[e];exact(q2 (by omega)).1
          ·exact(g2 h).1 s e
         ·rw[iJ default hil];have h3:=(q2 (by omega)).2;have h4:=(g2 h).2;simp only[qW];omega
     obtain⟨r,g,g1,g2⟩:=L n.Kids.length 0 (left-(n.Kids.length:Int)) (by omega) (by omega) (by omega);refine⟨r,Ev.up ?_,by omega,λh=>⟨by omega,λs hs=>(g2 h).1 s (by rw[dI];exact hs),?_⟩⟩
     rotate_left
     ·have h4:=(g2 h).2;rw[dI]at h4;omega
     simp only[G.jy,w0];exact Ev.cf (decide_eq_false c) g
   have hT':n.Text.length<=9223372036854775807:=hT;have w0:ah .i64 (left-(n.Text.length:Int))=left-(n.Text.length:Int):=Io (by omega) (by omega);by_cases c:left-(n.Text.length:Int)<0
   ·refine⟨-1,Ev.up ?_,by omega,λh=>by omega⟩;simp only[G.jE,w0];exact Ev.ct (decide_eq_true c) (Ev.ret _)
   ·obtain⟨v1,g1,a1,b1⟩:=T.VG hN hS (left:=left-(n.Text.length:Int)) (by omega) (by omega);by_cases c1:v1<0
    ·refine⟨-1,Ev.up ?_,by omega,λh=>by omega⟩;simp only[G.jE,w0];exact Ev.cf (decide_eq_false c) (Ev.bind g1 (Ev.ct (decide_eq_true c1) (Ev.ret _)))
    ·obtain⟨v2,g2,a2,b2⟩:=S v1 (by omega) (by omega);by_cases c2:v2<0
     ·refine⟨-1,Ev.up ?_,by omega,λh=>by omega⟩;simp only[G.jE,w0];exact Ev.cf (decide_eq_false c) (Ev.bind g1 (Ev.cf (decide_eq_false c1) (Ev.bind g2 (Ev.ct (decide_eq_true c2) (Ev.ret _)))))
     ·refine⟨v2,Ev.up ?_,by omega,λh=>?_⟩
      ·simp only[G.jE,w0];exact Ev.cf (decide_eq_false c) (Ev.bind g1 (Ev.cf (decide_eq_false c1) (Ev.bind g2 (Ev.cf (decide_eq_false c2) (Ev.ret _)))))
      ·obtain⟨e1,e2⟩:=b1 (by omega);obtain⟨e3,e4,e5⟩:=b2 (by omega);refine⟨⟨by omega,by omega,λs hs=>by have:=e2 s hs;omega,by omega,trivial,e4⟩,?_⟩;rw[Jk];omega
structure DF (B D:Nat)(o:tC):Prop where
 path:o.Path.length<=B/\∀s,s∈o.Path->s.length<=B
 from_:o.From.length<=B/\∀s,s∈o.From->s.length<=B
 val:tu B D o.Value
theorem DF.mono {B D D':Nat}{o:tC}(h:DF B D o)(hD:D<=D'):DF B D' o:=⟨h.path,h.from_,h.val.mono (aA _) hD⟩
theorem DF.all {B:Nat} : ∀{l:List tC} (D:Nat),(∀o,o∈l->∃D,DF B D o)->∃D',D<=D'/\∀o,o∈l->DF B D' o
 |[],D,_=>⟨D,aA _,λo h=>by cases h⟩
 | o::l,D,h=>by
   obtain⟨d,hd⟩:=h o (aK ..);obtain⟨D',h1,h2⟩:=DF.all (l:=l) (max D d) (λo ho=>h o (bW _ ho));refine⟨D',by omega,λx hx=>?_⟩;rcases aB.1 hx with e|e
   ·rw[e];exact hd.mono (by omega)
   ·exact h2 x e
def mkO (o:tC):Nat:=o.Path.length+o.From.length+YL o.Value
theorem T.afk {D:Nat}{o:tC}{left:Int}(h:DF mx D o)(h0:0<=left)(hl:left<=1048576):∃r,Ev (λf=>G.oM f o left) r/\r<=left/\(0<=r->DF 1048576 D o/\(mkO o:Int)<=3*(left-r)+3):=by
 obtain⟨v1,g1,a1,b1⟩:=T.VG h.path.1 h.path.2 h0 hl;by_cases c1:v1<0
 ·refine⟨-1,Ev.up ?_,by omega,λh=>by omega⟩;simp only[G.oM];exact Ev.bind g1 (Ev.ct (decide_eq_true c1) (Ev.ret _))
 obtain⟨v2,g2,a2,b2⟩:=T.VG h.from_.1 h.from_.2 (left:=v1) (by omega) (by omega);by_cases c2:v2<0
 ·refine⟨-1,Ev.up ?_,by omega,λh=>by omega⟩;simp only[G.oM];exact Ev.bind g1 (Ev.cf (decide_eq_false c1) (Ev.bind g2 (Ev.ct (decide_eq_true c2) (Ev.ret _))))
 obtain⟨v3,g3,a3,b3⟩:=T.Q7 D h.val (left:=v2) (by omega) (by omega);by_cases c3:v3<0
 ·refine⟨-1,Ev.up ?_,by omega,λh=>by omega⟩;simp only[G.oM];exact Ev.bind g1 (Ev.cf (decide_eq_false c1) (Ev.bind g2 (Ev.cf (decide_eq_false c2) (Ev.bind g3 (Ev.ct (decide_eq_true c3) (Ev.ret _))))))
 refine⟨v3,Ev.up ?_,by omega,λh=>⟨⟨?_,?_,(b3 h).1⟩,?_⟩⟩
 ·simp only[G.oM];exact Ev.bind g1 (Ev.cf (decide_eq_false c1) (Ev.bind g2 (Ev.cf (decide_eq_false c2) (Ev.bind g3 (Ev.cf (decide_eq_false c3) (Ev.ret _))))))
 ·obtain⟨e1,e2⟩:=b1 (by omega);exact⟨by omega,λs hs=>by have:=e2 s hs;omega⟩
 ·obtain⟨e1,e2⟩:=b2 (by omega);exact⟨by omega,λs hs=>by have:=e2 s hs;omega⟩
 ·have e1:=(b1 (by omega)).1;have e2:=(b2 (by omega)).1;have e3:=(b3 h).2;unfold mkO;omega
def aea : List tC->Nat
 |[]=>0
 |o::r=>mkO o+1+aea r
theorem T.agy {B D:Nat}{o:tC}(hB:B<=lim)(h:DF B D o):Ev (λf=>G.ry f o) o:=by refine Ev.up ?_;simp only[G.ry];exact Ev.bind (T.VJ (cZ h.path.1 hB)) (Ev.bind (T.VJ (cZ h.from_.1 hB)) (Ev.bind (T.VI hB h.val) (Ev.ret _)))
theorem T.afK {B D:Nat}{o:tC}(hB:B<=lim)(h:DF B D o):Ev (λf=>G.tZ f o o) true:=by refine Ev.up ?_;simp only[G.tZ];exact Ev.cf (by simp) (Ev.bind (T.UO (cZ h.path.1 hB)) (Ev.ct rfl (Ev.bind (T.UO (cZ h.from_.1 hB)) (Ev.ct rfl (Ev.bind (T.Qb hB h.val) (Ev.ct rfl (Ev.ret _)))))))
theorem T.aik {B D:Nat}{l:List tC}(hB:B<=lim)(hl:l.length<=lim)(h:∀o,o∈l->DF B D o):Ev (λf=>G.acO f l l) true:=by
 unfold lim at hl;have L:∀(k i:Nat),i+k=l.length->Ev (λf=>G.acO.L1 f l l i) true:=by
  intro k
  induction k with
  | zero=>intro i hi;refine Ev.up ?_;simp only[G.acO.L1];exact Ev.cf (decide_eq_false (by omega)) (Ev.ret _)
  | succ k ih=>intro i hi;refine Ev.up ?_;simp only[G.acO.L1,ak,iP (show i+1<9223372036854775808 by omega)];exact Ev.ct (decide_eq_true (by omega)) (Ev.chk (by omega) (Ev.chk (by omega) (Ev.bind (T.afK hB (h _ (Me default (by omega)))) (Ev.ct rfl (ih (i+1) (by omega))))))
 refine Ev.up ?_;simp only[G.acO];exact Ev.cf (by simp) (L l.length 0 (by omega))
theorem ae6 : 1048576<=lim:=by decide
def abd (l:List tC):Prop:=l.length<=1048576/\∀o,o∈l->∃D,DF 1048576 D o
theorem T0.jO {B D:Nat}{o:tC}(hB:B<=lim)(h:DF B D o):Ev (λf=>G.jO f o) (Rn o):=by refine Ev.up ?_;simp only[G.jO];unfold Rn;refine Ev.bind (T.jA _ _ _) (Ev.ite (λe1=>?_) (λe1=>Ev.ret' (by rw[e1];rfl)));refine Ev.bind (T.eG _ (TA hB h.path.1 h.path.2)) (Ev.ite (λe2=>?_) (λe2=>Ev.ret' (by rw[e1,e2];rfl)));refine Ev.bind (T.eG _ (TA hB h.from_.1 h.from_.2)) (Ev.ite (λe3=>?_) (λe3=>Ev.ret' (by rw[e1,e2,e3];rfl)));exact Ev.bind (T0.fZ hB h.val) (Ev.ret' (by rw[e1,e2,e3];rfl))
theorem T0.nJ {B D:Nat}{o:tC}(hB:B<=lim)(h:DF B D o):Ev (λf=>G.nJ f o) (Rn o):=by refine Ev.up ?_;simp only[G.nJ];unfold Rn;refine Ev.ite (λe0=>?_) (λe0=>Ev.ret' (by rw[e0];rfl));refine Ev.ite (λe1=>?_) (λe1=>Ev.ret' (by rw[e0,e1];rfl));refine Ev.bind (T.dS _ (TA hB h.path.1 h.path.2)) (Ev.ite (λe2=>?_) (λe2=>Ev.ret' (by rw[e0,e1,e2];rfl)));refine Ev.bind (T.dS _ (TA hB h.from_.1 h.from_.2)) (Ev.ite (λe3=>?_) (λe3=>Ev.ret' (by rw[e0,e1,e2,e3];rfl)));exact Ev.bind (T0.cu hB h.val) (Ev.ret' (by rw[e0,e1,e2,e3];rfl))
theorem T0.lS.L1 {l:List tC}(h:abd l):∀(k i:Nat),i+k=l.length->Ev (λf=>G.lS.L1 f l i) ((l.drop i).all Rn):=by
 obtain⟨hl,ho⟩:=h;intro k
 induction k with
 | zero=>intro i hi;refine Ev.up ?_;simp only[G.lS.L1];refine Ev.cf (by simp;omega) (Ev.ret' ?_);rw[aI (by omega)];rfl
 | succ k ih=>
   intro i hi;have hlt:i<l.length:=(by omega);refine Ev.up ?_;simp only[G.lS.L1,ak,tC.eta,iP (show i+1<9223372036854775808 by omega)];obtain⟨E,hf⟩:=ho _ (getD_mem default hlt);refine Ev.ct (by simpa using hlt) (Ev.chk (by omega) (Ev.bind (T0.nJ ae6 hf) ?_));rw[iJ (default:tC) hlt,iD];refine Ev.ite (λe=>?_) (λe=>?_)
   ·rw[e,bY];exact ih (i+1) (by omega)
   ·rw[e,tq];exact Ev.ret _
theorem T0.lS {l:List tC}(h:abd l):Ev (λf=>G.lS f l) (acU l):=by
 refine Ev.up ?_;simp only[G.lS];have hL:=T0.lS.L1 h l.length 0 (by omega);unfold acU;refine Ev.ite (λe=>Ev.ret' ?_) (λe=>?_)
 ·have:¬l.length<=12:=by simp at e;omega
  simp[this]
 ·have:l.length<=12:=by simp at e;omega
  simp only[this,decide_true,Bool.and_true];exact hL
theorem T0.mV.L1 {l:List tC}(h:abd l):∀(k i:Nat),i+k=l.length->Ev (λf=>G.mV.L1 f l i) ((l.drop i).all Rn&&decide (l.length<=12)):=by
 obtain⟨hl,ho⟩:=h;intro k
 induction k with
 | zero=>intro i hi;refine Ev.up ?_;simp only[G.mV.L1];refine Ev.cf (by simp;omega) (Ev.ret' ?_);rw[aI (by omega),List.all_nil,bY];simp;omega
 | succ k ih=>
   intro i hi;have hlt:i<l.length:=(by omega);refine Ev.up ?_;simp only[G.mV.L1,ak,tC.eta,iP (show i+1<9223372036854775808 by omega)];obtain⟨E,hf⟩:=ho _ (getD_mem default hlt);refine Ev.ct (by simpa using hlt) (Ev.chk (by omega) (Ev.bind (T0.jO ae6 hf) ?_));rw[iJ (default:tC) hlt,iD];refine Ev.ite (λe=>?_) (λe=>?_)
   ·rw[e,bY];exact ih (i+1) (by omega)
   ·rw[e,tq];exact Ev.ret _
theorem T0.mV {l:List tC}(h:abd l):Ev (λf=>G.mV f l) (acU l):=by refine Ev.up ?_;simp only[G.mV];exact T0.mV.L1 h l.length 0 (by omega)
section
theorem WB : ∀(m:Nat) (k:Int) (out:gB),k.toNat<=m->0<=k->k<4611686018427387904->out.length+k.toNat<9223372036854775806->∃s,Ev (λf=>G.gu.L1 f k out) s/\s.length<=9223372036854775807
 | m,k,out,hm,h0,h1,hl=>by
   by_cases hk:0<k
   ·have e1:Int.tdiv k 10=k/10:=(by rw[Int.tdiv_eq_ediv_of_nonneg h0]);have w1:ah .i64 (Int.tdiv k 10)=k/10:=by rw[e1];exact Io (by omega) (by omega)
    match m with
    |0=>omega
    | m+1=>obtain⟨s,hs,hl2⟩:=WB m (k/10) ([UInt8.ofNat (ah .u8 ((ah .i64 (48+(Int.tmod k 10))))).toNat]++out) (by omega) (by omega) (by omega) (by simp;omega);refine⟨s,Ev.up ?_,hl2⟩;simp only[G.gu.L1,w1];exact Ev.ct (decide_eq_true hk) (Ev.chk (by decide) (Ev.chk (by simp only[maxLen];omega) hs))
   ·refine⟨[109]++out,Ev.up ?_,by simp;omega⟩;simp only[G.gu.L1];exact Ev.cf (decide_eq_false hk) (Ev.chk (by simp only[maxLen];omega) (Ev.ret _))
theorem ae9 {k:Int}(h0:0<=k)(h1:k<4611686018427387904):∃s,Ev (λf=>G.gu f k) s:=by
 by_cases hk:k<=0
 ·refine⟨[109,48],Ev.up ?_⟩;simp only[G.gu];exact Ev.ct (decide_eq_true hk) (Ev.ret _)
 ·obtain⟨s,hs,_⟩:=WB k.toNat k [] (aA _) h0 h1 (by simp;omega);refine⟨s,Ev.up ?_⟩;simp only[G.gu];exact Ev.cf (decide_eq_false hk) hs
noncomputable def tx (k:Int):gB:=open Classical in if h:∃s,Ev (λf=>G.gu f k) s then h.choose else []
theorem aaS {k:Int}(h:ZN k):Ev (λf=>G.gu f k) (tx k):=by have hx:=ae9 h.1 h.2;unfold tx;rw[dif_pos hx];exact hx.choose_spec
noncomputable def Gm : List gB->Int->List gB
 |[],_=>[]
 |_::r,k=>tx k::Gm r (k+1)
mutual
noncomputable def Kq : ai->Int->ai×Int
 |ai.mk _ _ _ ns ks,k=>(ai.mk k (k+1) (tx (k+2)) (Gm ns (k+3)) (vC ks (k+3+ns.length)).1,(vC ks (k+3+ns.length)).2)
noncomputable def vC : List ai->Int->List ai×Int
 |[],k=>([],k)
 |n::r,k=>((Kq n k).1::(vC r (Kq n k).2).1,(vC r (Kq n k).2).2)
end
theorem ML : ∀(l:List gB) (k:Int),(Gm l k).length=l.length
 |[],_=>rfl
 |_::r,k=>by simp[Gm,ML r]
mutual
theorem Qv : ∀(n:ai) (k:Int),(Kq n k).2=k+YL n
 |ai.mk _ _ _ ns ks,k=>by simp only[Kq,YL,Qw ks];omega
theorem Qw : ∀(l:List ai) (k:Int),(vC l k).2=k+qW l
 |[],k=>by simp[vC,qW]
 |n::r,k=>by simp only[vC,qW,Qw r,Qv n];omega
end
theorem Jj : ∀(l:List ai) (k:Int),(vC l k).1.length=l.length
 |[],_=>rfl
 |_::r,k=>by simp[vC,Jj r]
structure MT (mt:Fq)(fS fN tS tN:Nat):Prop where
 s:mt fS=some (tS,1,[.str 0])
 n:mt fN=some (tN,5,[.int 0,.int 1,.str 2,.sub 3 fS,.sub 4 fN])
section
variable {mt:Fq} {fS fN tS tN:Nat}
theorem Wy (M:MT mt fS fN tS tN):∀(l:List gB) {k:Int},0<=k->k+l.length<4611686018427387904->JZ mt tx (.L [.str 0] (l.map cS) k ((Gm l k).map cS) (k+l.length))
 |[],k,_,_=>by simpa[Gm]using JZ.l0
 | s::r,k,h0,h1=>by
   have h2:=Wy M r (k:=k+1) (by omega) (by simp at h1;omega);simp only[aP,Gm];refine .l1 (k1:=k+1) (.es ⟨h0,by simp at h1;omega⟩ ⟨by omega,by simp at h1;omega⟩ (by simp[cS]) ?_) ?_
   ·simpa[cS]using JZ.e0
   ·have e:k+1+(r.length:Int)=k+((s::r).length:Nat):=(by simp;omega);rw[e]at h2;exact h2
theorem KH (M:MT mt fS fN tS tN)(l:List gB){k:Int}(h0:0<=k)(h1:k+l.length<4611686018427387904):JZ mt tx (.C fS (.sl 1 (l.map cS)) k (.sl 1 ((Gm l k).map cS)) (k+l.length)):=
 .c M.s ⟨h0,by omega⟩ (Wy M l h0 h1)
mutual
theorem abT (M:MT mt fS fN tS tN):∀(n:ai) {k:Int},0<=k->k+YL n<4611686018427387904->JZ mt tx (.E [.int 0,.int 1,.str 2,.sub 3 fS,.sub 4 fN] n.cells k (Kq n k).1.cells (Kq n k).2)
 | ai.mk a b c ns ks,k,h0,h1=>by simp only[YL]at h1;have h2:=MM M ks (k:=k+3+ns.length) (by omega) (by omega);have h3:=KH M ns (k:=k+3) (by omega) (by omega);rw[ai.kU,ai.kU];simp only[Kq];refine .ei ⟨h0,by omega⟩ ⟨by omega,by omega⟩ (by simp) (.ei ⟨by omega,by omega⟩ ⟨by omega,by omega⟩ (by simp) (.es ⟨by omega,by omega⟩ ⟨by omega,by omega⟩ (by simp) ?_));rw[show k+1+1=k+2 by omega,show k+2+1=k+3 by omega];refine .ef (c:=.sl 1 (ns.map cS)) (by simp) h3 (.ef (c:=.sl 5 (ks.map ai.cells)) (by simp) (.c M.n ⟨by omega,by omega⟩ h2) ?_);simpa using JZ.e0
theorem MM (M:MT mt fS fN tS tN):∀(l:List ai) {k:Int},0<=k->k+qW l<4611686018427387904->JZ mt tx (.L [.int 0,.int 1,.str 2,.sub 3 fS,.sub 4 fN] (l.map ai.cells) k ((vC l k).1.map ai.cells) (vC l k).2)
 |[],k,_,_=>by simpa[vC]using JZ.l0
 | n::r,k,h0,h1=>by simp only[qW]at h1;have h2:=abT M n (k:=k) h0 (by omega);have h3:=MM M r (k:=(Kq n k).2) (by rw[Qv];omega) (by rw[Qv];omega);simp only[aP,vC];exact .l1 h2 h3
end
theorem aal (M:MT mt fS fN tS tN)(l:List ai){k:Int}(h0:0<=k)(h1:k+qW l<4611686018427387904):JZ mt tx (.C fN (.sl 5 (l.map ai.cells)) k (.sl 5 ((vC l k).1.map ai.cells)) (vC l k).2):=
 .c M.n ⟨h0,by omega⟩ (MM M l h0 h1)
end
section
variable {P:Program} {tS tN:Nat}
theorem EK (h1:qJ P tS=1)(l:List gB):NZ P tS (.sl 1 (l.map cS)):=
 have hx:∀(i j sz':Nat) (es':List (List Cell)),¬((l.map cS).getD i [])[j]? = some (.sl sz' es'):=λi j sz' es' h=>by
  simp only[aQ,bn]at h;cases hl:l[i]? with
  |none=>rw[hl]at h;simp at h
  |some s=>rw[hl]at h;cases j<;>simp[cS]at h
 .sl _ _ _ (λ_=>0) h1 (λi j sz' es' h=>absurd h (hx i j sz' es')) (λi j sz' es' h=>absurd h (hx i j sz' es'))
mutual
theorem aaT (h1:qJ P tS=1)(h2:qJ P tN=5)(h3:kP P tN=[(3,tS),(4,tN)]):∀(n:ai) (j sz':Nat) (es':List (List Cell)),n.cells[j]? = some (.sl sz' es')->(j,if j=3 then tS else tN)∈kP P tN/\NZ P (if j=3 then tS else tN) (.sl sz' es')
 | ai.mk a b c ns ks,j,sz',es',h=>by
   have h4:=Fj h1 h2 h3 ks;rw[ai.kU]at h
   match j,h with
   |0,h=>simp at h
   |1,h=>simp at h
   |2,h=>simp at h
   | 3,h=>simp only[dH,dY,aG,Cell.sl.injEq]at h;obtain⟨rfl,rfl⟩:=h;exact⟨by simp[h3],by simpa using EK h1 ns⟩
   | 4,h=>simp only[dH,dY,aG,Cell.sl.injEq]at h;obtain⟨rfl,rfl⟩:=h;exact⟨by simp[h3],by simpa using h4⟩
   |j+5,h=>simp at h
theorem Fj (h1:qJ P tS=1)(h2:qJ P tN=5)(h3:kP P tN=[(3,tS),(4,tN)]):∀(l:List ai),NZ P tN (.sl 5 (l.map ai.cells))
 | []=>have hx:∀(i j sz':Nat) (es':List (List Cell)),¬(([]:List (List Cell)).getD i [])[j]? = some (.sl sz' es'):=λi j sz' es' h=>by simp at h
   .sl _ _ _ (λ_=>0) h2 (λi j sz' es' h=>absurd h (hx i j sz' es')) (λi j sz' es' h=>absurd h (hx i j sz' es'))
 | n::r=>by
   have a:=aaT h1 h2 h3 n;have b:=Fj h1 h2 h3 r;cases b with
   |sl _ _ _ t hs b1 b2=>
   have key:∀(i j sz':Nat) (es':List (List Cell)),(((n::r).map ai.cells).getD i [])[j]? = some (.sl sz' es')->(j,if j=3 then tS else tN)∈kP P tN/\NZ P (if j=3 then tS else tN) (.sl sz' es'):=by
    intro i j sz' es' h;cases i with
    |zero=>exact a j sz' es' (by simpa using h)
    | succ i=>
      have h':((r.map ai.cells).getD i [])[j]? = some (.sl sz' es'):=(by simpa using h);have c1:=b1 i j sz' es' h';have c2:=b2 i j sz' es' h';rw[h3]at c1;simp only[aB,Prod.mk.injEq,gU,or_false]at c1;rcases c1 with⟨rfl,e⟩|⟨rfl,e⟩
      ·rw[e]at c2;exact⟨by simp[h3],by simpa using c2⟩
      ·rw[e]at c2;exact⟨by simp[h3],by simpa using c2⟩
   exact .sl _ _ _ (λj=>if j=3 then tS else tN) h2 (λi j sz' es' h=>(key i j sz' es' h).1) (λi j sz' es' h=>(key i j sz' es' h).2)
end
end
end
theorem SY : ∀(l:List gB) (k:Int) {i:Nat},i<l.length->(Gm l k).getD i default=tx (k+i)
 |[],_,i,h=>by simp at h
 |s::r,k,0,_=>by simp[Gm]
 | s::r,k,i+1,h=>by
   have:=SY r (k+1) (i:=i) (by simpa using h);simp only[Gm,nR,this]
   congr 1
   omega
theorem OQ : ∀(l:List ai) (k:Int) {i:Nat},i<l.length->(vC l k).1.getD i default=(Kq (l.getD i default) (k+qW (l.take i))).1
 |[],_,i,h=>by simp at h
 |n::r,k,0,_=>by simp[vC,qW]
 | n::r,k,i+1,h=>by
   have:=OQ r (Kq n k).2 (i:=i) (by simpa using h);simp only[vC,nR,this,wP,qW]
   congr 2
   rw[Qv];omega
theorem OT : ∀(l:List ai) {i:Nat},i<l.length->qW (l.take (i+1))=qW (l.take i)+YL (l.getD i default)
 |[],i,h=>by simp at h
 |n::r,0,_=>by simp[qW]
 | n::r,i+1,h=>by have:=OT r (i:=i) (by simpa using h);simp only[wP,qW,this,nR];omega
theorem WA : ∀(l:List ai) (i:Nat),qW (l.take i)<=qW l
 |[],i=>by simp[qW]
 |n::r,0=>by simp[qW]
 |n::r,i+1=>by have:=WA r i;simp only[wP,qW];omega
theorem abS (n:ai)(k:Int):(Kq n k).1=ai.mk k (k+1) (tx (k+2)) (Gm n.Names (k+3)) (vC n.Kids (k+3+n.Names.length)).1:=by cases n;rfl
theorem T.Sz {l:List gB}{k:Int}(h0:0<=k)(h1:k+l.length<4611686018427387904):Ev (λf=>G.fE f (Gm l k) k) (k+l.length):=by
 have L:∀(m i:Nat),i+m=l.length->Ev (λf=>G.fE.L1 f (Gm l k) (k+i) i) (k+l.length):=by
  intro m
  induction m with
  | zero=>intro i hi;refine Ev.up ?_;simp only[G.fE.L1,ML];exact Ev.cf (decide_eq_false (by omega)) (Ev.ret' (by omega))
  | succ m ih=>intro i hi;have w1:ah .i64 (k+i+1)=k+((i+1:Nat):Int):=(by rw[Io (by omega) (by omega)];omega);refine Ev.up ?_;simp only[G.fE.L1,ML,ak,w1,iP (show i+1<9223372036854775808 by omega),SY l k (show i<l.length by omega)];exact Ev.ct (decide_eq_true (by omega)) (Ev.chk (by omega) (Ev.bind (aaS ⟨by omega,by omega⟩) (Ev.ct (by simp) (ih (i+1) (by omega)))))
 refine Ev.up ?_;simp only[G.fE];have:=L l.length 0 (by omega);simpa using this
def VU (n:ai):Prop:=∀k:Int,0<=k->k+qW n.Kids<4611686018427387904->Ev (λf=>G.fV f (vC n.Kids k).1 k) (k+qW n.Kids)
theorem T.MB {l:List ai}(hl:∀n,n∈l->VU n){k:Int}(h0:0<=k)(h1:k+qW l<4611686018427387904)(hlen:l.length<4611686018427387904):Ev (λf=>G.fV f (vC l k).1 k) (k+qW l):=by
 have L:∀(m i:Nat),i+m=l.length->Ev (λf=>G.fV.L1 f (vC l k).1 (k+qW (l.take i)) i) (k+qW l):=by
  intro m
  induction m with
  | zero=>intro i hi;refine Ev.up ?_;simp only[G.fV.L1,Jj];exact Ev.cf (decide_eq_false (by omega)) (Ev.ret' (by rw[aW (by omega)]))
  | succ m ih=>intro i hi;have hil:i<l.length:=(by omega);have hs:=OT l hil;have hle:=WA l (i+1);have hme:VU (l.getD i default):=hl _ (Me default hil);have ht:=Jk (l.getD i default);generalize hq:l.getD i default=q at hs hme ht;have w1:ah .i64 (k+qW (l.take i)+1)=k+qW (l.take i)+1:=Io (by omega) (by omega);have w2:ah .i64 (k+qW (l.take i)+1+1)=k+qW (l.take i)+2:=(by rw[Io (by omega) (by omega)];omega);have w3:ah .i64 (k+qW (l.take i)+2+1)=k+qW (l.take i)+3:=(by rw[Io (by omega) (by omega)];omega);have e1:=T.Sz (l:=q.Names) (k:=k+qW (l.take i)+3) (by omega) (by omega);have e2:=hme (k+qW (l.take i)+3+q.Names.length) (by omega) (by omega);have e3:=ih (i+1) (by omega);have e4:k+((qW (l.take (i+1)):Nat):Int)=k+qW (l.take i)+3+q.Names.length+qW q.Kids:=(by omega);rw[e4]at e3;refine Ev.up ?_;simp only[G.fV.L1,Jj,ak,OQ l k hil,hq,abS,w1,w2,w3,iP (show i+1<9223372036854775808 by omega)];refine Ev.ct (decide_eq_true (by omega)) (Ev.chk (by omega) (Ev.cf (by simp) (Ev.chk (by omega) (Ev.cf (by simp) (Ev.chk (by omega) (Ev.bind (aaS ⟨by omega,by omega⟩) (Ev.ct (by simp) (Ev.chk (by omega) (Ev.bind e1 (Ev.cf (decide_eq_false (by omega)) (Ev.chk (by omega) (Ev.bind e2 (Ev.cf (decide_eq_false (by omega)) e3)))))))))))))
 refine Ev.up ?_;simp only[G.fV];have:=L l.length 0 (by omega);simpa[qW]using this
theorem MN : ∀(l:List ai),l.length<=qW l
 |[]=>by simp
 |n::r=>by have:=MN r;simp only[qW,Jk n,lU];omega
mutual
theorem aeM : ∀(n:ai),VU n
 |ai.mk _ _ _ _ ks=>λk h0 h1=>T.MB (U3 ks) h0 h1 (by have:=MN ks;have h2:k+(qW ks:Int)<4611686018427387904:=h1;omega)
theorem U3 : ∀(l:List ai),∀n,n∈l->VU n
 |[],n,h=>by cases h
 | m::r,n,h=>by
   rcases aB.1 h with e|e
   ·rw[e];exact aeM m
   ·exact U3 r n e
end
theorem T.XO (l:List ai){k:Int}(h0:0<=k)(h1:k+qW l<4611686018427387904):Ev (λf=>G.fV f (vC l k).1 k) (k+qW l):=
 T.MB (U3 l) h0 h1 (by have:=MN l;omega)
noncomputable def mkRoot (n:ai)(k:Int):ai:=ai.mk n.Kind n.Num n.Text (Gm n.Names k) (vC n.Kids (k+n.Names.length)).1
def NW (n:ai):Nat:=n.Names.length+qW n.Kids
theorem Tv {n:ai}(h:Parts n=true):n.Names.length<=6:=by
 unfold Parts at h;simp only[af,Bool.or_eq_true,beq_iff_eq]at h;obtain⟨⟨_,h1⟩,h2⟩:=h;rcases h1 with h1|h1
 ·rw[h1]at h2;simp at h2;omega
 ·omega
theorem Tc : ∀(l:List ai) (f:ai->Nat),(∀n,n∈l->YL n<=9*f n)->qW l<=9*(l.map f).sum
 |[],f,_=>by simp[qW]
 | n::r,f,h=>by have h1:=Tc r f (λn hn=>h n (bW _ hn));have h2:=h n (aK ..);simp only[qW,aP,List.sum_cons];omega
theorem O7 : ∀(d:Nat) (n:ai),Shape d n=true->YL n<=9*Cnt d n
 |0,n,h=>by simp[Shape]at h
 | d+1,n,h=>by have h1:=Tv (nO h);have h2:=Tc n.Kids (Cnt d) (λk hk=>O7 d k (oL h k hk));rw[Jk];simp only[Cnt];omega
theorem acj {n:ai}(h:Val n=true):NW n<=400:=by unfold Val at h;simp only[af,decide_eq_true_eq]at h;have:=O7 5 n h.1;rw[Jk]at this;unfold NW;omega
section
abbrev AB (n:ai):List Cell:=[.lit (.int .i64 n.Kind),.lit (.int .i64 n.Num),.str n.Text,.sl 1 (n.Names.map cS),.sl 5 (n.Kids.map ai.cells)]
abbrev WH (o:tC):List Cell:=[.lit (.int .i64 o.Kind),.sl 1 (o.Path.map cS),.sl 1 (o.From.map cS),.lit (.int .i64 o.Value.Kind),.lit (.int .i64 o.Value.Num),.str o.Value.Text,.sl 1 (o.Value.Names.map cS),.sl 5 (o.Value.Kids.map ai.cells)]
section
variable {mt:Fq} {sb:Xg} {fS fN tS tN fM:Nat} {ty:Nat->Nat}
theorem Q3 (M:MT mt fS fN tS tN)(h3:ty 3=tS)(h4:ty 4=tN)(n:ai){k:Int}(h0:0<=k)(h1:k+NW n<4611686018427387904):SR mt sb tx ty [.sl 3 fS,.sl 4 fN] (AB n) k (AB (mkRoot n k)) (k+NW n):=by
 unfold NW at *;have e1:=KH M n.Names (k:=k) h0 (by omega);have e2:=aal M n.Kids (k:=k+n.Names.length) (by omega) (by omega);refine .sl (c:=.sl 1 (n.Names.map cS)) rfl ⟨_,_,by rw[h3];exact M.s⟩ e1 (.sl (c:=.sl 5 (n.Kids.map ai.cells)) rfl ⟨_,_,by rw[h4];exact M.n⟩ e2 ?_);have e:k+((n.Names.length+qW n.Kids:Nat):Int)=(vC n.Kids (k+n.Names.length)).2:=by rw[Qw];omega
 rw[e];simpa[AB,mkRoot]using SR.nil
end
section
variable {P:Program} {tS tN:Nat}
theorem RQ (h1:qJ P tS=1)(h2:qJ P tN=5)(h3:kP P tN=[(3,tS),(4,tN)])(n:ai)(a b:Nat)(j sz:Nat)(es:List (List Cell))(h:(AB n)[j]? = some (.sl sz es)):∃r,r∈[(3,tS,a),(4,tN,b)]/\r.1=j/\NZ P r.2.1 (.sl sz es):=by
 match j,h with
 | 3,h=>simp only[AB,dH,dY,aG,Cell.sl.injEq]at h;obtain⟨rfl,rfl⟩:=h;exact⟨(3,tS,a),by simp,rfl,EK h1 _⟩
 | 4,h=>simp only[AB,dH,dY,aG,Cell.sl.injEq]at h;obtain⟨rfl,rfl⟩:=h;exact⟨(4,tN,b),by simp,rfl,Fj h1 h2 h3 _⟩
 |0,h=>simp[AB]at h
 |1,h=>simp[AB]at h
 |2,h=>simp[AB]at h
 |j+5,h=>simp[AB]at h
theorem ac2 (h1:qJ P tS=1)(h2:qJ P tN=5)(h3:kP P tN=[(3,tS),(4,tN)])(o:tC)(a b c d:Nat)(j sz:Nat)(es:List (List Cell))(h:(WH o)[j]? = some (.sl sz es)):∃r,r∈[(1,tS,a),(2,tS,b),(6,tS,c),(7,tN,d)]/\r.1=j/\NZ P r.2.1 (.sl sz es):=by
 match j,h with
 | 1,h=>simp only[WH,dH,dY,aG,Cell.sl.injEq]at h;obtain⟨rfl,rfl⟩:=h;exact⟨(1,tS,a),by simp,rfl,EK h1 _⟩
 | 2,h=>simp only[WH,dH,dY,aG,Cell.sl.injEq]at h;obtain⟨rfl,rfl⟩:=h;exact⟨(2,tS,b),by simp,rfl,EK h1 _⟩
 | 6,h=>simp only[WH,dH,dY,aG,Cell.sl.injEq]at h;obtain⟨rfl,rfl⟩:=h;exact⟨(6,tS,c),by simp,rfl,EK h1 _⟩
 | 7,h=>simp only[WH,dH,dY,aG,Cell.sl.injEq]at h;obtain⟨rfl,rfl⟩:=h;exact⟨(7,tN,d),by simp,rfl,Fj h1 h2 h3 _⟩
 |0,h=>simp[WH]at h
 |3,h=>simp[WH]at h
 |4,h=>simp[WH]at h
 |5,h=>simp[WH]at h
 |j+8,h=>simp[WH]at h
end
end
theorem T0.jX {B D E:Nat}{n:ai}{o:tC}(hB:B<=lim)(h:tu B D n)(ho:DF B E o):Ev (λf=>G.jX f n o) (mM (yX n o)):=by
 by_cases hv:(Val n&&Rn o)=true
 ·have hv':=hv;simp only[af]at hv';have fo:=E5 hv'.2;exact T.jX (B:=12) (D:=5) (by decide) (lg hv'.1) ⟨rC fo.path,rC fo.from_,lg fo.val⟩
 refine Ev.up ?_;simp only[G.jX];unfold yX;rw[if_neg hv];refine Ev.bind (T0.cu hB h) (Ev.ite (λe1=>?_) (λe1=>Ev.ret' rfl));refine Ev.bind (T0.nJ hB ho) (Ev.ite (λe2=>?_) (λe2=>Ev.ret' rfl));exact absurd (by rw[e1,e2];rfl) hv
theorem WQ (n:ai):NW n<=YL n:=by rw[Jk];unfold NW;omega
section
noncomputable def ain (o:tC)(k:Int):tC:=tC.mk k (Gm o.Path (k+1)) (Gm o.From (k+1+o.Path.length)) (Kq o.Value (k+1+o.Path.length+o.From.length)).1
noncomputable def afB : List tC->Int->List tC
 |[],_=>[]
 |o::r,k=>ain o k::afB r (k+(mkO o+1:Nat))
theorem agS : ∀(l:List tC) (k:Int),(afB l k).length=l.length
 |[],_=>rfl
 |_::r,k=>by simp[afB,agS r]
theorem ahm : ∀(l:List tC) (k:Int) {i:Nat},i<l.length->(afB l k).getD i default=ain (l.getD i default) (k+aea (l.take i))
 |[],_,i,h=>by simp at h
 |o::r,k,0,_=>by simp[afB,aea]
 | o::r,k,i+1,h=>by
   have:=ahm r (k+(mkO o+1:Nat)) (i:=i) (by simpa using h);simp only[afB,nR,this,wP,aea]
   congr 1
   omega
theorem ahl : ∀(l:List tC) {i:Nat},i<l.length->aea (l.take (i+1))=aea (l.take i)+(mkO (l.getD i default)+1)
 |[],i,h=>by simp at h
 |n::r,0,_=>by simp[aea]
 | n::r,i+1,h=>by have:=ahl r (i:=i) (by simpa using h);simp only[wP,aea,this,nR];omega
theorem ahY : ∀(l:List tC) (i:Nat),aea (l.take i)<=aea l
 |[],i=>by simp[aea]
 |n::r,0=>by simp[aea]
 |n::r,i+1=>by have:=ahY r i;simp only[wP,aea];omega
theorem ahE : ∀(l:List tC),l.length<=aea l
 |[]=>by simp
 |n::r=>by have:=ahE r;simp only[aea,lU];omega
section
variable {mt:Fq} {fS fN tS tN aa3 tP:Nat}
abbrev ahP (fS fN:Nat):List MA:=[.int 0,.sub 1 fS,.sub 2 fS,.int 3,.int 4,.str 5,.sub 6 fS,.sub 7 fN]
theorem ajS (M:MT mt fS fN tS tN)(o:tC){k:Int}(h0:0<=k)(h1:k+(mkO o+1:Nat)<4611686018427387904):JZ mt tx (.E (ahP fS fN) o.cells k (ain o k).cells (k+(mkO o+1:Nat))):=by
 have hm:=Jk o.Value;unfold mkO at *;have e1:=KH M o.Path (k:=k+1) (by omega) (by omega);have e2:=KH M o.From (k:=k+1+o.Path.length) (by omega) (by omega);have e3:=KH M o.Value.Names (k:=k+1+o.Path.length+o.From.length+3) (by omega) (by omega);have e4:=MM M o.Value.Kids (k:=k+1+o.Path.length+o.From.length+3+o.Value.Names.length) (by omega) (by omega);have e5:(vC o.Value.Kids (k+1+o.Path.length+o.From.length+3+o.Value.Names.length)).2=k+((o.Path.length+o.From.length+YL o.Value+1:Nat):Int):=by rw[Qw];omega
 rw[tC.kU,tC.kU];unfold ain;rw[abS];simp only;refine .ei ⟨h0,by omega⟩ ⟨by omega,by omega⟩ (by simp) ?_;refine .ef (c:=.sl 1 (o.Path.map cS)) (by simp) e1 (.ef (c:=.sl 1 (o.From.map cS)) (by simp) e2 ?_);refine .ei ⟨by omega,by omega⟩ ⟨by omega,by omega⟩ (by simp) (.ei ⟨by omega,by omega⟩ ⟨by omega,by omega⟩ (by simp) (.es ⟨by omega,by omega⟩ ⟨by omega,by omega⟩ (by simp) ?_));rw[show k+1+o.Path.length+o.From.length+1+1=k+1+o.Path.length+o.From.length+2 by omega,show k+1+o.Path.length+o.From.length+2+1=k+1+o.Path.length+o.From.length+3 by omega];refine .ef (c:=.sl 1 (o.Value.Names.map cS)) (by simp) e3 (.ef (c:=.sl 5 (o.Value.Kids.map ai.cells)) (by simp) (.c M.n ⟨by omega,by omega⟩ e4) ?_);rw[e5];simpa using JZ.e0
theorem aio (M:MT mt fS fN tS tN):∀(l:List tC) {k:Int},0<=k->k+aea l<4611686018427387904->JZ mt tx (.L (ahP fS fN) (l.map tC.cells) k ((afB l k).map tC.cells) (k+aea l))
 |[],k,_,_=>by simpa[afB,aea]using JZ.l0
 | o::r,k,h0,h1=>by simp only[aea]at h1;have h2:=ajS M o (k:=k) h0 (by omega);have h3:=aio M r (k:=k+(mkO o+1:Nat)) (by omega) (by omega);simp only[aP,afB,aea];have e:k+((mkO o+1:Nat):Int)+(aea r:Int)=k+((mkO o+1+aea r:Nat):Int):=(by omega);rw[e]at h3;exact .l1 h2 h3
theorem ahN (M:MT mt fS fN tS tN)(hP:mt aa3=some (tP,8,ahP fS fN))(l:List tC){k:Int}(h0:0<=k)(h1:k+aea l<4611686018427387904):JZ mt tx (.C aa3 (.sl 8 (l.map tC.cells)) k (.sl 8 ((afB l k).map tC.cells)) (k+aea l)):=
 .c hP ⟨h0,by omega⟩ (aio M l h0 h1)
end
section
variable {P:Program} {tS tN tP:Nat}
theorem aiQ (h1:qJ P tS=1)(h2:qJ P tN=5)(h3:kP P tN=[(3,tS),(4,tN)])(h4:qJ P tP=8)(h5:kP P tP=[(1,tS),(2,tS),(6,tS),(7,tN)])(l:List tC):NZ P tP (.sl 8 (l.map tC.cells)):=by
 have key:∀(i j sz':Nat) (es':List (List Cell)),((l.map tC.cells).getD i [])[j]? = some (.sl sz' es')->(j,if j=7 then tN else tS)∈kP P tP/\NZ P (if j=7 then tN else tS) (.sl sz' es'):=by
  intro i j sz' es' h;simp only[aQ,bn]at h;cases hl:l[i]? with
  |none=>rw[hl]at h;simp at h
  | some o=>
    rw[hl]at h;simp only[Option.map_some,Option.getD_some]at h;obtain⟨r,hr,rfl,ht⟩:=ac2 h1 h2 h3 o 0 0 0 0 j sz' es' h;simp only[aB,gU,or_false]at hr;rcases hr with rfl|rfl|rfl|rfl
    ·exact⟨by simp[h5],by simpa using ht⟩
    ·exact⟨by simp[h5],by simpa using ht⟩
    ·exact⟨by simp[h5],by simpa using ht⟩
    ·exact⟨by simp[h5],by simpa using ht⟩
 exact .sl _ _ _ (λj=>if j=7 then tN else tS) h4 (λi j sz' es' h=>(key i j sz' es' h).1) (λi j sz' es' h=>(key i j sz' es' h).2)
theorem ahr (h1:qJ P tS=1)(h2:qJ P tN=5)(h3:kP P tN=[(3,tS),(4,tN)])(h4:qJ P tP=8)(h5:kP P tP=[(1,tS),(2,tS),(6,tS),(7,tN)])(l:List tC)(a:Nat)(j sz:Nat)(es:List (List Cell))(h:[Cell.sl 8 (l.map tC.cells)][j]? = some (.sl sz es)):∃r,r∈[(0,tP,a)]/\r.1=j/\NZ P r.2.1 (.sl sz es):=by
 match j,h with
 | 0,h=>simp only[dY,aG,Cell.sl.injEq]at h;obtain⟨rfl,rfl⟩:=h;exact⟨(0,tP,a),by simp,rfl,aiQ h1 h2 h3 h4 h5 l⟩
 |j+1,h=>simp at h
end
theorem T.ahW (l:List tC){k:Int}(h0:0<=k)(h1:k+aea l<4611686018427387904):Ev (λf=>G.acS f (afB l k) k) (k+aea l):=by
 have hlen:=ahE l;have L:∀(m i:Nat),i+m=l.length->Ev (λf=>G.acS.L1 f (afB l k) (k+aea (l.take i)) i) (k+aea l):=by
  intro m
  induction m with
  | zero=>intro i hi;refine Ev.up ?_;simp only[G.acS.L1,agS];exact Ev.cf (decide_eq_false (by omega)) (Ev.ret' (by rw[aW (by omega)]))
  | succ m ih=>intro i hi;have hil:i<l.length:=(by omega);have hs:=ahl l hil;have hle:=ahY l (i+1);generalize hq:l.getD i default=q at hs;have ht:=Jk q.Value;unfold mkO at hs;have w1:ah .i64 (k+aea (l.take i)+1)=k+aea (l.take i)+1:=Io (by omega) (by omega);have e1:=T.Sz (l:=q.Path) (k:=k+aea (l.take i)+1) (by omega) (by omega);have e2:=T.Sz (l:=q.From) (k:=k+aea (l.take i)+1+q.Path.length) (by omega) (by omega);have w2:ah .i64 (k+aea (l.take i)+1+q.Path.length+q.From.length+1)=k+aea (l.take i)+1+q.Path.length+q.From.length+1:=Io (by omega) (by omega);have w3:ah .i64 (k+aea (l.take i)+1+q.Path.length+q.From.length+1+1)=k+aea (l.take i)+1+q.Path.length+q.From.length+2:=(by rw[Io (by omega) (by omega)];omega);have w4:ah .i64 (k+aea (l.take i)+1+q.Path.length+q.From.length+2+1)=k+aea (l.take i)+1+q.Path.length+q.From.length+3:=(by rw[Io (by omega) (by omega)];omega);have e3:=T.Sz (l:=q.Value.Names) (k:=k+aea (l.take i)+1+q.Path.length+q.From.length+3) (by omega) (by omega);have e4:=T.XO q.Value.Kids (k:=k+aea (l.take i)+1+q.Path.length+q.From.length+3+q.Value.Names.length) (by omega) (by omega);have e5:=ih (i+1) (by omega);have e6:k+((aea (l.take (i+1)):Nat):Int)=k+aea (l.take i)+1+q.Path.length+q.From.length+3+q.Value.Names.length+qW q.Value.Kids:=(by omega);rw[e6]at e5;refine Ev.up ?_;simp only[G.acS.L1,agS,ak,ahm l k hil,hq,ain,abS,w1,iP (show i+1<9223372036854775808 by omega)];refine Ev.ct (decide_eq_true (by omega)) (Ev.chk (by omega) (Ev.cf (by simp) (Ev.chk (by omega) (Ev.bind e1 (Ev.cf (decide_eq_false (by omega)) (Ev.chk (by omega) (Ev.bind e2 (Ev.cf (decide_eq_false (by omega)) ?_))))))));simp only[w2,w3,w4];exact Ev.chk (by omega) (Ev.cf (by simp) (Ev.chk (by omega) (Ev.cf (by simp) (Ev.chk (by omega) (Ev.bind (aaS ⟨by omega,by omega⟩) (Ev.ct (by simp) (Ev.chk (by omega) (Ev.bind e3 (Ev.cf (decide_eq_false (by omega)) (Ev.chk (by omega) (Ev.bind e4 (Ev.cf (decide_eq_false (by omega)) e5))))))))))))
 refine Ev.up ?_;simp only[G.acS];have:=L l.length 0 (by omega);simpa[aea]using this
end
structure aiH (p:List tC):Prop where
 l:p.length<=lim
 f:∀o,o∈p->DF 12 5 o
 k:aea p<=900000000
theorem ag9 : aiH []:=⟨jq _,λo h=>(by cases h),jq _⟩
theorem T0.acr {B E:Nat}{n:ai}{l:List tC}(hB:B<=lim)(hn:tu B E n)(hl:abd l):Ev (λf=>G.acr f n l) (mM (aeg n l)):=by
 refine Ev.up ?_;simp only[G.acr];unfold aeg;refine Ev.bind (T0.cu hB hn) (Ev.ite (λe1=>?_) (λe1=>Ev.ret' (by rw[e1];rfl)));refine Ev.bind (T0.lS hl) (Ev.ite (λe2=>?_) (λe2=>Ev.ret' (by rw[e1,e2];rfl)));refine Ev.bind (T.acp e1 e2) (Ev.ret' ?_);rw[e1,e2,if_pos (by rfl)];unfold ah9;cases hr:agE n l with
 |some m=>simp[mM]
 | none=>have h1:¬agN n l=l.length:=λe=>(by have:=ahh.1 e;rw[hr]at this;cases this);simp only[Nat.zero_add,mM];rw[ilen];simp[h1]
theorem T0.aba {B E:Nat}{n:ai}{l:List tC}(hB:B<=lim)(hn:tu B E n)(hl:abd l):Ev (λf=>G.aba f n l) (mM (aeg n l)):=by refine Ev.up ?_;simp only[G.aba];unfold aeg;refine Ev.bind (T0.fZ hB hn) (Ev.ite (λe1=>?_) (λe1=>Ev.ret' (by rw[e1];rfl)));refine Ev.bind (T0.mV hl) (Ev.ite (λe2=>?_) (λe2=>Ev.ret' (by rw[e1,e2];rfl)));rw[e1,e2,if_pos (by rfl)];exact Ev.bind (T.bC MH (lg e1)) (T.aba.L1 e2 l.length 0 n (by omega) e1)
theorem F.cmp_isNaN_int {n:Nat} : ∀{qg r},G.cmp_isNaN_int n qg=some r->fD pZ 120 [.one (wI qg)] (.one (.c (.lit (.bool r)))):=by
 intro qg r h;refine dB K.cmp_isNaN_int (tJ ?_);unfold C.cmp_isNaN_int;rcases n with _|n<;>simp only[G.cmp_isNaN_int,reduceCtorEq]at h;have z:=pp () <|pp () <|pp () <|pp () <|pp () <|pp () <|()
 exact uG
theorem F.cmp_Compare_int {n:Nat} : ∀{qg F5 r},G.cmp_Compare_int n qg F5=some r->fD pZ 103 [.one (wI qg),.one (wI F5)] (.one (wI r)):=by
 intro qg F5 r h;refine dB K.cmp_Compare_int (tJ ?_);unfold C.cmp_Compare_int;rcases n with _|n<;>simp only[G.cmp_Compare_int,reduceCtorEq]at h;have z:=pp (pp @F.cmp_isNaN_int ()) <|pp () <|pp () <|pp () <|pp () <|pp () <|()
 exact uG
theorem F.cmp_isNaN_string {n:Nat} : ∀{qg r},G.cmp_isNaN_string n qg=some r->fD pZ 127 [.one (wS qg)] (.one (.c (.lit (.bool r)))):=by
 intro qg r h;refine dB K.cmp_isNaN_string (tJ ?_);unfold C.cmp_isNaN_string;rcases n with _|n<;>simp only[G.cmp_isNaN_string,reduceCtorEq]at h;have z:=pp () <|pp () <|pp () <|pp () <|pp () <|pp () <|()
 exact uG
theorem F.cmp_Less_string {n:Nat} : ∀{qg F5 r},G.cmp_Less_string n qg F5=some r->fD pZ 117 [.one (wS qg),.one (wS F5)] (.one (.c (.lit (.bool r)))):=by
 intro qg F5 r h;refine dB K.cmp_Less_string (tJ ?_);unfold C.cmp_Less_string;rcases n with _|n<;>simp only[G.cmp_Less_string,reduceCtorEq]at h;have z:=pp (pp @F.cmp_isNaN_string ()) <|pp () <|pp () <|pp () <|pp () <|pp () <|()
 exact uG
theorem F.Ko : ∀(n:Nat),∀{ay r},G.aO n ay=some r->fD pZ 53 [.agg (wN ay)] (.agg (wN r)):=by
 intro n
 induction n using eU with|_ n ih=>
 intro ay r h;refine dB K.aO (tJ ?_);unfold C.aO;rcases n with _|n<;>simp only[G.aO,reduceCtorEq]at h;have z:=pp (pp ih ()) <|pp () <|pp (pp (@wX (List gB×Int×List ai) _ (λn x=>G.aO.L2 n ay x.1 x.2.1 x.2.2) r (λx=>dP.of [eP 2 113,eP 3 114,(37,.v true (.one (wK ay.Kids))),eI 38 (ay.Kids.length:Int),eI 39 x.2.1] [(113,.var zN),(114,.var [wI ay.Kind,wI ay.Num,wS ay.Text,.own 115 x.1.length 1,.own 116 x.2.2.length 5]),(115,.dat 1 (aT cS x.1)),(116,.dat 5 (aT ai.cells x.2.2))])) ()) <|pp (pp (@P8 (List gB) _ (λn x=>G.aO.K1 n ay x) r (λx=>dP.of [eP 1 101,eP 2 102,eP 3 103] [(101,.var (wN ay)),(102,.var zN),(103,.var [wI ay.Kind,wI ay.Num,wS ay.Text,.own 104 x.length 1,.xh 5]),(104,.dat 1 (aT cS x))])) ()) <|pp (pp (aS @G.aO.K1.eq_1 <|aS @G.aO.K1.eq_2 <|aS @G.aO.L2.eq_1 <|@G.aO.L2.eq_2) ()) <|pp (pp (@kQ [] [(101,10),(102,11),(103,12),(104,13)] []) <|pp (@kQ [] [(101,10),(102,11),(103,12)] [104]) <|pp (@kQ [] [(113,102),(114,103),(115,104),(116,14)] []) <|pp (@kQ [] [(113,113),(114,114),(115,115),(116,116)] []) ()) <|()
 exact uG
theorem F.aO {n:Nat} : ∀{ay:ai} {r:ai},G.aO n ay=some r->fD pZ 53 [.agg (wN ay)] (.agg (wN r)):=F.Ko n
theorem F.rP {n:Nat} : ∀{ay r},G.aO n ay=some r->nN pZ 53 [.agg (wN ay)] [] (λr1 b1=>r1 = .agg [wI r.Kind,wI r.Num,wS r.Text,.own 0 r.Names.length 1,.own 1 r.Kids.length 5]/\b1=[.dat 1 (aT cS r.Names),.dat 5 (aT ai.cells r.Kids)]):=by
 intro ay r h;refine vI K.aO (tJ ?_);unfold C.aO;rcases n with _|n<;>simp only[G.aO,reduceCtorEq]at h;have z:=pp (pp @F.aO ()) <|pp () <|pp (pp (@wX (List gB×Int×List ai) _ (λn x=>G.aO.L2 n ay x.1 x.2.1 x.2.2) r (λx=>dP.of [eP 2 113,eP 3 114,(37,.v true (.one (wK ay.Kids))),eI 38 (ay.Kids.length:Int),eI 39 x.2.1] [(113,.var zN),(114,.var [wI ay.Kind,wI ay.Num,wS ay.Text,.own 115 x.1.length 1,.own 116 x.2.2.length 5]),(115,.dat 1 (aT cS x.1)),(116,.dat 5 (aT ai.cells x.2.2))])) ()) <|pp (pp (@P8 (List gB) _ (λn x=>G.aO.K1 n ay x) r (λx=>dP.of [eP 1 101,eP 2 102,eP 3 103] [(101,.var (wN ay)),(102,.var zN),(103,.var [wI ay.Kind,wI ay.Num,wS ay.Text,.own 104 x.length 1,.xh 5]),(104,.dat 1 (aT cS x))])) ()) <|pp (pp (aS @G.aO.K1.eq_1 <|aS @G.aO.K1.eq_2 <|aS @G.aO.L2.eq_1 <|@G.aO.L2.eq_2) ()) <|pp (pp (@kQ [] [(101,10),(102,11),(103,12),(104,13)] []) <|pp (@kQ [] [(101,10),(102,11),(103,12)] [104]) <|pp (@kQ [] [(113,102),(114,103),(115,104),(116,14)] []) <|pp (@kQ [] [(113,113),(114,114),(115,115),(116,116)] []) ()) <|(pp (@FB [] [(0,115),(1,116)] []) <|pp (@FB [] [(0,104)] [1]) ())
 exact uG
theorem F.slices_isNaN_string {n:Nat} : ∀{qg r},G.slices_isNaN_string n qg=some r->fD pZ 118 [.one (wS qg)] (.one (.c (.lit (.bool r)))):=by
 intro qg r h;refine dB K.slices_isNaN_string (tJ ?_);unfold C.slices_isNaN_string;rcases n with _|n<;>simp only[G.slices_isNaN_string,reduceCtorEq]at h;have z:=pp () <|pp () <|pp () <|pp () <|pp () <|pp () <|()
 exact uG
theorem F.slices_BinarySearch_string {n:Nat} : ∀{qg sJ r},G.slices_BinarySearch_string n qg sJ=some r->fD pZ 100 [.one (wT qg),.one (wS sJ)] (.wF [(false,[wI r.1]),(false,[.c (.lit (.bool r.2))])]):=by
 intro qg sJ r h;refine dB K.slices_BinarySearch_string (tJ ?_);unfold C.slices_BinarySearch_string;rcases n with _|n<;>simp only[G.slices_BinarySearch_string,reduceCtorEq]at h;have z:=pp (pp @F.cmp_Less_string <|pp @F.slices_isNaN_string ()) <|pp () <|pp (pp (@wX (Int×Int) _ (λn x=>G.slices_BinarySearch_string.L1 n qg sJ x.1 x.2) r (λx=>dP.of [eT 0 qg,eS 1 sJ,eI 6 (qg.length:Int),eI 7 x.1,eI 8 x.2] [])) ()) <|pp () <|pp (pp (aS @G.slices_BinarySearch_string.L1.eq_1 <|@G.slices_BinarySearch_string.L1.eq_2) ()) <|pp (pp (@kQ [] [] []) ()) <|()
 exact uG
def B.ren : Go.Shelf.Ren:=⟨λn=>match n with|129=>137|171=>98|243=>114|246=>125|283=>130|284=>131|285=>132|286=>133|317=>136|318=>138|319=>139|320=>140|337=>141|338=>142|_=>0,λn=>match n with|21=>21|0=>0|2=>2|3=>3|4=>4|5=>5|9=>9|20=>20|31=>22|37=>92|46=>109|51=>125|53=>116|80=>131|127=>141|164=>146|171=>115|173=>119|212=>124|213=>126|232=>129|233=>130|_=>0,λn=>match n with|1=>0|17=>1|18=>2|19=>3|_=>0⟩
theorem B.lays171 : Go.Proofs.Lays.n171 pZ B.ren:=by constructor<;>first|kernel_rfl|(intro w;kernel_rfl)
theorem B.laysM171 : Go.Proofs.LaysM.n171 pZ B.ren:=by constructor<;>first|exact B.lays171|kernel_rfl|(intro w;kernel_rfl)
theorem F.strconv_Itoa {n:Nat} : ∀{GN:Int} {r:gB},G.strconv_Itoa n GN=some r->fD pZ 98 [.one (wI GN)] (.one (wS r)):=by intro i r h;rcases n with _|n<;>simp only[G.strconv_Itoa,reduceCtorEq]at h;obtain⟨⟨h0,hl⟩,h⟩:=Aq.1 h;exact abo B.laysM171 h0 (cZ hl (by decide)) (by cases h;rfl)
theorem F.dn {n:Nat} : ∀{ay fK r},G.dn n ay fK=some r->fD pZ 73 [.agg (wN ay),.one (wS fK)] (.wF [(false,[wI r.1]),(false,[.c (.lit (.bool r.2))])]):=by
 intro ay fK r h;refine dB K.dn (tJ ?_);unfold C.dn;rcases n with _|n<;>simp only[G.dn,reduceCtorEq]at h;have z:=pp (pp @F.slices_BinarySearch_string <|pp @F.strconv_Itoa ()) <|pp () <|pp (pp (@wX (Int) _ (λn x=>G.dn.L1 n ay fK x) r (λx=>dP.of [eS 1 fK,eI 21 (ay.Kids.length:Int),eI 22 x] [])) ()) <|pp () <|pp (pp (aS @G.dn.L1.eq_1 <|@G.dn.L1.eq_2) ()) <|pp (pp (@kQ [] [] []) ()) <|()
 exact uG
theorem F.fF {n:Nat} : ∀{tV:List ai} {GN:Int} {Pv:List ai} {r:List ai},G.fF n tV GN Pv=some r ->
 nN pZ 99 [.one (.own 0 tV.length 5),.one (wI GN),.one (.own 1 Pv.length 5)] [.dat 5 (aT ai.cells tV),.dat 5 (aT ai.cells Pv)]
  (λr1 b1=>r1 = .one (.own 2 r.length 5)/\b1=[.dead,.dat 5 (aT ai.cells Pv),.dat 5 (aT ai.cells r)]):=by
 intro s i v r h;rcases n with _|n<;>simp only[G.fF,reduceCtorEq]at h;exact FG.ins _ (cb:=80) (by decide) K.fF h
theorem F.jF {n:Nat} : ∀{tV:List gB} {GN:Int} {Pv:List gB} {r:List gB},G.jF n tV GN Pv=some r ->
 nN pZ 113 [.one (.own 0 tV.length 1),.one (wI GN),.one (.own 1 Pv.length 1)] [.dat 1 (aT cS tV),.dat 1 (aT cS Pv)]
  (λr1 b1=>r1 = .one (.own 2 r.length 1)/\b1=[.dead,.dat 1 (aT cS Pv),.dat 1 (aT cS r)]):=by
 intro s i v r h;rcases n with _|n<;>simp only[G.jF,reduceCtorEq]at h;exact FG.ins _ (cb:=16) (by decide) K.jF h
theorem F.mg {n:Nat} : ∀{Bf EO dM r},G.mg n Bf EO dM=some r->nN pZ 97 [.one (.ptr 0 0),.one (wS EO),.agg (wN dM)] [.var [wI Bf.Kind,wI Bf.Num,wS Bf.Text,.own 1 Bf.Names.length 1,.own 2 Bf.Kids.length 5],.dat 1 (aT cS Bf.Names),.dat 5 (aT ai.cells Bf.Kids)] (λr1 b1=>r1 = .wF []/\b1=[.var [wI r.Kind,wI r.Num,wS r.Text,.own 3 r.Names.length 1,.own 4 r.Kids.length 5],.dead,.dead,.dat 1 (aT cS r.Names),.dat 5 (aT ai.cells r.Kids)]):=by
 intro Bf EO dM r h;refine vI K.mg (tJ ?_);unfold C.mg;rcases n with _|n<;>simp only[G.mg,reduceCtorEq]at h;have z:=pp (pp @F.slices_BinarySearch_string ()) <|pp (pp (pp @F.jF (@cG [1,11] [101])) <|pp (pp @F.fF (@cG [2,12] [102])) ()) <|pp () <|pp () <|pp () <|pp () <|(pp (@FB [] [(0,0),(1,1),(2,2),(3,1),(4,2)] []) <|pp (@FB [] [(0,0),(1,1),(2,2),(3,101),(4,102)] []) ())
 exact uG
theorem F.iy {n:Nat} : ∀{ay fK dM r},G.iy n ay fK dM=some r->fD pZ 71 [.agg (wN ay),.one (wS fK),.agg (wN dM)] (.wF [(true,(wN r.1)),(false,[.c (.lit (.bool r.2))])]):=by
 intro ay fK dM r h;refine dB K.iy (tJ ?_);unfold C.iy;rcases n with _|n<;>simp only[G.iy,reduceCtorEq]at h;have z:=pp (pp @F.dn <|pp @F.strconv_Itoa ()) <|pp (pp (pp @F.rP (@cG [] [101,102])) <|pp (pp @F.rP (@cG [] [103,104])) <|pp (pp @F.mg (@cH [13,101,102] [105,106])) <|pp (pp @F.rP (@cG [] [112,113])) <|pp (pp @F.fF (@cG [111,14] [114])) ()) <|pp () <|pp (pp (@P8 (ai×Int×Bool) _ (λn x=>G.iy.K1 n dM x.1 x.2.1 x.2.2) r (λx=>dP.of [eP 5 107,eP 6 108,eP 8 109,eI 9 x.2.1,(10,.v true (.one (.c (.lit (.bool x.2.2)))))] [(107,.var (wN dM)),(108,.var zN),(109,.var [wI x.1.Kind,wI x.1.Num,wS x.1.Text,.own 110 x.1.Names.length 1,.own 111 x.1.Kids.length 5]),(110,.dat 1 (aT cS x.1.Names)),(111,.dat 5 (aT ai.cells x.1.Kids))])) ()) <|pp (pp (aS @G.iy.K1.eq_1 <|@G.iy.K1.eq_2) ()) <|pp (pp (@kQ [] [(107,11),(108,12),(109,13),(110,101),(111,102)] []) ()) <|()
 exact uG
theorem F.mO {n:Nat} : ∀{sH gJ jJ sZ r},G.mO n sH gJ jJ sZ=some r->nN pZ 70 [.agg (wN sH),.one (.ptr 0 0),.one (.ptr 1 0),.one (.ptr 2 0)] [.var [wT gJ],.var [wI jJ],.var (wN sZ)] (λr1 b1=>r1 = .wF [(true,(wN r.1)),(false,[.c (.lit (.bool r.2))])]/\b1=[.var [wT gJ],.var [wI jJ],.var (wN sZ)]):=by
 intro sH gJ jJ sZ r h;refine vI K.mO (tJ ?_);unfold C.mO;rcases n with _|n<;>simp only[G.mO,reduceCtorEq]at h;have z:=pp (pp @F.iy ()) <|pp () <|pp () <|pp () <|pp () <|pp () <|(pp (@FB [] [(0,0),(1,1),(2,2)] []) ())
 exact uG
theorem F.dm {n:Nat} : ∀{tV r},G.dm n tV=some r->fD pZ 96 [.one (wS tV)] (.one (.c (.lit (.bool r)))):=by
 intro tV r h;refine dB K.dm (tJ ?_);unfold C.dm;rcases n with _|n<;>simp only[G.dm,reduceCtorEq]at h;have z:=pp () <|pp () <|pp (pp (@wX (Int) _ (λn x=>G.dm.L1 n tV x) r (λx=>dP.of [eS 0 tV,eI 3 x] [])) ()) <|pp () <|pp (pp (aS @G.dm.L1.eq_1 <|@G.dm.L1.eq_2) ()) <|pp (pp (@kQ [] [] []) ()) <|()
 exact uG
theorem F.fP {n:Nat} : ∀{o9 r},G.fP n o9=some r->fD pZ 112 [.one (wT o9)] (.one (.c (.lit (.bool r)))):=by
 intro o9 r h;refine dB K.fP (tJ ?_);unfold C.fP;rcases n with _|n<;>simp only[G.fP,reduceCtorEq]at h;have z:=pp (pp @F.dm ()) <|pp () <|pp (pp (@wX (Int) _ (λn x=>G.fP.L1 n o9 x) r (λx=>dP.of [eT 0 o9,eT 8 o9,eI 9 (o9.length:Int),eI 10 x] [])) ()) <|pp () <|pp (pp (aS @G.fP.L1.eq_1 <|@G.fP.L1.eq_2) ()) <|pp (pp (@kQ [] [] []) ()) <|()
 exact uG
theorem F.dw {n:Nat} : ∀{ay r},G.dw n ay=some r->fD pZ 95 [.agg (wN ay)] (.one (.c (.lit (.bool r)))):=by
 intro ay r h;refine dB K.dw (tJ ?_);unfold C.dw;rcases n with _|n<;>simp only[G.dw,reduceCtorEq]at h;have z:=pp (pp @F.dm <|pp @F.fP ()) <|pp () <|pp () <|pp (pp (@P8 (Unit) _ (λn x=>G.dw.K1 n ay) r (λx=>dP.of [eP 1 101,(20,.v true (.one (.c (.lit (.bool false)))))] [(101,.var (wN ay))])) ()) <|pp (pp (aS @G.dw.K1.eq_1 <|@G.dw.K1.eq_2) ()) <|pp (pp (@kQ [] [(101,10)] []) ()) <|()
 exact uG
theorem F.Gj : ∀(n:Nat),∀{ay uh r},G.cO n ay uh=some r->fD pZ 66 [.agg (wN ay),.one (wI uh)] (.wF [(false,[wI r.1]),(false,[wI r.2.1]),(false,[.c (.lit (.bool r.2.2))])]):=by
 intro n
 induction n using eU with|_ n ih=>
 intro ay uh r h;refine dB K.cO (tJ ?_);unfold C.cO;rcases n with _|n<;>simp only[G.cO,reduceCtorEq]at h;have z:=pp (pp ih <|pp @F.dw ()) <|pp () <|pp (pp (@wX (Int×Int×Int) _ (λn x=>G.cO.L1 n ay uh x.1 x.2.1 x.2.2) r (λx=>dP.of [eI 1 uh,eI 4 x.1,eI 5 x.2.1,(20,.v true (.one (wK ay.Kids))),eI 21 (ay.Kids.length:Int),eI 22 x.2.2] [])) ()) <|pp () <|pp (pp (aS @G.cO.L1.eq_1 <|@G.cO.L1.eq_2) ()) <|pp (pp (@kQ [] [] []) ()) <|()
 exact uG
theorem F.cO {n:Nat} : ∀{ay:ai} {uh:Int} {r:Int×Int×Bool},G.cO n ay uh=some r->fD pZ 66 [.agg (wN ay),.one (wI uh)] (.wF [(false,[wI r.1]),(false,[wI r.2.1]),(false,[.c (.lit (.bool r.2.2))])]):=F.Gj n
theorem F.cu {n:Nat} : ∀{ay r},G.cu n ay=some r->fD pZ 36 [.agg (wN ay)] (.one (.c (.lit (.bool r)))):=by
 intro ay r h;refine dB K.cu (tJ ?_);unfold C.cu;rcases n with _|n<;>simp only[G.cu,reduceCtorEq]at h;have z:=pp (pp @F.cO ()) <|pp () <|pp () <|pp () <|pp () <|pp () <|()
 exact uG
theorem F.yP : ∀(n:Nat),∀{ay au gJ jJ sZ r},G.eX n ay au gJ jJ sZ=some r->nN pZ 69 [.agg (wN ay),.one (wT au),.one (.fn 70 [0,1,2])] [.var [wT gJ],.var [wI jJ],.var (wN sZ)] (λr1 b1=>r1 = .wF [(true,(wN r.1)),(false,[.c (.lit (.bool r.2))])]/\b1=[.var [wT gJ],.var [wI jJ],.var (wN sZ)]):=by
 intro n
 induction n using eU with|_ n ih=>
 intro ay au gJ jJ sZ r h;refine vI K.eX (tJ ?_);unfold C.vJ;rcases n with _|n<;>simp only[G.eX,reduceCtorEq]at h;have z:=pp (pp @F.dn ()) <|pp (pp (pp ih (@cG [0,1,2] [])) <|pp (pp @F.mO (@cG [0,1,2] [])) <|pp (pp @F.rP (@cG [] [101,102])) ()) <|pp () <|pp () <|pp () <|pp () <|(pp (@FB [] [(0,0),(1,1),(2,2)] []) <|pp (@FB [101,102] [(0,0),(1,1),(2,2)] []) ())
 exact uG
theorem F.eX {n:Nat} : ∀{ay:ai} {au:List gB} {gJ:List gB} {jJ:Int} {sZ:ai} {r:ai×Bool},G.eX n ay au gJ jJ sZ=some r->nN pZ 69 [.agg (wN ay),.one (wT au),.one (.fn 70 [0,1,2])] [.var [wT gJ],.var [wI jJ],.var (wN sZ)] (λr1 b1=>r1 = .wF [(true,(wN r.1)),(false,[.c (.lit (.bool r.2))])]/\b1=[.var [wT gJ],.var [wI jJ],.var (wN sZ)]):=F.yP n
theorem F.kV {n:Nat} : ∀{ay DT r},G.kV n ay DT=some r->fD pZ 68 [.agg (wN ay),.one (.c (.lit (.bool DT)))] (.wF [(true,(wN r.1)),(false,[.c (.lit (.bool r.2))])]):=by
 intro ay DT r h;refine dB K.kV (tJ ?_);unfold C.kV;rcases n with _|n<;>simp only[G.kV,reduceCtorEq]at h;have z:=pp (pp @F.cu ()) <|pp () <|pp () <|pp () <|pp () <|pp () <|()
 exact uG
theorem F.dS {n:Nat} : ∀{au r},G.dS n au=some r->fD pZ 67 [.one (wT au)] (.one (.c (.lit (.bool r)))):=by
 intro au r h;refine dB K.dS (tJ ?_);unfold C.dS;rcases n with _|n<;>simp only[G.dS,reduceCtorEq]at h;have z:=pp (pp @F.dm ()) <|pp () <|pp (pp (@wX (Int) _ (λn x=>G.dS.L1 n au x) r (λx=>dP.of [eT 8 au,eI 9 (au.length:Int),eI 10 x] [])) ()) <|pp () <|pp (pp (aS @G.dS.L1.eq_1 <|@G.dS.L1.eq_2) ()) <|pp (pp (@kQ [] [] []) ()) <|()
 exact uG
theorem F.jv {n:Nat} : ∀{ay au dM r},G.jv n ay au dM=some r->fD pZ 38 [.agg (wN ay),.one (wT au),.agg (wN dM)] (.wF [(true,(wN r.1)),(false,[.c (.lit (.bool r.2))])]):=by
 intro ay au dM r h;refine dB K.jv (tJ ?_);unfold C.jv;rcases n with _|n<;>simp only[G.jv,reduceCtorEq]at h;have z:=pp (pp @F.cu <|pp @F.dS <|pp @F.aO <|pp @F.kV ()) <|pp (pp (pp @F.eX (@cG [11,14,12] [])) ()) <|pp () <|pp () <|pp () <|pp () <|()
 exact uG
theorem F.fQ {n:Nat} : ∀{ay au r},G.fQ n ay au=some r->fD pZ 78 [.agg (wN ay),.one (wT au)] (.wF [(true,(wN r.1)),(false,[.c (.lit (.bool r.2))])]):=by
 intro ay au r h;refine dB K.fQ (tJ ?_);unfold C.fQ;rcases n with _|n<;>simp only[G.fQ,reduceCtorEq]at h;have z:=pp (pp @F.dn ()) <|pp () <|pp (pp (@wX (Int×Int×Int×gB×List gB×List ai) _ (λn x=>G.fQ.L1 n au x.1 x.2.1 x.2.2.1 x.2.2.2.1 x.2.2.2.2.1 x.2.2.2.2.2) r (λx=>dP.of [eP 2 105,eP 4 106,eT 10 au,eI 11 (au.length:Int),eI 12 x.1] [(105,.var [wI x.2.1,wI x.2.2.1,wS x.2.2.2.1,wT x.2.2.2.2.1,wK x.2.2.2.2.2]),(106,.var zN)])) ()) <|pp () <|pp (pp (aS @G.fQ.L1.eq_1 <|@G.fQ.L1.eq_2) ()) <|pp (pp (@kQ [] [(105,10),(106,11)] []) <|pp (@kQ [] [(105,105),(106,106)] []) ()) <|()
 exact uG
theorem F.lX {n:Nat} : ∀{ay au r},G.lX n ay au=some r->fD pZ 42 [.agg (wN ay),.one (wT au)] (.wF [(true,(wN r.1)),(false,[.c (.lit (.bool r.2))])]):=by
 intro ay au r h;refine dB K.lX (tJ ?_);unfold C.lX;rcases n with _|n<;>simp only[G.lX,reduceCtorEq]at h;have z:=pp (pp @F.cu <|pp @F.dS <|pp @F.fQ <|pp @F.aO ()) <|pp () <|pp () <|pp () <|pp () <|pp () <|()
 exact uG
theorem F.iO {n:Nat} : ∀{tV:List ai} {GN:Int} {YW:Int} {r:List ai},G.iO n tV GN YW=some r ->
 nN pZ 75 [.one (.own 0 tV.length 5),.one (wI GN),.one (wI YW)] [.dat 5 (aT ai.cells tV)]
  (λr1 b1=>r1 = .one (.own 1 r.length 5)/\b1=[.dead,.dat 5 (aT ai.cells r)]):=by
 intro s i j r h;rcases n with _|n<;>simp only[G.iO,reduceCtorEq]at h;exact FG.del _ (cb:=80) (by decide) K.iO h
theorem F.slices_Delete_string {n:Nat} : ∀{tV:List gB} {GN:Int} {YW:Int} {r:List gB},G.slices_Delete_string n tV GN YW=some r ->
 nN pZ 74 [.one (.own 0 tV.length 1),.one (wI GN),.one (wI YW)] [.dat 1 (aT cS tV)]
  (λr1 b1=>r1 = .one (.own 1 r.length 1)/\b1=[.dead,.dat 1 (aT cS r)]):=by
 intro s i j r h;rcases n with _|n<;>simp only[G.slices_Delete_string,reduceCtorEq]at h;exact FG.del _ (cb:=16) (by decide) K.slices_Delete_string h
theorem F.dZ {n:Nat} : ∀{sH gJ jJ r},G.dZ n sH gJ jJ=some r->nN pZ 72 [.agg (wN sH),.one (.ptr 0 0),.one (.ptr 1 0)] [.var [wT gJ],.var [wI jJ]] (λr1 b1=>r1 = .wF [(true,(wN r.1)),(false,[.c (.lit (.bool r.2))])]/\b1=[.var [wT gJ],.var [wI jJ]]):=by
 intro sH gJ jJ r h;refine vI K.dZ (tJ ?_);unfold C.dZ;rcases n with _|n<;>simp only[G.dZ,reduceCtorEq]at h;have z:=pp (pp @F.dn ()) <|pp (pp (pp @F.rP (@cG [] [101,102])) <|pp (pp @F.slices_Delete_string (@cG [101] [109])) <|pp (pp @F.iO (@cG [107] [108])) ()) <|pp () <|pp (pp (@P8 ((Int×Bool)×ai×List gB) _ (λn x=>G.dZ.K1 n x.1 x.2.1 x.2.2) r (λx=>dP.of [eP 4 104,eI 6 x.1.1,eP 8 105] [(0,.var [wT gJ]),(1,.var [wI jJ]),(104,.var zN),(105,.var [wI x.2.1.Kind,wI x.2.1.Num,wS x.2.1.Text,.own 106 x.2.2.length 1,.own 107 x.2.1.Kids.length 5]),(106,.dat 1 (aT cS x.2.2)),(107,.dat 5 (aT ai.cells x.2.1.Kids))])) ()) <|pp (pp (aS @G.dZ.K1.eq_1 <|@G.dZ.K1.eq_2) ()) <|pp (pp (@kQ [] [(0,0),(1,1),(104,11),(105,12),(106,109),(107,102)] []) <|pp (@kQ [] [(0,0),(1,1),(104,11),(105,12),(106,101),(107,102)] []) ()) <|(pp (@FB [106,108] [(0,0),(1,1)] []) <|pp (@FB [] [(0,0),(1,1)] []) ())
 exact uG
theorem F.xQ : ∀(n:Nat),∀{ay au gJ jJ r},G.dN n ay au gJ jJ=some r->nN pZ 69 [.agg (wN ay),.one (wT au),.one (.fn 72 [0,1])] [.var [wT gJ],.var [wI jJ]] (λr1 b1=>r1 = .wF [(true,(wN r.1)),(false,[.c (.lit (.bool r.2))])]/\b1=[.var [wT gJ],.var [wI jJ]]):=by
 intro n
 induction n using eU with|_ n ih=>
 intro ay au gJ jJ r h;refine vI K.dN (tJ ?_);unfold C.vJ;rcases n with _|n<;>simp only[G.dN,reduceCtorEq]at h;have z:=pp (pp @F.dn ()) <|pp (pp (pp ih (@cG [0,1] [])) <|pp (pp @F.dZ (@cG [0,1] [])) <|pp (pp @F.rP (@cG [] [101,102])) ()) <|pp () <|pp () <|pp () <|pp () <|(pp (@FB [] [(0,0),(1,1)] []) <|pp (@FB [101,102] [(0,0),(1,1)] []) ())
 exact uG
theorem F.dN {n:Nat} : ∀{ay:ai} {au:List gB} {gJ:List gB} {jJ:Int} {r:ai×Bool},G.dN n ay au gJ jJ=some r->nN pZ 69 [.agg (wN ay),.one (wT au),.one (.fn 72 [0,1])] [.var [wT gJ],.var [wI jJ]] (λr1 b1=>r1 = .wF [(true,(wN r.1)),(false,[.c (.lit (.bool r.2))])]/\b1=[.var [wT gJ],.var [wI jJ]]):=F.xQ n
theorem F.iF {n:Nat} : ∀{ay au r},G.iF n ay au=some r->fD pZ 39 [.agg (wN ay),.one (wT au)] (.wF [(true,(wN r.1)),(false,[.c (.lit (.bool r.2))])]):=by
 intro ay au r h;refine dB K.iF (tJ ?_);unfold C.iF;rcases n with _|n<;>simp only[G.iF,reduceCtorEq]at h;have z:=pp (pp @F.cu <|pp @F.dS ()) <|pp (pp (pp @F.dN (@cG [11,13] [])) ()) <|pp () <|pp () <|pp () <|pp () <|()
 exact uG
theorem F.mP {n:Nat} : ∀{bD gJ r},G.mP n bD gJ=some r->nN pZ 76 [.agg (wN bD),.one (.ptr 0 0)] [.var (wN gJ)] (λr1 b1=>r1 = .wF [(true,(wN r.1)),(false,[.c (.lit (.bool r.2))])]/\b1=[.var (wN gJ)]):=by
 intro bD gJ r h;refine vI K.mP (tJ ?_);unfold C.mP;rcases n with _|n<;>simp only[G.mP,reduceCtorEq]at h;have z:=pp (pp @F.aO ()) <|pp () <|pp () <|pp () <|pp () <|pp () <|(pp (@FB [] [(0,0)] []) ())
 exact uG
theorem F.yQ : ∀(n:Nat),∀{ay au gJ r},G.eY n ay au gJ=some r->nN pZ 69 [.agg (wN ay),.one (wT au),.one (.fn 76 [0])] [.var (wN gJ)] (λr1 b1=>r1 = .wF [(true,(wN r.1)),(false,[.c (.lit (.bool r.2))])]/\b1=[.var (wN gJ)]):=by
 intro n
 induction n using eU with|_ n ih=>
 intro ay au gJ r h;refine vI K.eY (tJ ?_);unfold C.vJ;rcases n with _|n<;>simp only[G.eY,reduceCtorEq]at h;have z:=pp (pp @F.dn ()) <|pp (pp (pp ih (@cG [0] [])) <|pp (pp @F.mP (@cG [0] [])) <|pp (pp @F.rP (@cG [] [101,102])) ()) <|pp () <|pp () <|pp () <|pp () <|(pp (@FB [] [(0,0)] []) <|pp (@FB [101,102] [(0,0)] []) ())
 exact uG
theorem F.eY {n:Nat} : ∀{ay:ai} {au:List gB} {gJ:ai} {r:ai×Bool},G.eY n ay au gJ=some r->nN pZ 69 [.agg (wN ay),.one (wT au),.one (.fn 76 [0])] [.var (wN gJ)] (λr1 b1=>r1 = .wF [(true,(wN r.1)),(false,[.c (.lit (.bool r.2))])]/\b1=[.var (wN gJ)]):=F.yQ n
theorem F.nC {n:Nat} : ∀{ay au dM r},G.nC n ay au dM=some r->fD pZ 40 [.agg (wN ay),.one (wT au),.agg (wN dM)] (.wF [(true,(wN r.1)),(false,[.c (.lit (.bool r.2))])]):=by
 intro ay au dM r h;refine dB K.nC (tJ ?_);unfold C.nC;rcases n with _|n<;>simp only[G.nC,reduceCtorEq]at h;have z:=pp (pp @F.cu <|pp @F.dS <|pp @F.kV ()) <|pp (pp (pp @F.eY (@cG [11] [])) ()) <|pp () <|pp () <|pp () <|pp () <|()
 exact uG
theorem F.nJ {n:Nat} : ∀{iE r},G.nJ n iE=some r->fD pZ 37 [.agg [wI iE.Kind,wT iE.Path,wT iE.From,wI iE.Value.Kind,wI iE.Value.Num,wS iE.Value.Text,wT iE.Value.Names,wK iE.Value.Kids]] (.one (.c (.lit (.bool r)))):=by
 intro iE r h;refine dB K.nJ (tJ ?_);unfold C.nJ;rcases n with _|n<;>simp only[G.nJ,reduceCtorEq]at h;have z:=pp (pp @F.dS <|pp @F.cu ()) <|pp () <|pp () <|pp () <|pp () <|pp () <|()
 exact uG
theorem F.slices_Equal_string {n:Nat} : ∀{Bh Du r},G.slices_Equal_string n Bh Du=some r->fD pZ 77 [.one (wT Bh),.one (wT Du)] (.one (.c (.lit (.bool r)))):=by
 intro Bh Du r h;refine dB K.slices_Equal_string (tJ ?_);unfold C.slices_Equal_string;rcases n with _|n<;>simp only[G.slices_Equal_string,reduceCtorEq]at h;have z:=pp () <|pp () <|pp (pp (@wX (Int) _ (λn x=>G.slices_Equal_string.L1 n Bh Du x) r (λx=>dP.of [eT 0 Bh,eT 1 Du,eI 12 (Bh.length:Int),eI 13 x] [])) ()) <|pp () <|pp (pp (aS @G.slices_Equal_string.L1.eq_1 <|@G.slices_Equal_string.L1.eq_2) ()) <|pp (pp (@kQ [] [] []) ()) <|()
 exact uG
theorem F.lV {n:Nat} : ∀{ay wR au r},G.lV n ay wR au=some r->fD pZ 41 [.agg (wN ay),.one (wT wR),.one (wT au)] (.wF [(true,(wN r.1)),(false,[.c (.lit (.bool r.2))])]):=by
 intro ay wR au r h;refine dB K.lV (tJ ?_);unfold C.lV;rcases n with _|n<;>simp only[G.lV,reduceCtorEq]at h;have z:=pp (pp @F.lX <|pp @F.slices_Equal_string <|pp @F.aO <|pp @F.iF <|pp @F.jv ()) <|pp () <|pp () <|pp () <|pp () <|pp () <|()
 exact uG
theorem F.dX {n:Nat} : ∀{bD fU r},G.dX n bD fU=some r->fD pZ 121 [.one (wS bD),.one (wS fU)] (.one (wI r)):=by
 intro bD fU r h;refine dB K.dX (tJ ?_);unfold C.dX;rcases n with _|n<;>simp only[G.dX,reduceCtorEq]at h;have z:=pp () <|pp () <|pp () <|pp () <|pp () <|pp () <|()
 exact uG
theorem F.strings_Compare {n:Nat} : ∀{bD fU r},G.strings_Compare n bD fU=some r->fD pZ 104 [.one (wS bD),.one (wS fU)] (.one (wI r)):=by
 intro bD fU r h;refine dB K.strings_Compare (tJ ?_);unfold C.strings_Compare;rcases n with _|n<;>simp only[G.strings_Compare,reduceCtorEq]at h;have z:=pp (pp @F.dX ()) <|pp () <|pp () <|pp () <|pp () <|pp () <|()
 exact uG
theorem F.Fz : ∀(n:Nat),∀{bD fU r},G.aZ n bD fU=some r->fD pZ 80 [.agg (wN bD),.agg (wN fU)] (.one (wI r)):=by
 intro n
 induction n using eU with|_ n ih=>
 intro bD fU r h;refine dB K.aZ (tJ ?_);unfold C.aZ;rcases n with _|n<;>simp only[G.aZ,reduceCtorEq]at h;have z:=pp (pp ih <|pp @F.cmp_Compare_int <|pp @F.strings_Compare ()) <|pp () <|pp (pp (@wX (Int) _ (λn x=>G.aZ.L3 n bD fU x) r (λx=>dP.of [eP 2 109,eP 3 110,eI 8 x] [(109,.var (wN bD)),(110,.var (wN fU))])) ()) <|pp (pp (@P8 (Int) _ (λn x=>G.aZ.K4 n bD fU x) r (λx=>dP.of [eP 2 111,eP 3 112,eI 8 x] [(111,.var (wN bD)),(112,.var (wN fU))])) ()) <|pp (pp (aS @G.aZ.L3.eq_1 <|aS @G.aZ.L3.eq_2 <|aS @G.aZ.K4.eq_1 <|@G.aZ.K4.eq_2) ()) <|pp (pp (@kQ [] [(109,10),(110,11)] []) <|pp (@kQ [] [(111,109),(112,110)] []) <|pp (@kQ [] [(109,111),(110,112)] []) ()) <|()
 exact uG
theorem F.aZ {n:Nat} : ∀{bD:ai} {fU:ai} {r:Int},G.aZ n bD fU=some r->fD pZ 80 [.agg (wN bD),.agg (wN fU)] (.one (wI r)):=F.Fz n
theorem F.lW {n:Nat} : ∀{bD fU r},G.lW n bD fU=some r->fD pZ 52 [.agg (wN bD),.agg (wN fU)] (.one (.c (.lit (.bool r)))):=by
 intro bD fU r h;refine dB K.lW (tJ ?_);unfold C.lW;rcases n with _|n<;>simp only[G.lW,reduceCtorEq]at h;have z:=pp (pp @F.aZ ()) <|pp () <|pp () <|pp () <|pp () <|pp () <|()
 exact uG
theorem F.kM {n:Nat} : ∀{ay au dM r},G.kM n ay au dM=some r->fD pZ 43 [.agg (wN ay),.one (wT au),.agg (wN dM)] (.wF [(true,(wN r.1)),(false,[.c (.lit (.bool r.2))])]):=by
 intro ay au dM r h;refine dB K.kM (tJ ?_);unfold C.kM;rcases n with _|n<;>simp only[G.kM,reduceCtorEq]at h;have z:=pp (pp @F.fQ <|pp @F.lW <|pp @F.aO ()) <|pp () <|pp () <|pp () <|pp () <|pp () <|()
 exact uG
theorem F.jX {n:Nat} : ∀{ay iE r},G.jX n ay iE=some r->fD pZ 12 [.agg (wN ay),.agg [wI iE.Kind,wT iE.Path,wT iE.From,wI iE.Value.Kind,wI iE.Value.Num,wS iE.Value.Text,wT iE.Value.Names,wK iE.Value.Kids]] (.wF [(true,(wN r.1)),(false,[.c (.lit (.bool r.2))])]):=by
 intro ay iE r h;refine dB K.jX (tJ ?_);unfold C.jX;rcases n with _|n<;>simp only[G.jX,reduceCtorEq]at h;have z:=pp (pp @F.cu <|pp @F.nJ <|pp @F.jv <|pp @F.iF <|pp @F.nC <|pp @F.lV <|pp @F.lX <|pp @F.kM ()) <|pp () <|pp () <|pp () <|pp () <|pp () <|()
 exact uG
theorem F.lS {n:Nat} : ∀{jL r},G.lS n jL=some r->fD pZ 56 [.one (.c (.sl 8 (aT tC.cells jL)))] (.one (.c (.lit (.bool r)))):=by
 intro jL r h;refine dB K.lS (tJ ?_);unfold C.lS;rcases n with _|n<;>simp only[G.lS,reduceCtorEq]at h;have z:=pp (pp @F.nJ ()) <|pp () <|pp (pp (@wX (Int) _ (λn x=>G.lS.L1 n jL x) r (λx=>dP.of [(8,.v true (.one (.c (.sl 8 (aT tC.cells jL))))),eI 9 (jL.length:Int),eI 10 x] [])) ()) <|pp () <|pp (pp (aS @G.lS.L1.eq_1 <|@G.lS.L1.eq_2) ()) <|pp (pp (@kQ [] [] []) ()) <|()
 exact uG
theorem F.acp {n:Nat} : ∀{ay jL r},G.acp n ay jL=some r->fD pZ 57 [.agg (wN ay),.one (.c (.sl 8 (aT tC.cells jL)))] (.wF [(true,(wN r.1)),(false,[wI r.2])]):=by
 intro ay jL r h;refine dB K.acp (tJ ?_);unfold C.acp;rcases n with _|n<;>simp only[G.acp,reduceCtorEq]at h;have z:=pp (pp @F.aO <|pp @F.jX ()) <|pp () <|pp (pp (@wX (Int×Int×Int×gB×List gB×List ai) _ (λn x=>G.acp.L1 n jL x.1 x.2.1 x.2.2.1 x.2.2.2.1 x.2.2.2.2.1 x.2.2.2.2.2) r (λx=>dP.of [(1,.v true (.one (.c (.sl 8 (aT tC.cells jL))))),eP 4 105,eP 6 106,(13,.v true (.one (.c (.sl 8 (aT tC.cells jL))))),eI 14 (jL.length:Int),eI 15 x.1] [(105,.var zN),(106,.var [wI x.2.1,wI x.2.2.1,wS x.2.2.2.1,wT x.2.2.2.2.1,wK x.2.2.2.2.2])])) ()) <|pp () <|pp (pp (aS @G.acp.L1.eq_1 <|@G.acp.L1.eq_2) ()) <|pp (pp (@kQ [] [(105,11),(106,12)] []) <|pp (@kQ [] [(105,105),(106,106)] []) ()) <|()
 exact uG
theorem F.acr {n:Nat} : ∀{ay jL r},G.acr n ay jL=some r->fD pZ 26 [.agg (wN ay),.one (.c (.sl 8 (aT tC.cells jL)))] (.wF [(true,(wN r.1)),(false,[.c (.lit (.bool r.2))])]):=by
 intro ay jL r h;refine dB K.acr (tJ ?_);unfold C.acr;rcases n with _|n<;>simp only[G.acr,reduceCtorEq]at h;have z:=pp (pp @F.cu <|pp @F.lS <|pp @F.acp ()) <|pp () <|pp () <|pp () <|pp () <|pp () <|()
 exact uG
theorem F.gG {n:Nat} : ∀{bD fU r},G.gG n bD fU=some r->fD pZ 44 [.one (wT bD),.one (wT fU)] (.one (.c (.lit (.bool r)))):=by
 intro bD fU r h;refine dB K.gG (tJ ?_);unfold C.gG;rcases n with _|n<;>simp only[G.gG,reduceCtorEq]at h;have z:=pp () <|pp () <|pp (pp (@wX (Int) _ (λn x=>G.gG.L1 n bD fU x) r (λx=>dP.of [eT 0 bD,eT 1 fU,eI 5 x] [])) ()) <|pp () <|pp (pp (aS @G.gG.L1.eq_1 <|@G.gG.L1.eq_2) ()) <|pp (pp (@kQ [] [] []) ()) <|()
 exact uG
theorem F.Kv : ∀(n:Nat),(∀{bD fU r},G.kE n bD fU=some r->fD pZ 13 [.agg (wN bD),.agg (wN fU)] (.one (.c (.lit (.bool r)))))/\(∀{bD fU r},G.jY n bD fU=some r->fD pZ 45 [.one (wK bD),.one (wK fU)] (.one (.c (.lit (.bool r))))):=by
 intro n
 induction n using eU with|_ n ih=>
 refine⟨?_,?_⟩
 ·intro bD fU r h;refine dB K.kE (tJ ?_);unfold C.kE;rcases n with _|n<;>simp only[G.kE,reduceCtorEq]at h;have z:=pp (pp ((ihR ih)) <|pp @F.gG ()) <|pp () <|pp () <|pp () <|pp () <|pp () <|()
  exact uG
 ·intro bD fU r h;refine dB K.jY (tJ ?_);unfold C.jY;rcases n with _|n<;>simp only[G.jY,reduceCtorEq]at h;have z:=pp (pp ((ihL ih)) ()) <|pp () <|pp (pp (@wX (Int) _ (λn x=>G.jY.L1 n bD fU x) r (λx=>dP.of [(0,.v true (.one (wK bD))),(1,.v true (.one (wK fU))),eI 5 x] [])) ()) <|pp () <|pp (pp (aS @G.jY.L1.eq_1 <|@G.jY.L1.eq_2) ()) <|pp (pp (@kQ [] [] []) ()) <|()
  exact uG
theorem F.kE {n:Nat} : ∀{bD:ai} {fU:ai} {r:Bool},G.kE n bD fU=some r->fD pZ 13 [.agg (wN bD),.agg (wN fU)] (.one (.c (.lit (.bool r)))):=(F.Kv n).1
theorem F.tZ {n:Nat} : ∀{bD fU r},G.tZ n bD fU=some r->fD pZ 14 [.agg [wI bD.Kind,wT bD.Path,wT bD.From,wI bD.Value.Kind,wI bD.Value.Num,wS bD.Value.Text,wT bD.Value.Names,wK bD.Value.Kids],.agg [wI fU.Kind,wT fU.Path,wT fU.From,wI fU.Value.Kind,wI fU.Value.Num,wS fU.Value.Text,wT fU.Value.Names,wK fU.Value.Kids]] (.one (.c (.lit (.bool r)))):=by
 intro bD fU r h;refine dB K.tZ (tJ ?_);unfold C.tZ;rcases n with _|n<;>simp only[G.tZ,reduceCtorEq]at h;have z:=pp (pp @F.gG <|pp @F.kE ()) <|pp () <|pp () <|pp () <|pp () <|pp () <|()
 exact uG
theorem F.acO {n:Nat} : ∀{bD fU r},G.acO n bD fU=some r->fD pZ 20 [.one (.c (.sl 8 (aT tC.cells bD))),.one (.c (.sl 8 (aT tC.cells fU)))] (.one (.c (.lit (.bool r)))):=by
 intro bD fU r h;refine dB K.acO (tJ ?_);unfold C.acO;rcases n with _|n<;>simp only[G.acO,reduceCtorEq]at h;have z:=pp (pp @F.tZ ()) <|pp () <|pp (pp (@wX (Int) _ (λn x=>G.acO.L1 n bD fU x) r (λx=>dP.of [(0,.v true (.one (.c (.sl 8 (aT tC.cells bD))))),(1,.v true (.one (.c (.sl 8 (aT tC.cells fU))))),eI 5 x] [])) ()) <|pp () <|pp (pp (aS @G.acO.L1.eq_1 <|@G.acO.L1.eq_2) ()) <|pp (pp (@kQ [] [] []) ()) <|()
 exact uG
theorem F.gu {n:Nat} : ∀{wB r},G.gu n wB=some r->fD pZ 54 [.one (wI wB)] (.one (wS r)):=by
 intro wB r h;refine dB K.gu (tJ ?_);unfold C.gu;rcases n with _|n<;>simp only[G.gu,reduceCtorEq]at h;have z:=pp () <|pp () <|pp (pp (@wX (Int×gB) _ (λn x=>G.gu.L1 n x.1 x.2) r (λx=>dP.of [eI 0 x.1,eS 3 x.2] [])) ()) <|pp () <|pp (pp (aS @G.gu.L1.eq_1 <|@G.gu.L1.eq_2) ()) <|pp (pp (@kQ [] [] []) ()) <|()
 exact uG
theorem F.fE {n:Nat} : ∀{bD wB r},G.fE n bD wB=some r->fD pZ 48 [.one (wT bD),.one (wI wB)] (.one (wI r)):=by
 intro bD wB r h;refine dB K.fE (tJ ?_);unfold C.fE;rcases n with _|n<;>simp only[G.fE,reduceCtorEq]at h;have z:=pp (pp @F.gu ()) <|pp () <|pp (pp (@wX (Int×Int) _ (λn x=>G.fE.L1 n bD x.1 x.2) r (λx=>dP.of [eT 0 bD,eI 1 x.1,eI 5 x.2] [])) ()) <|pp () <|pp (pp (aS @G.fE.L1.eq_1 <|@G.fE.L1.eq_2) ()) <|pp (pp (@kQ [] [] []) ()) <|()
 exact uG
theorem F.Jg : ∀(n:Nat),∀{bD wB r},G.fV n bD wB=some r->fD pZ 49 [.one (wK bD),.one (wI wB)] (.one (wI r)):=by
 intro n
 induction n using eU with|_ n ih=>
 intro bD wB r h;refine dB K.fV (tJ ?_);unfold C.fV;rcases n with _|n<;>simp only[G.fV,reduceCtorEq]at h;have z:=pp (pp ih <|pp @F.gu <|pp @F.fE ()) <|pp () <|pp (pp (@wX (Int×Int) _ (λn x=>G.fV.L1 n bD x.1 x.2) r (λx=>dP.of [(0,.v true (.one (wK bD))),eI 1 x.1,eI 5 x.2] [])) ()) <|pp () <|pp (pp (aS @G.fV.L1.eq_1 <|@G.fV.L1.eq_2) ()) <|pp (pp (@kQ [] [] []) ()) <|()
 exact uG
theorem F.fV {n:Nat} : ∀{bD:List ai} {wB:Int} {r:Int},G.fV n bD wB=some r->fD pZ 49 [.one (wK bD),.one (wI wB)] (.one (wI r)):=F.Jg n
theorem F.acS {n:Nat} : ∀{bD wB r},G.acS n bD wB=some r->fD pZ 22 [.one (.c (.sl 8 (aT tC.cells bD))),.one (wI wB)] (.one (wI r)):=by
 intro bD wB r h;refine dB K.acS (tJ ?_);unfold C.acS;rcases n with _|n<;>simp only[G.acS,reduceCtorEq]at h;have z:=pp (pp @F.fE <|pp @F.gu <|pp @F.fV ()) <|pp () <|pp (pp (@wX (Int×Int) _ (λn x=>G.acS.L1 n bD x.1 x.2) r (λx=>dP.of [(0,.v true (.one (.c (.sl 8 (aT tC.cells bD))))),eI 1 x.1,eI 5 x.2] [])) ()) <|pp () <|pp (pp (aS @G.acS.L1.eq_1 <|@G.acS.L1.eq_2) ()) <|pp (pp (@kQ [] [] []) ()) <|()
 exact uG
theorem F.fJ {n:Nat} : ∀{bD ni r},G.fJ n bD ni=some r->fD pZ 29 [.one (wT bD),.one (wI ni)] (.one (wI r)):=by
 intro bD ni r h;refine dB K.fJ (tJ ?_);unfold C.fJ;rcases n with _|n<;>simp only[G.fJ,reduceCtorEq]at h;have z:=pp () <|pp () <|pp (pp (@wX (Int×Int) _ (λn x=>G.fJ.L1 n bD x.1 x.2) r (λx=>dP.of [eT 0 bD,eI 1 x.1,eI 5 x.2] [])) ()) <|pp () <|pp (pp (aS @G.fJ.L1.eq_1 <|@G.fJ.L1.eq_2) ()) <|pp (pp (@kQ [] [] []) ()) <|()
 exact uG
theorem F.Kw : ∀(n:Nat),(∀{bD ni r},G.jE n bD ni=some r->fD pZ 7 [.agg (wN bD),.one (wI ni)] (.one (wI r)))/\(∀{bD ni r},G.jy n bD ni=some r->fD pZ 30 [.one (wK bD),.one (wI ni)] (.one (wI r))):=by
 intro n
 induction n using eU with|_ n ih=>
 refine⟨?_,?_⟩
 ·intro bD ni r h;refine dB K.jE (tJ ?_);unfold C.jE;rcases n with _|n<;>simp only[G.jE,reduceCtorEq]at h;have z:=pp (pp ((ihR ih)) <|pp @F.fJ ()) <|pp () <|pp () <|pp () <|pp () <|pp () <|()
  exact uG
 ·intro bD ni r h;refine dB K.jy (tJ ?_);unfold C.jy;rcases n with _|n<;>simp only[G.jy,reduceCtorEq]at h;have z:=pp (pp ((ihL ih)) ()) <|pp () <|pp (pp (@wX (Int×Int) _ (λn x=>G.jy.L1 n bD x.1 x.2) r (λx=>dP.of [(0,.v true (.one (wK bD))),eI 1 x.1,eI 5 x.2] [])) ()) <|pp () <|pp (pp (aS @G.jy.L1.eq_1 <|@G.jy.L1.eq_2) ()) <|pp (pp (@kQ [] [] []) ()) <|()
  exact uG
theorem F.jE {n:Nat} : ∀{bD:ai} {ni:Int} {r:Int},G.jE n bD ni=some r->fD pZ 7 [.agg (wN bD),.one (wI ni)] (.one (wI r)):=(F.Kw n).1
theorem F.oM {n:Nat} : ∀{bD ni r},G.oM n bD ni=some r->fD pZ 8 [.agg [wI bD.Kind,wT bD.Path,wT bD.From,wI bD.Value.Kind,wI bD.Value.Num,wS bD.Value.Text,wT bD.Value.Names,wK bD.Value.Kids],.one (wI ni)] (.one (wI r)):=by
 intro bD ni r h;refine dB K.oM (tJ ?_);unfold C.oM;rcases n with _|n<;>simp only[G.oM,reduceCtorEq]at h;have z:=pp (pp @F.fJ <|pp @F.jE ()) <|pp () <|pp () <|pp () <|pp () <|pp () <|()
 exact uG
theorem F.gI {n:Nat} : ∀{bD r},G.gI n bD=some r->fD pZ 34 [.one (wT bD)] (.one (wT r)):=by
 intro bD r h;refine dB K.gI (tJ ?_);unfold C.gI;rcases n with _|n<;>simp only[G.gI,reduceCtorEq]at h;have z:=pp () <|pp () <|pp (pp (@wX (Int×List gB) _ (λn x=>G.gI.L1 n bD x.1 x.2) r (λx=>dP.of [eT 0 bD,(3,.v true (.one (.own 103 x.2.length 1))),eI 4 x.1] [(103,.dat 1 (aT cS x.2))])) ()) <|pp () <|pp (pp (aS @G.gI.L1.eq_1 <|@G.gI.L1.eq_2) ()) <|pp (pp (@kQ [] [(103,10)] []) <|pp (@kQ [] [(103,103)] []) ()) <|()
 exact uG
theorem F.Ky : ∀(n:Nat),(∀{bD r},G.kW n bD=some r->fD pZ 10 [.agg (wN bD)] (.agg (wN r)))/\(∀{bD r},G.jZ n bD=some r->fD pZ 35 [.one (wK bD)] (.one (wK r))):=by
 intro n
 induction n using eU with|_ n ih=>
 refine⟨?_,?_⟩
 ·intro bD r h;refine dB K.kW (tJ ?_);unfold C.kW;rcases n with _|n<;>simp only[G.kW,reduceCtorEq]at h;have z:=pp (pp ((ihR ih)) <|pp @F.gI ()) <|pp () <|pp () <|pp () <|pp () <|pp () <|()
  exact uG
 ·intro bD r h;refine dB K.jZ (tJ ?_);unfold C.jZ;rcases n with _|n<;>simp only[G.jZ,reduceCtorEq]at h;have z:=pp (pp ((ihL ih)) ()) <|pp () <|pp (pp (@wX (Int×List ai) _ (λn x=>G.jZ.L1 n bD x.1 x.2) r (λx=>dP.of [(0,.v true (.one (wK bD))),(3,.v true (.one (.own 103 x.2.length 5))),eI 4 x.1] [(103,.dat 5 (aT ai.cells x.2))])) ()) <|pp () <|pp (pp (aS @G.jZ.L1.eq_1 <|@G.jZ.L1.eq_2) ()) <|pp (pp (@kQ [] [(103,10)] []) <|pp (@kQ [] [(103,103)] []) ()) <|()
  exact uG
theorem F.kW {n:Nat} : ∀{bD:ai} {r:ai},G.kW n bD=some r->fD pZ 10 [.agg (wN bD)] (.agg (wN r)):=(F.Ky n).1
theorem F.ry {n:Nat} : ∀{bD r},G.ry n bD=some r->fD pZ 11 [.agg [wI bD.Kind,wT bD.Path,wT bD.From,wI bD.Value.Kind,wI bD.Value.Num,wS bD.Value.Text,wT bD.Value.Names,wK bD.Value.Kids]] (.agg [wI r.Kind,wT r.Path,wT r.From,wI r.Value.Kind,wI r.Value.Num,wS r.Value.Text,wT r.Value.Names,wK r.Value.Kids]):=by
 intro bD r h;refine dB K.ry (tJ ?_);unfold C.ry;rcases n with _|n<;>simp only[G.ry,reduceCtorEq]at h;have z:=pp (pp @F.gI <|pp @F.kW ()) <|pp () <|pp () <|pp () <|pp () <|pp () <|()
 exact uG
theorem F.KA : ∀(n:Nat),∀{ay r},G.bC n ay=some r->fD pZ 51 [.agg (wN ay)] (.agg (wN r)):=by
 intro n
 induction n using eU with|_ n ih=>
 intro ay r h;refine dB K.bC (tJ ?_);unfold C.bC;rcases n with _|n<;>simp only[G.bC,reduceCtorEq]at h;have z:=pp (pp ih ()) <|pp () <|pp (pp (@wX (Int×List ai) _ (λn x=>G.bC.L1 n ay x.1 x.2) r (λx=>dP.of [eP 1 107,eP 2 108,(3,.v true (.one (.own 109 x.2.length 5))),eI 4 x.1] [(107,.var (wN ay)),(108,.var zN),(109,.dat 5 (aT ai.cells x.2))])) ()) <|pp () <|pp (pp (aS @G.bC.L1.eq_1 <|@G.bC.L1.eq_2) ()) <|pp (pp (@kQ [] [(107,10),(108,11),(109,12)] []) <|pp (@kQ [] [(107,107),(108,108),(109,14)] []) ()) <|()
 exact uG
theorem F.bC {n:Nat} : ∀{ay:ai} {r:ai},G.bC n ay=some r->fD pZ 51 [.agg (wN ay)] (.agg (wN r)):=F.KA n
theorem F.Dz {n:Nat} : ∀{ay r},G.bC n ay=some r->nN pZ 51 [.agg (wN ay)] [] (λr1 b1=>r1 = .agg [wI r.Kind,wI r.Num,wS r.Text,.own 0 r.Names.length 1,.own 1 r.Kids.length 5]/\b1=[.dat 1 (aT cS r.Names),.dat 5 (aT ai.cells r.Kids)]):=by
 intro ay r h;refine vI K.bC (tJ ?_);unfold C.bC;rcases n with _|n<;>simp only[G.bC,reduceCtorEq]at h;have z:=pp (pp @F.bC ()) <|pp () <|pp (pp (@wX (Int×List ai) _ (λn x=>G.bC.L1 n ay x.1 x.2) r (λx=>dP.of [eP 1 107,eP 2 108,(3,.v true (.one (.own 109 x.2.length 5))),eI 4 x.1] [(107,.var (wN ay)),(108,.var zN),(109,.dat 5 (aT ai.cells x.2))])) ()) <|pp () <|pp (pp (aS @G.bC.L1.eq_1 <|@G.bC.L1.eq_2) ()) <|pp (pp (@kQ [] [(107,10),(108,11),(109,12)] []) <|pp (@kQ [] [(107,107),(108,108),(109,14)] []) ()) <|(pp (@FB [] [(0,16),(1,109)] []) ())
 exact uG
theorem F.Ny : ∀(n:Nat),∀{ay r},G.ji n ay=some r->fD pZ 107 [.one (wI ay)] (.one (wS r)):=by
 intro n
 induction n using eU with|_ n ih=>
 intro ay r h;refine dB K.ji (tJ ?_);unfold C.ji;rcases n with _|n<;>simp only[G.ji,reduceCtorEq]at h;have z:=pp (pp ih ()) <|pp () <|pp () <|pp () <|pp () <|pp () <|()
 exact uG
theorem F.ji {n:Nat} : ∀{ay:Int} {r:gB},G.ji n ay=some r->fD pZ 107 [.one (wI ay)] (.one (wS r)):=F.Ny n
theorem F.fO {n:Nat} : ∀{ay fK r},G.fO n ay fK=some r->fD pZ 105 [.agg (wN ay),.one (wS fK)] (.one (wI r)):=by
 intro ay fK r h;refine dB K.fO (tJ ?_);unfold C.fO;rcases n with _|n<;>simp only[G.fO,reduceCtorEq]at h;have z:=pp (pp @F.ji ()) <|pp () <|pp (pp (@wX (Int) _ (λn x=>G.fO.L1 n ay fK x) r (λx=>dP.of [eS 1 fK,eP 2 103,eI 5 x] [(103,.var (wN ay))])) ()) <|pp () <|pp (pp (aS @G.fO.L1.eq_1 <|@G.fO.L1.eq_2) ()) <|pp (pp (@kQ [] [(103,10)] []) <|pp (@kQ [] [(103,103)] []) ()) <|()
 exact uG
theorem F.iI {n:Nat} : ∀{ay fK r},G.iI n ay fK=some r->fD pZ 122 [.agg (wN ay),.one (wS fK)] (.wF [(false,[wI r.1]),(false,[.c (.lit (.bool r.2))])]):=by
 intro ay fK r h;refine dB K.iI (tJ ?_);unfold C.iI;rcases n with _|n<;>simp only[G.iI,reduceCtorEq]at h;have z:=pp (pp @F.fO <|pp @F.ji ()) <|pp () <|pp (pp (@wX (Int) _ (λn x=>G.iI.L1 n ay fK x) r (λx=>dP.of [eS 1 fK,eP 2 103,eI 7 x] [(103,.var (wN ay))])) <|pp (@wX (Int) _ (λn x=>G.iI.L2 n ay fK x) r (λx=>dP.of [eS 1 fK,eP 2 106,eI 7 x] [(106,.var (wN ay))])) ()) <|pp () <|pp (pp (aS @G.iI.L1.eq_1 <|aS @G.iI.L1.eq_2 <|aS @G.iI.L2.eq_1 <|@G.iI.L2.eq_2) ()) <|pp (pp (@kQ [] [(103,10)] []) <|pp (@kQ [] [(103,103)] []) <|pp (@kQ [] [(106,10)] []) <|pp (@kQ [] [(106,106)] []) ()) <|()
 exact uG
theorem F.kZ {n:Nat} : ∀{ay wB KY r},G.kZ n ay wB KY=some r->fD pZ 111 [.agg (wN ay),.one (wI wB),.agg (wN KY)] (.agg (wN r)):=by
 intro ay wB KY r h;refine dB K.kZ (tJ ?_);unfold C.kZ;rcases n with _|n<;>simp only[G.kZ,reduceCtorEq]at h;have z:=pp () <|pp (pp (pp @F.Dz (@cG [] [101,102])) <|pp (pp @F.Dz (@cG [] [103,104])) ()) <|pp () <|pp () <|pp () <|pp () <|()
 exact uG
theorem F.nD {n:Nat} : ∀{ay fK dM r},G.nD n ay fK dM=some r->fD pZ 110 [.agg (wN ay),.one (wS fK),.agg (wN dM)] (.wF [(true,(wN r.1)),(false,[.c (.lit (.bool r.2))])]):=by
 intro ay fK dM r h;refine dB K.nD (tJ ?_);unfold C.nD;rcases n with _|n<;>simp only[G.nD,reduceCtorEq]at h;have z:=pp (pp @F.iI <|pp @F.kZ <|pp @F.bC ()) <|pp () <|pp () <|pp () <|pp () <|pp () <|()
 exact uG
theorem F.mD {n:Nat} : ∀{ay au r},G.mD n ay au=some r->fD pZ 93 [.agg (wN ay),.one (wT au)] (.wF [(true,(wN r.1)),(false,[.c (.lit (.bool r.2))])]):=by
 intro ay au r h;refine dB K.mD (tJ ?_);unfold C.mD;rcases n with _|n<;>simp only[G.mD,reduceCtorEq]at h;have z:=pp (pp @F.fO <|pp @F.bC ()) <|pp () <|pp (pp (@wX (Int×Int×Int×gB×List gB×List ai) _ (λn x=>G.mD.L1 n au x.1 x.2.1 x.2.2.1 x.2.2.2.1 x.2.2.2.2.1 x.2.2.2.2.2) r (λx=>dP.of [eT 1 au,eP 2 105,eP 4 106,eI 6 x.1] [(105,.var [wI x.2.1,wI x.2.2.1,wS x.2.2.2.1,wT x.2.2.2.2.1,wK x.2.2.2.2.2]),(106,.var zN)])) ()) <|pp () <|pp (pp (aS @G.mD.L1.eq_1 <|@G.mD.L1.eq_2) ()) <|pp (pp (@kQ [] [(105,10),(106,11)] []) <|pp (@kQ [] [(105,105),(106,106)] []) ()) <|()
 exact uG
theorem F.QZ : ∀(n:Nat),∀{ay au dM r},G.jQ n ay au dM=some r->fD pZ 92 [.agg (wN ay),.one (wT au),.agg (wN dM)] (.wF [(true,(wN r.1)),(false,[.c (.lit (.bool r.2))])]):=by
 intro n
 induction n using eU with|_ n ih=>
 intro ay au dM r h;refine dB K.jQ (tJ ?_);unfold C.jQ;rcases n with _|n<;>simp only[G.jQ,reduceCtorEq]at h;have z:=pp (pp ih <|pp @F.bC <|pp @F.fO <|pp @F.kZ ()) <|pp () <|pp () <|pp () <|pp () <|pp () <|()
 exact uG
theorem F.jQ {n:Nat} : ∀{ay:ai} {au:List gB} {dM:ai} {r:ai×Bool},G.jQ n ay au dM=some r->fD pZ 92 [.agg (wN ay),.one (wT au),.agg (wN dM)] (.wF [(true,(wN r.1)),(false,[.c (.lit (.bool r.2))])]):=F.QZ n
theorem F.mZ {n:Nat} : ∀{ay au dM r},G.mZ n ay au dM=some r->fD pZ 90 [.agg (wN ay),.one (wT au),.agg (wN dM)] (.wF [(true,(wN r.1)),(false,[.c (.lit (.bool r.2))])]):=by
 intro ay au dM r h;refine dB K.mZ (tJ ?_);unfold C.mZ;rcases n with _|n<;>simp only[G.mZ,reduceCtorEq]at h;have z:=pp (pp @F.bC <|pp @F.mD <|pp @F.nD <|pp @F.jQ ()) <|pp () <|pp () <|pp () <|pp () <|pp () <|()
 exact uG
theorem F.iY {n:Nat} : ∀{au xE r},G.iY n au xE=some r->fD pZ 94 [.one (wT au),.one (wT xE)] (.one (.c (.lit (.bool r)))):=by
 intro au xE r h;refine dB K.iY (tJ ?_);unfold C.iY;rcases n with _|n<;>simp only[G.iY,reduceCtorEq]at h;have z:=pp () <|pp () <|pp (pp (@wX (Int) _ (λn x=>G.iY.L1 n au xE x) r (λx=>dP.of [eT 0 au,eT 1 xE,eI 5 x] [])) ()) <|pp () <|pp (pp (aS @G.iY.L1.eq_1 <|@G.iY.L1.eq_2) ()) <|pp (pp (@kQ [] [] []) ()) <|()
 exact uG
theorem F.iq {n:Nat} : ∀{ay au r},G.iq n ay au=some r->fD pZ 91 [.agg (wN ay),.one (wT au)] (.wF [(true,(wN r.1)),(false,[.c (.lit (.bool r.2))])]):=by
 intro ay au r h;refine dB K.iq (tJ ?_);unfold C.iq;rcases n with _|n<;>simp only[G.iq,reduceCtorEq]at h;have z:=pp (pp @F.mD <|pp @F.fO <|pp @F.jQ ()) <|pp () <|pp () <|pp (pp (@P8 ((ai×Bool)×List ai×List gB) _ (λn x=>G.iq.K1 n ay au x.1 x.2.1 x.2.2) r (λx=>dP.of [eT 1 au,eP 2 101,eP 4 102,eI 6 (ah .i64 ((au.length:Int)-1)),eP 7 103,(10,.v true (.one (.own 104 x.2.1.length 5))),(11,.v true (.one (.own 105 x.2.2.length 1)))] [(101,.var (wN ay)),(102,.var zN),(103,.var (wN x.1.1)),(104,.dat 5 (aT ai.cells x.2.1)),(105,.dat 1 (aT cS x.2.2))])) ()) <|pp (pp (aS @G.iq.K1.eq_1 <|@G.iq.K1.eq_2) ()) <|pp (pp (@kQ [] [(101,10),(102,11),(103,12),(104,15),(105,19)] []) <|pp (@kQ [] [(101,10),(102,11),(103,12),(104,15),(105,16)] []) ()) <|()
 exact uG
theorem F.iK {n:Nat} : ∀{fU r},G.iK n fU=some r->fD pZ 119 [.one (.c (.lit (.bool fU)))] (.one (wI r)):=by
 intro fU r h;refine dB K.iK (tJ ?_);unfold C.iK;rcases n with _|n<;>simp only[G.iK,reduceCtorEq]at h;have z:=pp () <|pp () <|pp () <|pp () <|pp () <|pp () <|()
 exact uG
theorem F.kS {n:Nat} : ∀{bD fU r},G.kS n bD fU=some r->fD pZ 101 [.one (wI bD),.one (wI fU)] (.one (wI r)):=by
 intro bD fU r h;refine dB K.kS (tJ ?_);unfold C.kS;rcases n with _|n<;>simp only[G.kS,reduceCtorEq]at h;have z:=pp (pp @F.iK ()) <|pp () <|pp () <|pp () <|pp () <|pp () <|()
 exact uG
theorem F.jH {n:Nat} : ∀{bD fU r},G.jH n bD fU=some r->fD pZ 102 [.one (wS bD),.one (wS fU)] (.one (wI r)):=by
 intro bD fU r h;refine dB K.jH (tJ ?_);unfold C.jH;rcases n with _|n<;>simp only[G.jH,reduceCtorEq]at h;have z:=pp (pp @F.iK ()) <|pp () <|pp () <|pp () <|pp () <|pp () <|()
 exact uG
theorem F.Nw : ∀(n:Nat),∀{bD fU r},G.dJ n bD fU=some r->fD pZ 79 [.agg (wN bD),.agg (wN fU)] (.one (wI r)):=by
 intro n
 induction n using eU with|_ n ih=>
 intro bD fU r h;refine dB K.dJ (tJ ?_);unfold C.dJ;rcases n with _|n<;>simp only[G.dJ,reduceCtorEq]at h;have z:=pp (pp ih <|pp @F.kS <|pp @F.jH ()) <|pp () <|pp (pp (@wX (Int) _ (λn x=>G.dJ.L1 n bD fU x) r (λx=>dP.of [eP 2 105,eP 3 106,eI 5 x] [(105,.var (wN bD)),(106,.var (wN fU))])) ()) <|pp () <|pp (pp (aS @G.dJ.L1.eq_1 <|@G.dJ.L1.eq_2) ()) <|pp (pp (@kQ [] [(105,10),(106,11)] []) <|pp (@kQ [] [(105,105),(106,106)] []) ()) <|()
 exact uG
theorem F.dJ {n:Nat} : ∀{bD:ai} {fU:ai} {r:Int},G.dJ n bD fU=some r->fD pZ 79 [.agg (wN bD),.agg (wN fU)] (.one (wI r)):=F.Nw n
theorem F.rD {n:Nat} : ∀{bD fU r},G.rD n bD fU=some r->fD pZ 50 [.agg (wN bD),.agg (wN fU)] (.one (.c (.lit (.bool r)))):=by
 intro bD fU r h;refine dB K.rD (tJ ?_);unfold C.rD;rcases n with _|n<;>simp only[G.rD,reduceCtorEq]at h;have z:=pp (pp @F.dJ ()) <|pp () <|pp () <|pp () <|pp () <|pp () <|()
 exact uG
theorem F.gY {n:Nat} : ∀{ay iE r},G.gY n ay iE=some r->fD pZ 65 [.agg (wN ay),.agg [wI iE.Kind,wT iE.Path,wT iE.From,wI iE.Value.Kind,wI iE.Value.Num,wS iE.Value.Text,wT iE.Value.Names,wK iE.Value.Kids]] (.wF [(true,(wN r.1)),(false,[.c (.lit (.bool r.2))])]):=by
 intro ay iE r h;refine dB K.gY (tJ ?_);unfold C.gY;rcases n with _|n<;>simp only[G.gY,reduceCtorEq]at h;have z:=pp (pp @F.mZ <|pp @F.iq <|pp @F.jQ <|pp @F.mD <|pp @F.rD <|pp @F.iY <|pp @F.bC ()) <|pp () <|pp () <|pp (pp (@P8 (List gB) _ (λn x=>G.gY.K1 n ay iE x) r (λx=>dP.of [eP 2 101,eP 3 102,eP 4 103,eT 6 x] [(101,.var (wN ay)),(102,.var [wI iE.Kind,wT iE.Path,wT iE.From,wI iE.Value.Kind,wI iE.Value.Num,wS iE.Value.Text,wT iE.Value.Names,wK iE.Value.Kids]),(103,.var zN)])) ()) <|pp (pp (aS @G.gY.K1.eq_1 <|@G.gY.K1.eq_2) ()) <|pp (pp (@kQ [] [(101,10),(102,11),(103,12)] []) ()) <|()
 exact uG
theorem F.QY : ∀(n:Nat),∀{ay r},G.jc n ay=some r->fD pZ 61 [.agg (wN ay)] (.one (wI r)):=by
 intro n
 induction n using eU with|_ n ih=>
 intro ay r h;refine dB K.jc (tJ ?_);unfold C.jc;rcases n with _|n<;>simp only[G.jc,reduceCtorEq]at h;have z:=pp (pp ih ()) <|pp () <|pp (pp (@wX (Int×Int) _ (λn x=>G.jc.L1 n ay x.1 x.2) r (λx=>dP.of [eP 1 103,eI 3 x.1,eI 4 x.2] [(103,.var (wN ay))])) ()) <|pp () <|pp (pp (aS @G.jc.L1.eq_1 <|@G.jc.L1.eq_2) ()) <|pp (pp (@kQ [] [(103,10)] []) <|pp (@kQ [] [(103,103)] []) ()) <|()
 exact uG
theorem F.jc {n:Nat} : ∀{ay:ai} {r:Int},G.jc n ay=some r->fD pZ 61 [.agg (wN ay)] (.one (wI r)):=F.QY n
theorem F.jA {n:Nat} : ∀{ay KZ GM r},G.jA n ay KZ GM=some r->fD pZ 62 [.one (wI ay),.one (wI KZ),.one (wI GM)] (.one (.c (.lit (.bool r)))):=by
 intro ay KZ GM r h;refine dB K.jA (tJ ?_);unfold C.jA;rcases n with _|n<;>simp only[G.jA,reduceCtorEq]at h;have z:=pp () <|pp () <|pp () <|pp () <|pp () <|pp () <|()
 exact uG
theorem F.dQ {n:Nat} : ∀{tV r},G.dQ n tV=some r->fD pZ 87 [.one (wS tV)] (.one (.c (.lit (.bool r)))):=by
 intro tV r h;refine dB K.dQ (tJ ?_);unfold C.dQ;rcases n with _|n<;>simp only[G.dQ,reduceCtorEq]at h;have z:=pp (pp @F.jA ()) <|pp () <|pp (pp (@wX (Int) _ (λn x=>G.dQ.L1 n tV x) r (λx=>dP.of [eS 0 tV,eI 3 x] [])) ()) <|pp () <|pp (pp (aS @G.dQ.L1.eq_1 <|@G.dQ.L1.eq_2) ()) <|pp (pp (@kQ [] [] []) ()) <|()
 exact uG
theorem F.jG {n:Nat} : ∀{jL r},G.jG n jL=some r->fD pZ 89 [.one (wT jL)] (.one (.c (.lit (.bool r)))):=by
 intro jL r h;refine dB K.jG (tJ ?_);unfold C.jG;rcases n with _|n<;>simp only[G.jG,reduceCtorEq]at h;have z:=pp (pp @F.dQ ()) <|pp () <|pp (pp (@wX (Int) _ (λn x=>G.jG.L1 n jL x) r (λx=>dP.of [eT 0 jL,eI 3 x] [])) ()) <|pp () <|pp (pp (aS @G.jG.L1.eq_1 <|@G.jG.L1.eq_2) ()) <|pp (pp (@kQ [] [] []) ()) <|()
 exact uG
theorem F.Oh : ∀(n:Nat),(∀{ay iT r},G.lJ n ay iT=some r->fD pZ 88 [.agg (wN ay),.one (wI iT)] (.one (.c (.lit (.bool r)))))/\(∀{ay iT r},G.eF n ay iT=some r->fD pZ 60 [.agg (wN ay),.one (wI iT)] (.one (.c (.lit (.bool r))))):=by
 intro n
 induction n using eU with|_ n ih=>
 refine⟨?_,?_⟩
 ·intro ay iT r h;refine dB K.lJ (tJ ?_);unfold C.lJ;rcases n with _|n<;>simp only[G.lJ,reduceCtorEq]at h;have z:=pp (pp ((ihR ih)) ()) <|pp () <|pp (pp (@wX (Int) _ (λn x=>G.lJ.L1 n ay iT x) r (λx=>dP.of [eI 1 iT,eP 2 103,eI 5 x] [(103,.var (wN ay))])) ()) <|pp () <|pp (pp (aS @G.lJ.L1.eq_1 <|@G.lJ.L1.eq_2) ()) <|pp (pp (@kQ [] [(103,10)] []) <|pp (@kQ [] [(103,103)] []) ()) <|()
  exact uG
 ·intro ay iT r h;refine dB K.eF (tJ ?_);unfold C.eF;rcases n with _|n<;>simp only[G.eF,reduceCtorEq]at h;have z:=pp (pp ((ihL ih)) <|pp @F.jA <|pp @F.dQ <|pp @F.jG ()) <|pp () <|pp () <|pp (pp (@P8 (Unit) _ (λn x=>G.eF.K1 n ay iT) r (λx=>dP.of [eI 1 iT,eP 2 101,(54,.v true (.one (.c (.lit (.bool false)))))] [(101,.var (wN ay))])) ()) <|pp (pp (aS @G.eF.K1.eq_1 <|@G.eF.K1.eq_2) ()) <|pp (pp (@kQ [] [(101,10)] []) ()) <|()
  exact uG
theorem F.eF {n:Nat} : ∀{ay:ai} {iT:Int} {r:Bool},G.eF n ay iT=some r->fD pZ 60 [.agg (wN ay),.one (wI iT)] (.one (.c (.lit (.bool r)))):=(F.Oh n).2
theorem F.fZ {n:Nat} : ∀{ay r},G.fZ n ay=some r->fD pZ 31 [.agg (wN ay)] (.one (.c (.lit (.bool r)))):=by
 intro ay r h;refine dB K.fZ (tJ ?_);unfold C.fZ;rcases n with _|n<;>simp only[G.fZ,reduceCtorEq]at h;have z:=pp (pp @F.eF <|pp @F.jc ()) <|pp () <|pp () <|pp () <|pp () <|pp () <|()
 exact uG
theorem F.lN {n:Nat} : ∀{ay DT r},G.lN n ay DT=some r->fD pZ 64 [.agg (wN ay),.one (.c (.lit (.bool DT)))] (.wF [(true,(wN r.1)),(false,[.c (.lit (.bool r.2))])]):=by
 intro ay DT r h;refine dB K.lN (tJ ?_);unfold C.lN;rcases n with _|n<;>simp only[G.lN,reduceCtorEq]at h;have z:=pp (pp @F.fZ ()) <|pp () <|pp () <|pp () <|pp () <|pp () <|()
 exact uG
theorem F.kY {n:Nat} : ∀{ay iE r},G.kY n ay iE=some r->fD pZ 33 [.agg (wN ay),.agg [wI iE.Kind,wT iE.Path,wT iE.From,wI iE.Value.Kind,wI iE.Value.Num,wS iE.Value.Text,wT iE.Value.Names,wK iE.Value.Kids]] (.wF [(true,(wN r.1)),(false,[.c (.lit (.bool r.2))])]):=by
 intro ay iE r h;refine dB K.kY (tJ ?_);unfold C.kY;rcases n with _|n<;>simp only[G.kY,reduceCtorEq]at h;have z:=pp (pp @F.gY <|pp @F.lN <|pp @F.bC ()) <|pp () <|pp () <|pp () <|pp () <|pp () <|()
 exact uG
theorem F.eG {n:Nat} : ∀{au r},G.eG n au=some r->fD pZ 63 [.one (wT au)] (.one (.c (.lit (.bool r)))):=by
 intro au r h;refine dB K.eG (tJ ?_);unfold C.eG;rcases n with _|n<;>simp only[G.eG,reduceCtorEq]at h;have z:=pp (pp @F.dQ ()) <|pp () <|pp (pp (@wX (Int) _ (λn x=>G.eG.L1 n au x) r (λx=>dP.of [eT 0 au,eI 3 x] [])) ()) <|pp () <|pp (pp (aS @G.eG.L1.eq_1 <|@G.eG.L1.eq_2) ()) <|pp (pp (@kQ [] [] []) ()) <|()
 exact uG
theorem F.jO {n:Nat} : ∀{iE r},G.jO n iE=some r->fD pZ 32 [.agg [wI iE.Kind,wT iE.Path,wT iE.From,wI iE.Value.Kind,wI iE.Value.Num,wS iE.Value.Text,wT iE.Value.Names,wK iE.Value.Kids]] (.one (.c (.lit (.bool r)))):=by
 intro iE r h;refine dB K.jO (tJ ?_);unfold C.jO;rcases n with _|n<;>simp only[G.jO,reduceCtorEq]at h;have z:=pp (pp @F.jA <|pp @F.eG <|pp @F.fZ ()) <|pp () <|pp () <|pp () <|pp () <|pp () <|()
 exact uG
theorem F.mV {n:Nat} : ∀{jL r},G.mV n jL=some r->fD pZ 55 [.one (.c (.sl 8 (aT tC.cells jL)))] (.one (.c (.lit (.bool r)))):=by
 intro jL r h;refine dB K.mV (tJ ?_);unfold C.mV;rcases n with _|n<;>simp only[G.mV,reduceCtorEq]at h;have z:=pp (pp @F.jO ()) <|pp () <|pp (pp (@wX (Int) _ (λn x=>G.mV.L1 n jL x) r (λx=>dP.of [(0,.v true (.one (.c (.sl 8 (aT tC.cells jL))))),eI 3 x] [])) ()) <|pp () <|pp (pp (aS @G.mV.L1.eq_1 <|@G.mV.L1.eq_2) ()) <|pp (pp (@kQ [] [] []) ()) <|()
 exact uG
theorem F.aba {n:Nat} : ∀{ay jL r},G.aba n ay jL=some r->fD pZ 24 [.agg (wN ay),.one (.c (.sl 8 (aT tC.cells jL)))] (.wF [(true,(wN r.1)),(false,[.c (.lit (.bool r.2))])]):=by
 intro ay jL r h;refine dB K.aba (tJ ?_);unfold C.aba;rcases n with _|n<;>simp only[G.aba,reduceCtorEq]at h;have z:=pp (pp @F.fZ <|pp @F.mV <|pp @F.bC <|pp @F.kY ()) <|pp () <|pp (pp (@wX (Int×Int×Int×gB×List gB×List ai) _ (λn x=>G.aba.L1 n jL x.1 x.2.1 x.2.2.1 x.2.2.2.1 x.2.2.2.2.1 x.2.2.2.2.2) r (λx=>dP.of [(1,.v true (.one (.c (.sl 8 (aT tC.cells jL))))),eP 4 105,eP 6 106,eI 7 x.1] [(105,.var zN),(106,.var [wI x.2.1,wI x.2.2.1,wS x.2.2.2.1,wT x.2.2.2.2.1,wK x.2.2.2.2.2])])) ()) <|pp () <|pp (pp (aS @G.aba.L1.eq_1 <|@G.aba.L1.eq_2) ()) <|pp (pp (@kQ [] [(105,11),(106,12)] []) <|pp (@kQ [] [(105,105),(106,106)] []) ()) <|()
 exact uG
end Go.Ab
section
namespace Go.Ab
open Go Go.ChangeShapes Go.WideShapes Go.ChangeAt Go.RowKit
def I0 (W:World):IH:=λb=>match W.heap[b]? with
 |some (.cells c _ _)=>some c
 |_=>none
theorem YQ (W:World):Agree (I0 W) W:=by
 intro b c h;unfold I0 at h;split at h
 ·rename_i c' e fr hb;cases h;exact⟨e,fr,hb⟩
 ·cases h
theorem VV (W:World){a:Addr}{v:Value}(h:W.cell? a=some v):(I0 W).cell a=some v:=by
 unfold Go.World.cell? at h;unfold IH.cell I0;split at h
 ·rename_i c e fr hb;split at h
  ·cases h
  ·rename_i hs;rw[if_neg hs,hb];exact h
 ·cases h
theorem Py {W W':World}{M:Nat->Prop}(h:xK W W' M)(hM:∀k,¬M k):Below W.heap.size W W':=
 ⟨h.os,h.tape,h.output,h.size,λk hk=>h.block k hk (hM k)⟩
theorem Jn (ρ:Ren)(k:Nat):¬ ∃b,(xN [] b).uses (ρ b) k:=λ⟨b,h⟩=>by simp only[xN,List.getD_nil]at h;exact h
theorem XT {P:Program}{W:World}{x:String×DataW Unit}{rest:List (String×DataW Unit)}(h:laidMet P (x::rest) W):laidMet P rest W:=by obtain⟨ps,hv,hn,hc⟩:=h;obtain⟨g,t,cs,fuel,p,q,h1,h2,h3,h4,h5,rfl⟩:=hv;exact⟨q,h5,(List.nodup_append.1 hn).2.1,λb off hp=>hc b off (List.mem_append_right _ hp)⟩
theorem OI {P:Program}{W:World} : ∀(k:Nat) {l:List (String×DataW Unit)},laidMet P l W->laidMet P (l.drop k) W
 |0,l,h=>h
 |k+1,[],h=>h
 |k+1,x::l,h=>OI k (l:=l) (XT h)
theorem adN {P:Program}{W:World}{rest:List (String×DataW Unit)}{g:Nat}{t e:TypeId}
 (hg:P.globalNamed "internal/strconv.uint64pow10" = some g) (hty:(P.globals[g]?).map (·.type)=some t) (ht:P.underlying t=some (.array 20 e)) (he:P.underlying e=some (.int .u64)) (hce:P.cellsOf e=1) (hct:P.cellsOf t=20)
 (h:laidMet P (("internal/strconv.uint64pow10",Go.Lib.tabData .u64 pG)::rest) W):∀g',P.globalNamed "internal/strconv.uint64pow10" = some g'->I0 W g'=some (pG.map λz=>Go.Value.int .u64 z).toArray:=by
 have h1:=Lib.tabIs_of_head hg hty ht he hce hct h;intro g' hg';rw[hg]at hg';simp only[aG]at hg';subst hg';unfold Lib.TabIs World.var? at h1;simp only[hg]at h1;unfold I0
 revert h1
 split<;>simp_all
theorem adE {P:Program}{W:World}{n:String}{g:Nat}{t:TypeId}(h:W.ShapedOpen P)(hn:P.globalNamed n=some g)(hg:g<P.globals.size)
 (h0:((begin P (λ_ _=>0) default).world.heap[g]?).bind Obj.row? = some (#[.int .i64 0],t)) (hb:P.buildable t=true) (hc:P.cellTypes P.depth t=some [t]) (hu:P.underlying t=some (.int .i64)) :
 ∀g',P.globalNamed n=some g'->∃m,(I0 W).cell ⟨g',0,none⟩=some (.int .i64 m):=by
 intro g' hg';cases hn.symm.trans hg';obtain⟨m,hm⟩:=Go.Proofs.cell_of_shapedOpen_int h hg h0 rfl hb hc hu;exact⟨m,VV W hm⟩
end Go.Ab
end
namespace Go.Ab
open Go
section
variable {P:Program} {W:World} {H:Type} {enc:TypeId×Value->H}
def KU (I:IH)(cs:List Value)(xs:List Cell):Prop:=xs.length=cs.length/\∀(i:Nat) v c,cs[i]? = some v->xs[i]? = some c->Rd I v c
theorem KU.nil {I:IH} : KU I [] []:=⟨rfl,λi v c h=>by simp at h⟩
theorem KU.app {I:IH}{a b:List Value}{x y:List Cell}(h:KU I a x)(k:KU I b y):KU I (a++b) (x++y):=by
 refine⟨by rw[iM,iM,h.1,k.1],λi v c hv hc=>?_⟩;have hl:=h.1;by_cases hi:i<a.length
 ·rw[aU hi]at hv;rw[aU (by omega)]at hc;exact h.2 i v c hv hc
 ·rw[bJ (by omega)]at hv;rw[bJ (by omega),hl]at hc;exact k.2 _ v c hv hc
theorem KU.one {I:IH}{v:Value}{c:Cell}(h:Rd I v c):KU I [v] [c]:=by
 refine⟨rfl,λi v' c' hv hc=>?_⟩
 match i with
 | 0=>simp only[dY,aG]at hv hc;subst hv hc;exact h
 |i+1=>simp at hv
theorem KU.fst {I:IH}{v:Value}{c:Cell}(h:KU I [v] [c]):Rd I v c:=h.2 0 v c rfl rfl
section
variable {fuel:Nat} {t:TypeId} {cs:List Value} {d:DataW H} {ps:List MemPlace}
theorem trod_int {k:IntKind}(ht:P.underlying t=some (.int k))(h:iZ enc P W 0 (λ_=>true) true fuel t cs=some (d,ps)):∃n,cs=[.int k n]/\(Lit.int k n).wf=true:=by
 cases fuel with
 |zero=>cases h
 | succ fuel=>unfold iZ at h;rw[ht]at h;split at h<;>simp_all
theorem aaQ (ht:P.underlying t=some .string)(h:iZ enc P W 0 (λ_=>true) true fuel t cs=some (d,ps)):∃s:ByteArray,cs=[.string s]/\s.size<=maxLen:=by
 cases fuel with
 |zero=>cases h
 | succ fuel=>unfold iZ at h;rw[ht]at h;split at h<;>simp_all
end
theorem mapM_at {α β:Type}{f:α->Option β} : ∀{l:List α} {ys:List β},l.mapM f=some ys->ys.length=l.length/\∀(i:Nat) x,l[i]? = some x->f x=ys[i]?
 | [],ys,h=>by simp at h;subst h;exact⟨rfl,λi x hx=>by simp at hx⟩
 | a::l,ys,h=>by
   rw[List.mapM_cons]at h;cases ha:f a with
   |none=>rw[ha]at h;cases h
   | some y=>
     cases hl:l.mapM f with
     |none=>rw[ha,hl]at h;cases h
     | some r=>
       rw[ha,hl]at h;have:ys=y::r:=(by simpa using h.symm);subst this;obtain⟨h1,h2⟩:=mapM_at hl;refine⟨by simp[h1],λi x hx=>?_⟩
       match i with
       |0=>simp at hx;subst hx;simpa using ha
       |i+1=>simp at hx;simpa using h2 i x hx
theorem TD {β:Type}{f:Nat->Option β}{n:Nat}{ys:List β}(h:(lF n).mapM f=some ys):ys.length=n/\∀i,i<n->f i=ys[i]?:=by obtain⟨h1,h2⟩:=mapM_at h;rw[List.length_range]at h1;exact⟨h1,λi hi=>h2 i i (by simp[hi])⟩
theorem cells_at {a:Addr}{n:Nat}{ecs:List Value}(h:W.cells? 0 a n=some ecs):ecs.length=n/\∀j v,ecs[j]? = some v->(I0 W).cell (a.add j)=some v:=by
 unfold World.cells? at h;rw[if_pos (jq _)]at h;obtain⟨h1,h2⟩:=TD h;refine⟨h1,λj v hv=>?_⟩;have hj:j<n:=by have:=(ax.1 hv).1;omega
 have:=h2 j hj;rw[hv]at this;exact VV W this
theorem add_add (a:Addr)(x y:Nat):(a.add x).add y=a.add (x+y):=by
 unfold Go.Addr.add;by_cases hx:x=0
 ·subst hx;simp
 ·by_cases hy:y=0
  ·subst hy;simp
  ·have:¬x+y=0:=(by omega);simp[hx,hy,Nat.add_assoc]
theorem Nc {X:Type}{cells:X->List Cell}{Q:X->Prop}{sz:Nat}{t e:TypeId}{fuel:Nat}{cs:List Value}{d:DataW H}{ps:List MemPlace}(ht:P.underlying t=some (.slice e))(hce:P.cellsOf e=sz)
 (hX:∀f ecs d p,f<fuel->iZ enc P W 0 (λ_=>true) true f e ecs=some (d,p)->∃x,KU (I0 W) ecs (cells x)/\Q x)
 (h:iZ enc P W 0 (λ_=>true) true fuel t cs=some (d,ps)):∃(l:List X) (v:Value),cs=[v]/\Rd (I0 W) v (.sl sz (l.map cells))/\l.length<=maxLen/\∀x,x∈l->Q x:=by
 subst hce;cases fuel with
 |zero=>cases h
 | succ fuel=>
   unfold iZ at h;rw[ht]at h;split at h<;>(try(simp at *;done))<;>(try contradiction)
   ·refine⟨[],_,rfl,.sl none 0 0 _ [] (λ_ _=>undef) rfl (aA _) (jq _) (λe h=>by cases h) (λh=>by omega) (λad h=>by cases h) (λi j c h=>by simp at h),jq _,λx h=>by cases h⟩
   ·rename_i e' a len cap heq;have:e'=e:=(by simpa using heq.symm);subst this;simp only at h;split at h
    ·rename_i hc;obtain⟨_,hlc,hcm⟩:=hc;cases hm:(lF len).mapM (λi=>(W.cells? 0 (a.add (i*P.cellsOf e')) (P.cellsOf e')).bind (iZ enc P W 0 (λ_=>true) true fuel e'))with
     |none=>rw[hm]at h;cases h
     | some ys=>
       obtain⟨h1,h2⟩:=TD hm;have elem:∀i,i<len->∃x ecs,W.cells? 0 (a.add (i*P.cellsOf e')) (P.cellsOf e')=some ecs/\KU (I0 W) ecs (cells x)/\Q x:=λi hi=>by
        have:=h2 i hi;rw[aj (by omega)]at this;cases hw:W.cells? 0 (a.add (i*P.cellsOf e')) (P.cellsOf e')with
        |none=>rw[hw]at this;cases this
        | some ecs=>rw[hw]at this;obtain⟨x,hx⟩:=hX fuel ecs _ _ (Nat.lt_succ_self _) this;exact⟨x,ecs,rfl,hx⟩
       have pick:∃l:List X,l.length=len/\∀i (hi:i<l.length),∃ecs,W.cells? 0 (a.add (i*P.cellsOf e')) (P.cellsOf e')=some ecs/\KU (I0 W) ecs (cells l[i])/\Q l[i]:=by refine⟨(lF len).attach.map λi=>(elem i.1 (by simpa using i.2)).choose,by simp,λi hi=>?_⟩;have hi':i<len:=(by simpa using hi);obtain⟨ecs,h3⟩:=(elem i hi').choose_spec;refine⟨ecs,h3.1,?_⟩;simpa using h3.2
       obtain⟨l,hl,hp'⟩:=pick;have hp:=λi hi=>(hp' i hi).imp λ_ h=>(⟨h.1,h.2.1⟩:_/\_);refine⟨l,_,rfl,.sl (some a) len cap _ _ (λi j=>((I0 W).cell ((a.add (i*P.cellsOf e'+j)))).getD undef) (by rw[nX,hl]) hlc hcm (λx hx=>?_) (λ_ h=>by cases h) (λad hd i j hi hj=>?_) (λi j c hc=>?_),by omega,λx hx=>?_⟩
       ·obtain⟨y,hy,rfl⟩:=List.mem_map.1 hx;obtain⟨i,hi,rfl⟩:=acw.1 hy;obtain⟨ecs,g1,g2⟩:=hp i hi;rw[g2.1,(cells_at g1).1]
       ·cases hd;obtain⟨ecs,g1,g2⟩:=hp i (by omega);obtain⟨q1,q2⟩:=cells_at g1;have:=q2 j ecs[j] (aj (by omega));have ea:(a.add (i*P.cellsOf e')).add j=a.add (i*P.cellsOf e'+j):=add_add _ _ _;rw[ea]at this;rw[this];rfl
       ·by_cases hi:i<l.length
        ·obtain⟨ecs,g1,g2⟩:=hp i hi;have e1:(l.map cells).getD i []=cells l[i]:=(by simp[List.getD,hi]);rw[e1]at hc;obtain⟨q1,q2⟩:=cells_at g1;have hj:j<ecs.length:=by
          have:=(ax.1 hc).1;have:=g2.1;omega
         have q3:=q2 j ecs[j] (aj hj);have ea:(a.add (i*P.cellsOf e')).add j=a.add (i*P.cellsOf e'+j):=add_add _ _ _;rw[ea]at q3;rw[q3];exact g2.2 j _ c (aj hj) hc
        ·have:(l.map cells).getD i []=[]:=(by simp[List.getD,List.getElem?_eq_none (by simpa using hi:(l.map cells).length<=i)]);rw[this]at hc;simp at hc
       ·obtain⟨i,hi,rfl⟩:=acw.1 hx;exact(hp' i hi).choose_spec.2.2
    ·cases h
theorem trod_struct {t:TypeId}{fs:Array Field}{fuel:Nat}{cs:List Value}{d:DataW H}{ps:List MemPlace}(ht:P.underlying t=some (.struct fs))
 (h:iZ enc P W 0 (λ_=>true) true fuel t cs=some (d,ps)):∃f,fuel=f+1/\cs.length=P.cellsOf t/\∀(k:Nat) x,fs.toList[k]? = some x->∃d' p',iZ enc P W 0 (λ_=>true) true f x.type ((cs.drop x.offset).take (P.cellsOf x.type))=some (d',p'):=by
 cases fuel with
 |zero=>cases h
 | succ fuel=>
   refine⟨fuel,rfl,?_⟩;unfold iZ at h;rw[ht]at h;split at h<;>(try(simp at *;done))<;>(try contradiction);rename_i cs0 x0 cs1 fs' heq;have:fs'=fs:=(by simpa using heq.symm);subst this;split at h
   ·rename_i hl;refine⟨hl,λk x hx=>?_⟩;cases hm:fs'.toList.mapM (λf=>iZ enc P W 0 (λ_=>true) true fuel f.type ((cs0.drop f.offset).take (P.cellsOf f.type)))with
    |none=>rw[hm]at h;cases h
    | some ys=>
      obtain⟨h1,h2⟩:=mapM_at hm;have h3:=h2 k x hx;have hk:k<ys.length:=by have:=(ax.1 hx).1;omega
      rw[aj hk]at h3;exact⟨_,_,h3⟩
   ·cases h
end
end Go.Ab
section
namespace Go.Ab
open Go Go.ChangeShapes Go.WideShapes Go.ChangeAt Go.RowKit
theorem WN {I:IH}{ρ:Ren}{cs:Array Value}{xs:List Cell}(h:KU I cs.toList xs):GV I ρ (.agg cs) (.agg (xs.map .c)):=by refine⟨cs,rfl,by rw[nX];exact h.1.symm,λj v x hv hx=>?_⟩;rw[bn]at hx;obtain⟨c,hc,rfl⟩:=bI.1 hx;exact h.2 j v c hv hc
theorem abM {I:IH}{ρ:Ren}{v u:Value}{x y:AV}(h:GV I ρ v x)(k:GV I ρ u y):NU I ρ [v,u] [x,y]:=by
 refine⟨rfl,λj v' x' hv hx=>?_⟩
 match j with
 | 0=>simp only[dY,aG]at hv hx;subst hv hx;exact h
 | 1=>simp only[dH,dY,aG]at hv hx;subst hv hx;exact k
 |j+2=>simp at hv
theorem adB {P:Program}{f:FuncId}{W:World}{vs:List Value}{as_:List AV}(hT:Tabs P (I0 W))(hg:NU (I0 W) (λ_=>none) vs as_)(hp:fD P f as_ (pq true)) :
 Calls P f vs.toArray W λe W'=>e = .returned (.bool true)/\Below W.heap.size W W':=by
 refine(hp (I0 W) (λ_=>none) W vs hT (YQ W) ⟨λb=>by simp only[xN,List.getD_nil];exact rfl,λb b' k h=>(Jn (λ_=>none) k ⟨b,h⟩).elim,λb k h=>(Jn (λ_=>none) k ⟨b,h⟩).elim⟩ hg (λ_ _=>True) .VK).mono ?_;rintro e W' ⟨⟨v,J,σ,r,bs,rfl,⟨rfl,rfl⟩,hg,_,_,_,hfr,_⟩,_⟩;refine⟨?_,Py hfr (Jn (λ_=>none))⟩;cases hg;rfl
end Go.Ab
end
namespace Go.Ab
open Go
section
variable {P:Program} {W:World} {H:Type} {enc:TypeId×Value->H}
structure Po (P:Program)(tI tS tL tN tK:TypeId):Prop where
 i:P.underlying tI=some (.int .i64)
 s:P.underlying tS=some .string
 l:P.underlying tL=some (.slice tS)
 k:P.underlying tK=some (.slice tN)
 n:∃fs,P.underlying tN=some (.struct fs)/\fs.toList.map (λf=>(f.type,f.offset))=[(tI,0),(tI,1),(tS,2),(tL,3),(tK,4)]
 ci:P.cellsOf tI=1
 cs:P.cellsOf tS=1
 cl:P.cellsOf tL=1
 ck:P.cellsOf tK=1
 cn:P.cellsOf tN=5
abbrev NK (enc:TypeId×Value->H)(P:Program)(W:World):=iZ enc P W 0 (λ_=>true) true
theorem TE {fuel:Nat}{t:TypeId}{cs:List Value}{d:DataW H}{ps:List MemPlace}(ht:P.underlying t=some .string)(h:NK enc P W fuel t cs=some (d,ps)):∃s:gB,KU (I0 W) cs (cS s)/\s.length<=maxLen:=by
 obtain⟨s,rfl,hl⟩:=aaQ ht h;refine⟨s.data.toList,KU.one ?_,hl⟩;have:s=⟨⟨s.data.toList⟩⟩:=by cases s;rfl
 rw[this];exact Rd.str _ hl
theorem Nb {fuel:Nat}{t:TypeId}{cs:List Value}{d:DataW H}{ps:List MemPlace}(ht:P.underlying t=some (.int .i64))(h:NK enc P W fuel t cs=some (d,ps)):∃n:Int,KU (I0 W) cs [.lit (.int .i64 n)] /\ -9223372036854775808<=n/\n<=9223372036854775807:=by obtain⟨n,rfl,hw⟩:=trod_int ht h;refine⟨n,KU.one (Rd.lit _ rfl),?_⟩;have hw:(decide (qo.min<=n)&&decide (n<=qo.max))=true:=hw;obtain⟨h1,h2⟩:=Bool.and_eq_true_iff.1 hw;exact⟨of_decide_eq_true h1,of_decide_eq_true h2⟩
theorem Jp {fuel:Nat}{t tS:TypeId}{cs:List Value}{d:DataW H}{ps:List MemPlace}(ht:P.underlying t=some (.slice tS))(hS:P.underlying tS=some .string)(hc:P.cellsOf tS=1)(h:NK enc P W fuel t cs=some (d,ps)):∃l:List gB,KU (I0 W) cs [.sl 1 (l.map cS)]/\l.length<=maxLen/\∀s,s∈l->s.length<=maxLen:=by obtain⟨l,v,rfl,hr,hm,hq⟩:=Nc (cells:=cS) (Q:=λs=>s.length<=maxLen) ht hc (λf ecs d p _ h=>TE hS h) h;exact⟨l,KU.one hr,hm,hq⟩
theorem ae8 : maxLen<=mx:=by decide
theorem part {cs:List Value}{k:Nat}(h:k<cs.length):(cs.drop k).take 1=[cs[k]]:=by rw[List.drop_eq_getElem_cons h];rfl
theorem O4 {tI tS tL tN tK:TypeId}(T:Po P tI tS tL tN tK):∀(fuel:Nat) {cs:List Value} {d:DataW H} {ps:List MemPlace},NK enc P W fuel tN cs=some (d,ps)->∃n:ai,KU (I0 W) cs (ai.cells n)/\cs.length=5/\tu mx fuel n:=by
 intro fuel
 induction fuel using eU with|_ fuel ih=>
 intro cs d ps h;obtain⟨fs,hfs,hl⟩:=T.n;obtain⟨f,rfl,h5,hx⟩:=trod_struct hfs h;rw[T.cn]at h5;have at_:∀k ty off,[(tI,0),(tI,1),(tS,2),(tL,3),(tK,4)][k]? = some (ty,off)->∃d' p',NK enc P W f ty ((cs.drop off).take (P.cellsOf ty))=some (d',p'):=λk ty off hk=>by rw[<- hl,bn]at hk;obtain⟨x,hx1,hx2⟩:=bI.1 hk;cases hx2;exact hx k x hx1
 obtain⟨d0,p0,h0⟩:=at_ 0 tI 0 rfl
 obtain⟨d1,p1,h1⟩:=at_ 1 tI 1 rfl
 obtain⟨d2,p2,h2⟩:=at_ 2 tS 2 rfl
 obtain⟨d3,p3,h3⟩:=at_ 3 tL 3 rfl
 obtain⟨d4,p4,h4⟩:=at_ 4 tK 4 rfl
 rw[T.ci,part (by omega)]at h0 h1;rw[T.cs,part (by omega)]at h2;rw[T.cl,part (by omega)]at h3;rw[T.ck,part (by omega)]at h4;obtain⟨z0,r0,_⟩:=Nb T.i h0;obtain⟨z1,r1,_⟩:=Nb T.i h1;obtain⟨z2,r2,m2⟩:=TE T.s h2;obtain⟨z3,r3,m3,q3⟩:=Jp T.l T.s T.cs h3;obtain⟨z4,v4,e4,r4,m4,q4⟩:=Nc (cells:=ai.cells) (Q:=λn=>tu mx f n) T.k T.cn (λf' ecs d p hf hh=>(ih f' (by omega) hh).imp λn hn=>⟨hn.1,hn.2.2.mono (aA _) (by omega)⟩) h4;have hM:=ae8;refine⟨ai.mk z0 z1 z2 z3 z4,?_,h5,cZ m2 hM,cZ m3 hM,λs hs=>cZ (q3 s hs) hM,cZ m4 hM,trivial,q4⟩;rw[ai.kU];have ec:cs=[cs[0]]++([cs[1]]++([cs[2]]++([cs[3]]++[cs[4]]))):=by
  match cs,h5 with
  |[a,b,c,d,e],_=>rfl
 rw[ec];have e4':cs[4]=v4:=by simpa using e4
 exact r0.app (r1.app (r2.app (r3.app (e4'▸KU.one r4))))
structure acs (P:Program)(tI tS tL tN tK tO tP:TypeId):Prop where
 nt:Po P tI tS tL tN tK
 p:P.underlying tP=some (.slice tO)
 o:∃fs,P.underlying tO=some (.struct fs)/\fs.toList.map (λf=>(f.type,f.offset))=[(tI,0),(tL,1),(tL,2),(tN,3)]
 co:P.cellsOf tO=8
 cp:P.cellsOf tP=1
theorem ab3 {tI tS tL tN tK tO tP:TypeId}(T:acs P tI tS tL tN tK tO tP){fuel:Nat}{cs:List Value}{d:DataW H}{ps:List MemPlace}(h:NK enc P W fuel tO cs=some (d,ps)):∃o:tC,KU (I0 W) cs (tC.cells o)/\cs.length=8/\DF mx fuel o:=by
 obtain⟨fs,hfs,hl⟩:=T.o;obtain⟨f,rfl,h8,hx⟩:=trod_struct hfs h;rw[T.co]at h8;have at_:∀k ty off,[(tI,0),(tL,1),(tL,2),(tN,3)][k]? = some (ty,off)->∃d' p',NK enc P W f ty ((cs.drop off).take (P.cellsOf ty))=some (d',p'):=λk ty off hk=>by rw[<- hl,bn]at hk;obtain⟨x,hx1,hx2⟩:=bI.1 hk;cases hx2;exact hx k x hx1
 obtain⟨d0,p0,h0⟩:=at_ 0 tI 0 rfl
 obtain⟨d1,p1,h1⟩:=at_ 1 tL 1 rfl
 obtain⟨d2,p2,h2⟩:=at_ 2 tL 2 rfl
 obtain⟨d3,p3,h3⟩:=at_ 3 tN 3 rfl
 rw[T.nt.ci,part (by omega)]at h0;rw[T.nt.cl,part (by omega)]at h1 h2;obtain⟨z0,r0,_⟩:=Nb T.nt.i h0;obtain⟨z1,r1,m1,q1⟩:=Jp T.nt.l T.nt.s T.nt.cs h1;obtain⟨z2,r2,m2,q2⟩:=Jp T.nt.l T.nt.s T.nt.cs h2;obtain⟨n,r3,_,q3⟩:=O4 T.nt f h3;have hM:=ae8;rw[ai.kU,T.nt.cn]at r3;refine⟨tC.mk z0 z1 z2 n,?_,h8,⟨cZ m1 hM,λs hs=>cZ (q1 s hs) hM⟩,⟨cZ m2 hM,λs hs=>cZ (q2 s hs) hM⟩,q3.mono (aA _) (by omega)⟩;have ec:cs=[cs[0]]++([cs[1]]++([cs[2]]++(cs.drop 3).take 5)):=by
  match cs,h8 with
  |[a,b,c,d,e,f,g,h],_=>rfl
 rw[ec];exact r0.app (r1.app (r2.app r3))
end
end Go.Ab
