/- What the functions of the program compute (part 2). No conditions. -/
import Derived.Test.YtfengbmckcgbiaaGreatDoorC1
set_option linter.unusedVariables false
set_option linter.unusedSimpArgs false
set_option maxRecDepth 100000
set_option maxHeartbeats 4000000
set_option linter.defProp false
set_option linter.unusedSectionVars false
open Bool renaming false_and->AY,false_or->NR,and_eq_true->ah,true_and->dS,or_eq_true->iJ,and_eq_false_iff->qo,and_false->rP,and_true->rf,eq_iff_iff->tH,or_true->yl,true_or->zW
open Go.IntKind renaming wrap->af,bits->iR,signed->yX
open Go.Lib renaming compareBytes->jZ,itoa->wC,indexByte->xB
open Go.Op renaming bytesLess->iT
open Int renaming tdiv_eq_ediv_of_nonneg->A7,toNat_natCast->ai,tmod->lC,tdiv->mJ
open List renaming getD_cons_zero->AL,drop_eq_getElem_cons->Bq,take_append_drop->CY,foldl_append->EG,zip_append->F9,getElem_zip->Fq,foldl_nil->Gu,zip->Hr,set_cons_zero->Ji,mem_cons->aK,drop_of_length_le->ay,mem_cons_self->bD,mem_append->bG,map_cons->bT,range'->bV,replicate->bW,length_append->bZ,all_eq_true->bf,take_of_length_le->bz,getD_eq_getElem?_getD->cZ,getElem?_map->dG,getD->dI,drop_zero->dM,getElem_mem->dX,getElem?_cons_succ->eX,getElem?_cons_zero->eY,mem_cons_of_mem->fJ,mem_of_mem_take->gG,eq_nil_of_length_eq_zero->gJ,all_cons->gU,length_take->iK,length_nil->iU,length_cons->iV,not_mem_nil->iW,append_assoc->ji,take_succ_eq_append_getElem->kC,flatMap_cons->kE,mem_iff_getElem->kG,mem_of_mem_drop->lq,nil_append->lu,append_nil->mM,length_drop->nD,getD_cons_succ->nO,length_singleton->nV,length_pos_iff->pJ,length_set->qR,mem_or_eq_of_mem_set->qf,range'_succ->rZ,sum_cons->tY,take_succ_cons->uG,mem_singleton->uU,foldl_cons->wG,filter_eq_self->x8,find?_cons->x9,length->yO,cons_append->zI,all_nil->zX
open List.cons renaming injEq->xZ
open Nat renaming le_max_left->CO,le_max_right->Fv,pow_succ->Ie,le_refl->aF,mul_le_mul_right->aX,le_trans->bJ,add_sub_cancel->jJ,mod_lt->xg
open Option renaming map_eq_some_iff->dD,map_some->kL,bind_some->kz,getD_some->lW,bind->mV,isSome_iff_exists->qx,filter->uf,filter_eq_some_iff->yh
open Option.some renaming injEq->aH
open Prod.mk renaming injEq->dF
open UInt8 renaming toNat_inj->Ag,ofNat_toNat->EH,ofNat->gy
namespace Go.Ab
open Go
section
def Ev {α:Type}(g:Nat->Option α)(r:α):Prop:=∃N,∀n,N<=n->g n=some r
section
variable {α β:Type} {g g':Nat->Option α} {r s:α}
theorem bK (r:α):Ev (λ_=>some r) r:=⟨0,λ_ _=>rfl⟩
theorem aT (h:s=r):Ev (λ_=>some s) r:=by subst h;exact bK _
theorem aN (h:Ev (λn=>g (n+1)) r):Ev g r:=by obtain⟨N,h⟩:=h;refine⟨N+1,λn hn=>?_⟩;obtain⟨m,rfl⟩:∃m,n=m+1:=⟨n-1,aI⟩;exact h m aI
theorem ak {h:Nat->Option β}{k:Nat->β->Option α}{a:β}(h1:Ev h a)(h2:Ev (λn=>k n a) r):Ev (λn=>mV (h n) (k n)) r:=by obtain⟨N,h1⟩:=h1;obtain⟨M,h2⟩:=h2;refine⟨max N M,λn hn=>?_⟩;show mV (h n) (k n)=some r;rw[h1 n aI];exact h2 n aI
theorem um {p:Prop}[Decidable p](hp:p)(h:Ev g r):Ev (λn=>Ab.chk p (g n)) r:=by obtain⟨N,h⟩:=h;exact⟨N,λn hn=>by show Ab.chk p (g n)=some r;rw[Ab.chk,aA hp];exact h n hn⟩
theorem dR {c:Bool}(hc:c=true)(h:Ev g r):Ev (λn=>cond c (g n) (g' n)) r:=by subst hc;exact h
theorem dB {c:Bool}(hc:c=false)(h:Ev g' r):Ev (λn=>cond c (g n) (g' n)) r:=by subst hc;exact h
theorem dA {p:Prop}[Decidable p](h:Ev g r)(hp:p:=by omega):Ev (λn=>Ab.chk p (g n)) r:=um hp h
theorem sG {p:Prop}[Decidable p](h:Ev g r)(hp:p:=by omega):Ev (λn=>cond (decide p) (g n) (g' n)) r:=dR (dW hp) h
theorem sH {p:Prop}[Decidable p](h:Ev g' r)(hp:¬p:=by omega):Ev (λn=>cond (decide p) (g n) (g' n)) r:=dB (bg hp) h
theorem dh {c:Bool}(h:c=true->Ev g r)(h':c=false->Ev g' r):Ev (λn=>cond c (g n) (g' n)) r:=by
 cases c
 ·exact h' rfl
 ·exact h rfl
theorem Ev.eq (h:Ev g r)(e:r=s):Ev g s:=e▸h
theorem Ev.val (h:Ev g r):∃n,g n=some r:=⟨h.choose,h.choose_spec _ (aF _)⟩
end
theorem wrapN {x:Int}{m:Nat}(h:x=(m:Int))(h1:m<9223372036854775808):af .i64 x=(m:Int):=by rw[GZ aI aI,h]
theorem tu {i:Nat}(h1:i+1<9223372036854775808):af .i64 ((i:Int)+1)=((i+1:Nat):Int):=wrapN aI h1
theorem FC (i:Nat)(h1:i+1<9223372036854775808:=by omega):IntKind.wrap .i64 ((i:Int)+1)=((i+1:Nat):Int):=tu h1
theorem iD {α:Type}{l:List α}{i:Nat}(d:α)(h:i<l.length):l.getD i d=l[i]:=by simp[dI,h]
theorem gu {α:Type}{l:List α}{i:Nat}(d:α)(h:i<l.length):l.drop i=l.getD i d::l.drop (i+1):=by rw[iD d h,Bq h]
abbrev bl (x y:List UInt8):Bool:=iT x y
theorem aci (x:List UInt8):bl x []=false:=by cases x<;>rfl
theorem UB (a b:UInt8)(x y:List UInt8):bl (a::x) (b::y)=(decide (a<b)||(a==b&&bl x y)):=rfl
theorem Rw : ∀x:List UInt8,bl x x=false
 |[]=>rfl
 |a::x=>by rw[UB,Rw x];simp
theorem DR : ∀{x y z:List UInt8},bl x y=true->bl y z=true->bl x z=true
 |_,[],_,h,_=>by rw[aci]at h;cases h
 |_,_::_,[],_,h=>by rw[aci]at h;cases h
 |[],_::_,_::_,_,_=>rfl
 | a::x,b::y,c::z,h,k=>by
   rw[UB]at *;simp only[iJ,ah,aC,aY]at *;rcases h with h|⟨rfl,h⟩<;>rcases k with k|⟨rfl,k⟩
   ·exact .inl (UInt8.lt_trans h k)
   ·exact .inl h
   ·exact .inl k
   ·exact .inr ⟨rfl,DR h k⟩
theorem O7 : ∀{x y:List UInt8},bl x y=false->bl y x=false->x=y
 |[],[],_,_=>rfl
 |[],_::_,h,_=>by cases h
 |_::_,[],_,h=>by cases h
 | a::x,b::y,h,k=>by
   rw[UB]at *;simp only[Bool.or_eq_false_iff,qo,dn]at *;obtain⟨h1,h2⟩:=h;obtain⟨k1,k2⟩:=k;have e:a=b:=by apply Ag.1;simp only[UInt8.lt_iff_toNat_lt]at h1 k1;omega
   subst e;simp only[beq_self_eq_true,Bool.true_eq_false,false_or]at h2 k2;rw[O7 h2 k2]
theorem U2 {x y:List UInt8}(h:bl x y=true):bl y x=false:=by
 cases k:bl y x with
 |false=>rfl
 |true=>have:=DR h k;rw[Rw]at this;cases this
theorem Jm {x y:List UInt8}(h:bl x y=true):x≠y:=by intro e;subst e;rw[Rw]at h;cases h
theorem amg : ∀(x y:List UInt8),jZ x y=if bl x y then -1 else if x=y then 0 else 1
 |[],[]=>rfl
 |[],_::_=>rfl
 |_::_,[]=>by simp[jZ,aci]
 | a::x,b::y=>by
   rw[jZ,UB];by_cases h:a<b
   ·simp[h]
   ·by_cases k:b<a
    ·have:a≠b:=λe=>(by subst e;exact h k);simp[h,k,this]
    ·have e:a=b:=by
      apply Ag.1;simp only[UInt8.lt_iff_toNat_lt]at h k;omega
     subst e;rw[au h,au h,amg x y];simp
theorem XB {x y:List UInt8} : jZ x y=0<->x=y:=by
 rw[amg];by_cases h:bl x y=true
 ·simp only[h,jY];exact⟨λe=>by omega,λe=>eF e (Jm h)⟩
 ·simp only[h];by_cases e:x=y<;>simp[e]
end
def okB (b:UInt8):Bool:=decide (32<=b.toNat)&&decide (b.toNat<=126)
def PT (s:fC):Bool:=s.all okB&&decide (s.length<=12)
def PP (p:List fC):Bool:=p.all PT&&decide (p.length<=5)
def Asc : List fC->Bool
 |[]=>true
 |[_]=>true
 |x::y::r=>iT x y&&Asc (y::r)
def big : Nat:=4611686018427387904
theorem J6 (b:UInt8):af .i64 (b.toNat:Int)=(b.toNat:Int):=by have:=b.toNat_lt;exact wrapN rfl aI
theorem T.iP (a lo hi:Int):Ev (λn=>G.iP n a lo hi) (decide (lo<=a)&&decide (a<=hi)):=by
 refine aN ?_;simp only[G.iP];refine dh (λh=>?_) (λh=>?_)
 ·exact aT (by rw[h,dS])
 ·exact aT (by rw[h,AY])
theorem T.jd.L1 (s:fC)(hs:s.length<big):∀(k i:Nat),i+k=s.length->Ev (λn=>G.jd.L1 n s i) ((s.drop i).all okB&&decide (s.length<=12)):=by
 unfold big at hs;intro k
 induction k with
 | zero=>intro i hi;refine aN ?_;simp only[G.jd.L1];refine dB (by simp;omega) (aT ?_);rw[ay aI];simp;omega
 | succ k ih=>
   intro i hi;refine aN ?_;simp only[G.jd.L1];refine dR (by simp;omega) (dA ?_);refine ak (T.iP _ _ _) ?_;rw[gu (0:UInt8) (by omega:i<s.length),gU,ai,J6];have e:(decide ((32:Int)<=((s.getD i 0).toNat:Int))&&decide (((s.getD i 0).toNat:Int)<=126))=okB (s.getD i 0):=(by unfold okB;congr 1<;>(apply decide_eq_decide.2;omega));rw[e];refine dh (λh=>?_) (λh=>?_)
   ·rw[tu aI,h,dS];exact ih (i+1) aI
   ·exact aT (by rw[h];rfl)
theorem T.jd (s:fC)(hs:s.length<big):Ev (λn=>G.jd n s) (PT s):=by refine aN ?_;simp only[G.jd];exact T.jd.L1 s hs s.length 0 aI
theorem T.gI.L1 (s:fC)(hs:s.length<big):∀(k i:Nat),i+k=s.length->Ev (λn=>G.gI.L1 n s i) ((s.drop i).all okB):=by
 unfold big at hs;intro k
 induction k with
 | zero=>intro i hi;refine aN ?_;simp only[G.gI.L1];refine dB (by simp;omega) (aT ?_);rw[ay aI];rfl
 | succ k ih=>
   intro i hi;refine aN ?_;simp only[G.gI.L1];rw[gu (0:UInt8) (by omega:i<s.length),gU,ai];refine dR (by simp;omega) (dA ?_);refine dh (λh=>?_) (λh=>?_)
   ·refine aT ?_;have:okB (s.getD i 0)=false:=by
     simp only[aC]at h;simp only[okB,qo,dn];omega
    rw[this];rfl
   ·refine dA ?_;refine dh (λk=>?_) (λk=>?_)
    ·refine aT ?_;have:okB (s.getD i 0)=false:=by
      simp only[aC]at k;simp only[okB,qo,dn];omega
     rw[this];rfl
    ·have:okB (s.getD i 0)=true:=by
      simp only[dn]at h k;simp only[okB,ah,aC];omega
     rw[this,dS,tu aI];exact ih (i+1) aI
theorem T.gI (s:fC)(hs:s.length<big):Ev (λn=>G.gI n s) (PT s):=by
 refine aN ?_;simp only[G.gI];refine dh (λh=>?_) (λh=>?_)
 ·simp only[aC]at h;refine aT ?_;have:decide (s.length<=12)=false:=by simp;omega
  rw[PT,this,rP]
 ·simp only[dn]at h;refine(T.gI.L1 s hs s.length 0 aI).eq ?_;have:decide (s.length<=12)=true:=by simp;omega
  rw[PT,this,rf,dM]
def Sm (l:List fC):Prop:=l.length<big/\∀s,s∈l->s.length<big
theorem Sm.get {l:List fC}(h:Sm l){i:Nat}(hi:i<l.length):(l.getD i default).length<big:=by rw[iD _ hi];exact h.2 _ (dX hi)
theorem T.jX.L1 (p:List fC)(hp:Sm p):∀(k i:Nat),i+k=p.length->Ev (λn=>G.jX.L1 n p i) ((p.drop i).all PT&&decide (p.length<=5)):=by
 have hl:=hp.1;unfold big at hl;intro k
 induction k with
 | zero=>intro i hi;refine aN ?_;simp only[G.jX.L1];refine dB (by simp;omega) (aT ?_);rw[ay aI];simp;omega
 | succ k ih=>
   intro i hi;refine aN ?_;simp only[G.jX.L1];refine dR (by simp;omega) (dA ?_);rw[gu (default:fC) (by omega:i<p.length),gU,ai];refine ak (T.jd _ (hp.get aI)) ?_;refine dh (λh=>?_) (λh=>?_)
   ·rw[tu aI,h,dS];exact ih (i+1) aI
   ·exact aT (by rw[h];rfl)
theorem T.jX (p:List fC)(hp:Sm p):Ev (λn=>G.jX n p) (PP p):=by refine aN ?_;simp only[G.jX];exact T.jX.L1 p hp p.length 0 aI
theorem T.jv.L1 (p:List fC)(hp:Sm p):∀(k i:Nat),i+k=p.length->Ev (λn=>G.jv.L1 n p i) ((p.drop i).all PT):=by
 have hl:=hp.1;unfold big at hl;intro k
 induction k with
 | zero=>intro i hi;refine aN ?_;simp only[G.jv.L1];refine dB (by simp;omega) (aT ?_);rw[ay aI];rfl
 | succ k ih=>
   intro i hi;refine aN ?_;simp only[G.jv.L1];refine dR (by simp;omega) (dA ?_);rw[gu (default:fC) (by omega:i<p.length),gU,ai];refine ak (T.gI _ (hp.get aI)) ?_;refine dh (λh=>?_) (λh=>?_)
   ·rw[tu aI,h,dS];exact ih (i+1) aI
   ·exact aT (by rw[h];rfl)
theorem T.jv (p:List fC)(hp:Sm p):Ev (λn=>G.jv n p) (PP p):=by
 refine aN ?_;simp only[G.jv];refine dh (λh=>?_) (λh=>?_)
 ·simp only[aC]at h;refine aT ?_;have:decide (p.length<=5)=false:=by simp;omega
  rw[PP,this,rP]
 ·simp only[dn]at h;refine(T.jv.L1 p hp p.length 0 aI).eq ?_;have:decide (p.length<=5)=true:=by simp;omega
  rw[PP,this,rf,dM]
def NM (l:List fC):Bool:=l.all PT&&Asc l
theorem drop_pred {l:List fC}{i:Nat}(h0:0<i)(h:i<l.length):l.drop (i-1)=l.getD (i-1) default::l.getD i default::l.drop (i+1):=by rw[gu (default:fC) (by omega:i-1<l.length),show i-1+1=i by omega,gu (default:fC) h]
theorem T.pG.L1 (l:List fC)(hp:Sm l):∀(k i:Nat),i+k=l.length->Ev (λn=>G.pG.L1 n l i) ((l.drop i).all PT&&Asc (l.drop (i-1))):=by
 have hl:=hp.1;unfold big at hl;intro k
 induction k with
 | zero=>
   intro i hi;refine aN ?_;simp only[G.pG.L1];refine dB (by simp;omega) (aT ?_);rw[ay aI];by_cases h0:i=0
   ·rw[ay aI];rfl
   ·rw[gu (default:fC) (by omega:i-1<l.length),ay aI];rfl
 | succ k ih=>
   intro i hi;refine aN ?_;simp only[G.pG.L1];refine dR (by simp;omega) (dA ?_);rw[gu (default:fC) (by omega:i<l.length),gU,ai];refine ak (T.jd _ (hp.get aI)) ?_;refine dh (λh=>?_) (λh=>?_)
   ·rw[h,dS,tu aI];refine dh (λh0=>?_) (λh0=>?_)
    ·simp only[aC]at h0;have e:af .i64 ((i:Int)-1)=((i-1:Nat):Int):=wrapN aI aI;rw[e,ai];refine dA (dA ?_);rw[drop_pred aI aI,Asc];have hd:l.getD i default::l.drop (i+1)=l.drop (i+1-1):=(by rw[jJ,<- gu (default:fC) (by omega:i<l.length)]);refine dh (λh1=>?_) (λh1=>?_)
     ·exact aT (by rw[show iT (l.getD (i-1) default) (l.getD i default)=false from U2 h1];simp)
     ·refine dh (λh2=>?_) (λh2=>?_)
      ·rw[aY]at h2;exact aT (by rw[show iT (l.getD (i-1) default) (l.getD i default)=false by rw[h2];exact Rw _];simp)
      ·have:iT (l.getD (i-1) default) (l.getD i default)=true:=by
        cases hb:iT (l.getD (i-1) default) (l.getD i default)with
        |true=>rfl
        |false=>rw[O7 h1 hb]at h2;simp at h2
       rw[this,dS,hd];exact ih (i+1) aI
    ·simp only[dn]at h0;have:i=0:=(by omega);subst this;exact ih 1 aI
   ·exact aT (by rw[h];rfl)
theorem T.pG (l:List fC)(hp:Sm l):Ev (λn=>G.pG n l) (NM l):=by refine aN ?_;simp only[G.pG];exact T.pG.L1 l hp l.length 0 aI
theorem T.kM.L1 (l:List fC)(hp:Sm l):∀(k i:Nat),i+k=l.length->Ev (λn=>G.kM.L1 n l i) ((l.drop i).all PT&&Asc (l.drop (i-1))):=by
 have hl:=hp.1;unfold big at hl;intro k
 induction k with
 | zero=>
   intro i hi;refine aN ?_;simp only[G.kM.L1];refine dB (by simp;omega) (aT ?_);rw[ay aI];by_cases h0:i=0
   ·rw[ay aI];rfl
   ·rw[gu (default:fC) (by omega:i-1<l.length),ay aI];rfl
 | succ k ih=>
   intro i hi;refine aN ?_;simp only[G.kM.L1];refine dR (by simp;omega) (dA ?_);rw[gu (default:fC) (by omega:i<l.length),gU,ai];refine ak (T.gI _ (hp.get aI)) ?_;refine dh (λh=>?_) (λh=>?_)
   ·rw[h,dS,tu aI];refine dh (λh0=>?_) (λh0=>?_)
    ·simp only[aC]at h0;have e:af .i64 ((i:Int)-1)=((i-1:Nat):Int):=wrapN aI aI;rw[e,ai];refine dA ?_;rw[drop_pred aI aI,Asc];have hd:l.getD i default::l.drop (i+1)=l.drop (i+1-1):=(by rw[jJ,<- gu (default:fC) (by omega:i<l.length)]);refine dh (λh1=>?_) (λh1=>?_)
     ·rw[h1,dS,hd];exact ih (i+1) aI
     ·exact aT (by rw[h1];simp)
    ·simp only[dn]at h0;have:i=0:=(by omega);subst this;exact ih 1 aI
   ·exact aT (by rw[h];rfl)
theorem T.kM (l:List fC)(hp:Sm l):Ev (λn=>G.kM n l) (NM l&&decide (l.length<=6)):=by
 refine aN ?_;simp only[G.kM];refine dh (λh=>?_) (λh=>?_)
 ·simp only[aC]at h;refine aT ?_;have:decide (l.length<=6)=false:=by simp;omega
  rw[this,rP]
 ·simp only[dn]at h;refine(T.kM.L1 l hp l.length 0 aI).eq ?_;have:decide (l.length<=6)=true:=by simp;omega
  rw[NM,this,rf,dM]
def Fine (B:Nat):Nat->aj->Prop
 |0,_=>False
 |d+1,n=>n.lI.length<=B/\n.aO.length<=B/\(∀s,s∈n.aO->s.length<=B)/\n.aP.length<=B/\(n.bM=4->n.aP.length<=n.aO.length)/\∀k,k∈n.aP->Fine B d k
def Aq (B:Nat):Nat->aj->Prop
 |0,_=>False
 |d+1,n=>n.lI.length<=B/\n.aO.length<=B/\(∀s,s∈n.aO->s.length<=B)/\n.aP.length<=B/\True/\∀k,k∈n.aP->Aq B d k
theorem Fine.fin0 {B:Nat} : ∀{d:Nat} {n:aj},Fine B d n->Aq B d n
 |0,_,h=>h
 |d+1,n,⟨h1,h2,h3,h4,_,h6⟩=>⟨h1,h2,h3,h4,trivial,λk hk=>(h6 k hk).fin0⟩
theorem Fine.mono {B C:Nat}(hB:B<=C):∀{d e:Nat} {n:aj},d<=e->Fine B d n->Fine C e n
 |0,_,_,_,h=>h.elim
 |d+1,0,_,hd,_=>by omega
 | d+1,e+1,n,hd,h=>by obtain⟨h1,h2,h3,h4,h5,h6⟩:=h;exact⟨aI,aI,λs hs=>bJ (h3 s hs) hB,aI,h5,λk hk=>(h6 k hk).mono hB aI⟩
theorem Aq.mono {B C:Nat}(hB:B<=C):∀{d e:Nat} {n:aj},d<=e->Aq B d n->Aq C e n
 |0,_,_,_,h=>h.elim
 |d+1,0,_,hd,_=>by omega
 | d+1,e+1,n,hd,h=>by obtain⟨h1,h2,h3,h4,h5,h6⟩:=h;exact⟨aI,aI,λs hs=>bJ (h3 s hs) hB,aI,h5,λk hk=>(h6 k hk).mono hB aI⟩
def lim : Nat:=4294967296
theorem Fine.sm {B d:Nat}{n:aj}(hB:B<=lim)(h:Fine B d n):Sm n.aO:=by
 cases d with
 |zero=>exact h.elim
 | succ d=>obtain⟨h1,h2,h3,h4,h5,h6⟩:=h;unfold lim at hB;exact⟨by unfold big;omega,λs hs=>by have:=h3 s hs;unfold big;omega⟩
theorem Aq.sm {B d:Nat}{n:aj}(hB:B<=lim)(h:Aq B d n):Sm n.aO:=by
 cases d with
 |zero=>exact h.elim
 | succ d=>obtain⟨h1,h2,h3,h4,h5,h6⟩:=h;unfold lim at hB;exact⟨by unfold big;omega,λs hs=>by have:=h3 s hs;unfold big;omega⟩
theorem Fine.text {B d:Nat}{n:aj}(hB:B<=lim)(h:Fine B d n):n.lI.length<big:=by
 cases d with
 |zero=>exact h.elim
 |succ d=>obtain⟨h1,_⟩:=h;unfold lim at hB;unfold big;omega
theorem Aq.text {B d:Nat}{n:aj}(hB:B<=lim)(h:Aq B d n):n.lI.length<big:=by
 cases d with
 |zero=>exact h.elim
 |succ d=>obtain⟨h1,_⟩:=h;unfold lim at hB;unfold big;omega
theorem Fine.kids {B d:Nat}{n:aj}(h:Fine B d n):n.aP.length<=B:=by
 cases d with
 |zero=>exact h.elim
 |succ d=>exact h.2.2.2.1
theorem Aq.kids {B d:Nat}{n:aj}(h:Aq B d n):n.aP.length<=B:=by
 cases d with
 |zero=>exact h.elim
 |succ d=>exact h.2.2.2.1
theorem Fine.names {B d:Nat}{n:aj}(h:Fine B d n):n.aO.length<=B:=by
 cases d with
 |zero=>exact h.elim
 |succ d=>exact h.2.1
theorem Aq.names {B d:Nat}{n:aj}(h:Aq B d n):n.aO.length<=B:=by
 cases d with
 |zero=>exact h.elim
 |succ d=>exact h.2.1
theorem Fine.map {B d:Nat}{n:aj}(h:Fine B d n)(hk:n.bM=4):n.aP.length<=n.aO.length:=by
 cases d with
 |zero=>exact h.elim
 |succ d=>exact h.2.2.2.2.1 hk
theorem Fine.kid {B d:Nat}{n:aj}(h:Fine B (d+1) n){i:Nat}(hi:i<n.aP.length):Fine B d (n.aP.getD i default):=by rw[iD _ hi];exact h.2.2.2.2.2 _ (dX hi)
theorem Aq.kid {B d:Nat}{n:aj}(h:Aq B (d+1) n){i:Nat}(hi:i<n.aP.length):Aq B d (n.aP.getD i default):=by rw[iD _ hi];exact h.2.2.2.2.2 _ (dX hi)
def Parts (n:aj):Bool:=
 (n.bM==1||n.wJ==0)&&(n.bM==2||n.lI==[])&&(n.bM==4||n.aO.length==0) &&
 (if n.bM=0 then n.aP.length==0 else if n.bM=1 then(decide (-999999<=n.wJ)&&decide (n.wJ<=999999))&&n.aP.length==0 else if n.bM=2 then PT n.lI&&n.aP.length==0
  else if n.bM=3 then decide (n.aP.length<=6)else if n.bM=4 then NM n.aO&&decide (n.aO.length<=6)&&n.aP.length==n.aO.length else false)
def Shape : Nat->aj->Bool
 |0,_=>false
 |d+1,n=>Parts n&&n.aP.all (Shape d)
theorem ilen {a b:Nat} : ((a:Int)==(b:Int))=(a==b):=by rw[tH];simp;omega
theorem aop {a:Nat} : ((a:Int)==0)=(a==0):=by rw[tH];simp
theorem Nh {a b:Nat} : decide ((a:Int)<=(b:Int))=decide (a<=b):=by rw[tH];simp
def OV (n:aj):Bool:=
 (n.bM==4||n.aO.length==0) &&
 (if n.bM=0 then n.aP.length==0 else if n.bM=1 then(decide (-999999<=n.wJ)&&decide (n.wJ<=999999))&&n.aP.length==0 else if n.bM=2 then PT n.lI&&n.aP.length==0
  else if n.bM=3 then decide (n.aP.length<=6)else if n.bM=4 then NM n.aO&&decide (n.aO.length<=6)&&n.aP.length==n.aO.length else false)
theorem ahi (n:aj):Parts n=((n.bM==1||n.wJ==0)&&(n.bM==2||n.lI==[])&&OV n):=by unfold Parts OV;simp only[Bool.and_assoc]
theorem T0.gV.K1 {B d:Nat}{n:aj}(hB:B<=lim)(h:Aq B d n):Ev (λf=>G.gV.K1 f n) (OV n):=by
 refine aN ?_;simp only[G.gV.K1];have ht:=T.gI _ (h.text hB);have hn:=T.kM _ (h.sm hB);have h0:decide ((0:Int)<(n.aO.length:Int)) = !(n.aO.length==0):=by cases hq:n.aO.length<;>simp
 have h6:decide ((n.aP.length:Int)<=6)=decide (n.aP.length<=6):=by rw[tH];simp;omega
 rw[h0];have tail:Ev (λf=>cond (n.bM==0) (some ((n.aP.length:Int)==0)) (cond (n.bM==1) (cond (decide ((-999999)<=n.wJ)) (cond (decide (n.wJ<=999999)) (some ((n.aP.length:Int)==0)) (some false)) (some false))
  (cond (n.bM==2) (mV (G.gI f n.lI) λv3=>cond v3 (some ((n.aP.length:Int)==0)) (some false))
  (cond (n.bM==3) (some (decide ((n.aP.length:Int)<=6))) (cond (n.bM==4) (mV (G.kM f n.aO) λv4=>cond v4 (some ((n.aP.length:Int)==(n.aO.length:Int))) (some false)) (some false))))))
  (if n.bM=0 then n.aP.length==0 else if n.bM=1 then(decide (-999999<=n.wJ)&&decide (n.wJ<=999999))&&n.aP.length==0 else if n.bM=2 then PT n.lI&&n.aP.length==0
   else if n.bM=3 then decide (n.aP.length<=6)else if n.bM=4 then NM n.aO&&decide (n.aO.length<=6)&&n.aP.length==n.aO.length else false):=by
  rw[aop,ilen,h6];refine dh (λe=>aT ?_) (λe0=>?_)
  ·rw[aA (by simpa using e)]
  rw[au (by simpa using e0)];refine dh (λe=>?_) (λe1=>?_)
  ·rw[aA (by simpa using e)];refine dh (λk=>dh (λk2=>aT ?_) (λk2=>aT ?_)) (λk=>aT ?_)
   ·rw[k,k2];simp
   ·rw[k2];simp
   ·rw[k];simp
  rw[au (by simpa using e1)];refine dh (λe=>?_) (λe2=>?_)
  ·rw[aA (by simpa using e)];refine ak ht (dh (λk=>aT ?_) (λk=>aT ?_))
   ·rw[k,dS]
   ·rw[k,AY]
  rw[au (by simpa using e2)];refine dh (λe=>aT ?_) (λe3=>?_)
  ·rw[aA (by simpa using e)]
  rw[au (by simpa using e3)];refine dh (λe=>?_) (λe4=>aT ?_)
  ·rw[aA (by simpa using e)];refine ak hn (dh (λk=>aT ?_) (λk=>aT ?_))
   ·rw[k,dS]
   ·rw[k,AY]
  ·rw[au (by simpa using e4)]
 refine dh (λe=>?_) (λe=>?_)
 ·have e':(n.bM==4)=false:=by simpa using e
  refine dh (λk=>aT ?_) (λk=>?_)
  ·rw[Bool.not_eq_true']at k;rw[OV,e',k];rfl
  ·rw[Bool.not_eq_false']at k;exact tail.eq (by rw[OV,k,yl,dS])
 ·have e':(n.bM==4)=true:=by simpa using e
  exact tail.eq (by rw[OV,e',zW,dS])
theorem T0.gV {B d:Nat}{n:aj}(hB:B<=lim)(h:Aq B d n):Ev (λf=>G.gV f n) (Parts n):=by
 refine aN ?_;simp only[G.gV];have hk:=T0.gV.K1 hB h;rw[ahi];have tail:Ev (λf=>cond (n.bM != 2) (cond (n.lI==[]) (G.gV.K1 f n) (some false)) (G.gV.K1 f n)) ((n.bM==2||n.lI==[])&&OV n):=by
  refine dh (λe=>?_) (λe=>?_)
  ·have e':(n.bM==2)=false:=(by simpa using e);refine dh (λk=>?_) (λk=>aT ?_)
   ·exact hk.eq (by rw[k,yl,dS])
   ·rw[e',k];rfl
  ·have e':(n.bM==2)=true:=(by simpa using e);exact hk.eq (by rw[e',zW,dS])
 refine dh (λe=>?_) (λe=>?_)
 ·have e':(n.bM==1)=false:=by simpa using e
  refine dh (λk=>aT ?_) (λk=>?_)
  ·have:(n.wJ==0)=false:=(by simpa using k);rw[e',this];rfl
  ·have:(n.wJ==0)=true:=(by simpa using k);exact tail.eq (by rw[this,yl,dS])
 ·have e':(n.bM==1)=true:=by simpa using e
  exact tail.eq (by rw[e',zW,dS])
theorem T0.uo.L1 {B D d:Nat}{n:aj}(hB:B<=lim)(h:Aq B (D+1) n)(hd:d<1000)(hs:∀k,k∈n.aP->Ev (λf=>G.jB f k d) (Shape d k)) :
 ∀(k i:Nat),i+k=n.aP.length->Ev (λf=>G.uo.L1 f n ((d+1:Nat):Int) i) ((n.aP.drop i).all (Shape d)):=by
 have hl:=h.kids;unfold lim at hB;intro k
 induction k with
 | zero=>intro i hi;refine aN ?_;simp only[G.uo.L1];refine dB (by simp;omega) (aT ?_);rw[ay aI];rfl
 | succ k ih=>
   intro i hi;refine aN ?_;simp only[G.uo.L1];refine dR (by simp;omega) (dA ?_);rw[gu (default:aj) (by omega:i<n.aP.length),gU,ai];have e:af .i64 (((d+1:Nat):Int)-1)=(d:Int):=wrapN aI aI;rw[e];refine ak (hs _ (by rw[iD _ (by omega:i<n.aP.length)];exact dX _)) ?_;refine dh (λh=>?_) (λh=>?_)
   ·rw[tu aI,h,dS];exact ih (i+1) aI
   ·exact aT (by rw[h];rfl)
theorem T0.uo {B D d:Nat}{n:aj}(hB:B<=lim)(h:Aq B (D+1) n)(hd:d<1000)(hs:∀k,k∈n.aP->Ev (λf=>G.jB f k d) (Shape d k)) :
 Ev (λf=>G.uo f n ((d+1:Nat):Int)) (n.aP.all (Shape d)):=by
 refine aN ?_;simp only[G.uo];exact T0.uo.L1 hB h hd hs n.aP.length 0 aI
def ShK (d:Nat)(n:aj):Bool:=
 if n.bM=1 then decide (-999999<=n.wJ)&&decide (n.wJ<=999999)else if n.bM=2 then PT n.lI else if n.bM=3 then n.aP.all (Shape d)
 else if n.bM=4 then n.aO.length==n.aP.length&&NM n.aO&&n.aP.all (Shape d)else n.bM==0
theorem T0.jB.K1 {B D d:Nat}{n:aj}(hB:B<=lim)(h:Aq B (D+1) n)(hd:d<1000)(hs:∀k,k∈n.aP->Ev (λf=>G.jB f k d) (Shape d k)) :
 Ev (λf=>G.jB.K1 f n ((d+1:Nat):Int)) (ShK d n):=by
 refine aN ?_;simp only[G.jB.K1];have hk:=T0.uo hB h hd hs;unfold ShK;refine dh (λe=>?_) (λe1=>?_)
 ·rw[aA (by simpa using e)];exact ak (T.iP _ _ _) (bK _)
 rw[au (by simpa using e1)];refine dh (λe=>?_) (λe2=>?_)
 ·rw[aA (by simpa using e)];exact ak (T.jd _ (h.text hB)) (bK _)
 rw[au (by simpa using e2)];refine dh (λe=>?_) (λe3=>?_)
 ·rw[aA (by simpa using e)];exact ak hk (bK _)
 rw[au (by simpa using e3)];refine dh (λe=>?_) (λe4=>?_)
 ·rw[aA (by simpa using e),ilen];refine dh (λk=>?_) (λk=>aT (by rw[k];rfl));refine ak (T.pG _ (h.sm hB)) ?_;refine dh (λk2=>?_) (λk2=>aT (by rw[k2];simp));exact ak hk (aT (by rw[k,k2];rfl))
 ·exact aT (by rw[au (by simpa using e4)])
theorem aoq {a:Nat} : decide ((0:Int)<(a:Int)) = !(a==0):=by cases a<;>simp
theorem acG {c a:Bool}{g:Nat->Option Bool}{V:Bool}(h:Ev g V):Ev (λf=>cond c (cond a (some false) (g f)) (g f)) ((!c || !a)&&V):=by
 cases c<;>cases a
 ·exact h
 ·exact h
 ·exact h
 ·exact bK _
theorem aku {c a:Bool}{g:Nat->Option Bool}{V:Bool}(h:Ev g V):Ev (λf=>cond c (cond a (g f) (some false)) (g f)) ((!c||a)&&V):=by
 cases c<;>cases a
 ·exact h
 ·exact h
 ·exact bK _
 ·exact h
theorem PD {n:aj}(h:6<n.aP.length):Parts n=false:=by
 have e0:(n.aP.length==0)=false:=beq_eq_false_iff_ne.2 aI;have e6:decide (n.aP.length<=6)=false:=by simp;omega
 have e4:(NM n.aO&&decide (n.aO.length<=6)&&n.aP.length==n.aO.length)=false:=by
  cases h1:decide (n.aO.length<=6)with
  |false=>simp
  | true=>have:(n.aP.length==n.aO.length)=false:=(by simp at h1;simp;omega);rw[this,rP]
 unfold Parts;rw[e0,e6,e4];simp
theorem ajm {d:Nat}{n:aj}(h:n.aP.length<=6) :
 ((!(n.bM != 1) || !(n.wJ != 0))&&((!(n.bM != 2)||n.lI==[])&&((!(n.bM != 4) || !(!(n.aO.length==0)))&&((!(decide (n.bM<3)) || !(!(n.aP.length==0)))&&ShK d n))))=Shape (d+1) n:=by
 have e6:decide (n.aP.length<=6)=true:=by simp;omega
 have hall:n.aP.length=0->n.aP.all (Shape d)=true:=λe=>by rw[gJ e];rfl
 have hb:∀x y:Int,(!(x != y))=(x==y):=λx y=>by simp[bne]
 rw[hb,hb,hb,hb];unfold Shape Parts ShK;simp only[Bool.not_not,Bool.and_assoc]
 congr 1
 congr 1
 congr 1
 rw[e6];by_cases k0:n.bM=0
 ·simp only[k0];cases hz:(n.aP.length==0)<;>simp_all
 by_cases k1:n.bM=1
 ·simp only[k1];cases hz:(n.aP.length==0)<;>simp_all
 by_cases k2:n.bM=2
 ·simp only[k2];cases hz:(n.aP.length==0)<;>simp_all
 by_cases k3:n.bM=3
 ·simp[k3]
 by_cases k4:n.bM=4
 ·simp only[k4];have hc:(n.aP.length==n.aO.length)=(n.aO.length==n.aP.length):=by rw[tH];simp;omega
  rw[hc];cases hz:(n.aO.length==n.aP.length)
  ·simp
  ·have:decide (n.aO.length<=6)=true:=(by simp at hz;simp;omega);simp[this]
 ·simp[k0,k1,k2,k3,k4]
def Cnt : Nat->aj->Nat
 |0,_=>0
 |d+1,n=>1+(n.aP.map (Cnt d)).sum
theorem rW {d:Nat}{n:aj}(h:Shape (d+1) n=true):Parts n=true:=by unfold Shape at h;simp only[ah]at h;exact h.1
theorem wu {d:Nat}{n:aj}(h:Shape (d+1) n=true):∀k,k∈n.aP->Shape d k=true:=by unfold Shape at h;simp only[ah]at h;exact bf.1 h.2
theorem Fh {d:Nat}{n:aj}(h:Shape d n=true):n.aP.length<=6:=by
 cases d with
 |zero=>cases h
 | succ d=>
   by_cases k:n.aP.length<=6
   ·exact k
   ·have:=PD (n:=n) aI;rw[rW h]at this;cases this
theorem ajv {α:Type}(f:α->Nat)(m:Nat):∀l:List α,(∀x,x∈l->f x<=m)->(l.map f).sum<=l.length*m
 |[],_=>by simp
 | x::l,h=>by have h1:=ajv f m l (λy hy=>h y (by simp[hy]));have h2:=h x mD;simp only[bT,tY,iV,Nat.add_mul];omega
theorem cnt_le : ∀{d:Nat} {n:aj},Shape d n=true->Cnt d n<=7^d
 |0,_,h=>by cases h
 | d+1,n,h=>by have hk:=wu h;have:=ajv (Cnt d) (7^d) n.aP (λk hk'=>cnt_le (hk k hk'));have h6:=Fh h;have hm:n.aP.length*7^d<=6*7^d:=aX _ h6;have hp:1<=7^d:=Nat.one_le_pow _ _ aI;unfold Cnt;rw[Ie];omega
theorem Zl {d:Nat}(h:d<=5):7^d<=16807:=bJ (Nat.pow_le_pow_right aI h) xM
theorem T0.jB {B:Nat}(hB:B<=lim):∀(d D:Nat) (n:aj),d<1000->Aq B D n->Ev (λf=>G.jB f n (d:Int)) (Shape d n):=by
 intro d
 induction d with
 | zero=>intro D n _ h;refine aN ?_;simp only[G.jB];exact dR mD (bK _)
 | succ d ih=>
   intro D n hd h;cases D with
   |zero=>exact h.elim
   |succ D=>
   have hK:=T0.jB.K1 (d:=d) hB h aI (λk hk=>ih D k aI (h.2.2.2.2.2 k hk));refine aN ?_;simp only[G.jB];rw[aoq,aoq];have t1:=acG (c:=decide (n.bM<3)) (a:= !(n.aP.length==0)) hK;have t2:=acG (c:=n.bM != 4) (a:= !(n.aO.length==0)) t1;have t3:=aku (c:=n.bM != 2) (a:=n.lI==[]) t2;have t4:=acG (c:=n.bM != 1) (a:=n.wJ != 0) t3;refine dB (by simp;omega) ?_;refine dh (λe=>aT ?_) (λe=>t4.eq ?_)
   ·simp only[aC]at e;rw[Shape,PD aI];rfl
   ·simp only[dn]at e;exact ajm aI
theorem T0.nX.L1 {B D d:Nat}{n:aj}(hB:B<=lim)(h:Aq B (D+1) n)(hs:∀k,k∈n.aP->Ev (λf=>G.nX f k) ((Cnt d k:Nat):Int)) :
 ∀(k i c:Nat),i+k=n.aP.length->c+((n.aP.drop i).map (Cnt d)).sum<big->Ev (λf=>G.nX.L1 f n (c:Int) i) ((c+((n.aP.drop i).map (Cnt d)).sum:Nat):Int):=by
 have hl:=h.kids;unfold lim at hB;unfold big;intro k
 induction k with
 | zero=>intro i c hi hc;refine aN ?_;simp only[G.nX.L1];refine dB (by simp;omega) (aT ?_);rw[ay aI];rfl
 | succ k ih=>intro i c hi;rw[gu (default:aj) (by omega:i<n.aP.length),bT,tY];intro hc;refine aN ?_;simp only[G.nX.L1];refine dR (by simp;omega) (dA ?_);rw[ai];refine ak (hs _ (by rw[iD _ (by omega:i<n.aP.length)];exact dX _)) ?_;rw[tu aI,wrapN (m:=c+Cnt d (n.aP.getD i default)) aI aI];exact(ih (i+1) (c+Cnt d (n.aP.getD i default)) aI aI).eq (by congr 1;omega)
theorem T0.nX {B:Nat}(hB:B<=lim):∀(d D:Nat) (n:aj),d<=5->Aq B D n->Shape d n=true->Ev (λf=>G.nX f n) ((Cnt d n:Nat):Int):=by
 intro d
 induction d with
 |zero=>intro D n _ _ h;cases h
 | succ d ih=>
   intro D n hd h hS;cases D with
   |zero=>exact h.elim
   |succ D=>
   have hS':=wu hS;refine aN ?_;simp only[G.nX];have:=cnt_le (d:=d+1) (n:=n) hS;have hp:=Zl hd;refine(T0.nX.L1 hB h (λk hk=>ih D k aI (h.2.2.2.2.2 k hk) (hS' k hk)) n.aP.length 0 1 aI ?_).eq rfl;rw[dM];show Cnt (d+1) n<big;unfold big;omega
def Val (n:aj):Bool:=Shape 5 n&&decide (Cnt 5 n<=40)
theorem T0.iI {B D:Nat}{n:aj}(hB:B<=lim)(h:Aq B D n):Ev (λf=>G.iI f n) (Val n):=by refine aN ?_;simp only[G.iI];refine ak (T0.jB hB 5 D n aI h) (dh (λe=>?_) (λe=>aT (by rw[Val,e];rfl)));refine ak (T0.nX hB 5 D n aI h e) (aT ?_);rw[Val,e,dS];apply decide_eq_decide.2;omega
theorem T.iI {B D:Nat}{n:aj}(hB:B<=lim)(h:Fine B D n):Ev (λf=>G.iI f n) (Val n):=T0.iI hB h.fin0
theorem T0.gz.L1 {B D d l:Nat}{n:aj}(hB:B<=lim)(h:Aq B (D+1) n)(hl:l<1000)
 (hs:∀k,k∈n.aP->∃c dp,Ev (λf=>G.gz f k ((l+1:Nat):Int)) (c,dp,Shape d k)/\(Shape d k=true->c=((Cnt d k:Nat):Int))) :
 ∀ (k i c:Nat) (dp:Int),i+k=n.aP.length->(n.aP.drop i).all (Shape d)=true->c+((n.aP.drop i).map (Cnt d)).sum<big ->
   ∃dp',Ev (λf=>G.gz.L1 f n (l:Int) (c:Int) dp i) (((c+((n.aP.drop i).map (Cnt d)).sum:Nat):Int),dp',true):=by
 have hk:=h.kids;unfold lim at hB;unfold big;intro k
 induction k with
 | zero=>intro i c dp hi _ hc;refine⟨dp,aN ?_⟩;simp only[G.gz.L1];refine dB (by simp;omega) (aT ?_);rw[ay aI];rfl
 | succ k ih=>intro i c dp hi;rw[gu (default:aj) (by omega:i<n.aP.length),bT,tY,gU,ah];intro⟨hS,hA⟩ hc;obtain⟨c1,d1,h1,h2⟩:=hs (n.aP.getD i default) (by rw[iD _ (by omega:i<n.aP.length)];exact dX _);have e:=h2 hS;subst e;obtain⟨dp',g1⟩:=ih (i+1) (c+Cnt d (n.aP.getD i default)) (if af .i64 (d1+1)>dp then af .i64 (d1+1)else dp) aI hA aI;refine⟨dp',aN ?_⟩;simp only[G.gz.L1];refine dR (by simp;omega) (dA ?_);rw[ai,tu aI];refine ak h1 ?_;refine dR hS ?_;rw[tu aI,wrapN (m:=c+Cnt d (n.aP.getD i default)) aI aI];exact g1.eq (by rw[Nat.add_assoc])
theorem T0.gz.L1f {B D d l:Nat}{n:aj}(hB:B<=lim)(h:Aq B (D+1) n)(hl:l<1000)
 (hs:∀k,k∈n.aP->∃c dp,Ev (λf=>G.gz f k ((l+1:Nat):Int)) (c,dp,Shape d k)) :
 ∀(k i:Nat) (c dp:Int),i+k=n.aP.length->(n.aP.drop i).all (Shape d)=false->Ev (λf=>G.gz.L1 f n (l:Int) c dp i) (0,0,false):=by
 have hk:=h.kids;unfold lim at hB;intro k
 induction k with
 | zero=>intro i c dp hi hA;rw[ay aI]at hA;cases hA
 | succ k ih=>intro i c dp hi;rw[gu (default:aj) (by omega:i<n.aP.length),gU];intro hA;obtain⟨c1,d1,h1⟩:=hs (n.aP.getD i default) (by rw[iD _ (by omega:i<n.aP.length)];exact dX _);refine aN ?_;simp only[G.gz.L1];refine dR (by simp;omega) (dA ?_);rw[ai,tu aI];refine ak h1 ?_;refine dh (λhS=>?_) (λhS=>bK _);have hS:Shape d (n.aP.getD i default)=true:=hS;rw[hS,dS]at hA;rw[tu aI];exact ih (i+1) _ _ aI hA
theorem T0.gz {B:Nat}(hB:B<=lim):∀(d l D:Nat) (n:aj),d+l=6->1<=l->Aq B D n ->
 ∃c dp,Ev (λf=>G.gz f n (l:Int)) (c,dp,Shape d n)/\(Shape d n=true->c=((Cnt d n:Nat):Int)):=by
 intro d
 induction d with
 | zero=>intro l D n hl h1 h;refine⟨0,0,aN ?_,λe=>by cases e⟩;simp only[G.gz];exact dR (by simp;omega) (bK _)
 | succ d ih=>
   intro l D n hl h1 h;cases D with
   |zero=>exact h.elim
   |succ D=>
   have hs:=λk (hk:k∈n.aP)=>ih (l+1) D k aI aI (h.2.2.2.2.2 k hk);have hp:=T0.gV hB h;cases hS:Shape (d+1) n with
   | true=>have hk:=wu hS;have hc:=cnt_le hS;have hpw:=Zl (d:=d+1) aI;obtain⟨dp',g⟩:=T0.gz.L1 hB h aI hs n.aP.length 0 1 1 aI (by rw[dM];exact bf.2 hk) (by rw[dM];unfold big;show Cnt (d+1) n<_;omega);rw[dM]at g;refine⟨((Cnt (d+1) n:Nat):Int),dp',aN ?_,λ_=>rfl⟩;simp only[G.gz];exact dB (by simp;omega) (ak hp (dR (rW hS) g))
   | false=>
     refine⟨0,0,aN ?_,λe=>by cases e⟩;simp only[G.gz];refine dB (by simp;omega) (ak hp (dh (λe=>?_) (λe=>bK _)));refine T0.gz.L1f (d:=d) hB h aI (λk hk=>?_) n.aP.length 0 1 1 aI ?_
     ·obtain⟨c,dp,g,_⟩:=hs k hk;exact⟨c,dp,g⟩
     ·rw[dM];unfold Shape at hS;rw[e,dS]at hS;exact hS
theorem T0.dm {B D:Nat}{n:aj}(hB:B<=lim)(h:Aq B D n):Ev (λf=>G.dm f n) (Val n):=by
 obtain⟨c,dp,g,hc⟩:=T0.gz hB 5 1 D n rfl aI h;refine aN ?_;simp only[G.dm];refine ak g (dh (λe=>aT ?_) (λe=>aT ?_))
 ·have e:Shape 5 n=true:=e;show decide (c<=40)=_;rw[hc e,Val,e,dS];apply decide_eq_decide.2;omega
 ·have e:Shape 5 n=false:=e;rw[Val,e];rfl
theorem T.dm {B D:Nat}{n:aj}(hB:B<=lim)(h:Fine B D n):Ev (λf=>G.dm f n) (Val n):=T0.dm hB h.fin0
theorem T0.cO.L1 {B D:Nat}{n:aj}(hB:B<=lim)(h:Aq B (D+1) n)(hs:∀k,k∈n.aP->Ev (λf=>G.cO f k) k) :
 ∀(k i:Nat),i+k=n.aP.length->Ev (λf=>G.cO.L1 f n i (n.aP.take i)) n:=by
 have hl:=h.kids;have hn:=h.names;unfold lim at hB;intro k
 induction k with
 | zero=>intro i hi;refine aN ?_;simp only[G.cO.L1];refine dB (by simp;omega) (dA (aT ?_));rw[bz aI];cases n;rfl
 | succ k ih=>intro i hi;refine aN ?_;simp only[G.cO.L1];refine dR (by simp;omega) (dA ?_);rw[ai];refine ak (hs _ (by rw[iD _ (by omega:i<n.aP.length)];exact dX _)) ?_;refine um (by rw[iK];omega) ?_;have e:n.aP.take i++[n.aP.getD i default]=n.aP.take (i+1):=(by rw[iD _ (by omega:i<n.aP.length),kC aI]);rw[tu aI,e];exact ih (i+1) aI
theorem T0.cO {B:Nat}(hB:B<=lim):∀{D:Nat} {n:aj},Aq B D n->Ev (λf=>G.cO f n) n:=by
 intro D
 induction D with
 |zero=>intro n h;exact h.elim
 | succ D ih=>intro n h;refine aN ?_;simp only[G.cO];exact T0.cO.L1 hB h (λk hk=>ih (h.2.2.2.2.2 k hk)) n.aP.length 0 aI
theorem T.cO {B:Nat}(hB:B<=lim){D:Nat}{n:aj}(h:Fine B D n):Ev (λf=>G.cO f n) n:=T0.cO hB h.fin0
theorem T0.bC.L2 {B D:Nat}{n:aj}(zs:List fC)(hB:B<=lim)(h:Aq B (D+1) n)(hs:∀k,k∈n.aP->Ev (λf=>G.bC f k) k) :
 ∀(k i:Nat) (z:List aj),i+k=n.aP.length->z.length=n.aP.length->z.take i=n.aP.take i->Ev (λf=>G.bC.L2 f n zs i z) (aj.mk n.bM n.wJ n.lI zs n.aP):=by
 have hl:=h.kids;unfold lim at hB;intro k
 induction k with
 | zero=>intro i z hi hz ht;refine aN ?_;simp only[G.bC.L2];refine dB (by simp;omega) (aT ?_);rw[bz aI,bz aI]at ht;rw[ht]
 | succ k ih=>intro i z hi hz ht;refine aN ?_;simp only[G.bC.L2];refine dR (by simp;omega) (dA ?_);rw[ai];refine ak (hs _ (by rw[iD _ (by omega:i<n.aP.length)];exact dX _)) ?_;refine dA ?_;rw[tu aI];refine ih (i+1) _ aI (by rw[qR];exact hz) ?_;rw[iD _ (by omega:i<n.aP.length),kC (by rw[qR];omega),kC (by omega:i<n.aP.length),List.getElem_set_self,List.take_set_of_le (aF i),ht]
theorem T0.bC {B:Nat}(hB:B<=lim):∀{D:Nat} {n:aj},Aq B D n->Ev (λf=>G.bC f n) n:=by
 intro D
 induction D with
 |zero=>intro n h;exact h.elim
 | succ D ih=>
   intro n h;have hl:=h.kids;have hn:=h.names;have hB':=hB;unfold lim at hB';have hK:Ev (λf=>G.bC.K1 f n n.aO) n:=by
    refine aN ?_;simp only[G.bC.K1];refine dh (λe=>?_) (λe=>aT ?_)
    ·refine dA ?_;refine(T0.bC.L2 n.aO hB h (λk hk=>ih (h.2.2.2.2.2 k hk)) n.aP.length 0 (bW n.aP.length (aj.mk 0 0 [] [] [])) aI mD rfl).eq ?_;cases n;rfl
    ·have:n.aP=[]:=by
      apply gJ;simp only[dn]at e;omega
     cases n;simp only at this;subst this;rfl
   refine aN ?_;simp only[G.bC];refine dh (λe=>?_) (λe=>?_)
   ·exact dA hK
   ·have:n.aO=[]:=by
     apply gJ;simp only[dn]at e;omega
    rw[this]at hK;exact hK
theorem T.bC {B:Nat}(hB:B<=lim){D:Nat}{n:aj}(h:Fine B D n):Ev (λf=>G.bC f n) n:=T0.bC hB h.fin0
theorem ET {α:Type}{l:List α}{i:Nat}(d:α)(h:i<l.length):l.getD i d∈l:=by rw[iD d h];exact dX h
theorem NC {α:Type}{l z:List α}{i:Nat}(hi:i<l.length)(hz:z.length=l.length)(ht:z.take i=l.take i):(z.set i l[i]).take (i+1)=l.take (i+1):=by rw[kC (by rw[qR];omega),kC hi,List.getElem_set_self,List.take_set_of_le (aF i),ht]
theorem T.WH {l:List fC}(hl:l.length<=lim):Ev (λf=>G.jV f l) l:=by
 unfold lim at hl;have L:∀(k i:Nat) (z:List fC),i+k=l.length->z.length=l.length->z.take i=l.take i->Ev (λf=>G.jV.L1 f l i z) l:=by
  intro k
  induction k with
  | zero=>intro i z hi hz ht;refine aN ?_;simp only[G.jV.L1];rw[bz aI,bz aI]at ht;exact sH (aT ht)
  | succ k ih=>intro i z hi hz ht;have hil:i<l.length:=(by omega);refine aN ?_;simp only[G.jV.L1,ai,FC i];refine sG (dA (dA (ih (i+1) _ aI (by rw[qR];exact hz) ?_)));rw[iD _ hil];exact NC hil hz ht
 refine aN ?_;simp only[G.jV];exact dA (L l.length 0 _ aI mD rfl)
theorem T.alm {l:List aj}(hl:l.length<=lim)(hs:∀k,k∈l->Ev (λf=>G.sZ f k) k):Ev (λf=>G.qG f l) l:=by
 unfold lim at hl;have L:∀(k i:Nat) (z:List aj),i+k=l.length->z.length=l.length->z.take i=l.take i->Ev (λf=>G.qG.L1 f l i z) l:=by
  intro k
  induction k with
  | zero=>intro i z hi hz ht;refine aN ?_;simp only[G.qG.L1];rw[bz aI,bz aI]at ht;exact sH (aT ht)
  | succ k ih=>intro i z hi hz ht;have hil:i<l.length:=(by omega);refine aN ?_;simp only[G.qG.L1,ai,FC i];refine sG (dA (ak (hs _ (ET default hil)) (dA (ih (i+1) _ aI (by rw[qR];exact hz) ?_))));rw[iD _ hil];exact NC hil hz ht
 refine aN ?_;simp only[G.qG];exact dA (L l.length 0 _ aI mD rfl)
theorem T.ZE {B:Nat}(hB:B<=lim):∀{D:Nat} {n:aj},Aq B D n->Ev (λf=>G.sZ f n) n
 |0,_,h=>h.elim
 | D+1,n,h=>by have h1:=h.names;have h2:=h.kids;refine aN ?_;simp only[G.sZ];exact ak (T.WH aI) (ak (T.alm aI (λk hk=>T.ZE hB (h.2.2.2.2.2 k hk))) (aT (by cases n;rfl)))
theorem T.Vs {l:List fC}(hl:l.length<=lim):Ev (λf=>G.jT f l l) true:=by
 unfold lim at hl;have L:∀(k i:Nat),i+k=l.length->Ev (λf=>G.jT.L1 f l l i) true:=by
  intro k
  induction k with
  | zero=>intro i hi;refine aN ?_;simp only[G.jT.L1];exact sH (bK _)
  | succ k ih=>intro i hi;refine aN ?_;simp only[G.jT.L1,FC i];exact sG (dA (dA (dR mD (ih (i+1) aI))))
 refine aN ?_;simp only[G.jT];exact dB mD (L l.length 0 aI)
theorem T.akB {l:List aj}(hl:l.length<=lim)(hs:∀k,k∈l->Ev (λf=>G.qW f k k) true):Ev (λf=>G.qC f l l) true:=by
 unfold lim at hl;have L:∀(k i:Nat),i+k=l.length->Ev (λf=>G.qC.L1 f l l i) true:=by
  intro k
  induction k with
  | zero=>intro i hi;refine aN ?_;simp only[G.qC.L1];exact sH (bK _)
  | succ k ih=>intro i hi;refine aN ?_;simp only[G.qC.L1,ai,FC i];exact sG (dA (dA (ak (hs _ (ET default aI)) (dR rfl (ih (i+1) aI)))))
 refine aN ?_;simp only[G.qC];exact dB mD (L l.length 0 aI)
theorem T.Vr {B:Nat}(hB:B<=lim):∀{D:Nat} {n:aj},Aq B D n->Ev (λf=>G.qW f n n) true
 |0,_,h=>h.elim
 | D+1,n,h=>by have h1:=h.names;have h2:=h.kids;refine aN ?_;simp only[G.qW];exact dB mD (dB mD (dR mD (ak (T.Vs aI) (dR rfl (ak (T.akB aI (λk hk=>T.Vr hB (h.2.2.2.2.2 k hk))) (dR rfl (bK _)))))))
def mx : Nat:=9223372036854775807
mutual
def TJ : aj->Nat
 |aj.mk _ _ _ ns ks=>3+ns.length+yz ks
def yz : List aj->Nat
 |[]=>0
 |n::r=>TJ n+yz r
end
theorem Gz (n:aj):TJ n=3+n.aO.length+yz n.aP:=by cases n;rfl
theorem CV {x:Int}(h0 : -9223372036854775808<=x)(h1:x<9223372036854775808):af .i64 x=x:=by simp only[af,iR,yX];simp;omega
theorem T.WA {l:List fC}(h1:l.length<=mx)(h2:∀s,s∈l->s.length<=mx){left:Int}(h0:0<=left)(hl:left<=1048576) :
 ∃r,Ev (λf=>G.jA f l left) r/\r<=left/\(0<=r->(l.length:Int)<=left-r/\∀s,s∈l->(s.length:Int)<=left):=by
 unfold mx at *;have w0:af .i64 (left-(l.length:Int))=left-(l.length:Int):=CV aI aI;by_cases c:left-(l.length:Int)<0
 ·refine⟨-1,aN ?_,aI,λh=>by omega⟩;simp only[G.jA,w0];exact dR (dW c) (bK _)
 ·have L:∀(k i:Nat) (a:Int),i+k=l.length->0<=a->a<=1048576->∃r,Ev (λf=>G.jA.L1 f l a i) r/\r<=a/\(0<=r->∀s,s∈l.drop i->(s.length:Int)<=a):=by
   intro k
   induction k with
   | zero=>
     intro i a hi ha ha2;refine⟨a,aN ?_,aI,λ_ s hs=>?_⟩
     ·simp only[G.jA.L1];exact sH (bK _)
     ·rw[ay aI]at hs;cases hs
   | succ k ih=>
     intro i a hi ha ha2;have hil:i<l.length:=(by omega);have hb:=h2 _ (ET default hil);have w1:af .i64 (a-((l.getD i default).length:Int))=a-((l.getD i default).length:Int):=CV aI aI;by_cases c1:a-((l.getD i default).length:Int)<0
     ·refine⟨-1,aN ?_,aI,λh=>by omega⟩;simp only[G.jA.L1,ai,w1];exact sG (dA (dR (dW c1) (bK _)))
     ·obtain⟨r,g,g1,g2⟩:=ih (i+1) (a-((l.getD i default).length:Int)) aI aI aI;refine⟨r,aN ?_,aI,λh s hs=>?_⟩
      ·simp only[G.jA.L1,ai,w1,FC i];exact sG (dA (dB (bg c1) g))
      ·rw[gu default hil]at hs;rcases aK.1 hs with e|e
       ·rw[e];omega
       ·have:=g2 h s e;omega
  obtain⟨r,g,g1,g2⟩:=L l.length 0 (left-(l.length:Int)) aI aI aI;refine⟨r,aN ?_,aI,λh=>⟨aI,λs hs=>?_⟩⟩
  ·simp only[G.jA,w0];exact dB (bg c) g
  ·have:=g2 h s (by rw[dM];exact hs);omega
theorem T.UI : ∀(D:Nat) {n:aj} {left:Int},Aq mx D n->0<=left->left<=1048576->∃r,Ev (λf=>G.qY f n left) r/\r<=left/\(0<=r->Aq 1048576 D n/\(TJ n:Int)<=3*(left-r)+3)
 |0,_,_,h,_,_=>h.elim
 | D+1,n,left,h,h0,hl=>by
   obtain⟨hT,hN,hS,hK,_,hR⟩:=h;have S:∀(left:Int),0<=left->left<=1048576->∃r,Ev (λf=>G.oV f n.aP left) r/\r<=left/\(0<=r->(n.aP.length:Int)<=left-r/\(∀k,k∈n.aP->Aq 1048576 D k)/\(yz n.aP:Int)<=3*(left-r)):=by
    intro left h0 hl;have hK':n.aP.length<=9223372036854775807:=hK;have w0:af .i64 (left-(n.aP.length:Int))=left-(n.aP.length:Int):=CV aI aI;by_cases c:left-(n.aP.length:Int)<0
    ·refine⟨-1,aN ?_,aI,λh=>by omega⟩;simp only[G.oV,w0];exact dR (dW c) (bK _)
    ·have L:∀(k i:Nat) (a:Int),i+k=n.aP.length->0<=a->a<=1048576->∃r,Ev (λf=>G.oV.L1 f n.aP a i) r/\r<=a/\(0<=r->(∀k,k∈n.aP.drop i->Aq 1048576 D k)/\(yz (n.aP.drop i):Int)<=3*(a-r)+3*((n.aP.length:Int)-i)):=by
      intro k
      induction k with
      | zero=>
        intro i a hi ha ha2;refine⟨a,aN ?_,aI,λ_=>⟨λs hs=>?_,?_⟩⟩
        ·simp only[G.oV.L1];exact sH (bK _)
        ·rw[ay aI]at hs;cases hs
        ·rw[ay aI];simp only[yz];omega
      | succ k ih=>
        intro i a hi ha ha2;have hil:i<n.aP.length:=(by omega);obtain⟨q,gq,q1,q2⟩:=T.UI D (hR _ (ET default hil)) ha ha2;by_cases c1:q<0
        ·refine⟨-1,aN ?_,aI,λh=>by omega⟩;simp only[G.oV.L1,ai];exact sG (dA (ak gq (dR (dW c1) (bK _))))
        ·obtain⟨r,g,g1,g2⟩:=ih (i+1) q aI aI aI;refine⟨r,aN ?_,aI,λh=>⟨λs hs=>?_,?_⟩⟩
         ·simp only[G.oV.L1,ai,FC i];exact sG (dA (ak gq (dB (bg c1) g)))
         ·rw[gu default hil]at hs;rcases aK.1 hs with e|e
          ·rw[e];exact(q2 aI).1
          ·exact(g2 h).1 s e
         ·rw[gu default hil];have h3:=(q2 aI).2;have h4:=(g2 h).2;simp only[yz];omega
     obtain⟨r,g,g1,g2⟩:=L n.aP.length 0 (left-(n.aP.length:Int)) aI aI aI;refine⟨r,aN ?_,aI,λh=>⟨aI,λs hs=>(g2 h).1 s (by rw[dM];exact hs),?_⟩⟩
     rotate_left
     ·have h4:=(g2 h).2;rw[dM]at h4;omega
     simp only[G.oV,w0];exact dB (bg c) g
   have hT':n.lI.length<=9223372036854775807:=hT;have w0:af .i64 (left-(n.lI.length:Int))=left-(n.lI.length:Int):=CV aI aI;by_cases c:left-(n.lI.length:Int)<0
   ·refine⟨-1,aN ?_,aI,λh=>by omega⟩;simp only[G.qY,w0];exact dR (dW c) (bK _)
   ·obtain⟨v1,g1,a1,b1⟩:=T.WA hN hS (left:=left-(n.lI.length:Int)) aI aI;by_cases c1:v1<0
    ·refine⟨-1,aN ?_,aI,λh=>by omega⟩;simp only[G.qY,w0];exact dB (bg c) (ak g1 (dR (dW c1) (bK _)))
    ·obtain⟨v2,g2,a2,b2⟩:=S v1 aI aI;by_cases c2:v2<0
     ·refine⟨-1,aN ?_,aI,λh=>by omega⟩;simp only[G.qY,w0];exact dB (bg c) (ak g1 (dB (bg c1) (ak g2 (dR (dW c2) (bK _)))))
     ·refine⟨v2,aN ?_,aI,λh=>?_⟩
      ·simp only[G.qY,w0];exact dB (bg c) (ak g1 (dB (bg c1) (ak g2 (dB (bg c2) (bK _)))))
      ·obtain⟨e1,e2⟩:=b1 aI;obtain⟨e3,e4,e5⟩:=b2 aI;refine⟨⟨aI,aI,λs hs=>by have:=e2 s hs;omega,aI,trivial,e4⟩,?_⟩;rw[Gz];omega
structure Gi (B D:Nat)(o:uN):Prop where
 path:o.uq.length<=B/\∀s,s∈o.uq->s.length<=B
 from_:o.xH.length<=B/\∀s,s∈o.xH->s.length<=B
 val:Aq B D o.Value
theorem Gi.mono {B D D':Nat}{o:uN}(h:Gi B D o)(hD:D<=D'):Gi B D' o:=⟨h.path,h.from_,h.val.mono (aF _) hD⟩
theorem Gi.all {B:Nat} : ∀{l:List uN} (D:Nat),(∀o,o∈l->∃D,Gi B D o)->∃D',D<=D'/\∀o,o∈l->Gi B D' o
 |[],D,_=>⟨D,aF _,λo h=>by cases h⟩
 | o::l,D,h=>by
   obtain⟨d,hd⟩:=h o (bD ..);obtain⟨D',h1,h2⟩:=Gi.all (l:=l) (max D d) (λo ho=>h o (fJ _ ho));refine⟨D',aI,λx hx=>?_⟩;rcases aK.1 hx with e|e
   ·rw[e];exact hd.mono aI
   ·exact h2 x e
def mkO (o:uN):Nat:=o.uq.length+o.xH.length+TJ o.Value
theorem T.aoW {D:Nat}{o:uN}{left:Int}(h:Gi mx D o)(h0:0<=left)(hl:left<=1048576):∃r,Ev (λf=>G.yM f o left) r/\r<=left/\(0<=r->Gi 1048576 D o/\(mkO o:Int)<=3*(left-r)+3):=by
 obtain⟨v1,g1,a1,b1⟩:=T.WA h.path.1 h.path.2 h0 hl;by_cases c1:v1<0
 ·refine⟨-1,aN ?_,aI,λh=>by omega⟩;simp only[G.yM];exact ak g1 (dR (dW c1) (bK _))
 obtain⟨v2,g2,a2,b2⟩:=T.WA h.from_.1 h.from_.2 (left:=v1) aI aI;by_cases c2:v2<0
 ·refine⟨-1,aN ?_,aI,λh=>by omega⟩;simp only[G.yM];exact ak g1 (dB (bg c1) (ak g2 (dR (dW c2) (bK _))))
 obtain⟨v3,g3,a3,b3⟩:=T.UI D h.val (left:=v2) aI aI;by_cases c3:v3<0
 ·refine⟨-1,aN ?_,aI,λh=>by omega⟩;simp only[G.yM];exact ak g1 (dB (bg c1) (ak g2 (dB (bg c2) (ak g3 (dR (dW c3) (bK _))))))
 refine⟨v3,aN ?_,aI,λh=>⟨⟨?_,?_,(b3 h).1⟩,?_⟩⟩
 ·simp only[G.yM];exact ak g1 (dB (bg c1) (ak g2 (dB (bg c2) (ak g3 (dB (bg c3) (bK _))))))
 ·obtain⟨e1,e2⟩:=b1 aI;exact⟨aI,λs hs=>by have:=e2 s hs;omega⟩
 ·obtain⟨e1,e2⟩:=b2 aI;exact⟨aI,λs hs=>by have:=e2 s hs;omega⟩
 ·have e1:=(b1 aI).1;have e2:=(b2 aI).1;have e3:=(b3 h).2;unfold mkO;omega
def L9 : List uN->Nat
 |[]=>0
 |o::r=>mkO o+1+L9 r
theorem T.anf {D:Nat}{l:List uN}{left:Int}(h1:l.length<=mx)(hO:∀o,o∈l->Gi mx D o)(h0:0<=left)(hl:left<=1048576) :
 ∃r,Ev (λf=>G.rE f l left) r/\r<=left/\(0<=r->(l.length:Int)<=left/\(∀o,o∈l->Gi 1048576 D o)/\(L9 l:Int)<=4*(left-r)):=by
 unfold mx at h1;have w0:af .i64 (left-(l.length:Int))=left-(l.length:Int):=CV aI aI;by_cases c:left-(l.length:Int)<0
 ·refine⟨-1,aN ?_,aI,λh=>by omega⟩;simp only[G.rE,w0];exact dR (dW c) (bK _)
 ·have L:∀(k i:Nat) (a:Int),i+k=l.length->0<=a->a<=1048576->∃r,Ev (λf=>G.rE.L1 f l a i) r/\r<=a/\(0<=r->(∀o,o∈l.drop i->Gi 1048576 D o)/\(L9 (l.drop i):Int)<=3*(a-r)+4*k):=by
   intro k
   induction k with
   | zero=>
     intro i a hi ha ha2;refine⟨a,aN ?_,aI,λ_=>⟨λs hs=>?_,by rw[ay aI];simp[L9]⟩⟩
     ·simp only[G.rE.L1];exact sH (bK _)
     ·rw[ay aI]at hs;cases hs
   | succ k ih=>
     intro i a hi ha ha2;have hil:i<l.length:=(by omega);obtain⟨q,gq,q1,q2⟩:=T.aoW (hO _ (ET default hil)) ha ha2;by_cases c1:q<0
     ·refine⟨-1,aN ?_,aI,λh=>by omega⟩;simp only[G.rE.L1,ai];exact sG (dA (ak gq (dR (dW c1) (bK _))))
     ·obtain⟨r,g,g1,g2⟩:=ih (i+1) q aI aI aI;refine⟨r,aN ?_,aI,λh=>⟨λs hs=>?_,?_⟩⟩
      ·simp only[G.rE.L1,ai,FC i];exact sG (dA (ak gq (dB (bg c1) g)))
      ·rw[gu default hil]at hs;rcases aK.1 hs with e|e
       ·rw[e];exact(q2 aI).1
       ·exact(g2 h).1 s e
      ·have h1:=(q2 aI).2;have h2:=(g2 h).2;rw[gu default hil];simp only[L9];omega
  obtain⟨r,g,g1,g2⟩:=L l.length 0 (left-(l.length:Int)) aI aI aI;refine⟨r,aN ?_,aI,λh=>⟨aI,λs hs=>(g2 h).1 s (by rw[dM];exact hs),by have:=(g2 h).2;rw[dM]at this;omega⟩⟩;simp only[G.rE,w0];exact dB (bg c) g
theorem T.aqd {B D:Nat}{o:uN}(hB:B<=lim)(h:Gi B D o):Ev (λf=>G.Bg f o) o:=by refine aN ?_;simp only[G.Bg];exact ak (T.WH (bJ h.path.1 hB)) (ak (T.WH (bJ h.from_.1 hB)) (ak (T.ZE hB h.val) (bK _)))
theorem T.aoY {B D:Nat}{l:List uN}(hB:B<=lim)(hl:l.length<=lim)(h:∀o,o∈l->Gi B D o):Ev (λf=>G.uk f l) l:=by
 unfold lim at hl;have L:∀(k i:Nat) (z:List uN),i+k=l.length->z.length=l.length->z.take i=l.take i->Ev (λf=>G.uk.L1 f l i z) l:=by
  intro k
  induction k with
  | zero=>intro i z hi hz ht;refine aN ?_;simp only[G.uk.L1];rw[bz aI,bz aI]at ht;exact sH (aT ht)
  | succ k ih=>intro i z hi hz ht;have hil:i<l.length:=(by omega);refine aN ?_;simp only[G.uk.L1,ai,FC i];refine sG (dA (ak (T.aqd hB (h _ (ET default hil))) (dA (ih (i+1) _ aI (by rw[qR];exact hz) ?_))));rw[iD _ hil];exact NC hil hz ht
 refine aN ?_;simp only[G.uk];exact dA (L l.length 0 _ aI mD rfl)
theorem T.apo {B D:Nat}{o:uN}(hB:B<=lim)(h:Gi B D o):Ev (λf=>G.Bf f o o) true:=by refine aN ?_;simp only[G.Bf];exact dB mD (ak (T.Vs (bJ h.path.1 hB)) (dR rfl (ak (T.Vs (bJ h.from_.1 hB)) (dR rfl (ak (T.Vr hB h.val) (dR rfl (bK _)))))))
theorem T.an0 {B D:Nat}{l:List uN}(hB:B<=lim)(hl:l.length<=lim)(h:∀o,o∈l->Gi B D o):Ev (λf=>G.uj f l l) true:=by
 unfold lim at hl;have L:∀(k i:Nat),i+k=l.length->Ev (λf=>G.uj.L1 f l l i) true:=by
  intro k
  induction k with
  | zero=>intro i hi;refine aN ?_;simp only[G.uj.L1];exact sH (bK _)
  | succ k ih=>intro i hi;refine aN ?_;simp only[G.uj.L1,ai,FC i];exact sG (dA (dA (ak (T.apo hB (h _ (ET default aI))) (dR rfl (ih (i+1) aI)))))
 refine aN ?_;simp only[G.uj];exact dB mD (L l.length 0 aI)
def Ij (i:Nat):fC:=if i<10 then [gy (48+i)]else Ij (i/10)++[gy (48+i%10)]
 termination_by i
theorem KW {i:Nat}(h:i<10):Ij i=[gy (48+i)]:=by rw[Ij,aA h]
theorem Vp {i:Nat}(h:¬i<10):Ij i=Ij (i/10)++[gy (48+i%10)]:=by rw[Ij,au h]
theorem ahL : ∀(k i:Nat),i<k->(Ij i).length<=i+1:=by
 intro k
 induction k with
 |zero=>intro i h;omega
 | succ k ih=>
   intro i h;by_cases hi:i<10
   ·rw[KW hi];simp
   ·rw[Vp hi,bZ];have:=ih (i/10) aI;simp only[nV];omega
theorem wrap_u8 {m:Nat}(h:m<256):af .u8 (m:Int)=m:=by simp only[af,iR,yX];simp;omega
theorem T.lY : ∀(k i:Nat),i<k->i<lim->Ev (λf=>G.lY f (i:Int)) (Ij i):=by
 intro k
 induction k with
 |zero=>intro i h;omega
 | succ k ih=>
   intro i h hl;unfold lim at hl;have hm:4294967296<maxLen:=(by decide);refine aN ?_;simp only[G.lY];refine dB mD ?_;refine dh (λe=>?_) (λe=>?_)
   ·simp only[aC]at e;refine dA (aT ?_);rw[KW aI,wrapN (m:=48+i) aI aI,wrap_u8 aI,ai]
   ·simp only[dn]at e;have e1:mJ (i:Int) 10=((i/10:Nat):Int):=(by rw[A7 aI];omega);have e2:lC (i:Int) 10=((i%10:Nat):Int):=(by rw[Int.tmod_eq_emod_of_nonneg aI];omega);rw[e1,e2,wrapN (m:=i/10) rfl aI,wrapN (m:=48+i%10) aI aI,wrap_u8 aI,ai];refine ak (ih (i/10) aI (by unfold lim;omega)) ?_;have:=ahL (i/10+1) (i/10) aI;refine dA (dA (aT ?_));exact(Vp aI).symm
theorem T.decimal {i:Nat}(h:i<lim):Ev (λf=>G.lY f (i:Int)) (Ij i):=T.lY (i+1) i aI h
theorem acJ : ∀(k i:Nat),i<k->Lib.decDigits i=Ij i:=by
 intro k
 induction k with
 |zero=>intro i h;omega
 | succ k ih=>
   intro i h;by_cases h10:i<10
   ·rw[Lib.decDigits_one h10,KW h10]
   ·rw[Vp h10,Lib.decDigits,dif_neg h10,ih (i/10) aI]
theorem ait (i:Nat):wC (i:Int)=Ij i:=by unfold wC;rw[au aI,ai,acJ (i+1) i aI]
theorem T.Itoa {n:Int}(h : -900000000000000<=n/\n<=900000000000000):Ev (λf=>G.strconv_Itoa f n) (wC n):=by refine aN ?_;simp only[G.strconv_Itoa];exact um ⟨aI,bJ (Lib.itoa_length_le n aI aI) xM⟩ (bK _)
theorem T.strconv_Itoa {i:Nat}(h:i<10):Ev (λf=>G.strconv_Itoa f (i:Int)) (Ij i):=by
 have:=T.Itoa (n:=(i:Int)) aI
 rwa[ait]at this
def hit (n:aj)(s:fC)(j:Nat):Bool:=(n.bM==4&&n.aO.getD j default==s)||(n.bM==3&&Ij j==s)
def Gh (n:aj)(s:fC):Option Nat:=(bV 0 n.aP.length).find? (hit n s)
def KA : Option Nat->Int
 |some j=>j
 |none=> -1
theorem A8 {n:aj}{s:fC}{j:Nat}(h:Gh n s=some j):j<n.aP.length:=by have:=List.mem_of_find?_eq_some h;simp at this;exact this
theorem Oe {n:aj}{s:fC}{j:Nat}(h:Gh n s=some j):hit n s j=true:=List.find?_some h
theorem T.jL.L1 {B D:Nat}{n:aj}(s:fC)(hB:B<=lim)(h:Fine B D n) :
 ∀(k i:Nat),i+k=n.aP.length->Ev (λf=>G.jL.L1 f n s i) (KA ((bV i k).find? (hit n s))):=by
 have hl:=h.kids;have hm:=h.map;intro k
 induction k with
 | zero=>intro i hi;refine aN ?_;simp only[G.jL.L1];exact dB (by simp;omega) (bK _)
 | succ k ih=>
   intro i hi;have hih:=ih (i+1) aI;have hd:=T.decimal (i:=i) aI;unfold lim at hB;rw[rZ,x9];have apw:n.bM≠4->Ev (λf=>cond (n.bM==3) (mV (G.lY f (i:Int)) λv5=>cond (v5==s) (some (i:Int)) (G.jL.L1 f n s (af .i64 ((i:Int)+1)))) (G.jL.L1 f n s (af .i64 ((i:Int)+1))))
    (KA (match hit n s i with|true=>some i|false=>(bV (i+1) k).find? (hit n s))):=by
    intro h4;have e4:(n.bM==4)=false:=(by simpa using h4);rw[tu aI];refine dh (λe=>?_) (λe=>?_)
    ·refine ak hd (dh (λe2=>aT ?_) (λe2=>?_))
     ·rw[show hit n s i=true by unfold hit;rw[e,e2,e4];rfl];rfl
     ·exact hih.eq (by rw[show hit n s i=false by unfold hit;rw[e,e2,e4];rfl])
    ·exact hih.eq (by rw[show hit n s i=false by unfold hit;rw[e,e4];rfl])
   refine aN ?_;simp only[G.jL.L1];refine dR (by simp;omega) ?_;refine dh (λe=>?_) (λe=>apw (by simpa using e));have h4:n.bM=4:=(by simpa using e);have:=hm h4;refine dA ?_;rw[ai];refine dh (λe2=>aT ?_) (λe2=>?_)
   ·rw[show hit n s i=true by unfold hit;rw[e,e2];rfl];rfl
   ·refine dB (by rw[h4];rfl) ?_;rw[tu aI];exact hih.eq (by rw[show hit n s i=false by unfold hit;rw[e2,h4];rfl])
theorem T.jL {B D:Nat}{n:aj}(s:fC)(hB:B<=lim)(h:Fine B D n):Ev (λf=>G.jL f n s) (KA (Gh n s)):=by refine aN ?_;simp only[G.jL];exact T.jL.L1 s hB h n.aP.length 0 aI
theorem T.cmp_Less_string (x y:fC):Ev (λf=>G.cmp_Less_string f x y) (bl x y):=by
 refine aN ?_;simp only[G.cmp_Less_string];have:Ev (λf=>G.cmp_isNaN_string f x) false:=by refine aN ?_;simp only[G.cmp_isNaN_string];exact aT mD
 exact ak this (bK _)
structure LB (l:List fC)(t:fC)(i:Nat):Prop where
 le:i<=l.length
 lo:∀j,j<i->bl (l.getD j default) t=true
 hi:∀j,i<=j->j<l.length->bl (l.getD j default) t=false
theorem half (i j:Nat)(h:i+j<9223372036854775808):af .i64 ((Int.fdiv (af .u64 (af .i64 ((i:Int)+(j:Int)))) (2^(min 1 (iR .u64)))))=(((i+j)/2:Nat):Int):=by
 rw[wrapN (x:=(i:Int)+(j:Int)) (m:=i+j) aI h];have e:af .u64 ((i+j:Nat):Int)=((i+j:Nat):Int):=by simp only[af,iR,yX];simp;omega
 rw[e];have e2:Int.fdiv ((i+j:Nat):Int) (2^(min 1 (iR .u64)))=(((i+j)/2:Nat):Int):=by have:(2:Int)^(min 1 (iR .u64))=2:=rfl;rw[this,Int.fdiv_eq_ediv_of_nonneg _ aI];omega
 rw[e2];exact wrapN rfl aI
theorem T.BinarySearch.L1 {l:List fC}(t:fC)(hl:l.length<big)(hA:∀i j,i<j->j<l.length->bl (l.getD i default) (l.getD j default)=true) :
 ∀ (k i j:Nat),j-i<=k->i<=j->j<=l.length->(∀q,q<i->bl (l.getD q default) t=true)->(∀q,j<=q->q<l.length->bl (l.getD q default) t=false) ->
   ∃p:Nat,Ev (λf=>G.slices_BinarySearch_string.L1 f l t i j) ((p:Int),decide (p<l.length)&&l.getD p default==t)/\LB l t p:=by
 unfold big at hl;intro k
 induction k with
 | zero=>
   intro i j hk hij hj hlo hhi;have:i=j:=(by omega);subst this;refine⟨i,aN ?_,hj,hlo,hhi⟩;simp only[G.slices_BinarySearch_string.L1];refine dB mD (dh (λe=>?_) (λe=>aT ?_))
   ·have e':i<l.length:=(by simpa using e);rw[ai];have d1:decide (i<l.length)=true:=(by simpa using e');rw[d1,dS];refine dA (dh (λe2=>aT (by rw[e2])) (λe2=>dA ?_));have:Ev (λf=>G.slices_isNaN_string f (l.getD i default)) false:=by
     refine aN ?_;simp only[G.slices_isNaN_string];exact aT mD
    exact ak this (aT (by rw[e2]))
   ·have d1:decide (i<l.length)=false:=(by simpa using e);rw[d1];rfl
 | succ k ih=>
   intro i j hk hij hj hlo hhi;by_cases he:i=j
   ·exact ih i j aI hij hj hlo hhi
   have h1:(i+j)/2<j:=(by omega);have h2:i<=(i+j)/2:=(by omega);cases hc:bl (l.getD ((i+j)/2) default) t with
   | true=>
     obtain⟨p,g,hp⟩:=ih ((i+j)/2+1) j aI aI hj (λq hq=>by
      by_cases hq2:q=(i+j)/2
      ·rw[hq2];exact hc
      ·exact DR (hA q ((i+j)/2) aI aI) hc) hhi
     refine⟨p,aN ?_,hp⟩;simp only[G.slices_BinarySearch_string.L1];refine dR (by simp;omega) ?_;rw[half i j aI,ai];refine dA (ak (T.cmp_Less_string _ _) (dR hc ?_));rw[tu aI];exact g
   | false=>
     obtain⟨p,g,hp⟩:=ih i ((i+j)/2) aI h2 aI hlo (λq hq hq2=>by
      by_cases hq3:q=(i+j)/2
      ·rw[hq3];exact hc
      ·cases hb:bl (l.getD q default) t with
       |false=>rfl
       |true=>rw[DR (hA ((i+j)/2) q aI hq2) hb]at hc;cases hc)
     refine⟨p,aN ?_,hp⟩;simp only[G.slices_BinarySearch_string.L1];refine dR (by simp;omega) ?_;rw[half i j aI,ai];refine dA (ak (T.cmp_Less_string _ _) (dB hc ?_));exact g
theorem IK {x:fC}{l:List fC}(h:Asc (x::l)=true):Asc l=true:=by
 cases l with
 |nil=>rfl
 |cons y r=>rw[Asc,ah]at h;exact h.2
theorem JP : ∀{l:List fC} {x:fC},Asc (x::l)=true->∀y,y∈l->bl x y=true
 |[],_,_,y,hy=>by cases hy
 | z::r,x,h,y,hy=>by
   have h1:bl x z=true:=(by rw[Asc,ah]at h;exact h.1);rcases aK.1 hy with rfl|hy
   ·exact h1
   ·exact DR h1 (JP (IK h) y hy)
theorem He : ∀{l:List fC},Asc l=true->∀i j,i<j->j<l.length->bl (l.getD i default) (l.getD j default)=true
 |[],_,i,j,_,hj=>by simp at hj
 | x::l,h,i,j,hij,hj=>by
   cases j with
   |zero=>omega
   | succ j=>
     rw[nO];have hj':j<l.length:=(by simpa using hj);cases i with
     |zero=>rw[AL,iD _ hj'];exact JP h _ (dX _)
     |succ i=>rw[nO];exact He (IK h) i j aI hj'
theorem T.slices_BinarySearch_string {l:List fC}(t:fC)(hl:l.length<big)(hA:Asc l=true) :
 ∃p:Nat,Ev (λf=>G.slices_BinarySearch_string f l t) ((p:Int),decide (p<l.length)&&l.getD p default==t)/\LB l t p:=by
 obtain⟨p,g,hp⟩:=T.BinarySearch.L1 t hl (He hA) l.length 0 l.length aI aI aI (λq hq=>by omega) (λq h1 h2=>by omega);refine⟨p,aN ?_,hp⟩;simp only[G.slices_BinarySearch_string];exact g
theorem aj.eta (n:aj):aj.mk n.bM n.wJ n.lI n.aO n.aP=n:=by cases n;rfl
theorem NZ {p:Nat->Bool} : ∀{k i:Nat},(bV i k).find? p=none<->∀q,i<=q->q<i+k->p q=false:=by
 intro k i;rw[List.find?_eq_none];constructor
 ·intro h q h1 h2;have:=h q (by simp;omega);simpa using this
 ·intro h q hq;simp at hq;rw[h q hq.1 hq.2];simp
theorem Iy {p:Nat->Bool} : ∀{k i j:Nat},(bV i k).find? p=some j<->(i<=j/\j<i+k/\p j=true/\∀q,i<=q->q<j->p q=false):=by
 intro k
 induction k with
 |zero=>intro i j;simp;omega
 | succ k ih=>
   intro i j;rw[rZ,x9];cases h:p i with
   | true=>
     simp only[aH];constructor
     ·rintro rfl;exact⟨aI,aI,h,λq h1 h2=>by omega⟩
     ·rintro⟨h1,h2,h3,h4⟩;by_cases e:i=j
      ·exact e
      ·have:=h4 i aI aI;rw[h]at this;cases this
   | false=>
     simp only;rw[ih];constructor
     ·rintro⟨h1,h2,h3,h4⟩;refine⟨aI,aI,h3,λq g1 g2=>?_⟩;by_cases e:q=i
      ·rw[e];exact h
      ·exact h4 q aI g2
     ·rintro⟨h1,h2,h3,h4⟩;have:j≠i:=λe=>(by rw[e,h]at h3;cases h3);exact⟨aI,aI,h3,λq g1 g2=>h4 q aI g2⟩
theorem Ny {n:aj}{s:fC}{j:Nat} : Gh n s=some j<->(j<n.aP.length/\hit n s j=true/\∀q,q<j->hit n s q=false):=by
 unfold Gh;rw[Iy];constructor
 ·rintro⟨h1,h2,h3,h4⟩;exact⟨aI,h3,λq hq=>h4 q aI hq⟩
 ·rintro⟨h1,h2,h3⟩;exact⟨aI,aI,h2,λq _ hq=>h3 q hq⟩
theorem QO {n:aj}{s:fC} : Gh n s=none<->∀q,q<n.aP.length->hit n s q=false:=by
 unfold Gh;rw[NZ];constructor
 ·intro h q hq;exact h q aI aI
 ·intro h q _ hq;exact h q aI
theorem BH {n:aj}(h:Parts n=true)(hk:n.bM=4):n.wJ=0/\n.lI=[]/\NM n.aO=true/\n.aO.length<=6/\n.aP.length=n.aO.length:=by unfold Parts at h;simp[hk]at h;obtain⟨⟨h1,h2⟩,⟨h3,h4⟩,h5⟩:=h;exact⟨h1,h2,h3,h4,h5⟩
theorem GH {n:aj}(h:Parts n=true)(hk:n.bM=3):n.wJ=0/\n.lI=[]/\n.aO=[]/\n.aP.length<=6:=by unfold Parts at h;simp[hk]at h;obtain⟨⟨⟨h1,h2⟩,h3⟩,h4⟩:=h;exact⟨h1,h2,h3,h4⟩
theorem Pv {n:aj}(h:Parts n=true)(h4:n.bM≠4)(h3:n.bM≠3):n.aO=[]/\n.aP=[]:=by
 unfold Parts at h;have e4:(n.bM==4)=false:=by simpa using h4
 simp only[ah,e4,NR]at h;obtain⟨⟨_,h1⟩,h2⟩:=h;refine⟨gJ (by simpa using h1),gJ ?_⟩;by_cases k0:n.bM=0
 ·rw[aA k0]at h2;simpa using h2
 rw[au k0]at h2;by_cases k1:n.bM=1
 ·rw[aA k1]at h2;simp at h2;rw[h2.2];rfl
 rw[au k1]at h2;by_cases k2:n.bM=2
 ·rw[aA k2]at h2;simp at h2;rw[h2.2];rfl
 rw[au k2,au h3,au h4]at h2;cases h2
theorem Pn {l:List fC}(h:NM l=true):Asc l=true:=by unfold NM at h;simp only[ah]at h;exact h.2
theorem adq {l:List fC}(h:NM l=true):∀s,s∈l->PT s=true:=by unfold NM at h;simp only[ah]at h;exact bf.1 h.1
theorem SK {n:aj}(h:Parts n=true):n.aP.length<=6:=by
 by_cases k:n.aP.length<=6
 ·exact k
 ·rw[PD aI]at h;cases h
theorem GN {n:aj}(hk:n.bM=4)(s:fC)(j:Nat):hit n s j=(n.aO.getD j default==s):=by unfold hit;rw[hk];simp
theorem aie {n:aj}(hk:n.bM=3)(s:fC)(j:Nat):hit n s j=(Ij j==s):=by unfold hit;rw[hk];simp
theorem Kt {n:aj}(h4:n.bM≠4)(h3:n.bM≠3)(s:fC)(j:Nat):hit n s j=false:=by unfold hit;rw[show(n.bM==4)=false by simpa using h4,show(n.bM==3)=false by simpa using h3];rfl
theorem Zj {n:aj}{s:fC}{p:Nat}(hk:n.bM=4)(hA:Asc n.aO=true)(hl:n.aP.length=n.aO.length)(h:LB n.aO s p) :
 Gh n s=if decide (p<n.aO.length)&&n.aO.getD p default==s then some p else none:=by
 cases hc:decide (p<n.aO.length)&&n.aO.getD p default==s with
 | true=>simp only[ah,aC]at hc;rw[aA rfl,Ny];refine⟨aI,by rw[GN hk];exact hc.2,λq hq=>?_⟩;rw[GN hk];have:=Jm (h.lo q hq);simpa using this
 | false=>
   rw[au mD,QO];intro q hq;rw[GN hk];by_cases h1:q<p
   ·have:=Jm (h.lo q h1);simpa using this
   ·cases he:n.aO.getD q default==s with
    |false=>rfl
    | true=>
      rw[aY]at he;by_cases h2:q=p
      ·subst h2;rw[he]at hc;have:decide (q<n.aO.length)=true:=(by simp;omega);rw[this]at hc;simp at hc
      ·have:=He hA p q aI aI;rw[he,h.hi p aI aI]at this;cases this
theorem T.gQ.L1 {n:aj}(s:fC)(hk:n.bM=3)(hl:n.aP.length<=6) :
 ∀(k i:Nat),i+k=n.aP.length->Ev (λf=>G.gQ.L1 f n s i) (match(bV i k).find? (hit n s)with|some j=>((j:Int),true)|none=>(0,false)):=by
 intro k
 induction k with
 | zero=>intro i hi;refine aN ?_;simp only[G.gQ.L1];exact dB (by simp;omega) (bK _)
 | succ k ih=>intro i hi;refine aN ?_;simp only[G.gQ.L1];refine dR (by simp;omega) (ak (T.strconv_Itoa (i:=i) aI) ?_);rw[rZ,x9,aie hk,tu aI];refine dh (λe=>aT (by rw[e])) (λe=>?_);exact(ih (i+1) aI).eq (by rw[e])
theorem T.gQ {n:aj}(s:fC)(h:Parts n=true) :
 ∃v b,Ev (λf=>G.gQ f n s) (v,b)/\(∀j,Gh n s=some j->v=(j:Int)/\b=true)/\(Gh n s=none->b=false):=by
 by_cases h4:n.bM=4
 ·obtain⟨_,_,hN,hl,hkl⟩:=BH h h4;obtain⟨p,g,hp⟩:=T.slices_BinarySearch_string s (by unfold big;omega) (Pn hN);have hpl:=Zj h4 (Pn hN) hkl hp;refine⟨p,decide (p<n.aO.length)&&n.aO.getD p default==s,aN ?_,λj hj=>?_,λhn=>?_⟩
  ·simp only[G.gQ];exact dR (by simpa using h4) (ak g (bK _))
  ·rw[hpl]at hj;split at hj
   ·rename_i hc;cases hj;exact⟨rfl,hc⟩
   ·cases hj
  ·rw[hpl]at hn;split at hn
   ·cases hn
   ·rename_i hc;simpa using hc
 ·have e4:(n.bM==4)=false:=by simpa using h4
  by_cases h3:n.bM=3
  ·obtain⟨_,_,_,hl⟩:=GH h h3;have g:=T.gQ.L1 s h3 hl n.aP.length 0 aI;cases hp:Gh n s with
   | some j=>refine⟨j,true,aN ?_,λj' hj=>(by cases hj;exact⟨rfl,rfl⟩),λhn=>(by cases hn)⟩;simp only[G.gQ];refine dB e4 (dR (by simpa using h3) ?_);exact g.eq (by unfold Gh at hp;rw[hp])
   | none=>refine⟨0,false,aN ?_,λj' hj=>(by cases hj),λ_=>rfl⟩;simp only[G.gQ];refine dB e4 (dR (by simpa using h3) ?_);exact g.eq (by unfold Gh at hp;rw[hp])
  ·have hp:Gh n s=none:=QO.2 (λq _=>Kt h4 h3 s q);refine⟨0,false,aN ?_,λj hj=>(by rw[hp]at hj;cases hj),λ_=>rfl⟩;simp only[G.gQ];exact dB e4 (dB (by simpa using h3) (bK _))
def MM : aj->List fC->Option aj
 |n,[]=>some n
 | n,s::p=>match Gh n s with
   |some j=>MM (n.aP.getD j default) p
   |none=>none
def xJ : aj:=aj.mk 0 0 [] [] []
def pW : Option aj->aj×Bool
 |some n=>(n,true)
 |none=>(xJ,false)
theorem T.uY.L1 {B:Nat}(p:List fC)(hB:B<=lim)(hp:p.length<big) :
 ∀(k i D:Nat) (n:aj),i+k=p.length->Fine B D n->Ev (λf=>G.uY.L1 f p i n.bM n.wJ n.lI n.aO n.aP) (pW (MM n (p.drop i))):=by
 unfold big at hp;intro k
 induction k with
 | zero=>intro i D n hi h;refine aN ?_;simp only[G.uY.L1,aj.eta];refine dB (by simp;omega) ?_;rw[ay aI];have hc:=T.cO hB h;exact ak hc (bK _)
 | succ k ih=>
   intro i D n hi h;refine aN ?_;simp only[G.uY.L1,aj.eta];refine dR (by simp;omega) (dA ?_);rw[gu (default:fC) (by omega:i<p.length),ai];have hP:=T.jL (p.getD i default) hB h;refine ak hP ?_;rw[MM];cases hj:Gh n (p.getD i default)with
   |none=>exact dR rfl (bK _)
   | some j=>
     have hjl:=A8 hj;cases D with
     |zero=>exact h.elim
     |succ D=>
     refine dB (bg (by simp only[KA];omega)) (um (by simp only[KA];omega) ?_);rw[tu aI];exact ih (i+1) D _ aI (h.kid hjl)
theorem T.uY {B D:Nat}{n:aj}(p:List fC)(hB:B<=lim)(hp:p.length<big)(h:Fine B D n):Ev (λf=>G.uY f n p) (pW (MM n p)):=by refine aN ?_;simp only[G.uY];exact T.uY.L1 p hB hp p.length 0 D n aI h
theorem T.kN.L1 (p:List fC)(hp:p.length<big) :
 ∀(k i d:Nat) (n:aj),i+k=p.length->Shape d n=true->Ev (λf=>G.kN.L1 f p i n.bM n.wJ n.lI n.aO n.aP) (pW (MM n (p.drop i))):=by
 unfold big at hp;intro k
 induction k with
 | zero=>intro i d n hi h;refine aN ?_;simp only[G.kN.L1,aj.eta];refine dB (by simp;omega) ?_;rw[ay aI];exact bK _
 | succ k ih=>
   intro i d n hi h;cases d with
   |zero=>cases h
   |succ d=>
   refine aN ?_;simp only[G.kN.L1,aj.eta];refine dR (by simp;omega) (dA ?_);rw[gu (default:fC) (by omega:i<p.length),ai];obtain⟨v,b,g,h1,h2⟩:=T.gQ (p.getD i default) (rW h);refine ak g ?_;rw[MM];cases hj:Gh n (p.getD i default)with
   |none=>exact dB (h2 hj) (bK _)
   | some j=>have hjl:=A8 hj;obtain⟨rfl,rfl⟩:=h1 j hj;refine dR rfl (dA ?_);rw[tu aI];exact ih (i+1) d _ aI (wu h _ (by rw[ai,iD _ hjl];exact dX _))
theorem T.kN {d:Nat}{n:aj}(p:List fC)(hp:p.length<big)(h:Shape d n=true):Ev (λf=>G.kN f n p) (pW (MM n p)):=by refine aN ?_;simp only[G.kN];exact T.kN.L1 p hp p.length 0 d n aI h
def Jd (n:aj)(j:Nat)(c:aj):aj:=aj.mk n.bM n.wJ n.lI n.aO (n.aP.set j c)
def Ih (f:aj->Option aj):aj->List fC->Option aj
 |n,[]=>f n
 | n,s::p=>match Gh n s with
   |some j=>(Ih f (n.aP.getD j default) p).map (Jd n j)
   |none=>none
def Us (n:aj)(p:List fC)(v:aj):Option aj:=Ih (λ_=>some v) n p
theorem Yw (f:aj->Option aj):∀(p:List fC) (n:aj),Ih f n p=(MM n p).bind λm=>(f m).bind λm'=>Us n p m'
 | [],n=>by show f n=(f n).bind λm'=>some m';cases f n<;>rfl
 | s::p,n=>by
   rw[Ih,MM];cases hj:Gh n s with
   |none=>rfl
   | some j=>
     simp only;rw[Yw f p];cases ha:MM (n.aP.getD j default) p with
     |none=>rfl
     | some m=>
       simp only[kz];cases hf:f m with
       |none=>rfl
       | some m'=>simp only[kz];unfold Us;rw[Ih,hj]
theorem aav {B D E:Nat}{n v:aj}{j:Nat}(h:Fine B (D+1) n)(hv:Fine B E v):Fine B (max D E+1) (Jd n j v):=by
 obtain⟨h1,h2,h3,h4,h5,h6⟩:=h;refine⟨h1,h2,h3,by simpa[Jd]using h4,by simpa[Jd]using h5,λk hk=>?_⟩;rcases qf hk with hk|rfl
 ·exact(h6 k hk).mono (aF _) (CO _ _)
 ·exact hv.mono (aF _) (Fv _ _)
theorem Vx {B E:Nat}{f:aj->Option aj} : ∀(p:List fC) {D:Nat} {n m:aj},(∀D' k k',Fine B D' k->f k=some k'->Fine B (D'+E) k')->Fine B D n->Ih f n p=some m->Fine B (D+E) m
 |[],D,n,m,hf,h,hm=>hf D n m h hm
 | s::p,D,n,m,hf,h,hm=>by
   rw[Ih]at hm;cases hj:Gh n s with
   |none=>rw[hj]at hm;cases hm
   | some j=>
     rw[hj]at hm;simp only at hm;cases D with
     |zero=>exact h.elim
     |succ D=>
     cases hc:Ih f (n.aP.getD j default) p with
     |none=>rw[hc]at hm;cases hm
     | some c=>rw[hc]at hm;cases hm;have:=aav (j:=j) h (Vx p hf (h.kid (A8 hj)) hc);exact this.mono (aF _) aI
theorem RI {B D E:Nat}{n v m:aj}{p:List fC}(h:Fine B D n)(hv:Fine B E v)(hm:Us n p v=some m):Fine B (D+E) m:=
 Vx p (λD' k k' _ e=>by cases e;exact hv.mono (aF _) aI) h hm
theorem Ql {B:Nat} : ∀(p:List fC) {D:Nat} {n m:aj},Fine B D n->MM n p=some m->Fine B D m
 |[],_,_,_,h,e=>by cases e;exact h
 | s::p,D,n,m,h,e=>by
   rw[MM]at e;cases hj:Gh n s with
   |none=>rw[hj]at e;cases e
   | some j=>
     rw[hj]at e;cases D with
     |zero=>exact h.elim
     |succ D=>exact(Ql p (h.kid (A8 hj)) e).mono (aF _) aI
theorem T.pY {B D E:Nat}{n v:aj}{j:Nat}(hB:B<=lim)(h:Fine B D n)(hv:Fine B E v)(hj:j<n.aP.length):Ev (λf=>G.pY f n j v) (Jd n j v):=by refine aN ?_;simp only[G.pY];refine ak (T.cO hB h) (ak (T.cO hB hv) (dA (aT ?_)));rw[ai];rfl
theorem T.qj {B E:Nat}{v:aj}(hB:B<=lim)(hv:Fine B E v):∀(p:List fC) {D:Nat} {n:aj},p.length<big->Fine B D n->Ev (λf=>G.qj f n p v) (pW (Us n p v))
 | [],D,n,_,h=>by refine aN ?_;simp only[G.qj];exact dR rfl (ak (T.cO hB hv) (bK _))
 | s::p,D,n,hp,h=>by
   simp only[iV]at hp;have hp':=hp;unfold big at hp';refine aN ?_;simp only[G.qj];refine dB (by simp;omega) (um mD ?_);rw[AL];refine ak (T.jL s hB h) ?_;unfold Us;rw[Ih];cases hj:Gh n s with
   |none=>exact dR rfl (bK _)
   | some j=>
     have hjl:=A8 hj;cases D with
     |zero=>exact h.elim
     |succ D=>
     refine dB (bg (by simp only[KA];omega)) (um (by simp only[KA];omega) (um (by simp;omega) ?_));have hk:=h.kid hjl;have ih:=T.qj hB hv p aI hk;refine ak (show Ev (λf=>G.qj f (n.aP.getD (KA (some j)).toNat default) ((s::p).drop 1) v) _ from ih) ?_;show Ev _ (pW ((Us (n.aP.getD j default) p v).map (Jd n j)));cases hc:Us (n.aP.getD j default) p v with
     |none=>exact dB rfl (bK _)
     | some c=>refine dR rfl ?_;exact ak (T.pY hB h (RI hk hv hc) hjl) (bK _)
theorem VY {s:fC}(h:PT s=true):s.length<=12:=by unfold PT at h;simp at h;exact h.2
theorem Az : ∀{d:Nat} {n:aj},Shape d n=true->Fine 12 d n
 |0,_,h=>by cases h
 | d+1,n,h=>by
   have hp:=rW h;have hk:=wu h;have hl:=SK hp;refine⟨?_,?_,?_,aI,?_,λk hk'=>Az (hk k hk')⟩
   ·by_cases h2:n.bM=2
    ·unfold Parts at hp;simp[h2]at hp;exact VY hp.2.1
    ·have e2:(n.bM==2)=false:=(by simpa using h2);unfold Parts at hp;simp only[e2,NR,ah]at hp;have:=hp.1.1.2;rw[aY]at this;rw[this];simp
   ·by_cases h4:n.bM=4
    ·have:=(BH hp h4).2.2.2.1;omega
    ·by_cases h3:n.bM=3
     ·rw[(GH hp h3).2.2.1];simp
     ·rw[(Pv hp h4 h3).1];simp
   ·intro s hs;by_cases h4:n.bM=4
    ·exact VY (adq (BH hp h4).2.2.1 s hs)
    ·by_cases h3:n.bM=3
     ·rw[(GH hp h3).2.2.1]at hs;cases hs
     ·rw[(Pv hp h4 h3).1]at hs;cases hs
   ·intro h4;have:=(BH hp h4).2.2.2.2;omega
theorem Di {d:Nat}{n:aj}(h:Shape (d+1) n=true){j:Nat}(hj:j<n.aP.length):Shape d (n.aP.getD j default)=true:=by rw[iD _ hj];exact wu h _ (dX _)
theorem Fe : 12<=lim:=xM
theorem T.change {F:Nat->aj->List fC->Option (aj×Bool)}{C:Nat->aj->Option (aj×Bool)}{g:aj->Option aj}
 (hF:∀n a p,F (n+1) a p=cond ((p.length:Int)==0) (mV (C n a) λv1=>some (v1.1,v1.2))
  (chk (0<=0/\0<(p.length:Int)) (mV (G.gQ n a (p.getD 0 default)) λv2=>cond v2.2
   (chk (0<=v2.1/\v2.1<(a.aP.length:Int)) (chk (0<=1/\1<=(p.length:Int)/\(p.length:Int)<=(p.length:Int))
    (mV (F n (a.aP.getD v2.1.toNat default) (p.drop 1)) λv3=>cond v3.2 (mV (G.bC n a) λv4=>chk (0<=v2.1/\v2.1<(v4.aP.length:Int)) (some ((aj.mk v4.bM v4.wJ v4.lI v4.aO (v4.aP.set v2.1.toNat v3.1)),true)))
     (some ((aj.mk 0 0 [] [] []),false))))) (some ((aj.mk 0 0 [] [] []),false)))))
 (hC:∀d m,Shape d m=true->Ev (λn=>C n m) (pW (g m))) :
 ∀(p:List fC) {d:Nat} {n:aj},Shape d n=true->Ev (λk=>F k n p) (pW (Ih g n p))
 | [],d,n,h=>by refine aN ?_;simp only[hF];refine dR rfl (ak (hC d n h) (aT ?_));rw[Ih]
 | s::p,d,n,h=>by
   cases d with
   |zero=>cases h
   |succ d=>
   obtain⟨v,b,gk,h1,h2⟩:=T.gQ s (rW h);refine aN ?_;simp only[hF];refine dB (by simp;omega) (um mD ?_);rw[AL];refine ak gk ?_;rw[Ih];cases hj:Gh n s with
   |none=>exact dB (h2 hj) (bK _)
   | some j=>
     have hjl:=A8 hj;obtain⟨rfl,rfl⟩:=h1 j hj;refine dR rfl (dA (um (by simp;omega) ?_));rw[ai];have ih:=T.change hF hC p (Di h hjl);refine ak (show Ev (λk=>F k (n.aP.getD j default) ((s::p).drop 1)) _ from ih) ?_;simp only;cases hc:Ih g (n.aP.getD j default) p with
     |none=>exact dB rfl (bK _)
     | some c=>refine dR rfl (ak (T.bC Fe (Az h)) (dA (bK _)))
def insL {α:Type}(l:List α)(k:Nat)(v:α):List α:=(l.take k++[v])++l.drop k
def slt (n:aj)(s:fC):Nat:=((bV 0 n.aP.length).find? λi=>bl s (n.aO.getD i default)).getD n.aP.length
def addN (n:aj)(s:fC)(v:aj):Option aj:=
 match Gh n s with
 |some k=>if n.bM=4 then some (Jd n k v)else some (aj.mk n.bM 0 [] [] (insL n.aP k v))
 | none=>if n.bM=3 then(if s=[45]\/s=Ij n.aP.length then some (aj.mk n.bM 0 [] [] (insL n.aP n.aP.length v))else none)
   else if n.bM=4 then some (aj.mk n.bM 0 [] (insL n.aO (slt n s) s) (insL n.aP (slt n s) v))else none
theorem adJ (n:aj)(s:fC):slt n s<=n.aP.length:=by
 unfold slt;cases h:(bV 0 n.aP.length).find? λi=>bl s (n.aO.getD i default)with
 |none=>simp
 |some j=>have:=(Iy.1 h).2.1;simp only[lW];omega
def TU (n:aj)(s:fC):Option (Nat×Bool):=
 match Gh n s with
 |some k=>some (k,n.bM==4)
 | none=>if n.bM=3 then(if s=[45]\/s=Ij n.aP.length then some (n.aP.length,false)else none)
   else if n.bM=4 then some (slt n s,false)else none
def ajp : Option (Nat×Bool)->Int×Bool
 |some (k,b)=>((k:Int),b)
 |none=>(-1,false)
theorem T.mO.L1 {n:aj}(s:fC)(hk:n.bM≠4):Ev (λf=>G.mO.L1 f n s 0) (-1,false):=by refine aN ?_;simp only[G.mO.L1];exact dB (by simpa using hk) (bK _)
theorem T.mO.L2 {B D:Nat}{n:aj}(s:fC)(hB:B<=lim)(h:Fine B D n)(hk:n.bM=4) :
 ∀(k i:Nat),i+k=n.aP.length->Ev (λf=>G.mO.L2 f n s i) (((((bV i k).find? λi=>bl s (n.aO.getD i default)).getD n.aP.length:Nat):Int),false):=by
 have hl:=h.kids;have hm:=h.map hk;unfold lim at hB;intro k
 induction k with
 | zero=>intro i hi;refine aN ?_;simp only[G.mO.L2];refine dR (by simpa using hk) (dR (by simp;omega) (dR (by simp;omega) (aT ?_)));show((i:Int),false)=((n.aP.length:Int),false);rw[show i=n.aP.length by omega]
 | succ k ih=>
   intro i hi;refine aN ?_;simp only[G.mO.L2];refine dR (by simpa using hk) (dR (by simp;omega) (dB (by simp;omega) (dA ?_)));rw[rZ,x9,ai];refine dh (λe=>aT ?_) (λe=>?_)
   ·rw[show bl s (n.aO.getD i default)=true from e];rfl
   ·rw[tu aI,show bl s (n.aO.getD i default)=false from e];exact ih (i+1) aI
theorem T.mO {B D:Nat}{n:aj}(s:fC)(hB:B<=lim)(h:Fine B D n)(hB':B<lim):Ev (λf=>G.mO f n s) (ajp (TU n s)):=by
 have hl:=h.kids;refine aN ?_;simp only[G.mO];refine ak (T.jL s hB h) ?_;unfold TU;cases hj:Gh n s with
 |some j=>exact dR (dW (by simp only[KA];omega)) (bK _)
 | none=>
   refine dB (by rfl) ?_;simp only;by_cases h3:n.bM=3
   ·rw[aA h3];refine dR (by simpa using h3) ?_;refine dh (λe=>aT ?_) (λe=>?_)
    ·rw[aA (.inl (by simpa using e))];rfl
    ·refine ak (T.decimal (i:=n.aP.length) aI) (dh (λe2=>aT ?_) (λe2=>?_))
     ·rw[aA (.inr (by simpa using e2))];rfl
     ·rw[au (by simp at e e2;simp[e,e2])];exact T.mO.L1 s aI
   ·rw[au h3];refine dB (by simpa using h3) ?_;by_cases h4:n.bM=4
    ·rw[aA h4];exact T.mO.L2 s hB h h4 n.aP.length 0 aI
    ·rw[au h4];refine aN ?_;simp only[G.mO.L2];exact dB (by simpa using h4) (bK _)
theorem Xq (n:aj)(s:fC)(v:aj):addN n s v=(TU n s).map λq=>if q.2 then Jd n q.1 v else if n.bM=3 then aj.mk n.bM 0 [] [] (insL n.aP q.1 v)else aj.mk n.bM 0 [] (insL n.aO q.1 s) (insL n.aP q.1 v):=by
 unfold addN TU;cases hj:Gh n s with
 | some j=>
   simp only[kL];by_cases h4:n.bM=4
   ·simp[h4]
   ·have h3:n.bM=3:=by
     by_cases h3:n.bM=3
     ·exact h3
     ·have:=Oe hj;rw[Kt h4 h3]at this;cases this
    simp[h3]
 | none=>
   simp only;by_cases h3:n.bM=3
   ·simp only[h3,jY];by_cases hs:s=[45]\/s=Ij n.aP.length
    ·rw[aA hs,aA hs];simp
    ·rw[au hs,au hs];rfl
   ·rw[au h3,au h3];by_cases h4:n.bM=4
    ·rw[aA h4,aA h4];simp[h3]
    ·rw[au h4,au h4];rfl
theorem aeQ {n:aj}{s:fC}{q:Nat×Bool}(h:TU n s=some q):q.1<=n.aP.length/\(q.2=true->q.1<n.aP.length)/\(n.bM=3\/n.bM=4):=by
 unfold TU at h;cases hj:Gh n s with
 | some j=>
   rw[hj]at h;cases h;have:=A8 hj;refine⟨aI,λ_=>this,?_⟩;by_cases h4:n.bM=4
   ·exact .inr h4
   ·by_cases h3:n.bM=3
    ·exact .inl h3
    ·have:=Oe hj;rw[Kt h4 h3]at this;cases this
 | none=>
   rw[hj]at h;simp only at h;by_cases h3:n.bM=3
   ·rw[aA h3]at h;split at h
    ·cases h;exact⟨aF _,λe=>(by cases e),.inl h3⟩
    ·cases h
   ·rw[au h3]at h;split at h
    ·rename_i h4;cases h;exact⟨adJ n s,λe=>(by cases e),.inr h4⟩
    ·cases h
theorem T.rO {B D E:Nat}{n v:aj}(s:fC)(hB:B<lim)(h:Fine B D n)(hv:Fine B E v):Ev (λf=>G.rO f n s v) (pW (addN n s v)):=by
 have hl:=h.kids;have hn:=h.names;have hB2:=hB;unfold lim at hB2;refine aN ?_;simp only[G.rO];refine ak (T.mO s aI h hB) ?_;rw[Xq];cases hq:TU n s with
 |none=>exact dR rfl (bK _)
 | some q=>
   obtain⟨q1,q2⟩:=q;obtain⟨hq1,hq2,hk⟩:=aeQ hq;simp only at hq1 hq2;refine dB (bg (by simp only[ajp];omega)) ?_;refine dh (λe=>?_) (λe=>?_)
   ·have e:q2=true:=e;subst e;exact ak (T.pY aI h hv (hq2 rfl)) (bK _)
   ·have e:q2=false:=e;subst e;simp only[ajp,ai];have ht:(n.aP.take q1).length=q1:=(by rw[iK];omega);have hd:(n.aP.drop q1).length=n.aP.length-q1:=nD;refine ak (T.cO aI h) (dA (dA (ak (T.cO aI hv) (dA (dA (dA ?_))))));refine dh (λe3=>aT ?_) (λe3=>?_)
    ·have e3':n.bM=3:=(by simpa using e3);simp only[kL,aA e3'];rfl
    ·have e3':¬n.bM=3:=(by simpa using e3);have h4:n.bM=4:=(by omega);have hm:=h.map h4;have ht2:(n.aO.take q1).length=q1:=(by rw[iK];omega);have hd2:(n.aO.drop q1).length=n.aO.length-q1:=nD;refine dA (dA (dA (dA (dA (aT ?_)))));simp only[kL,au e3'];rfl
theorem aau {B D E:Nat}{n v m:aj}{s:fC}(h:Fine B D n)(hv:Fine B E v)(hs:s.length<=B)(hm:addN n s v=some m):Fine (B+1) (D+E) m:=by
 rw[Xq]at hm;cases hq:TU n s with
 |none=>rw[hq]at hm;cases hm
 | some q=>
   obtain⟨q1,q2⟩:=q;obtain⟨hq1,hq2,hk⟩:=aeQ hq;simp only at hq1 hq2;rw[hq]at hm;cases D with
   |zero=>exact h.elim
   |succ D=>
   cases hm;have aoa:∀k,k∈insL n.aP q1 v->Fine (B+1) (D+E) k:=by
    intro k hk;unfold insL at hk;simp only[bG,uU]at hk;rcases hk with(hk|rfl)|hk
    ·exact(h.2.2.2.2.2 k (gG hk)).mono aI aI
    ·exact hv.mono aI aI
    ·exact(h.2.2.2.2.2 k (lq hk)).mono aI aI
   have hlen:(insL n.aP q1 v).length=n.aP.length+1:=(by unfold insL;simp;omega);have hl:=h.kids;have hn:=h.names;have hb:1<=B+1:=(by omega);cases q2 with
   |true=>exact(aav (j:=q1) h hv).mono aI aI
   | false=>
     simp only[Bool.false_eq_true,if_false];rw[show D+1+E=(D+E)+1 by omega];by_cases h3:n.bM=3
     ·rw[aA h3];exact⟨mD,mD,mD,by show(insL n.aP q1 v).length<=_;omega,λh4=>by simp only at h4;omega,aoa⟩
     ·rw[au h3];have h4:n.bM=4:=(by omega);have hm:=h.map h4;have hlen2:(insL n.aO q1 s).length=n.aO.length+1:=(by unfold insL;simp;omega);refine⟨mD,by show(insL n.aO q1 s).length<=_;omega,λx hx=>?_,by show(insL n.aP q1 v).length<=_;omega,λ_=>by show(insL n.aP q1 v).length<=(insL n.aO q1 s).length;omega,aoa⟩;have hx:x∈insL n.aO q1 s:=hx;unfold insL at hx;simp only[bG,uU]at hx;rcases hx with(hx|rfl)|hx
      ·have:=h.2.2.1 x (gG hx);omega
      ·omega
      ·have:=h.2.2.1 x (lq hx);omega
theorem ajr {n:aj}{s:fC}{p:Nat}(hA:Asc n.aO=true)(hl:n.aP.length=n.aO.length)(h:LB n.aO s p)(hne:(decide (p<n.aO.length)&&n.aO.getD p default==s)=false):slt n s=p:=by
 have hhi:∀j,p<=j->j<n.aO.length->bl s (n.aO.getD j default)=true:=by
  intro j h1 h2;cases hb:bl s (n.aO.getD j default)with
  |true=>rfl
  | false=>
    have e:=O7 hb (h.hi j h1 h2);by_cases hp:p=j
    ·subst hp;have:decide (p<n.aO.length)=true:=(by simpa using h2);rw[this,<- e]at hne;simp at hne
    ·have:=He hA p j aI h2;rw[<- e,h.hi p aI aI]at this;cases this
 unfold slt;cases hf:(bV 0 n.aP.length).find? λi=>bl s (n.aO.getD i default)with
 | none=>
   have:=NZ.1 hf;by_cases hp:p=n.aP.length
   ·rw[hp];rfl
   ·have aoc:=h.le;have h2:=hhi p aI aI;rw[this p aI aI]at h2;cases h2
 | some j=>
   obtain⟨h1,h2,h3,h4⟩:=Iy.1 hf;show j=p;have a1:¬j<p:=λhlt=>by have:=U2 (h.lo j hlt);rw[this]at h3;cases h3
   have a2:¬p<j:=λhlt=>by have:=h4 p aI hlt;rw[hhi p aI aI]at this;cases this
   omega
theorem T.pV {d:Nat}{n v:aj}(s:fC)(h:Shape (d+1) n=true)(hk:n.bM=4):∃m,addN n s v=some m/\Ev (λf=>G.pV f n s v) m:=by
 have hp:=rW h;obtain⟨hnum,htext,hN,hl,hkl⟩:=BH hp hk;obtain⟨p,g,hlb⟩:=T.slices_BinarySearch_string s (by unfold big;omega) (Pn hN);have hpl:=Zj hk (Pn hN) hkl hlb;have aoc:=hlb.le;cases hc:decide (p<n.aO.length)&&n.aO.getD p default==s with
 | true=>rw[hc,aA rfl]at hpl;refine⟨Jd n p v,by unfold addN;rw[hpl];simp[hk],aN ?_⟩;simp only[G.pV];have:=A8 hpl;refine ak g (dR hc (dA (aT ?_)));rw[ai];rfl
 | false=>
   rw[hc,au mD]at hpl;have hsl:=ajr (Pn hN) hkl hlb hc;refine⟨aj.mk n.bM 0 [] (insL n.aO p s) (insL n.aP p v),by unfold addN;rw[hpl,hsl];simp[hk],aN ?_⟩;simp only[G.pV];refine ak g (dB hc ?_);have i1:Ev (λf=>G.mZ f n.aO (p:Int) [s]) (insL n.aO p s):=by refine aN ?_;simp only[G.mZ];refine um (by simp;omega) (aT ?_);rw[ai];rfl
   have i2:Ev (λf=>G.jf f n.aP (p:Int) [v]) (insL n.aP p v):=by refine aN ?_;simp only[G.jf];refine um (by simp;omega) (aT ?_);rw[ai];rfl
   exact ak i1 (ak i2 (aT (by rw[hnum,htext])))
theorem T.lX.K1 {B E:Nat}{n v:aj}{k:Nat}(hB:B<=lim)(hv:Fine B E v)(hk:k<=n.aP.length)(hl:n.aP.length<=6):Ev (λf=>G.lX.K1 f v n (k:Int) true) (aj.mk n.bM n.wJ n.lI n.aO (insL n.aP k v),true):=by
 refine aN ?_;simp only[G.lX.K1];refine dR rfl (ak (T.bC hB hv) ?_);have i2:Ev (λf=>G.jf f n.aP (k:Int) [v]) (insL n.aP k v):=by refine aN ?_;simp only[G.jf];refine um (by simp;omega) (aT ?_);rw[ai];rfl
 exact ak i2 (bK _)
theorem T.lX {B E d:Nat}{n v:aj}(s:fC)(hB:B<=lim)(hv:Fine B E v)(h:Shape d n=true):Ev (λf=>G.lX f n s v) (pW (addN n s v)):=by
 cases d with
 |zero=>cases h
 |succ d=>
 have hp:=rW h;refine aN ?_;simp only[G.lX];refine ak (T.bC Fe (Az h)) ?_;by_cases h4:n.bM=4
 ·refine dR (by simpa using h4) (ak (T.bC hB hv) ?_);obtain⟨m,hm,g⟩:=T.pV (v:=v) s h h4;rw[hm];exact ak g (bK _)
 refine dB (by simpa using h4) ?_;by_cases h3:n.bM=3
 ·obtain⟨hnum,htext,ac0,hl⟩:=GH hp h3;refine dR (by simpa using h3) ?_;obtain⟨w,b,g,h1,h2⟩:=T.gQ s hp;refine ak g ?_;unfold addN;cases hj:Gh n s with
  | some j=>obtain⟨rfl,rfl⟩:=h1 j hj;have:=A8 hj;refine dR rfl ((T.lX.K1 (k:=j) hB hv aI hl).eq ?_);simp only[au h4];rw[hnum,htext,ac0];rfl
  | none=>
    have hb:=h2 hj;subst hb;simp only[aA h3];refine dB rfl (dh (λe=>?_) (λe=>?_))
    ·refine(T.lX.K1 (k:=n.aP.length) hB hv aI hl).eq ?_;rw[aA (.inl (by simpa using e)),hnum,htext,ac0];rfl
    ·refine ak (T.strconv_Itoa (i:=n.aP.length) aI) (dh (λe2=>?_) (λe2=>?_))
     ·refine(T.lX.K1 (k:=n.aP.length) hB hv aI hl).eq ?_;rw[aA (.inr (by simpa using e2)),hnum,htext,ac0];rfl
     ·rw[au (by simp at e e2;simp[e,e2])];refine aN ?_;simp only[G.lX.K1];exact dB rfl (bK _)
 ·refine dB (by simpa using h3) (aT ?_);have hn:Gh n s=none:=QO.2 (λq _=>Kt h4 h3 s q);unfold addN;rw[hn];simp[h3,h4,pW,xJ]
theorem T.mQ (b:Bool):Ev (λf=>G.mQ f b) (if b then 1 else 0):=by
 refine aN ?_;simp only[G.mQ];cases b
 ·exact bK _
 ·exact bK _
theorem T.sK (a b:Int):∃r,Ev (λf=>G.sK f a b) r/\(r=0<->a=b):=by
 by_cases h:a<b
 ·refine⟨-1,aN ?_,aI⟩;simp only[G.sK];rw[show decide (b<a)=false by simp;omega,show decide (a<b)=true by simpa using h];exact ak (T.mQ _) (ak (T.mQ _) (bK _))
 ·by_cases k:b<a
  ·refine⟨1,aN ?_,aI⟩;simp only[G.sK];rw[show decide (a<b)=false by simp;omega,show decide (b<a)=true by simpa using k];exact ak (T.mQ _) (ak (T.mQ _) (bK _))
  ·refine⟨0,aN ?_,aI⟩;simp only[G.sK];rw[show decide (a<b)=false by simp;omega,show decide (b<a)=false by simp;omega];exact ak (T.mQ _) (ak (T.mQ _) (bK _))
theorem T.pI (a b:fC)(hne:a≠b):∃r,Ev (λf=>G.pI f a b) r/\r≠0:=by
 cases h:bl a b with
 | true=>refine⟨-1,aN ?_,aI⟩;simp only[G.pI];exact dR h (ak (T.mQ _) (ak (T.mQ _) (bK _)))
 | false=>refine⟨1,aN ?_,aI⟩;simp only[G.pI];exact dB h (dB (by simpa using hne) (ak (T.mQ _) (ak (T.mQ _) (bK _))))
def Jv (a b:aj)(i:Nat):Prop:=a.aP.drop i=b.aP.drop i/\(a.bM=4->a.aO.drop i=b.aO.drop i)
theorem Vq {a b:aj}{i:Nat}(ha:i<a.aP.length)(hb:i<b.aP.length)(h4:a.bM=4->i<a.aO.length/\i<b.aO.length) :
 Jv a b i<->((a.bM=4->a.aO.getD i default=b.aO.getD i default)/\a.aP.getD i default=b.aP.getD i default/\Jv a b (i+1)):=by
 unfold Jv;rw[gu (default:aj) ha,gu (default:aj) hb,xZ];by_cases hk:a.bM=4
 ·obtain⟨n1,n2⟩:=h4 hk;rw[gu (default:fC) n1,gu (default:fC) n2,xZ];simp only[hk,true_implies];constructor
  ·rintro⟨⟨x,y⟩,z,w⟩;exact⟨z,x,y,w⟩
  ·rintro⟨z,x,y,w⟩;exact⟨⟨x,y⟩,z,w⟩
 ·simp only[hk,false_implies,and_true,true_and]
theorem BU {d:Nat}{n:aj}(h:Shape d n=true)(hk:n.bM=4):n.aO.length=n.aP.length:=by
 cases d with
 |zero=>cases h
 |succ d=>exact(BH (rW h) hk).2.2.2.2.symm
theorem T.iO.L1 {d e:Nat}{a b:aj}(ha:Shape (d+1) a=true)(hb:Shape (e+1) b=true)(hk:a.bM=b.bM)
 (hs:∀x y,x∈a.aP->y∈b.aP->∃r,Ev (λf=>G.iO f x y) r/\(r=0<->x=y)) :
 ∀(k i:Nat),a.aP.length<=i+k->i<=a.aP.length->i<=b.aP.length->∃r,Ev (λf=>G.iO.L1 f a b i) r/\(r=0<->Jv a b i):=by
 have la:=Fh ha;have lb:=Fh hb;have tail:∀i,i<=a.aP.length->i<=b.aP.length->(i=a.aP.length\/i=b.aP.length)->∃r,Ev (λf=>mV (G.sK f (a.aP.length:Int) (b.aP.length:Int)) λv=>some v) r/\(r=0<->Jv a b i):=by
  intro i h1 h2 h3;obtain⟨r,g,hr⟩:=T.sK (a.aP.length:Int) (b.aP.length:Int);refine⟨r,ak g (bK _),hr.trans ⟨λhl=>?_,λhE=>?_⟩⟩
  ·have hl:a.aP.length=b.aP.length:=(by omega);refine⟨by rw[ay aI,ay aI],λh4=>?_⟩;have n1:=BU ha h4;have n2:=BU hb (hk▸h4);rw[ay aI,ay aI]
  ·have:=sN yO hE.1;simp only[nD]at this;omega
 intro k
 induction k with
 | zero=>intro i h1 h2 h3;obtain⟨r,g,hr⟩:=tail i h2 h3 aI;refine⟨r,aN ?_,hr⟩;simp only[G.iO.L1];exact dB (by simp;omega) g
 | succ k ih=>
   intro i h1 h2 h3;by_cases hia:i=a.aP.length
   ·obtain⟨r,g,hr⟩:=tail i h2 h3 aI;refine⟨r,aN ?_,hr⟩;simp only[G.iO.L1];exact dB (by simp;omega) g
   by_cases hib:i=b.aP.length
   ·obtain⟨r,g,hr⟩:=tail i h2 h3 aI;refine⟨r,aN ?_,hr⟩;simp only[G.iO.L1];exact dR (by simp;omega) (dB (by simp;omega) g)
   have n4:a.bM=4->i<a.aO.length/\i<b.aO.length:=λh4=>by have n1:=BU ha h4;have n2:=BU hb (hk▸h4);omega
   have hE:=Vq (a:=a) (b:=b) (i:=i) aI aI n4;obtain⟨r2,g2,hr2⟩:=hs (a.aP.getD i default) (b.aP.getD i default) (by rw[iD _ (by omega:i<a.aP.length)];exact dX _) (by rw[iD _ (by omega:i<b.aP.length)];exact dX _);obtain⟨r3,g3,hr3⟩:=ih (i+1) aI aI aI;have rest:∃r,Ev (λf=>mV (G.iO f (a.aP.getD i default) (b.aP.getD i default)) λv=>cond (v != 0) (some v) (G.iO.L1 f a b ((i+1:Nat):Int))) r/\(r=0<->(a.aP.getD i default=b.aP.getD i default/\Jv a b (i+1))):=by
    by_cases h0:r2=0
    ·refine⟨r3,ak g2 (dB (by rw[h0];rfl) g3),?_⟩;rw[hr3];exact⟨λh=>⟨hr2.1 h0,h⟩,λh=>h.2⟩
    ·refine⟨r2,ak g2 (dR (by simpa using h0) (bK _)),?_⟩;exact⟨λh=>eF h h0,λh=>hr2.2 h.1⟩
   obtain⟨r4,g4,hr4⟩:=rest;by_cases h4:a.bM=4
   ·obtain⟨m1,m2⟩:=n4 h4;by_cases hn:a.aO.getD i default=b.aO.getD i default
    ·refine⟨r4,aN ?_,?_⟩
     ·simp only[G.iO.L1];rw[ai,tu aI];exact dR (by simp;omega) (dR (by simp;omega) (dR (by simpa using h4) (dA (dA (dR (by simpa using hn) (dA (dA g4)))))))
     ·rw[hr4,hE];exact⟨λh=>⟨λ_=>hn,h⟩,λh=>h.2⟩
    ·obtain⟨r,g,hr⟩:=T.pI _ _ hn;refine⟨r,aN ?_,?_⟩
     ·simp only[G.iO.L1];rw[ai,tu aI];exact dR (by simp;omega) (dR (by simp;omega) (dR (by simpa using h4) (dA (dA (dB (by simpa using hn) (dA (dA (ak g (bK _)))))))))
     ·rw[hE];exact⟨λh=>eF h hr,λh=>eF (h.1 h4) hn⟩
   ·refine⟨r4,aN ?_,?_⟩
    ·simp only[G.iO.L1];rw[ai,tu aI];exact dR (by simp;omega) (dR (by simp;omega) (dB (by simpa using h4) (dA (dA g4))))
    ·rw[hr4,hE];exact⟨λh=>⟨λe=>eF e h4,h⟩,λh=>h.2⟩
theorem XW {d:Nat}{n:aj}(h:Shape (d+1) n=true)(h4:n.bM≠4):n.aO=[]:=by
 by_cases h3:n.bM=3
 ·exact(GH (rW h) h3).2.2.1
 ·exact(Pv (rW h) h4 h3).1
theorem eq_iff {d e:Nat}{a b:aj}(ha:Shape (d+1) a=true)(hb:Shape (e+1) b=true):a=b<->(a.bM=b.bM/\a.wJ=b.wJ/\a.lI=b.lI/\Jv a b 0):=by
 constructor
 ·rintro rfl;exact⟨rfl,rfl,rfl,rfl,λ_=>rfl⟩
 ·rintro⟨h1,h2,h3,h4,h5⟩;simp only[dM]at h4 h5;have hn:a.aO=b.aO:=by
   by_cases h:a.bM=4
   ·exact h5 h
   ·rw[XW ha h,XW hb (h1▸h)]
  cases a;cases b;simp only at h1 h2 h3 h4 hn;subst h1 h2 h3 h4 hn;rfl
theorem T.iO : ∀(d:Nat) {e:Nat} {a b:aj},Shape d a=true->Shape e b=true->∃r,Ev (λf=>G.iO f a b) r/\(r=0<->a=b)
 |0,_,_,_,h,_=>by cases h
 |_+1,0,_,_,_,h=>by cases h
 | d+1,e+1,a,b,ha,hb=>by
   rw[eq_iff ha hb];by_cases h1:a.bM=b.bM
   ·by_cases h2:a.wJ=b.wJ
    ·by_cases h3:a.lI=b.lI
     ·obtain⟨r,g,hr⟩:=T.iO.L1 ha hb h1 (λx y hx hy=>T.iO d (wu ha x hx) (wu hb y hy)) a.aP.length 0 aI aI aI;refine⟨r,aN ?_,hr.trans ⟨λh=>⟨h1,h2,h3,h⟩,λh=>h.2.2.2⟩⟩;simp only[G.iO];exact dB (by simpa using h1) (dB (by simpa using h2) (dR (by simpa using h3) g))
     ·obtain⟨r,g,hr⟩:=T.pI _ _ h3;refine⟨r,aN ?_,⟨λh=>eF h hr,λh=>eF h.2.2.1 h3⟩⟩;simp only[G.iO];exact dB (by simpa using h1) (dB (by simpa using h2) (dB (by simpa using h3) (ak g (bK _))))
    ·obtain⟨r,g,hr⟩:=T.sK a.wJ b.wJ;refine⟨r,aN ?_,hr.trans ⟨λh=>eF h h2,λh=>h.2.1⟩⟩;simp only[G.iO];exact dB (by simpa using h1) (dR (by simpa using h2) (ak g (bK _)))
   ·obtain⟨r,g,hr⟩:=T.sK a.bM b.bM;refine⟨r,aN ?_,hr.trans ⟨λh=>eF h h1,λh=>h.1⟩⟩;simp only[G.iO];exact dR (by simpa using h1) (ak g (bK _))
theorem T.zx {d e:Nat}{a b:aj}(ha:Shape d a=true)(hb:Shape e b=true):∃v,Ev (λf=>G.zx f a b) v/\(v=true<->a=b):=by obtain⟨r,g,hr⟩:=T.iO d ha hb;refine⟨r==0,aN ?_,by rw[aY];exact hr⟩;simp only[G.zx];exact ak g (bK _)
theorem T.cmp_Compare_int (a b:Int):∃r,Ev (λf=>G.cmp_Compare_int f a b) r/\(r=0<->a=b):=by
 have hn:∀x:Int,Ev (λf=>G.cmp_isNaN_int f x) false:=λx=>by refine aN ?_;simp only[G.cmp_isNaN_int];exact aT mD
 by_cases h:a<b
 ·refine⟨-1,aN ?_,aI⟩;simp only[G.cmp_Compare_int];exact ak (hn a) (ak (hn b) (dB rfl (dB rfl (dR (by simpa using h) (bK _)))))
 ·by_cases k:b<a
  ·refine⟨1,aN ?_,aI⟩;simp only[G.cmp_Compare_int];exact ak (hn a) (ak (hn b) (dB rfl (dB rfl (dB (by simpa using h) (dR (by simpa using k) (bK _))))))
  ·refine⟨0,aN ?_,aI⟩;simp only[G.cmp_Compare_int];exact ak (hn a) (ak (hn b) (dB rfl (dB rfl (dB (by simpa using h) (dB (by simpa using k) (bK _))))))
theorem T.strings_Compare (a b:fC):∃r,Ev (λf=>G.strings_Compare f a b) r/\(r=0<->a=b):=by
 refine⟨jZ a b,aN ?_,XB⟩;simp only[G.strings_Compare];have:Ev (λf=>G.iH f a b) (jZ a b):=by refine aN ?_;simp only[G.iH];exact bK _
 exact ak this (bK _)
theorem T.dQ.L3 {d e:Nat}{a b:aj}(ha:Shape (d+1) a=true)(hb:Shape (e+1) b=true)(hk:a.bM=b.bM)
 (hs:∀x y,x∈a.aP->y∈b.aP->∃r,Ev (λf=>G.dQ f x y) r/\(r=0<->x=y)) :
 ∀(k i:Nat),a.aP.length<=i+k->i<=a.aP.length->i<=b.aP.length->∃r,Ev (λf=>G.dQ.L3 f a b i) r/\(r=0<->Jv a b i):=by
 have la:=Fh ha;have lb:=Fh hb;have tail:∀i,i<=a.aP.length->i<=b.aP.length->(i=a.aP.length\/i=b.aP.length)->∃r,Ev (λf=>mV (G.cmp_Compare_int f (a.aP.length:Int) (b.aP.length:Int)) λv=>some v) r/\(r=0<->Jv a b i):=by
  intro i h1 h2 h3;obtain⟨r,g,hr⟩:=T.cmp_Compare_int (a.aP.length:Int) (b.aP.length:Int);refine⟨r,ak g (bK _),hr.trans ⟨λhl=>?_,λhE=>?_⟩⟩
  ·have hl:a.aP.length=b.aP.length:=(by omega);refine⟨by rw[ay aI,ay aI],λh4=>?_⟩;have n1:=BU ha h4;have n2:=BU hb (hk▸h4);rw[ay aI,ay aI]
  ·have:=sN yO hE.1;simp only[nD]at this;omega
 intro k
 induction k with
 | zero=>intro i h1 h2 h3;obtain⟨r,g,hr⟩:=tail i h2 h3 aI;refine⟨r,aN ?_,hr⟩;simp only[G.dQ.L3];exact dB (by simp;omega) g
 | succ k ih=>
   intro i h1 h2 h3;by_cases hia:i=a.aP.length
   ·obtain⟨r,g,hr⟩:=tail i h2 h3 aI;refine⟨r,aN ?_,hr⟩;simp only[G.dQ.L3];exact dB (by simp;omega) g
   by_cases hib:i=b.aP.length
   ·obtain⟨r,g,hr⟩:=tail i h2 h3 aI;refine⟨r,aN ?_,hr⟩;simp only[G.dQ.L3];exact dR (by simp;omega) (dB (by simp;omega) g)
   have n4:a.bM=4->i<a.aO.length/\i<b.aO.length:=λh4=>by have n1:=BU ha h4;have n2:=BU hb (hk▸h4);omega
   have hE:=Vq (a:=a) (b:=b) (i:=i) aI aI n4;obtain⟨r2,g2,hr2⟩:=hs (a.aP.getD i default) (b.aP.getD i default) (by rw[iD _ (by omega:i<a.aP.length)];exact dX _) (by rw[iD _ (by omega:i<b.aP.length)];exact dX _);obtain⟨r3,g3,hr3⟩:=ih (i+1) aI aI aI;have rest:∃r,Ev (λf=>G.dQ.K4 f a b (i:Int)) r/\(r=0<->(a.aP.getD i default=b.aP.getD i default/\Jv a b (i+1))):=by
    by_cases h0:r2=0
    ·refine⟨r3,aN ?_,?_⟩
     ·simp only[G.dQ.K4];rw[ai,tu aI];exact dA (dA (ak g2 (dB (by rw[h0];rfl) g3)))
     ·rw[hr3];exact⟨λh=>⟨hr2.1 h0,h⟩,λh=>h.2⟩
    ·refine⟨r2,aN ?_,?_⟩
     ·simp only[G.dQ.K4];rw[ai,tu aI];exact dA (dA (ak g2 (dR (by simpa using h0) (bK _))))
     ·exact⟨λh=>eF h h0,λh=>hr2.2 h.1⟩
   obtain⟨r4,g4,hr4⟩:=rest;by_cases h4:a.bM=4
   ·obtain⟨m1,m2⟩:=n4 h4;obtain⟨r,g,hr⟩:=T.strings_Compare (a.aO.getD i default) (b.aO.getD i default);by_cases hn:a.aO.getD i default=b.aO.getD i default
    ·refine⟨r4,aN ?_,?_⟩
     ·simp only[G.dQ.L3];rw[ai];exact dR (by simp;omega) (dR (by simp;omega) (dR (by simpa using h4) (dA (dA (ak g (dB (by rw[hr.2 hn];rfl) g4))))))
     ·rw[hr4,hE];exact⟨λh=>⟨λ_=>hn,h⟩,λh=>h.2⟩
    ·have hr0:r≠0:=λe=>hn (hr.1 e);refine⟨r,aN ?_,?_⟩
     ·simp only[G.dQ.L3];rw[ai];exact dR (by simp;omega) (dR (by simp;omega) (dR (by simpa using h4) (dA (dA (ak g (dR (by simpa using hr0) (bK _)))))))
     ·rw[hE];exact⟨λh=>eF h hr0,λh=>eF (h.1 h4) hn⟩
   ·refine⟨r4,aN ?_,?_⟩
    ·simp only[G.dQ.L3];exact dR (by simp;omega) (dR (by simp;omega) (dB (by simpa using h4) g4))
    ·rw[hr4,hE];exact⟨λh=>⟨λe=>eF e h4,h⟩,λh=>h.2⟩
theorem T.dQ : ∀(d:Nat) {e:Nat} {a b:aj},Shape d a=true->Shape e b=true->∃r,Ev (λf=>G.dQ f a b) r/\(r=0<->a=b)
 |0,_,_,_,h,_=>by cases h
 |_+1,0,_,_,_,h=>by cases h
 | d+1,e+1,a,b,ha,hb=>by
   rw[eq_iff ha hb];obtain⟨r1,g1,hr1⟩:=T.cmp_Compare_int a.bM b.bM;obtain⟨r2,g2,hr2⟩:=T.cmp_Compare_int a.wJ b.wJ;obtain⟨r3,g3,hr3⟩:=T.strings_Compare a.lI b.lI;by_cases h1:r1=0
   ·by_cases h2:r2=0
    ·by_cases h3:r3=0
     ·obtain⟨r,g,hr⟩:=T.dQ.L3 ha hb (hr1.1 h1) (λx y hx hy=>T.dQ d (wu ha x hx) (wu hb y hy)) a.aP.length 0 aI aI aI;refine⟨r,aN ?_,hr.trans ⟨λh=>⟨hr1.1 h1,hr2.1 h2,hr3.1 h3,h⟩,λh=>h.2.2.2⟩⟩;simp only[G.dQ];exact ak g1 (dB (by rw[h1];rfl) (ak g2 (dB (by rw[h2];rfl) (ak g3 (dB (by rw[h3];rfl) g)))))
     ·refine⟨r3,aN ?_,⟨λh=>eF h h3,λh=>hr3.2 h.2.2.1⟩⟩;simp only[G.dQ];exact ak g1 (dB (by rw[h1];rfl) (ak g2 (dB (by rw[h2];rfl) (ak g3 (dR (by simpa using h3) (bK _))))))
    ·refine⟨r2,aN ?_,⟨λh=>eF h h2,λh=>hr2.2 h.2.1⟩⟩;simp only[G.dQ];exact ak g1 (dB (by rw[h1];rfl) (ak g2 (dR (by simpa using h2) (bK _))))
   ·refine⟨r1,aN ?_,⟨λh=>eF h h1,λh=>hr1.2 h.1⟩⟩;simp only[G.dQ];exact ak g1 (dR (by simpa using h1) (bK _))
theorem T.uK {d e:Nat}{a b:aj}(ha:Shape d a=true)(hb:Shape e b=true):∃v,Ev (λf=>G.uK f a b) v/\(v=true<->a=b):=by obtain⟨r,g,hr⟩:=T.dQ d ha hb;refine⟨r==0,aN ?_,by rw[aY];exact hr⟩;simp only[G.uK];exact ak g (bK _)
theorem PE : ∀{d e:Nat} {n:aj},d<=e->Shape d n=true->Shape e n=true
 |0,_,_,_,h=>by cases h
 |d+1,0,_,hd,_=>by omega
 | d+1,e+1,n,hd,h=>by unfold Shape;rw[rW h,dS,bf];exact λk hk=>PE aI (wu h k hk)
theorem OL {α:Type}{f g:α->Nat} : ∀{l:List α},(∀x,x∈l->f x=g x)->(l.map f).sum=(l.map g).sum
 |[],_=>rfl
 | x::l,h=>by simp only[bT,tY];rw[h x mD,OL (λy hy=>h y (by simp[hy]))]
theorem cnt_mono : ∀{d e:Nat} {n:aj},d<=e->Shape d n=true->Cnt d n=Cnt e n
 |0,_,_,_,h=>by cases h
 |d+1,0,_,hd,_=>by omega
 | d+1,e+1,n,hd,h=>by unfold Cnt;rw[OL (f:=Cnt d) (g:=Cnt e) (λk hk=>cnt_mono aI (wu h k hk))]
theorem aiB {α:Type}(f:α->Nat):∀{l:List α} {x:α},x∈l->f x<=(l.map f).sum
 | y::l,x,h=>by
   simp only[bT,tY];rcases aK.1 h with rfl|h
   ·omega
   ·have:=aiB f h;omega
theorem uF {n:aj}(h:Val n=true):Shape 5 n=true:=by unfold Val at h;simp only[ah]at h;exact h.1
theorem ae0 {n:aj}(h:Val n=true):Cnt 5 n<=40:=by unfold Val at h;simp only[ah,aC]at h;exact h.2
theorem oG {n:aj}(h:Val n=true):Fine 12 5 n:=Az (uF h)
theorem ajE {d:Nat}{n:aj}(hd:d<=5)(h:Shape d n=true)(hc:Cnt d n<=40):Val n=true:=by unfold Val;rw[PE hd h,dS,aC,<- cnt_mono hd h];exact hc
theorem aad : ∀(p:List fC) {d:Nat} {n m:aj},Shape d n=true->MM n p=some m->Shape d m=true/\Cnt d m<=Cnt d n
 |[],d,n,m,h,e=>by cases e;exact⟨h,aF _⟩
 | s::p,d,n,m,h,e=>by
   rw[MM]at e;cases hj:Gh n s with
   |none=>rw[hj]at e;cases e
   | some j=>
     rw[hj]at e;cases d with
     |zero=>cases h
     | succ d=>have hjl:=A8 hj;obtain⟨h1,h2⟩:=aad p (Di h hjl) e;refine⟨PE aI h1,?_⟩;rw[<- cnt_mono (Nat.le_succ d) h1];have:=aiB (Cnt d) (l:=n.aP) (x:=n.aP.getD j default) (by rw[iD _ hjl];exact dX _);show _<=1+(n.aP.map (Cnt d)).sum;omega
theorem aeU {α:Type}(f:α->Nat){c:α} : ∀{l:List α} {j:Nat} (d:α),f c<=f (l.getD j d)->((l.set j c).map f).sum<=(l.map f).sum
 |[],_,_,_=>by simp
 | x::l,0,d,h=>by rw[AL]at h;simp only[Ji,bT,tY];omega
 | x::l,j+1,d,h=>by rw[nO]at h;have:=aeU f (l:=l) (j:=j) d h;simp only[List.set_cons_succ,bT,tY];omega
theorem agr {n c:aj}{j:Nat}(h:Parts n=true):Parts (Jd n j c)=true:=by unfold Parts Jd at *;simpa using h
theorem Xy {f:aj->Option aj}(hf:∀d k k',Shape d k=true->f k=some k'->Shape d k'=true/\Cnt d k'<=Cnt d k) :
 ∀(p:List fC) {d:Nat} {n m:aj},Shape d n=true->Ih f n p=some m->Shape d m=true/\Cnt d m<=Cnt d n
 |[],d,n,m,h,e=>hf d n m h (by rw[Ih]at e;exact e)
 | s::p,d,n,m,h,e=>by
   rw[Ih]at e;cases hj:Gh n s with
   |none=>rw[hj]at e;cases e
   | some j=>
     rw[hj]at e;simp only at e;cases d with
     |zero=>cases h
     |succ d=>
     have hjl:=A8 hj;cases hc:Ih f (n.aP.getD j default) p with
     |none=>rw[hc]at e;cases e
     | some c=>
       rw[hc]at e;cases e;obtain⟨h1,h2⟩:=Xy hf p (Di h hjl) hc;constructor
       ·unfold Shape;rw[agr (rW h),dS,bf];intro k hk;rcases qf hk with hk|rfl
        ·exact wu h k hk
        ·exact h1
       ·show 1+((n.aP.set j c).map (Cnt d)).sum<=1+(n.aP.map (Cnt d)).sum;have:=aeU (Cnt d) (l:=n.aP) (j:=j) default h2;omega
def zo {α:Type}(l:List α)(k:Nat):List α:=l.take k++l.drop (k+1)
def FX (n:aj)(s:fC):Option aj:=match Gh n s with
 |some k=>some (aj.mk n.bM 0 [] (if n.bM=4 then zo n.aO k else []) (zo n.aP k))
 |none=>none
theorem BZ : ∀{l:List fC},Asc l=true<->l.Pairwise (λx y=>bl x y=true)
 |[]=>by simp[Asc]
 | x::l=>by
   rw[List.pairwise_cons,<- BZ (l:=l)];constructor
   ·intro h;exact⟨JP h,IK h⟩
   ·rintro⟨h1,h2⟩;cases l with
    |nil=>rfl
    |cons y r=>rw[Asc,h2,rf];exact h1 y mD
theorem Ea {α:Type}(l:List α)(k:Nat):(zo l k).Sublist l:=by
 unfold zo
 conv=>rhs;rw[<- CY k l]
 refine List.Sublist.append (List.Sublist.refl _) ?_;rw[<- List.drop_drop];exact List.drop_sublist 1 _
theorem Gx {α:Type}{l:List α}{k:Nat}(h:k<l.length):(zo l k).length=l.length-1:=by unfold zo;simp;omega
theorem alg {α:Type}(f:α->Nat):∀{l m:List α},l.Sublist m->(l.map f).sum<=(m.map f).sum:=by
 intro l m h
 induction h with
 |slnil=>simp
 |cons a h ih=>simp only[bT,tY];omega
 |cons_cons a h ih=>simp only[bT,tY];omega
theorem agx (s:fC):∀d k k',Shape d k=true->FX k s=some k'->Shape d k'=true/\Cnt d k'<=Cnt d k:=by
 intro d n m h e;unfold FX at e;cases hj:Gh n s with
 |none=>rw[hj]at e;cases e
 | some j=>
   rw[hj]at e;cases e;have hjl:=A8 hj;cases d with
   |zero=>cases h
   |succ d=>
   have hp:=rW h;have hsub:=Ea n.aP j;have hlen:=Gx hjl;have hl:=SK hp;constructor
   ·unfold Shape;rw[ah,bf];refine⟨?_,λk hk=>wu h k (hsub.subset hk)⟩;by_cases h4:n.bM=4
    ·obtain⟨_,_,hN,hnl,hkl⟩:=BH hp h4;have hNM:NM (zo n.aO j)=true:=by
      unfold NM;rw[ah];refine⟨bf.2 λx hx=>adq hN x ((Ea _ _).subset hx),BZ.2 ((BZ.1 (Pn hN)).sublist (Ea _ _))⟩
     have hl2:=Gx (l:=n.aO) (k:=j) aI;unfold Parts;simp[h4,hNM];omega
    ·by_cases h3:n.bM=3
     ·unfold Parts;simp[h3];omega
     ·have:=Oe hj;rw[Kt h4 h3]at this;cases this
   ·show 1+((zo n.aP j).map (Cnt d)).sum<=1+(n.aP.map (Cnt d)).sum;have:=alg (Cnt d) hsub;omega
def Jr (p:List fC):fC:=p.getD (p.length-1) default
def Fb (p:List fC):List fC:=p.take (p.length-1)
def Dn (n:aj)(p:List fC)(v:aj):Option aj:=if p=[]then some v else Ih (λm=>addN m (Jr p) v) n (Fb p)
def Ee (n:aj)(p:List fC):Option aj:=if p=[]then none else Ih (λm=>FX m (Jr p)) n (Fb p)
theorem T.qJ {B D:Nat}{o:Option aj}(hB:B<=lim)(h:∀m,o=some m->Fine B D m):Ev (λf=>G.qJ f (pW o).1 (pW o).2) (pW (o.filter Val)):=by
 refine aN ?_;simp only[G.qJ];cases o with
 |none=>exact dB rfl (bK _)
 | some m=>
   refine dR rfl (ak (T.iI hB (h m rfl)) (dh (λe=>aT ?_) (λe=>aT ?_)))
   ·have e:Val m=true:=e;simp[uf,e,pW]
   ·have e:Val m=false:=e;simp[uf,e,pW,xJ]
theorem T.pU {B D:Nat}{o:Option aj}(hB:B<=lim)(h:∀m,o=some m->Fine B D m):Ev (λf=>G.pU f (pW o).1 (pW o).2) (pW (o.filter Val)):=by
 refine aN ?_;simp only[G.pU];cases o with
 |none=>exact dB rfl (bK _)
 | some m=>
   refine dR rfl (ak (T.dm hB (h m rfl)) (dh (λe=>aT ?_) (λe=>aT ?_)))
   ·have e:Val m=true:=e;simp[uf,e,pW]
   ·have e:Val m=false:=e;simp[uf,e,pW,xJ]
theorem Nl {p:List fC}(hp:p≠[])(hl:p.length<big):af .i64 ((p.length:Int)-1)=((p.length-1:Nat):Int):=by have:0<p.length:=pJ.2 hp;unfold big at hl;exact wrapN aI aI
theorem Vw {B D E:Nat}{n v m:aj}{p:List fC}(h:Fine B D n)(hv:Fine B E v)(hs:∀s,s∈p->s.length<=B)(hm:Dn n p v=some m):Fine (B+1) (D+(D+E)) m:=by
 unfold Dn at hm;split at hm
 ·cases hm;exact hv.mono aI aI
 ·rename_i hp;have hlast:(Jr p).length<=B:=by
   unfold Jr;have:0<p.length:=pJ.2 hp;rw[iD _ (by omega:p.length-1<p.length)];exact hs _ (dX _)
  rw[Yw]at hm;cases ha:MM n (Fb p)with
  |none=>rw[ha]at hm;cases hm
  | some inner=>
    rw[ha,kz]at hm;cases hn:addN inner (Jr p) v with
    |none=>rw[hn]at hm;cases hm
    | some next=>rw[hn,kz]at hm;have hi:=Ql _ h ha;have hnx:=aau hi hv hlast hn;exact Vx (B:=B+1) (E:=D+E) (Fb p) (f:=λ_=>some next) (D:=D) (n:=n) (m:=m) (λD' k k' _ e=>by cases e;exact hnx.mono (aF _) aI) (h.mono aI (aF _)) hm
theorem T.vM {B D E:Nat}{n v:aj}(p:List fC)(hB:B+1<lim)(hp:p.length<big)(hs:∀s,s∈p->s.length<=B)(h:Fine B D n)(hv:Fine B E v):Ev (λf=>G.vM f n p v) (pW (Dn n p v)):=by
 refine aN ?_;simp only[G.vM];by_cases hp0:p=[]
 ·subst hp0;exact dR rfl (ak (T.cO aI hv) (bK _))
 ·have hpos:0<p.length:=pJ.2 hp0;have hlast:(Jr p).length<=B:=by
   unfold Jr;rw[iD _ (by omega:p.length-1<p.length)];exact hs _ (dX _)
  rw[Nl hp0 hp,ai];unfold Dn;rw[au hp0,Yw];have hil:(Fb p).length<big:=by unfold Fb;rw[iK];omega
  refine dB (by simpa using hp0) (dA (ak (T.uY (Fb p) aI hil h) ?_));cases ha:MM n (Fb p)with
  |none=>exact dB rfl (bK _)
  | some inner=>
    have hi:=Ql _ h ha;have hA:=T.rO (n:=inner) (Jr p) aI hi hv;refine dR rfl (dA (ak hA ?_));rw[kz];cases hn:addN inner (Jr p) v with
    |none=>exact dB rfl (bK _)
    | some next=>have hnx:=aau hi hv hlast hn;refine dR rfl (dA (ak (T.qj aI hnx (Fb p) hil (h.mono aI (aF _))) (bK _)))
theorem ahX {B D:Nat}{n m:aj}{s:fC}(h:Fine B D n)(e:FX n s=some m):Fine B D m:=by
 unfold FX at e;cases hj:Gh n s with
 |none=>rw[hj]at e;cases e
 | some j=>
   rw[hj]at e;cases e;cases D with
   |zero=>exact h.elim
   |succ D=>
   have hjl:=A8 hj;have hk:=h.kids;have hn:=h.names;have h1:=Gx hjl;refine⟨mD,?_,λx hx=>?_,by show(zo n.aP j).length<=B;omega,λh4=>?_,λk hk'=>h.2.2.2.2.2 k ((Ea _ _).subset hk')⟩
   ·show(if n.bM=4 then zo n.aO j else []).length<=B;split
    ·have:=(Ea n.aO j).length_le;omega
    ·simp
   ·have hx:x∈(if n.bM=4 then zo n.aO j else []):=hx;split at hx
    ·exact h.2.2.1 x ((Ea _ _).subset hx)
    ·cases hx
   ·have h4:n.bM=4:=h4;have hm:=h.map h4;have h2:=Gx (l:=n.aO) (k:=j) aI;show(zo n.aP j).length<=(if n.bM=4 then zo n.aO j else []).length;rw[aA h4];omega
theorem T.kV {B D:Nat}{n:aj}(p:List fC)(hB:B+1<lim)(hp:p.length<big)(h:Fine B D n):Ev (λf=>G.kV f n p) (pW (Ee n p)):=by
 have hB2:=hB;unfold lim at hB2;refine aN ?_;simp only[G.kV];by_cases hp0:p=[]
 ·subst hp0;exact dR (by rfl) (bK _)
 ·have hpos:0<p.length:=pJ.2 hp0;rw[Nl hp0 hp,ai];unfold Ee;rw[au hp0,Yw];have hil:(Fb p).length<big:=by unfold Fb;rw[iK];omega
  refine dB mD (dA (ak (T.uY (Fb p) aI hil h) ?_));cases ha:MM n (Fb p)with
  |none=>exact dB rfl (bK _)
  | some inner=>
    have hi:=Ql _ h ha;have hk:=hi.kids;have hnm:=hi.names;have hP:=T.jL (n:=inner) (Jr p) aI hi;refine dR rfl (dA (ak hP ?_));rw[kz];cases hj:Gh inner (Jr p)with
    | none=>unfold FX;rw[hj];exact dR rfl (bK _)
    | some j=>
      have hjl:=A8 hj;simp only[KA,pW,ai,FC j];have ht:(inner.aP.take j).length=j:=(by rw[iK];omega);have hd:(inner.aP.drop (j+1)).length=inner.aP.length-(j+1):=nD;refine sH (dA (dA (dA (dA ?_))));have key:∀(b:Bool) (nm:List fC),FX inner (Jr p)=some (aj.mk inner.bM 0 [] nm (zo inner.aP j))->Ev (λf=>G.kV.K1 f n p (inner,b) (zo inner.aP j) nm) (pW ((FX inner (Jr p)).bind λm'=>Us n (Fb p) m')):=by intro b nm e;refine aN ?_;simp only[G.kV.K1];rw[Nl hp0 hp,ai,e,kz];exact dA (ak (T.qj aI (ahX hi e) (Fb p) hil h) (bK _))
      refine dh (λe4=>?_) (λe4=>?_)
      ·have h4:inner.bM=4:=(by simpa using e4);have hm:=hi.map h4;have ht2:(inner.aO.take j).length=j:=(by rw[iK];omega);have hd2:(inner.aO.drop (j+1)).length=inner.aO.length-(j+1):=nD;refine dA (dA (dA (dA ?_)));exact key true (zo inner.aO j) (by unfold FX;rw[hj];simp[h4])
      ·have h4:¬inner.bM=4:=(by simpa using e4);exact key true [] (by unfold FX;rw[hj];simp[h4])
theorem abg {B:Nat}(hB:B<=lim){p:List fC}(hl:p.length<=B)(hs:∀s,s∈p->s.length<=B):Sm p:=by unfold lim at hB;exact⟨by unfold big;omega,λs h=>by have:=hs s h;unfold big;omega⟩
def FH (B:Nat)(p:List fC):Prop:=p.length<=B/\∀s,s∈p->s.length<=B
theorem FH.sm {B:Nat}(hB:B<=lim){p:List fC}(h:FH B p):Sm p:=abg hB h.1 h.2
theorem yC {p:List fC}(h:PP p=true):FH 12 p:=by unfold PP at h;simp only[ah,aC]at h;exact⟨aI,λs hs=>VY (bf.1 h.1 s hs)⟩
def ZO (n:aj)(p:List fC)(v:aj):Option aj:=if Val n&&PP p&&Val v then(Dn n p v).filter Val else none
def ahj (n:aj)(p:List fC):Option aj:=if Val n&&PP p then Ee n p else none
def akg (n:aj)(p:List fC)(v:aj):Option aj:=if Val n&&PP p&&Val v then(Us n p v).filter Val else none
def AtM (n:aj)(p:List fC):Option aj:=if Val n&&PP p then MM n p else none
theorem QV {n m:aj}{p:List fC}(h:Val n=true)(e:Ee n p=some m):Val m=true:=by
 unfold Ee at e;split at e
 ·cases e
 ·obtain⟨h1,h2⟩:=Xy (agx (Jr p)) (Fb p) (uF h) e;exact ajE (aF _) h1 (bJ h2 (ae0 h))
theorem Rq {n m:aj}{p:List fC}(h:Val n=true)(e:MM n p=some m):Val m=true:=by obtain⟨h1,h2⟩:=aad p (uF h) e;exact ajE (aF _) h1 (bJ h2 (ae0 h))
theorem T.Qq {B E:Nat}{v:aj}(p:List fC)(k:Nat)(hB:B<=lim)(hv:Fine B E v)(hk:k<p.length) :
 ∀(q:List fC) {d:Nat} {n:aj},Shape d n=true->Ev (λf=>G.jF f n q p (k:Int) v) (pW (Ih (λm=>addN m (p.getD k default) v) n q)):=by
 refine T.change (F:=λf a q=>G.jF f a q p (k:Int) v) (C:=λf a=>G.vC f a p (k:Int) v) (λn a q=>by simp only[G.jF]) (λd m hm=>?_);refine aN ?_;simp only[G.vC];refine dA (ak (T.lX _ hB hv hm) (aT ?_));rw[ai]
theorem T.Qs {B E:Nat}{v:aj}(hB:B<=lim)(hv:Fine B E v) :
 ∀(q:List fC) {d:Nat} {n:aj},Shape d n=true->Ev (λf=>G.jG f n q v) (pW (Us n q v)):=by
 refine T.change (F:=λf a q=>G.jG f a q v) (C:=λf a=>G.vF f a v) (λn a q=>by simp only[G.jG]) (λd m hm=>?_);refine aN ?_;simp only[G.vF];exact ak (T.bC hB hv) (bK _)
theorem T.jq {d:Nat}{n:aj}(p:List fC)(k:Nat)(hk:k<p.length)(h:Shape d n=true):Ev (λf=>G.jq f n p (k:Int)) (pW (FX n (p.getD k default))):=by
 cases d with
 |zero=>cases h
 |succ d=>
 have hp:=rW h;have hl:=SK hp;obtain⟨w,b,g,h1,h2⟩:=T.gQ (p.getD k default) hp;refine aN ?_;simp only[G.jq,ai];refine dA (ak g ?_);unfold FX;cases hj:Gh n (p.getD k default)with
 |none=>exact dB (h2 hj) (bK _)
 | some j=>
   have hjl:=A8 hj;obtain⟨rfl,rfl⟩:=h1 j hj;have d1:Ev (λf=>G.jW f n.aP (j:Int) ((j+1:Nat):Int)) (zo n.aP j):=by refine aN ?_;simp only[G.jW,ai];exact dA (bK _)
   have hK:∀nm,n.wJ=0->n.lI=[]->Ev (λf=>G.jq.K1 f ((j:Int),true) n nm) (aj.mk n.bM 0 [] nm (zo n.aP j),true):=by intro nm e1 e2;refine aN ?_;simp only[G.jq.K1,FC j];exact ak d1 (aT (by rw[e1,e2]))
   refine dR rfl (ak (T.bC Fe (Az h)) ?_);by_cases h4:n.bM=4
   ·obtain⟨e1,e2,_,hnl,hkl⟩:=BH hp h4;have d2:Ev (λf=>G.slices_Delete_string f n.aO (j:Int) ((j+1:Nat):Int)) (zo n.aO j):=by
     refine aN ?_;simp only[G.slices_Delete_string,ai];exact dA (bK _)
    refine dR (by simpa using h4) ?_;simp only[FC j];refine ak d2 ((hK _ e1 e2).eq ?_);simp[h4,pW]
   ·by_cases h3:n.bM=3
    ·obtain⟨e1,e2,e3,_⟩:=GH hp h3;refine dB (by simpa using h4) ((hK _ e1 e2).eq ?_);simp[h4,pW,e3]
    ·have:=Oe hj;rw[Kt h4 h3]at this;cases this
theorem T.Qr (p:List fC)(k:Nat)(hk:k<p.length) :
 ∀(q:List fC) {d:Nat} {n:aj},Shape d n=true->Ev (λf=>G.jb f n q p (k:Int)) (pW (Ih (λm=>FX m (p.getD k default)) n q)):=
 T.change (F:=λf a q=>G.jb f a q p (k:Int)) (C:=λf a=>G.jq f a p (k:Int)) (λn a q=>by simp only[G.jb]) (λd m hm=>T.jq p k hk hm)
theorem T.oQ {B D E:Nat}{n v:aj}{p:List fC}(hB:B+2<lim)(h:Fine B D n)(hp:FH B p)(hv:Fine B E v):Ev (λf=>G.oQ f n p v) (pW (ZO n p v)):=by
 have hsm:=hp.sm aI;refine aN ?_;simp only[G.oQ];unfold ZO;refine ak (T.dm aI h) (dh (λe1=>?_) (λe1=>aT (by rw[e1];rfl)));refine ak (T.jv p hsm) (dh (λe2=>?_) (λe2=>aT (by rw[e1,e2];rfl)));refine ak (T.dm aI hv) (dh (λe3=>?_) (λe3=>aT (by rw[e1,e2,e3];rfl)));rw[e1,e2,e3,aA (by rfl)];by_cases hp0:p=[]
 ·subst hp0;refine dR rfl (ak (T.bC aI hv) (aT ?_));unfold Dn;simp[uf,e3,pW]
 ·have hpos:0<p.length:=pJ.2 hp0;simp only[Nl hp0 hsm.1,ai];refine dB (by simpa using hp0) (dA ?_);have hc:=T.Qq p (p.length-1) aI hv aI (Fb p) (uF e1);refine ak hc ?_;have hA:Dn n p v=Ih (λm=>addN m (p.getD (p.length-1) default) v) n (Fb p):=by unfold Dn;rw[au hp0];rfl
  rw[<- hA];exact ak (T.pU (o:=Dn n p v) (B:=B+1) aI (λm hm=>Vw h hv hp.2 hm)) (bK _)
theorem T.vP {B D E:Nat}{n v:aj}{p:List fC}(hB:B+2<lim)(h:Fine B D n)(hp:FH B p)(hv:Fine B E v):Ev (λf=>G.vP f n p v) (pW (akg n p v)):=by have hsm:=hp.sm aI;refine aN ?_;simp only[G.vP];unfold akg;refine ak (T.dm aI h) (dh (λe1=>?_) (λe1=>aT (by rw[e1];rfl)));refine ak (T.jv p hsm) (dh (λe2=>?_) (λe2=>aT (by rw[e1,e2];rfl)));refine ak (T.dm aI hv) (dh (λe3=>?_) (λe3=>aT (by rw[e1,e2,e3];rfl)));rw[e1,e2,e3,aA (by rfl)];refine ak (T.Qs aI hv p (uF e1)) ?_;exact ak (T.pU (B:=B) aI (λm hm=>RI h hv hm)) (bK _)
theorem T.mF {B D:Nat}{n:aj}{p:List fC}(hB:B+2<lim)(h:Fine B D n)(hp:FH B p):Ev (λf=>G.mF f n p) (pW (ahj n p)):=by
 have hsm:=hp.sm aI;refine aN ?_;simp only[G.mF];unfold ahj;refine ak (T.dm aI h) (dh (λe1=>?_) (λe1=>aT (by rw[e1];rfl)));refine ak (T.jv p hsm) (dh (λe2=>?_) (λe2=>aT (by rw[e1,e2];rfl)));rw[e1,e2,aA (by rfl)];by_cases hp0:p=[]
 ·subst hp0;exact dR rfl (bK _)
 ·have hpos:0<p.length:=pJ.2 hp0;simp only[Nl hp0 hsm.1,ai];refine dB (by simpa using hp0) (dA ?_);have hA:Ee n p=Ih (λm=>FX m (p.getD (p.length-1) default)) n (Fb p):=by unfold Ee;rw[au hp0];rfl
  rw[hA];exact ak (T.Qr p (p.length-1) aI (Fb p) (uF e1)) (bK _)
theorem T.uO {B D:Nat}{n:aj}{p:List fC}(hB:B+2<lim)(h:Fine B D n)(hp:FH B p):Ev (λf=>G.uO f n p) (pW (AtM n p)):=by
 have hsm:=hp.sm aI;refine aN ?_;simp only[G.uO];unfold AtM;refine ak (T.dm aI h) (dh (λe1=>?_) (λe1=>aT (by rw[e1];rfl)));refine ak (T.jv p hsm) (dh (λe2=>?_) (λe2=>aT (by rw[e1,e2];rfl)));rw[e1,e2,aA (by rfl)];refine ak (T.kN p hsm.1 (uF e1)) ?_;cases ha:MM n p with
 |none=>exact dB rfl (bK _)
 |some m=>exact dR rfl (ak (T.bC aI (Ql p h ha)) (bK _))
theorem T.slices_Equal_string.L1 {a b:List fC}(hl:a.length=b.length)(hb:a.length<big):∀(k i:Nat),i+k=a.length->Ev (λf=>G.slices_Equal_string.L1 f a b i) (decide (a.drop i=b.drop i)):=by
 unfold big at hb;intro k
 induction k with
 | zero=>intro i hi;refine aN ?_;simp only[G.slices_Equal_string.L1];refine dB (by simp;omega) (aT ?_);rw[ay aI,ay aI];rfl
 | succ k ih=>
   intro i hi;refine aN ?_;simp only[G.slices_Equal_string.L1,ai,FC i];refine dR (by simp;omega) (dA (dA ?_));rw[gu (default:fC) (by omega:i<a.length),gu (default:fC) (by omega:i<b.length)];refine dh (λe=>(ih (i+1) aI).eq ?_) (λe=>aT ?_)
   ·rw[aY]at e;apply decide_eq_decide.2;rw[xZ];exact⟨λh=>⟨e,h⟩,λh=>h.2⟩
   ·have e:a.getD i default≠b.getD i default:=by simpa using e
    symm
    apply bg;rw[xZ];exact λh=>e h.1
theorem T.slices_Equal_string {a b:List fC}(hb:a.length<big):Ev (λf=>G.slices_Equal_string f a b) (decide (a=b)):=by
 refine aN ?_;simp only[G.slices_Equal_string];by_cases h:a.length=b.length
 ·exact dB (by simp;omega) (T.slices_Equal_string.L1 h hb a.length 0 aI)
 ·refine dR (by simp;omega) (aT ?_)
  symm
  exact bg (λe=>h (by rw[e]))
def Xa (n:aj)(o p:List fC)(t:aj):Option aj:=if o <+: p then(if p.length=o.length then some n else none)else(Ee n o).bind λless=>Dn less p t
theorem abh {o p:List fC}(h:o.length<=p.length):p.take o.length=o<->o <+: p:=by rw[List.prefix_iff_eq_take,eq_comm]
def aj7 (n:aj)(o p:List fC):Option aj:=if Val n&&PP o&&PP p then(MM n o).bind λt=>(Xa n o p t).filter Val else none
theorem T.uJ {n:aj}{o p:List fC}(h:Val n=true)(ho:PP o=true)(hp:PP p=true):Ev (λf=>G.uJ f n o p) (pW (aj7 n o p)):=by
 have hb:(12:Nat)+2<lim:=by decide
 have fo:=yC ho;have fp:=yC hp;have so:=fo.sm xM;have sp:=fp.sm xM;refine aN ?_;simp only[G.uJ];unfold aj7;rw[h,ho,hp,aA (by rfl)];refine ak (T.uO hb (oG h) fo) ?_;unfold AtM;rw[h,ho,aA (by rfl)];cases ha:MM n o with
 |none=>exact dB rfl (bK _)
 | some t=>
   have hvt:=Rq h ha;refine dR rfl ?_;rw[kz];have mv:¬o <+: p->Ev (λf=>mV (G.mF f n o) λv5=>cond v5.2 (mV (G.oQ f v5.1 p t) λv6=>some (v6.1,v6.2)) (some ((aj.mk 0 0 [] [] []),false))) (pW ((Xa n o p t).filter Val)):=by
    intro hn;unfold Xa;rw[au hn];refine ak (T.mF hb (oG h) fo) ?_;unfold ahj;rw[h,ho,aA (by rfl)];cases hr:Ee n o with
    |none=>exact dB rfl (bK _)
    | some less=>have hvl:=QV h hr;have hA:=T.oQ (n:=less) hb (oG hvl) fp (oG hvt);have e:ZO less p t=(Dn less p t).filter Val:=(by unfold ZO;rw[hvl,hp,hvt,aA (by rfl)]);rw[e]at hA;exact dR rfl (ak hA (bK _))
   refine ak (T.slices_Equal_string sp.1) (dh (λe=>?_) (λe=>?_))
   ·rw[aC]at e;subst e;refine ak (T.bC Fe (oG h)) (aT ?_);unfold Xa;rw[aA (List.prefix_refl _),aA rfl];simp[uf,h,pW]
   ·have hne:p≠o:=(by simpa using e);refine dh (λe2=>?_) (λe2=>?_)
    ·have hlt:o.length<p.length:=(by simpa using e2);refine dA (ak (T.slices_Equal_string (a:=p.take o.length) (by rw[iK];have:=sp.1;omega)) (dh (λe3=>aT ?_) (λe3=>?_)))
     ·rw[aC,abh aI]at e3;unfold Xa;rw[aA e3,au aI];rfl
     ·rw[dn,abh aI]at e3;exact mv e3
    ·have hge:¬o.length<p.length:=(by simpa using e2);refine mv λhpre=>?_;have h1:=hpre.length_le;exact hne (hpre.eq_of_length aI).symm
theorem T.nS.L1 {p w:List fC}(hp:p.length<big)(hw:w.length<big):∀(k i:Nat),i+k=w.length->Ev (λf=>G.nS.L1 f p w i) (decide (w.drop i <+: p.drop i)):=by
 unfold big at hp hw;intro k
 induction k with
 | zero=>
   intro i hi;refine aN ?_;simp only[G.nS.L1];refine dB (by simp;omega) (aT ?_);rw[ay (by omega:w.length<=i)]
   symm
   exact dW (List.nil_prefix)
 | succ k ih=>
   intro i hi;refine aN ?_;simp only[G.nS.L1,ai,FC i];refine dR (by simp;omega) ?_;rw[gu (default:fC) (by omega:i<w.length)];by_cases hpi:p.length<=i
   ·refine dR (by simpa using hpi) (aT ?_);rw[ay hpi]
    symm
    exact bg mD
   ·refine dB (by simpa using hpi) (dA (dA ?_));rw[gu (default:fC) (by omega:i<p.length)];refine dh (λe=>(ih (i+1) aI).eq ?_) (λe=>aT ?_)
    ·rw[aY]at e;apply decide_eq_decide.2;rw[List.cons_prefix_cons];exact⟨λh=>⟨e.symm,h⟩,λh=>h.2⟩
    ·have e:p.getD i default≠w.getD i default:=by simpa using e
     symm
     apply bg;rw[List.cons_prefix_cons];exact λh=>e h.1.symm
theorem T.nS {p w:List fC}(hp:p.length<big)(hw:w.length<big):Ev (λf=>G.nS f p w) (decide (w <+: p)):=by refine aN ?_;simp only[G.nS];exact T.nS.L1 hp hw w.length 0 aI
open Classical in
noncomputable def applyN (n:aj)(o:uN):Option aj:=
 if o.bM=1 then Dn n o.uq o.Value else if o.bM=2 then Ee n o.uq else if o.bM=3 then Us n o.uq o.Value
 else(MM n (if o.bM=6 then o.uq else o.xH)).bind λt=>if o.bM=6 then(if t=o.Value then some n else none)else if o.bM=5 then Dn n o.uq t else Xa n o.xH o.uq t
def ZQ (o:uN):Bool:=(decide (1<=o.bM)&&decide (o.bM<=6))&&PP o.uq&&PP o.xH&&Val o.Value
noncomputable def EM (n:aj)(o:uN):Option aj:=if Val n&&ZQ o then(applyN n o).filter Val else none
def Said (q:aj×Bool)(o:Option aj):Prop:=(q.2=true->o=some q.1)/\(q.2=false->o=none)
theorem KF (o:Option aj):Said (pW o) o:=by
 cases o with
 |none=>exact⟨λe=>(by cases e),λ_=>rfl⟩
 |some m=>exact⟨λ_=>rfl,λe=>(by cases e)⟩
structure PV (o:uN):Prop where
 k1:1<=o.bM
 k6:o.bM<=6
 path:PP o.uq=true
 from_:PP o.xH=true
 val:Val o.Value=true
theorem GG {o:uN}(h:ZQ o=true):PV o:=by unfold ZQ at h;simp only[ah,aC]at h;exact⟨h.1.1.1.1,h.1.1.1.2,h.1.1.2,h.1.2,h.2⟩
theorem aia : (12:Nat)+1<lim:=xM
theorem afU : (12:Nat)+2<lim:=xM
theorem T.lM.K1 {n:aj}{o:uN}(h:Val n=true)(ho:PV o)(fr:List fC)(hf:PP fr=true)(h6:fr=if o.bM=6 then o.uq else o.xH)(hk:o.bM≠1/\o.bM≠2/\o.bM≠3) :
 ∃q,Ev (λf=>G.lM.K1 f n o fr) q/\Said q (applyN n o):=by
 have sp:=(yC ho.path).sm xM;have sf:=(yC ho.from_).sm xM;have sr:=(yC hf).sm xM;have hn:=oG h;have hat:=T.uY fr xM sr.1 hn;have hN:applyN n o=(MM n fr).bind λt=>@ite _ (o.bM=6) _ (@ite _ (t=o.Value) (Classical.propDecidable _) (some n) none) (if o.bM=5 then Dn n o.uq t else Xa n o.xH o.uq t):=by unfold applyN;rw[au hk.1,au hk.2.1,au hk.2.2,h6]
 rw[hN];cases ha:MM n fr with
 | none=>
   rw[ha]at hat
   refine⟨(xJ,false),aN ?_,⟨λe=>(by cases e),λ_=>rfl⟩⟩;simp only[G.lM.K1];exact ak hat (dB rfl (bK _))
 | some t=>
   rw[ha]at hat
   have ht:=oG (Rq h ha);rw[kz];by_cases k6:o.bM=6
   ·obtain⟨v,gs,hv⟩:=T.zx (uF (Rq h ha)) (uF ho.val);refine⟨(n,v),aN ?_,?_⟩
    ·simp only[G.lM.K1];exact ak hat (dR rfl (dR (by simpa using k6) (ak gs (bK _))))
    ·rw[aA k6];refine⟨λe=>aA (hv.1 e),λe=>au λe2=>?_⟩;have:=hv.2 e2;rw[show v=false from e]at this;cases this
   ·rw[au k6];by_cases k5:o.bM=5
    ·rw[aA k5];refine⟨_,aN ?_,KF _⟩;simp only[G.lM.K1];exact ak hat (dR rfl (dB (by simpa using k6) (dR (by simpa using k5) (ak (T.vM o.uq aia sp.1 (yC ho.path).2 hn ht) (bK _)))))
    ·rw[au k5];unfold Xa;have hbg:=T.nS sp.1 sf.1;by_cases hpre:o.xH <+: o.uq
     ·rw[aA hpre];refine⟨(n,(o.uq.length:Int)==(o.xH.length:Int)),aN ?_,?_⟩
      ·simp only[G.lM.K1];exact ak hat (dR rfl (dB (by simpa using k6) (dB (by simpa using k5) (ak hbg (dR (by simpa using hpre) (ak (T.cO Fe hn) (bK _)))))))
      ·rw[ilen];refine⟨λe=>aA (by simpa using e),λe=>au (by simpa using e)⟩
     ·rw[au hpre];have hr:=T.kV (n:=n) o.xH aia sf.1 hn;cases hre:Ee n o.xH with
      | none=>rw[hre]at hr;refine⟨(xJ,false),aN ?_,⟨λe=>(by cases e),λ_=>rfl⟩⟩;simp only[G.lM.K1];exact ak hat (dR rfl (dB (by simpa using k6) (dB (by simpa using k5) (ak hbg (dB (by simpa using hpre) (ak hr (dB rfl (bK _))))))))
      | some less=>rw[hre]at hr;have hl:=oG (QV h hre);refine⟨_,aN ?_,KF _⟩;simp only[G.lM.K1];exact ak hat (dR rfl (dB (by simpa using k6) (dB (by simpa using k5) (ak hbg (dB (by simpa using hpre) (ak hr (dR rfl (ak (T.vM (n:=less) o.uq aia sp.1 (yC ho.path).2 hl ht) (bK _)))))))))
theorem T.lM {n:aj}{o:uN}(h:Val n=true)(ho:PV o):∃q,Ev (λf=>G.lM f n o) q/\Said q (applyN n o):=by
 have sp:=(yC ho.path).sm xM;have hn:=oG h;by_cases k1:o.bM=1
 ·refine⟨_,aN ?_,KF _⟩;simp only[G.lM];refine dR (by simpa using k1) ?_;have:applyN n o=Dn n o.uq o.Value:=by unfold applyN;rw[aA k1]
  rw[this];exact ak (T.vM o.uq aia sp.1 (yC ho.path).2 hn (oG ho.val)) (bK _)
 by_cases k2:o.bM=2
 ·refine⟨_,aN ?_,KF _⟩;simp only[G.lM];refine dB (by simpa using k1) (dR (by simpa using k2) ?_);have:applyN n o=Ee n o.uq:=by unfold applyN;rw[au k1,aA k2]
  rw[this];exact ak (T.kV o.uq aia sp.1 hn) (bK _)
 by_cases k3:o.bM=3
 ·refine⟨_,aN ?_,KF _⟩;simp only[G.lM];refine dB (by simpa using k1) (dB (by simpa using k2) (dR (by simpa using k3) ?_));have:applyN n o=Us n o.uq o.Value:=by unfold applyN;rw[au k1,au k2,aA k3]
  rw[this];exact ak (T.qj xM (oG ho.val) o.uq sp.1 hn) (bK _)
 by_cases k6:o.bM=6
 ·obtain⟨q,g,hq⟩:=T.lM.K1 h ho o.uq ho.path (by rw[aA k6]) ⟨k1,k2,k3⟩;refine⟨q,aN ?_,hq⟩;simp only[G.lM];exact dB (by simpa using k1) (dB (by simpa using k2) (dB (by simpa using k3) (dR (by simpa using k6) g)))
 ·obtain⟨q,g,hq⟩:=T.lM.K1 h ho o.xH ho.from_ (by rw[au k6]) ⟨k1,k2,k3⟩;refine⟨q,aN ?_,hq⟩;simp only[G.lM];exact dB (by simpa using k1) (dB (by simpa using k2) (dB (by simpa using k3) (dB (by simpa using k6) g)))
theorem RH {n v m:aj}{p:List fC}(hn:Val n=true)(hv:Val v=true)(hp:PP p=true)(e:Dn n p v=some m):Fine 13 15 m:=
 Vw (oG hn) (oG hv) (yC hp).2 e
theorem acT {n m:aj}{o:uN}(h:Val n=true)(ho:PV o)(e:applyN n o=some m):Fine 13 15 m:=by
 unfold applyN at e;by_cases k1:o.bM=1
 ·rw[aA k1]at e;exact RH h ho.val ho.path e
 rw[au k1]at e;by_cases k2:o.bM=2
 ·rw[aA k2]at e;exact(oG (QV h e)).mono aI aI
 rw[au k2]at e;by_cases k3:o.bM=3
 ·rw[aA k3]at e;exact(RI (oG h) (oG ho.val) e).mono aI aI
 rw[au k3]at e;cases ha:MM n (if o.bM=6 then o.uq else o.xH)with
 |none=>rw[ha]at e;cases e
 | some t=>
   have ht:=Rq h ha;rw[ha,kz]at e;by_cases k6:o.bM=6
   ·rw[aA k6]at e;split at e
    ·cases e;exact(oG h).mono aI aI
    ·cases e
   rw[au k6]at e;by_cases k5:o.bM=5
   ·rw[aA k5]at e;exact RH h ht ho.path e
   rw[au k5]at e;unfold Xa at e;split at e
   ·split at e
    ·cases e;exact(oG h).mono aI aI
    ·cases e
   ·cases hr:Ee n o.xH with
    |none=>rw[hr]at e;cases e
    |some less=>rw[hr,kz]at e;exact RH (QV h hr) ht ho.path e
theorem T.Wp {B D:Nat}{q:aj×Bool}{o:Option aj}(hB:B<=lim)(hq:Said q o)(h:∀m,o=some m->Fine B D m):Ev (λf=>G.qJ f q.1 q.2) (pW (o.filter Val)):=by
 obtain⟨m,b⟩:=q;cases b with
 | false=>rw[hq.2 rfl];refine aN ?_;simp only[G.qJ];exact dB rfl (bK _)
 | true=>have e:=hq.1 rfl;subst e;exact T.qJ (o:=some m) hB h
theorem T.rG {n:aj}{o:uN}(h:Val n=true)(ho:PV o):Ev (λf=>G.rG f n o) (pW ((applyN n o).filter Val)):=by
 obtain⟨q,g,hq⟩:=T.lM h ho;have hc:=T.Wp (B:=13) (D:=15) xM hq (λm hm=>acT h ho hm);refine aN ?_;simp only[G.rG];refine ak g (ak hc ?_);cases hm:(applyN n o).filter Val with
 |none=>exact dB rfl (bK _)
 | some m=>
   have hv:Val m=true:=by have:=yh.1 hm;exact this.2
   exact dR rfl (ak (T.cO Fe (oG hv)) (bK _))
structure Tz (B D:Nat)(o:uN):Prop where
 path:FH B o.uq
 from_:FH B o.xH
 val:Fine B D o.Value
theorem Tz.fin {B D:Nat}{o:uN}(h:Tz B D o):Gi B D o:=⟨⟨h.path.1,h.path.2⟩,⟨h.from_.1,h.from_.2⟩,h.val.fin0⟩
theorem T0.vU {B D:Nat}{o:uN}(hB:B<=lim)(h:Gi B D o):Ev (λf=>G.vU f o) (ZQ o):=by refine aN ?_;simp only[G.vU];unfold ZQ;refine ak (T.iP _ _ _) (dh (λe1=>?_) (λe1=>aT (by rw[e1];rfl)));refine ak (T.jX _ (abg hB h.path.1 h.path.2)) (dh (λe2=>?_) (λe2=>aT (by rw[e1,e2];rfl)));refine ak (T.jX _ (abg hB h.from_.1 h.from_.2)) (dh (λe3=>?_) (λe3=>aT (by rw[e1,e2,e3];rfl)));exact ak (T0.iI hB h.val) (aT (by rw[e1,e2,e3];rfl))
theorem T0.vK {B D:Nat}{o:uN}(hB:B<=lim)(h:Gi B D o):Ev (λf=>G.vK f o) (ZQ o):=by refine aN ?_;simp only[G.vK];unfold ZQ;refine dh (λe0=>?_) (λe0=>aT (by rw[e0];rfl));refine dh (λe1=>?_) (λe1=>aT (by rw[e0,e1];rfl));refine ak (T.jv _ (abg hB h.path.1 h.path.2)) (dh (λe2=>?_) (λe2=>aT (by rw[e0,e1,e2];rfl)));refine ak (T.jv _ (abg hB h.from_.1 h.from_.2)) (dh (λe3=>?_) (λe3=>aT (by rw[e0,e1,e2,e3];rfl)));exact ak (T0.dm hB h.val) (aT (by rw[e0,e1,e2,e3];rfl))
theorem T.vK {B D:Nat}{o:uN}(hB:B<=lim)(h:Tz B D o):Ev (λf=>G.vK f o) (ZQ o):=T0.vK hB h.fin
theorem T.sD {n v:aj}{p:List fC}(h:Val n=true)(hp:PP p=true)(hv:Val v=true) :
 ∃o,Ev (λf=>G.sD f n p v) (pW o)/\(∀t,MM n p=some t->t=v->o=some n)/\(∀t,MM n p=some t->t≠v->o=none)/\(MM n p=none->o=none):=by
 have sp:=(yC hp).sm xM;have hf:=T.kN p sp.1 (uF h);cases ha:MM n p with
 | none=>rw[ha]at hf;refine⟨none,aN ?_,(λt e=>by cases e),(λt e=>by cases e),λ_=>rfl⟩;simp only[G.sD];exact ak hf (dB rfl (bK _))
 | some t=>
   rw[ha]at hf;obtain⟨b,gs,hb⟩:=T.uK (uF (Rq h ha)) (uF hv);cases b with
   | true=>
     refine⟨some n,aN ?_,λt' _ _=>rfl,λt' e hne=>?_,(λe=>by cases e)⟩
     ·simp only[G.sD];exact ak hf (dR rfl (ak gs (dR rfl (ak (T.bC Fe (oG h)) (bK _)))))
     ·cases e;exact eF (hb.1 rfl) hne
   | false=>
     refine⟨none,aN ?_,λt' e he=>?_,λt' _ _=>rfl,(λe=>by cases e)⟩
     ·simp only[G.sD];exact ak hf (dR rfl (ak gs (dB rfl (bK _))))
     ·cases e;have:=hb.2 he;cases this
theorem TE {n:aj}(h:Val n=true):(some n).filter Val=some n:=by simp[uf,h]
theorem T.rM {B D:Nat}{n:aj}{o:uN}(hB:B+2<lim)(h:Fine B D n)(ho:Tz B D o):Ev (λf=>G.rM f n o) (pW (EM n o)):=by
 refine aN ?_;simp only[G.rM];unfold EM;refine ak (T.dm aI h) (dh (λe1=>?_) (λe1=>aT (by rw[e1];rfl)));refine ak (T.vK aI ho) (dh (λe2=>?_) (λe2=>aT (by rw[e1,e2];rfl)));rw[e1,e2,aA (by rfl)];have fo:=GG e2;have hn:=oG e1;by_cases k1:o.bM=1
 ·refine dR (by simpa using k1) ?_;have e:ZO n o.uq o.Value=(applyN n o).filter Val:=by unfold ZO applyN;rw[e1,fo.path,fo.val,aA (by rfl),aA k1]
  rw[<- e];exact ak (T.oQ afU hn (yC fo.path) (oG fo.val)) (bK _)
 refine dB (by simpa using k1) ?_;by_cases k2:o.bM=2
 ·refine dR (by simpa using k2) ?_;have e:ahj n o.uq=(applyN n o).filter Val:=by
   unfold ahj applyN;rw[e1,fo.path,aA (by rfl),au k1,aA k2];cases hr:Ee n o.uq with
   |none=>rfl
   |some m=>exact(TE (QV e1 hr)).symm
  rw[<- e];exact ak (T.mF afU hn (yC fo.path)) (bK _)
 refine dB (by simpa using k2) ?_;by_cases k3:o.bM=3
 ·refine dR (by simpa using k3) ?_;have e:akg n o.uq o.Value=(applyN n o).filter Val:=by unfold akg applyN;rw[e1,fo.path,fo.val,aA (by rfl),au k1,au k2,aA k3]
  rw[<- e];exact ak (T.vP afU hn (yC fo.path) (oG fo.val)) (bK _)
 refine dB (by simpa using k3) ?_;have hN:applyN n o=(MM n (if o.bM=6 then o.uq else o.xH)).bind λt=>@ite _ (o.bM=6) _ (@ite _ (t=o.Value) (Classical.propDecidable _) (some n) none) (if o.bM=5 then Dn n o.uq t else Xa n o.xH o.uq t):=by unfold applyN;rw[au k1,au k2,au k3]
 by_cases k4:o.bM=4
 ·refine dR (by simpa using k4) ?_;have k6:¬o.bM=6:=by omega
  have k5:¬o.bM=5:=by omega
  have e:aj7 n o.xH o.uq=(applyN n o).filter Val:=by
   unfold aj7;rw[e1,fo.path,fo.from_,aA (by rfl),hN,au k6];cases ha:MM n o.xH with
   |none=>rfl
   |some t=>simp only[kz,au k6,au k5]
  rw[<- e];exact ak (T.uJ e1 fo.from_ fo.path) (bK _)
 refine dB (by simpa using k4) ?_;by_cases k5:o.bM=5
 ·refine dR (by simpa using k5) ?_;have k6:¬o.bM=6:=by omega
  refine ak (T.uO afU hn (yC fo.from_)) ?_;have eA:AtM n o.xH=MM n o.xH:=by unfold AtM;rw[e1,fo.from_,aA (by rfl)]
  rw[eA,hN,au k6];cases ha:MM n o.xH with
  |none=>exact dB rfl (bK _)
  | some t=>have ht:=Rq e1 ha;have hA:=T.oQ (v:=t) afU hn (yC fo.path) (oG ht);have e:ZO n o.uq t=(Dn n o.uq t).filter Val:=(by unfold ZO;rw[e1,fo.path,ht,aA (by rfl)]);rw[e]at hA;simp only[kz,au k6,aA k5];exact dR rfl (ak hA (bK _))
 refine dB (by simpa using k5) ?_;have k6:o.bM=6:=by have:=fo.k1;have:=fo.k6;omega
 obtain⟨q,g,h1,h2,h3⟩:=T.sD e1 fo.path fo.val;refine(show Ev _ (pW q)from ak g (bK _)).eq (sN pW ?_);rw[hN,aA k6];cases ha:MM n o.uq with
 |none=>rw[h3 ha];rfl
 | some t=>
   simp only[kz,aA k6];by_cases ht:t=o.Value
   ·rw[h1 t ha ht,aA ht,TE e1]
   ·rw[h2 t ha ht,au ht];rfl
theorem KH (a b:Nat):lC (a:Int) (b:Int)=((a%b:Nat):Int):=by rw[Int.tmod_eq_emod_of_nonneg aI];exact(Int.natCast_emod a b).symm
theorem Q7 (a b:Nat):mJ (a:Int) (b:Int)=((a/b:Nat):Int):=by rw[A7 aI];exact(Int.natCast_ediv a b).symm
section
def Tot {α:Type}(Q:α->Prop)(F:Nat->Option α):Prop:=∃x,Ev F x/\Q x
section
variable {α β:Type} {Q:α->Prop} {F F':Nat->Option α}
theorem Tot.up (h:Tot Q (λn=>F (n+1))):Tot Q F:=let ⟨x,g,q⟩:=h;⟨x,aN g,q⟩
theorem Tot.ret {x:α}(h:Q x):Tot Q (λ_=>some x):=⟨x,bK x,h⟩
theorem Tot.bind {P:β->Prop}{h:Nat->Option β}{k:Nat->β->Option α}(h1:Tot P h)(h2:∀x,P x->Tot Q (λn=>k n x)):Tot Q (λn=>mV (h n) (k n)):=by obtain⟨x,g,p⟩:=h1;obtain⟨y,g',q⟩:=h2 x p;exact⟨y,ak g g',q⟩
theorem Tot.chk {p:Prop}[Decidable p](hp:p)(h:Tot Q F):Tot Q (λn=>Ab.chk p (F n)):=let ⟨x,g,q⟩:=h;⟨x,um hp g,q⟩
theorem Tot.ite {c:Bool}(h:c=true->Tot Q F)(h':c=false->Tot Q F'):Tot Q (λn=>cond c (F n) (F' n)):=by
 cases c
 ·exact h' rfl
 ·exact h rfl
theorem Tot.mono {P:α->Prop}(h:Tot P F)(hq:∀x,P x->Q x):Tot Q F:=let ⟨x,g,q⟩:=h;⟨x,g,hq x q⟩
end
abbrev ZP (B:Nat)(n:aj):Prop:=∃D,Fine B D n
theorem DV : 60<=lim:=xM
theorem Tm : Val xJ=true:=xM
end
abbrev al5 (o:uN):Prop:=∃E,Tz 60 E o
theorem FH.mono {B C:Nat}{p:List fC}(h:FH B p)(hB:B<=C):FH C p:=⟨bJ h.1 hB,λs hs=>bJ (h.2 s hs) hB⟩
structure NO (n:aj)(o:uN):Prop where
 node:∃E,Fine 60 E n
 op:∃E,Tz 60 E o
theorem NO.fine {n:aj}{o:uN}(h:NO n o):∃E,Fine 60 E n/\Tz 60 E o:=by obtain⟨⟨E,hn⟩,⟨F,ho⟩⟩:=h;exact⟨max E F,hn.mono (aF _) (CO _ _),ho.path,ho.from_,ho.val.mono (aF _) (Fv _ _)⟩
theorem Eo {n:aj}(h:Val n=true):Fine 60 5 n:=(oG h).mono aI (aF _)
structure aj6 (n:aj)(o:uN)(m:aj):Prop where
 vn:Val n=true
 vo:ZQ o=true
 app:applyN n o=some m
 vm:Val m=true
theorem applied {n m:aj}{o:uN}(h:EM n o=some m):aj6 n o m:=by
 unfold EM at h;split at h
 ·rename_i hv;simp only[ah]at hv;obtain⟨h1,h2⟩:=yh.1 h;exact⟨hv.1,hv.2,h1,h2⟩
 ·cases h
theorem afq {n:aj}{o:uN}(hn:Val n=true)(ho:ZQ o=true):EM n o=(applyN n o).filter Val:=by unfold EM;rw[hn,ho];rfl
theorem evd {p:Prop}(x:p:=by
 repeat' first
 |assumption
 |exact bK _
 |refine dR rfl ?_
 |refine dB rfl ?_
 |refine ak (by assumption) ?_
 |refine dh (λ_=>?_) (λ_=>?_)):p:=x
theorem uN.eta (o:uN):uN.mk o.bM o.uq o.xH o.Value=o:=rfl
theorem ai1 {o:uN}(h:ZQ o=true):Tz 12 5 o:=by have f:=GG h;exact⟨yC f.path,yC f.from_,oG f.val⟩
open Classical in
noncomputable def SY : aj->List uN->Option aj
 |n,[]=>some n
 | n,o::r=>match EM n o with
   |some m=>SY m r
   |none=>none
noncomputable def Qj : aj->List uN->Nat
 |_,[]=>0
 | n,o::r=>match EM n o with
   |some m=>Qj m r+1
   |none=>0
def PW (l:List uN):Bool:=l.all ZQ&&decide (l.length<=12)
noncomputable def MG (n:aj)(l:List uN):Option aj:=if Val n&&PW l then SY n l else none
theorem aji {l:List uN} : ∀{n m:aj},Val n=true->SY n l=some m->Val m=true:=by
 induction l with
 |nil=>intro n m hn h;cases h;exact hn
 | cons o r ih=>
   intro n m hn h;rw[SY]at h;cases ha:EM n o with
   |none=>rw[ha]at h;cases h
   |some k=>rw[ha]at h;exact ih (applied ha).vm h
theorem afM {l:List uN} : ∀{n:aj},Qj n l=l.length<->(SY n l).isSome=true:=by
 induction l with
 |nil=>intro n;simp[Qj,SY]
 | cons o l ih=>
   intro n;rw[Qj,SY];cases EM n o with
   |none=>simp
   |some k=>simp only[iV,Nat.add_right_cancel_iff];exact ih
theorem VW {l:List uN}(h:PW l=true):(∀o,o∈l->ZQ o=true)/\l.length<=12:=by unfold PW at h;simp only[ah,aC,bf]at h;exact h
def Tv (l:List uN):Prop:=l.length<=1000/\∀o,o∈l->al5 o
theorem afN {l:List uN}(h:PW l=true):Tv l:=by obtain⟨h1,h2⟩:=VW h;exact⟨aI,λo ho=>⟨5,(yC (GG (h1 o ho)).path).mono aI,(yC (GG (h1 o ho)).from_).mono aI,(oG (GG (h1 o ho)).val).mono aI (aF _)⟩⟩
theorem getD_mem {α:Type}{l:List α}{i:Nat}(d:α)(h:i<l.length):l.getD i d∈l:=by rw[iD d h];exact dX h
theorem IX : 1048576<=lim:=xM
def ae7 (l:List uN):Prop:=l.length<=1048576/\∀o,o∈l->∃D,Gi 1048576 D o
theorem Tv.fin {l:List uN}(h:Tv l):ae7 l:=⟨by have:=h.1;omega,λo ho=>by obtain⟨D,h1,h2,h3⟩:=h.2 o ho;exact⟨D,⟨by have:=h1.1;omega,λs hs=>by have:=h1.2 s hs;omega⟩,⟨by have:=h2.1;omega,λs hs=>by have:=h2.2 s hs;omega⟩,h3.fin0.mono aI (aF _)⟩⟩
theorem T0.gY.L1 {l:List uN}(h:ae7 l):∀(k i:Nat),i+k=l.length->Ev (λf=>G.gY.L1 f l i) ((l.drop i).all ZQ):=by
 obtain⟨hl,ho⟩:=h;intro k
 induction k with
 | zero=>intro i hi;refine aN ?_;simp only[G.gY.L1];refine dB (by simp;omega) (aT ?_);rw[ay aI];rfl
 | succ k ih=>
   intro i hi;have hlt:i<l.length:=(by omega);refine aN ?_;simp only[G.gY.L1,ai,uN.eta,FC i];obtain⟨E,hf⟩:=ho _ (getD_mem default hlt);refine dR (by simpa using hlt) (dA (ak (T0.vK IX hf) ?_));rw[gu (default:uN) hlt,gU];refine dh (λe=>?_) (λe=>?_)
   ·rw[e,dS];exact ih (i+1) aI
   ·rw[e,AY];exact bK _
theorem T0.gY {l:List uN}(h:ae7 l):Ev (λf=>G.gY f l) (PW l):=by
 refine aN ?_;simp only[G.gY];have hL:=T0.gY.L1 h l.length 0 aI;unfold PW;refine dh (λe=>aT ?_) (λe=>?_)
 ·have:¬l.length<=12:=by simp at e;omega
  simp[this]
 ·have:l.length<=12:=by simp at e;omega
  simp only[this,decide_true,rf];exact hL
theorem T0.iL.L1 {l:List uN}(h:ae7 l):∀(k i:Nat),i+k=l.length->Ev (λf=>G.iL.L1 f l i) ((l.drop i).all ZQ&&decide (l.length<=12)):=by
 obtain⟨hl,ho⟩:=h;intro k
 induction k with
 | zero=>intro i hi;refine aN ?_;simp only[G.iL.L1];refine dB (by simp;omega) (aT ?_);rw[ay aI,zX,dS];simp;omega
 | succ k ih=>
   intro i hi;have hlt:i<l.length:=(by omega);refine aN ?_;simp only[G.iL.L1,ai,uN.eta,FC i];obtain⟨E,hf⟩:=ho _ (getD_mem default hlt);refine dR (by simpa using hlt) (dA (ak (T0.vU IX hf) ?_));rw[gu (default:uN) hlt,gU];refine dh (λe=>?_) (λe=>?_)
   ·rw[e,dS];exact ih (i+1) aI
   ·rw[e,AY];exact bK _
theorem T0.iL {l:List uN}(h:ae7 l):Ev (λf=>G.iL f l) (PW l):=by refine aN ?_;simp only[G.iL];exact T0.iL.L1 h l.length 0 aI
theorem T.gY {l:List uN}(h:Tv l):Ev (λf=>G.gY f l) (PW l):=T0.gY h.fin
theorem T.iL {l:List uN}(h:Tv l):Ev (λf=>G.iL f l) (PW l):=T0.iL h.fin
noncomputable def ajj (N i:Nat)(n:aj)(l:List uN):aj×Int:=
 match SY n l with
 |some m=>(m,(N:Int))
 |none=>(xJ,((i+Qj n l:Nat):Int))
theorem T.lG.L1 {l:List uN}(h:PW l=true):∀(k i:Nat) (n:aj),i+k=l.length->Val n=true ->
 Ev (λf=>G.lG.L1 f l i n.bM n.wJ n.lI n.aO n.aP) (ajj l.length i n (l.drop i)):=by
 obtain⟨ho,hl⟩:=VW h;intro k
 induction k with
 | zero=>intro i n hi hn;refine aN ?_;simp only[G.lG.L1,aj.eta];refine dB (by simp;omega) (aT ?_);rw[ay aI];rfl
 | succ k ih=>
   intro i n hi hn;have hlt:i<l.length:=(by omega);refine aN ?_;simp only[G.lG.L1,ai,uN.eta,aj.eta,FC i];have hv:=ho _ (getD_mem default hlt);have hA:=T.rM afU (oG hn) (ai1 hv);refine dR (by simpa using hlt) (dA (ak hA ?_));rw[gu (default:uN) hlt];unfold ajj;rw[SY,Qj];cases ha:EM n (l.getD i default)with
   |none=>exact dB rfl (aT rfl)
   | some m=>
     refine dR rfl ((ih (i+1) m aI (applied ha).vm).eq ?_);unfold ajj;simp only;cases SY m (l.drop (i+1))with
     |some k=>rfl
     | none=>refine sN (Prod.mk xJ) ?_;show((i+1+Qj m (l.drop (i+1)):Nat):Int)=((i+(Qj m (l.drop (i+1))+1):Nat):Int);omega
theorem T.lG {n:aj}{l:List uN}(hn:Val n=true)(h:PW l=true):Ev (λf=>G.lG f n l) (ajj l.length 0 n l):=by refine aN ?_;simp only[G.lG];exact ak (T.bC Fe (oG hn)) (T.lG.L1 h l.length 0 n aI hn)
theorem T.ry {B E:Nat}{n:aj}{l:List uN}(hB:B<=lim)(hn:Fine B E n)(hl:Tv l):Ev (λf=>G.ry f n l) (pW (MG n l)):=by
 refine aN ?_;simp only[G.ry];unfold MG;refine ak (T.dm hB hn) (dh (λe1=>?_) (λe1=>aT (by rw[e1];rfl)));refine ak (T.gY hl) (dh (λe2=>?_) (λe2=>aT (by rw[e1,e2];rfl)));refine ak (T.lG e1 e2) (aT ?_);rw[e1,e2,aA (by rfl)];unfold ajj;cases hr:SY n l with
 |some m=>simp[pW]
 | none=>have h1:¬Qj n l=l.length:=λe=>(by have:=afM.1 e;rw[hr]at this;cases this);simp only[Nat.zero_add,pW];rw[ilen];simp[h1]
theorem acs {n:aj}{o:uN}(hn:Val n=true)(ho:ZQ o=true):Ev (λf=>G.rG f n o) (pW (EM n o)):=by rw[afq hn ho];exact T.rG hn (GG ho)
theorem T.jH.L1 {l:List uN}(h:PW l=true):∀(k i:Nat) (n:aj),i+k=l.length->Val n=true ->
 Ev (λf=>G.jH.L1 f l i n.bM n.wJ n.lI n.aO n.aP) (pW (SY n (l.drop i))):=by
 obtain⟨ho,hl⟩:=VW h;intro k
 induction k with
 | zero=>intro i n hi hn;refine aN ?_;simp only[G.jH.L1,aj.eta];refine dB (by simp;omega) (aT ?_);rw[ay aI];rfl
 | succ k ih=>
   intro i n hi hn;have hlt:i<l.length:=(by omega);refine aN ?_;simp only[G.jH.L1,ai,uN.eta,aj.eta,FC i];have hv:=ho _ (getD_mem default hlt);refine dR (by simpa using hlt) (dA (ak (acs hn hv) ?_));rw[gu (default:uN) hlt,SY];cases ha:EM n (l.getD i default)with
   |none=>exact dB rfl (aT rfl)
   |some m=>exact dR rfl (ih (i+1) m aI (applied ha).vm)
theorem T.jH {B E:Nat}{n:aj}{l:List uN}(hB:B<=lim)(hn:Fine B E n)(hl:Tv l):Ev (λf=>G.jH f n l) (pW (MG n l)):=by refine aN ?_;simp only[G.jH];unfold MG;refine ak (T.iI hB hn) (dh (λe1=>?_) (λe1=>aT (by rw[e1];rfl)));refine ak (T.iL hl) (dh (λe2=>?_) (λe2=>aT (by rw[e1,e2];rfl)));rw[e1,e2,aA (by rfl)];exact ak (T.cO Fe (oG e1)) (T.jH.L1 e2 l.length 0 n aI e1)
section
theorem aeF : ∀(m:Nat) (k:Int) (out:fC),k.toNat<=m->0<=k->k<4611686018427387904->out.length+k.toNat<9223372036854775806->∃s,Ev (λf=>G.jh.L1 f k out) s/\s.length<=9223372036854775807
 | m,k,out,hm,h0,h1,hl=>by
   by_cases hk:0<k
   ·have e1:mJ k 10=k/10:=(by rw[A7 h0]);have w1:af .i64 (mJ k 10)=k/10:=by rw[e1];exact CV aI aI
    match m with
    |0=>omega
    | m+1=>obtain⟨s,hs,hl2⟩:=aeF m (k/10) ([gy (af .u8 ((af .i64 (48+(lC k 10))))).toNat]++out) aI aI aI (by simp;omega);refine⟨s,aN ?_,hl2⟩;simp only[G.jh.L1,w1];exact dR (dW hk) (um xM (um (by simp only[maxLen];omega) hs))
   ·refine⟨[109]++out,aN ?_,by simp;omega⟩;simp only[G.jh.L1];exact dB (bg hk) (um (by simp only[maxLen];omega) (bK _))
theorem aoC {k:Int}(h0:0<=k)(h1:k<4611686018427387904):∃s,Ev (λf=>G.jh f k) s:=by
 by_cases hk:k<=0
 ·refine⟨[109,48],aN ?_⟩;simp only[G.jh];exact dR (dW hk) (bK _)
 ·obtain⟨s,hs,_⟩:=aeF k.toNat k [] (aF _) h0 h1 (by simp;omega);refine⟨s,aN ?_⟩;simp only[G.jh];exact dB (bg hk) hs
noncomputable def tx (k:Int):fC:=open Classical in if h:∃s,Ev (λf=>G.jh f k) s then h.choose else []
theorem WI {k:Int}(h:inR k):Ev (λf=>G.jh f k) (tx k):=by have hx:=aoC h.1 h.2;unfold tx;rw[dif_pos hx];exact hx.choose_spec
noncomputable def Mc : List fC->Int->List fC
 |[],_=>[]
 |_::r,k=>tx k::Mc r (k+1)
mutual
noncomputable def Ox : aj->Int->aj×Int
 |aj.mk _ _ _ ns ks,k=>(aj.mk k (k+1) (tx (k+2)) (Mc ns (k+3)) (DF ks (k+3+ns.length)).1,(DF ks (k+3+ns.length)).2)
noncomputable def DF : List aj->Int->List aj×Int
 |[],k=>([],k)
 |n::r,k=>((Ox n k).1::(DF r (Ox n k).2).1,(DF r (Ox n k).2).2)
end
theorem VN : ∀(l:List fC) (k:Int),(Mc l k).length=l.length
 |[],_=>rfl
 |_::r,k=>by simp[Mc,VN r]
mutual
theorem Y3 : ∀(n:aj) (k:Int),(Ox n k).2=k+TJ n
 |aj.mk _ _ _ ns ks,k=>by simp only[Ox,TJ,Oa ks];omega
theorem Oa : ∀(l:List aj) (k:Int),(DF l k).2=k+yz l
 |[],k=>by simp[DF,yz]
 |n::r,k=>by simp only[DF,yz,Oa r,Y3 n];omega
end
theorem SB : ∀(l:List aj) (k:Int),(DF l k).1.length=l.length
 |[],_=>rfl
 |_::r,k=>by simp[DF,SB r]
structure MT (mt:FI)(fS fN tS tN:Nat):Prop where
 s:mt fS=some (tS,1,[.str 0])
 n:mt fN=some (tN,5,[.int 0,.int 1,.str 2,.sub 3 fS,.sub 4 fN])
section
variable {mt:FI} {fS fN tS tN:Nat}
theorem aeC (M:MT mt fS fN tS tN):∀(l:List fC) {k:Int},0<=k->k+l.length<4611686018427387904->CS mt tx (.L [.str 0] (l.map cS) k ((Mc l k).map cS) (k+l.length))
 |[],k,_,_=>by simpa[Mc]using CS.l0
 | s::r,k,h0,h1=>by
   have h2:=aeC M r (k:=k+1) aI (by simp at h1;omega);simp only[bT,Mc];refine .l1 (k1:=k+1) (.es ⟨h0,by simp at h1;omega⟩ ⟨aI,by simp at h1;omega⟩ (by simp[cS]) ?_) ?_
   ·simpa[cS]using CS.e0
   ·have e:k+1+(r.length:Int)=k+((s::r).length:Nat):=(by simp;omega);rw[e]at h2;exact h2
theorem Iq (M:MT mt fS fN tS tN)(l:List fC){k:Int}(h0:0<=k)(h1:k+l.length<4611686018427387904):CS mt tx (.C fS (.sl 1 (l.map cS)) k (.sl 1 ((Mc l k).map cS)) (k+l.length)):=
 .c M.s ⟨h0,aI⟩ (aeC M l h0 h1)
mutual
theorem akV (M:MT mt fS fN tS tN):∀(n:aj) {k:Int},0<=k->k+TJ n<4611686018427387904->CS mt tx (.E [.int 0,.int 1,.str 2,.sub 3 fS,.sub 4 fN] n.cells k (Ox n k).1.cells (Ox n k).2)
 | aj.mk a b c ns ks,k,h0,h1=>by simp only[TJ]at h1;have h2:=QG M ks (k:=k+3+ns.length) aI aI;have h3:=Iq M ns (k:=k+3) aI aI;rw[aj.iG,aj.iG];simp only[Ox];refine .ei ⟨h0,aI⟩ ⟨aI,aI⟩ mD (.ei ⟨aI,aI⟩ ⟨aI,aI⟩ mD (.es ⟨aI,aI⟩ ⟨aI,aI⟩ mD ?_));rw[show k+1+1=k+2 by omega,show k+2+1=k+3 by omega];refine .ef (c:=.sl 1 (ns.map cS)) mD h3 (.ef (c:=.sl 5 (ks.map aj.cells)) mD (.c M.n ⟨aI,aI⟩ h2) ?_);simpa using CS.e0
theorem QG (M:MT mt fS fN tS tN):∀(l:List aj) {k:Int},0<=k->k+yz l<4611686018427387904->CS mt tx (.L [.int 0,.int 1,.str 2,.sub 3 fS,.sub 4 fN] (l.map aj.cells) k ((DF l k).1.map aj.cells) (DF l k).2)
 |[],k,_,_=>by simpa[DF]using CS.l0
 | n::r,k,h0,h1=>by simp only[yz]at h1;have h2:=akV M n (k:=k) h0 aI;have h3:=QG M r (k:=(Ox n k).2) (by rw[Y3];omega) (by rw[Y3];omega);simp only[bT,DF];exact .l1 h2 h3
end
theorem VO (M:MT mt fS fN tS tN)(l:List aj){k:Int}(h0:0<=k)(h1:k+yz l<4611686018427387904):CS mt tx (.C fN (.sl 5 (l.map aj.cells)) k (.sl 5 ((DF l k).1.map aj.cells)) (DF l k).2):=
 .c M.n ⟨h0,aI⟩ (QG M l h0 h1)
end
section
variable {P:Program} {tS tN:Nat}
theorem F6 (h1:xO P tS=1)(l:List fC):NU P tS (.sl 1 (l.map cS)):=
 have hx:∀(i j sz':Nat) (es':List (List Cell)),¬((l.map cS).getD i [])[j]? = some (.sl sz' es'):=λi j sz' es' h=>by
  simp only[cZ,dG]at h;cases hl:l[i]? with
  |none=>rw[hl]at h;simp at h
  |some s=>rw[hl]at h;cases j<;>simp[cS]at h
 .sl _ _ _ (λ_=>0) h1 (λi j sz' es' h=>eF h (hx i j sz' es')) (λi j sz' es' h=>eF h (hx i j sz' es'))
mutual
theorem ajD (h1:xO P tS=1)(h2:xO P tN=5)(h3:oD P tN=[(3,tS),(4,tN)]):∀(n:aj) (j sz':Nat) (es':List (List Cell)),n.cells[j]? = some (.sl sz' es')->(j,if j=3 then tS else tN)∈oD P tN/\NU P (if j=3 then tS else tN) (.sl sz' es')
 | aj.mk a b c ns ks,j,sz',es',h=>by
   have h4:=IG h1 h2 h3 ks;rw[aj.iG]at h
   match j,h with
   |0,h=>simp at h
   |1,h=>simp at h
   |2,h=>simp at h
   | 3,h=>simp only[eX,eY,aH,Cell.sl.injEq]at h;obtain⟨rfl,rfl⟩:=h;exact⟨by simp[h3],by simpa using F6 h1 ns⟩
   | 4,h=>simp only[eX,eY,aH,Cell.sl.injEq]at h;obtain⟨rfl,rfl⟩:=h;exact⟨by simp[h3],by simpa using h4⟩
   |j+5,h=>simp at h
theorem IG (h1:xO P tS=1)(h2:xO P tN=5)(h3:oD P tN=[(3,tS),(4,tN)]):∀(l:List aj),NU P tN (.sl 5 (l.map aj.cells))
 | []=>have hx:∀(i j sz':Nat) (es':List (List Cell)),¬(([]:List (List Cell)).getD i [])[j]? = some (.sl sz' es'):=λi j sz' es' h=>by simp at h
   .sl _ _ _ (λ_=>0) h2 (λi j sz' es' h=>eF h (hx i j sz' es')) (λi j sz' es' h=>eF h (hx i j sz' es'))
 | n::r=>by
   have a:=ajD h1 h2 h3 n;have b:=IG h1 h2 h3 r;cases b with
   |sl _ _ _ t hs b1 b2=>
   have key:∀(i j sz':Nat) (es':List (List Cell)),(((n::r).map aj.cells).getD i [])[j]? = some (.sl sz' es')->(j,if j=3 then tS else tN)∈oD P tN/\NU P (if j=3 then tS else tN) (.sl sz' es'):=by
    intro i j sz' es' h;cases i with
    |zero=>exact a j sz' es' (by simpa using h)
    | succ i=>
      have h':((r.map aj.cells).getD i [])[j]? = some (.sl sz' es'):=(by simpa using h);have c1:=b1 i j sz' es' h';have c2:=b2 i j sz' es' h';rw[h3]at c1;simp only[aK,dF,iW,or_false]at c1;rcases c1 with⟨rfl,e⟩|⟨rfl,e⟩
      ·rw[e]at c2;exact⟨by simp[h3],by simpa using c2⟩
      ·rw[e]at c2;exact⟨by simp[h3],by simpa using c2⟩
   exact .sl _ _ _ (λj=>if j=3 then tS else tN) h2 (λi j sz' es' h=>(key i j sz' es' h).1) (λi j sz' es' h=>(key i j sz' es' h).2)
end
end
end
theorem aaW : ∀(l:List fC) (k:Int) {i:Nat},i<l.length->(Mc l k).getD i default=tx (k+i)
 |[],_,i,h=>by simp at h
 |s::r,k,0,_=>by simp[Mc]
 | s::r,k,i+1,h=>by
   have:=aaW r (k+1) (i:=i) (by simpa using h);simp only[Mc,nO,this]
   congr 1
   omega
theorem XR : ∀(l:List aj) (k:Int) {i:Nat},i<l.length->(DF l k).1.getD i default=(Ox (l.getD i default) (k+yz (l.take i))).1
 |[],_,i,h=>by simp at h
 |n::r,k,0,_=>by simp[DF,yz]
 | n::r,k,i+1,h=>by
   have:=XR r (Ox n k).2 (i:=i) (by simpa using h);simp only[DF,nO,this,uG,yz]
   congr 2
   rw[Y3];omega
theorem XU : ∀(l:List aj) {i:Nat},i<l.length->yz (l.take (i+1))=yz (l.take i)+TJ (l.getD i default)
 |[],i,h=>by simp at h
 |n::r,0,_=>by simp[yz]
 | n::r,i+1,h=>by have:=XU r (i:=i) (by simpa using h);simp only[uG,yz,this,nO];omega
theorem aeD : ∀(l:List aj) (i:Nat),yz (l.take i)<=yz l
 |[],i=>by simp[yz]
 |n::r,0=>by simp[yz]
 |n::r,i+1=>by have:=aeD r i;simp only[uG,yz];omega
theorem Lh (n:aj)(k:Int):(Ox n k).1=aj.mk k (k+1) (tx (k+2)) (Mc n.aO (k+3)) (DF n.aP (k+3+n.aO.length)).1:=by cases n;rfl
theorem T.VF {l:List fC}{k:Int}(h0:0<=k)(h1:k+l.length<4611686018427387904):Ev (λf=>G.jl f (Mc l k) k) (k+l.length):=by
 have L:∀(m i:Nat),i+m=l.length->Ev (λf=>G.jl.L1 f (Mc l k) (k+i) i) (k+l.length):=by
  intro m
  induction m with
  | zero=>intro i hi;refine aN ?_;simp only[G.jl.L1,VN];exact sH (aT aI)
  | succ m ih=>intro i hi;have w1:af .i64 (k+i+1)=k+((i+1:Nat):Int):=(by rw[CV aI aI];omega);refine aN ?_;simp only[G.jl.L1,VN,ai,w1,FC i,aaW l k (show i<l.length by omega)];exact sG (dA (ak (WI ⟨aI,aI⟩) (dR mD (ih (i+1) aI))))
 refine aN ?_;simp only[G.jl];have:=L l.length 0 aI;simpa using this
def ad1 (n:aj):Prop:=∀k:Int,0<=k->k+yz n.aP<4611686018427387904->Ev (λf=>G.jU f (DF n.aP k).1 k) (k+yz n.aP)
theorem T.VE {l:List aj}(hl:∀n,n∈l->ad1 n){k:Int}(h0:0<=k)(h1:k+yz l<4611686018427387904)(hlen:l.length<4611686018427387904):Ev (λf=>G.jU f (DF l k).1 k) (k+yz l):=by
 have L:∀(m i:Nat),i+m=l.length->Ev (λf=>G.jU.L1 f (DF l k).1 (k+yz (l.take i)) i) (k+yz l):=by
  intro m
  induction m with
  | zero=>intro i hi;refine aN ?_;simp only[G.jU.L1,SB];exact sH (aT (by rw[bz aI]))
  | succ m ih=>intro i hi;have hil:i<l.length:=(by omega);have hs:=XU l hil;have hle:=aeD l (i+1);have hme:ad1 (l.getD i default):=hl _ (ET default hil);have ht:=Gz (l.getD i default);generalize hq:l.getD i default=q at hs hme ht;have w1:af .i64 (k+yz (l.take i)+1)=k+yz (l.take i)+1:=CV aI aI;have w2:af .i64 (k+yz (l.take i)+1+1)=k+yz (l.take i)+2:=(by rw[CV aI aI];omega);have w3:af .i64 (k+yz (l.take i)+2+1)=k+yz (l.take i)+3:=(by rw[CV aI aI];omega);have e1:=T.VF (l:=q.aO) (k:=k+yz (l.take i)+3) aI aI;have e2:=hme (k+yz (l.take i)+3+q.aO.length) aI aI;have e3:=ih (i+1) aI;have e4:k+((yz (l.take (i+1)):Nat):Int)=k+yz (l.take i)+3+q.aO.length+yz q.aP:=(by omega);rw[e4]at e3;refine aN ?_;simp only[G.jU.L1,SB,ai,XR l k hil,hq,Lh,w1,w2,w3,FC i];refine sG (dA (dB mD (dA (dB mD (dA (ak (WI ⟨aI,aI⟩) (dR mD (dA (ak e1 (sH (dA (ak e2 (sH e3)))))))))))))
 refine aN ?_;simp only[G.jU];have:=L l.length 0 aI;simpa[yz]using this
theorem VP : ∀(l:List aj),l.length<=yz l
 |[]=>by simp
 |n::r=>by have:=VP r;simp only[yz,Gz n,iV];omega
mutual
theorem an7 : ∀(n:aj),ad1 n
 |aj.mk _ _ _ _ ks=>λk h0 h1=>T.VE (acZ ks) h0 h1 (by have:=VP ks;have h2:k+(yz ks:Int)<4611686018427387904:=h1;omega)
theorem acZ : ∀(l:List aj),∀n,n∈l->ad1 n
 |[],n,h=>by cases h
 | m::r,n,h=>by
   rcases aK.1 h with e|e
   ·rw[e];exact an7 m
   ·exact acZ r n e
end
theorem T.XG (l:List aj){k:Int}(h0:0<=k)(h1:k+yz l<4611686018427387904):Ev (λf=>G.jU f (DF l k).1 k) (k+yz l):=
 T.VE (acZ l) h0 h1 (by have:=VP l;omega)
def rtc (n:aj):Nat:=n.aO.length+yz n.aP
theorem abd {n:aj}(h:Parts n=true):n.aO.length<=6:=by
 unfold Parts at h;simp only[ah,iJ,aY]at h;obtain⟨⟨_,h1⟩,h2⟩:=h;rcases h1 with h1|h1
 ·rw[h1]at h2;simp at h2;omega
 ·omega
theorem aaY : ∀(l:List aj) (f:aj->Nat),(∀n,n∈l->TJ n<=9*f n)->yz l<=9*(l.map f).sum
 |[],f,_=>by simp[yz]
 | n::r,f,h=>by have h1:=aaY r f (λn hn=>h n (fJ _ hn));have h2:=h n (bD ..);simp only[yz,bT,tY];omega
theorem X7 : ∀(d:Nat) (n:aj),Shape d n=true->TJ n<=9*Cnt d n
 |0,n,h=>by simp[Shape]at h
 | d+1,n,h=>by have h1:=abd (rW h);have h2:=aaY n.aP (Cnt d) (λk hk=>X7 d k (wu h k hk));rw[Gz];simp only[Cnt];omega
theorem ae1 {n:aj}(h:Val n=true):rtc n<=400:=by unfold Val at h;simp only[ah,aC]at h;have:=X7 5 n h.1;rw[Gz]at this;unfold rtc;omega
section
abbrev opL (o:uN):List Cell:=[.lit (.int .i64 o.bM),.sl 1 (o.uq.map cS),.sl 1 (o.xH.map cS),.lit (.int .i64 o.Value.bM),.lit (.int .i64 o.Value.wJ),.str o.Value.lI,.sl 1 (o.Value.aO.map cS),.sl 5 (o.Value.aP.map aj.cells)]
section
variable {P:Program} {tS tN:Nat}
theorem amh (h1:xO P tS=1)(h2:xO P tN=5)(h3:oD P tN=[(3,tS),(4,tN)])(o:uN)(a b c d:Nat)(j sz:Nat)(es:List (List Cell))(h:(opL o)[j]? = some (.sl sz es)):∃r,r∈[(1,tS,a),(2,tS,b),(6,tS,c),(7,tN,d)]/\r.1=j/\NU P r.2.1 (.sl sz es):=by
 match j,h with
 | 1,h=>simp only[opL,eX,eY,aH,Cell.sl.injEq]at h;obtain⟨rfl,rfl⟩:=h;exact⟨(1,tS,a),mD,rfl,F6 h1 _⟩
 | 2,h=>simp only[opL,eX,eY,aH,Cell.sl.injEq]at h;obtain⟨rfl,rfl⟩:=h;exact⟨(2,tS,b),mD,rfl,F6 h1 _⟩
 | 6,h=>simp only[opL,eX,eY,aH,Cell.sl.injEq]at h;obtain⟨rfl,rfl⟩:=h;exact⟨(6,tS,c),mD,rfl,F6 h1 _⟩
 | 7,h=>simp only[opL,eX,eY,aH,Cell.sl.injEq]at h;obtain⟨rfl,rfl⟩:=h;exact⟨(7,tN,d),mD,rfl,IG h1 h2 h3 _⟩
 |0,h=>simp[opL]at h
 |3,h=>simp[opL]at h
 |4,h=>simp[opL]at h
 |5,h=>simp[opL]at h
 |j+8,h=>simp[opL]at h
end
end
theorem T0.rM {B D E:Nat}{n:aj}{o:uN}(hB:B<=lim)(h:Aq B D n)(ho:Gi B E o):Ev (λf=>G.rM f n o) (pW (EM n o)):=by
 by_cases hv:(Val n&&ZQ o)=true
 ·have hv':=hv;simp only[ah]at hv';have fo:=GG hv'.2;exact T.rM (B:=12) (D:=5) xM (oG hv'.1) ⟨yC fo.path,yC fo.from_,oG fo.val⟩
 refine aN ?_;simp only[G.rM];unfold EM;rw[au hv];refine ak (T0.dm hB h) (dh (λe1=>?_) (λe1=>aT rfl));refine ak (T0.vK hB ho) (dh (λe2=>?_) (λe2=>aT rfl));exact eF (by rw[e1,e2];rfl) hv
section
noncomputable def amV (o:uN)(k:Int):uN:=uN.mk k (Mc o.uq (k+1)) (Mc o.xH (k+1+o.uq.length)) (Ox o.Value (k+1+o.uq.length+o.xH.length)).1
noncomputable def XT : List uN->Int->List uN
 |[],_=>[]
 |o::r,k=>amV o k::XT r (k+(mkO o+1:Nat))
section
variable {mt:FI} {fS fN tS tN fP tP:Nat}
abbrev VT (fS fN:Nat):List MA:=[.int 0,.sub 1 fS,.sub 2 fS,.int 3,.int 4,.str 5,.sub 6 fS,.sub 7 fN]
theorem aoA (M:MT mt fS fN tS tN)(o:uN){k:Int}(h0:0<=k)(h1:k+(mkO o+1:Nat)<4611686018427387904):CS mt tx (.E (VT fS fN) o.cells k (amV o k).cells (k+(mkO o+1:Nat))):=by
 have hm:=Gz o.Value;unfold mkO at *;have e1:=Iq M o.uq (k:=k+1) aI aI;have e2:=Iq M o.xH (k:=k+1+o.uq.length) aI aI;have e3:=Iq M o.Value.aO (k:=k+1+o.uq.length+o.xH.length+3) aI aI;have e4:=QG M o.Value.aP (k:=k+1+o.uq.length+o.xH.length+3+o.Value.aO.length) aI aI;have e5:(DF o.Value.aP (k+1+o.uq.length+o.xH.length+3+o.Value.aO.length)).2=k+((o.uq.length+o.xH.length+TJ o.Value+1:Nat):Int):=by rw[Oa];omega
 rw[uN.iG,uN.iG];unfold amV;rw[Lh];simp only;refine .ei ⟨h0,aI⟩ ⟨aI,aI⟩ mD ?_;refine .ef (c:=.sl 1 (o.uq.map cS)) mD e1 (.ef (c:=.sl 1 (o.xH.map cS)) mD e2 ?_);refine .ei ⟨aI,aI⟩ ⟨aI,aI⟩ mD (.ei ⟨aI,aI⟩ ⟨aI,aI⟩ mD (.es ⟨aI,aI⟩ ⟨aI,aI⟩ mD ?_));rw[show k+1+o.uq.length+o.xH.length+1+1=k+1+o.uq.length+o.xH.length+2 by omega,show k+1+o.uq.length+o.xH.length+2+1=k+1+o.uq.length+o.xH.length+3 by omega];refine .ef (c:=.sl 1 (o.Value.aO.map cS)) mD e3 (.ef (c:=.sl 5 (o.Value.aP.map aj.cells)) mD (.c M.n ⟨aI,aI⟩ e4) ?_);rw[e5];simpa using CS.e0
theorem aiT (M:MT mt fS fN tS tN):∀(l:List uN) {k:Int},0<=k->k+L9 l<4611686018427387904->CS mt tx (.L (VT fS fN) (l.map uN.cells) k ((XT l k).map uN.cells) (k+L9 l))
 |[],k,_,_=>by simpa[XT,L9]using CS.l0
 | o::r,k,h0,h1=>by simp only[L9]at h1;have h2:=aoA M o (k:=k) h0 aI;have h3:=aiT M r (k:=k+(mkO o+1:Nat)) aI aI;simp only[bT,XT,L9];have e:k+((mkO o+1:Nat):Int)+(L9 r:Int)=k+((mkO o+1+L9 r:Nat):Int):=(by omega);rw[e]at h3;exact .l1 h2 h3
theorem amW (M:MT mt fS fN tS tN)(hP:mt fP=some (tP,8,VT fS fN))(l:List uN){k:Int}(h0:0<=k)(h1:k+L9 l<4611686018427387904):CS mt tx (.C fP (.sl 8 (l.map uN.cells)) k (.sl 8 ((XT l k).map uN.cells)) (k+L9 l)):=
 .c hP ⟨h0,aI⟩ (aiT M l h0 h1)
end
section
variable {P:Program} {tS tN tP:Nat}
theorem alo (h1:xO P tS=1)(h2:xO P tN=5)(h3:oD P tN=[(3,tS),(4,tN)])(h4:xO P tP=8)(h5:oD P tP=[(1,tS),(2,tS),(6,tS),(7,tN)])(l:List uN):NU P tP (.sl 8 (l.map uN.cells)):=by
 have key:∀(i j sz':Nat) (es':List (List Cell)),((l.map uN.cells).getD i [])[j]? = some (.sl sz' es')->(j,if j=7 then tN else tS)∈oD P tP/\NU P (if j=7 then tN else tS) (.sl sz' es'):=by
  intro i j sz' es' h;simp only[cZ,dG]at h;cases hl:l[i]? with
  |none=>rw[hl]at h;simp at h
  | some o=>
    rw[hl]at h;simp only[kL,lW]at h;obtain⟨r,hr,rfl,ht⟩:=amh h1 h2 h3 o 0 0 0 0 j sz' es' h;simp only[aK,iW,or_false]at hr;rcases hr with rfl|rfl|rfl|rfl
    ·exact⟨by simp[h5],by simpa using ht⟩
    ·exact⟨by simp[h5],by simpa using ht⟩
    ·exact⟨by simp[h5],by simpa using ht⟩
    ·exact⟨by simp[h5],by simpa using ht⟩
 exact .sl _ _ _ (λj=>if j=7 then tN else tS) h4 (λi j sz' es' h=>(key i j sz' es' h).1) (λi j sz' es' h=>(key i j sz' es' h).2)
end
theorem aef {P:Program}{tX a n:Nat}{L:List (List Cell)}(h0:NU P tX (.sl n L))(j sz:Nat)(es:List (List Cell))(h:[Cell.sl n L][j]? = some (.sl sz es)):∃r,r∈[(0,tX,a)]/\r.1=j/\NU P r.2.1 (.sl sz es):=by
 match j,h with
 | 0,h=>simp only[eY,aH,Cell.sl.injEq]at h;obtain⟨rfl,rfl⟩:=h;exact⟨(0,tX,a),mD,rfl,h0⟩
 |j+1,h=>simp at h
end
section
theorem CS.ei' {mt:FI}{o:Nat}{r:List MA}{e e':List Cell}{k k1 k':Int}(hk:inR k)(hk':inR k1)(h1:k1=k+1)(ho:o<e.length)(h:CS mt tx (.E r (e.set o (.lit (.int .i64 k))) k1 e' k')):CS mt tx (.E (.int o::r) e k e' k'):=by subst h1;exact .ei hk hk' ho h
theorem CS.es' {mt:FI}{o:Nat}{r:List MA}{e e':List Cell}{k k1 k':Int}(hk:inR k)(hk':inR k1)(h1:k1=k+1)(ho:o<e.length)(h:CS mt tx (.E r (e.set o (.str (tx k))) k1 e' k')):CS mt tx (.E (.str o::r) e k e' k'):=by subst h1;exact .es hk hk' ho h
theorem CS.to {mt:FI}{f:Nat}{c c':Cell}{k k1 k2:Int}(h:CS mt tx (.C f c k c' k1))(e:k1=k2):CS mt tx (.C f c k c' k2):=by subst e;exact h
structure TyH (P:Program)(tS tN tP:Nat):Prop where
 s:xO P tS=1
 n:xO P tN=5
 rn:oD P tN=[(3,tS),(4,tN)]
 p:xO P tP=8
 rp:oD P tP=[(1,tS),(2,tS),(6,tS),(7,tN)]
def JH {α:Type}(mc:α->Nat):List α->Nat
 |[]=>0
 |o::r=>mc o+JH mc r
noncomputable def mkL {α:Type}(mk:α->Int->α)(mc:α->Nat):List α->Int->List α
 |[],_=>[]
 |o::r,k=>mk o k::mkL mk mc r (k+(mc o:Nat))
section
variable {α:Type} (mk:α->Int->α) (mc:α->Nat)
theorem QE : ∀(l:List α) (k:Int),(mkL mk mc l k).length=l.length
 |[],_=>rfl
 |_::r,k=>by simp[mkL,QE r]
theorem Y2 [Inhabited α]:∀(l:List α) (k:Int) {i:Nat},i<l.length->(mkL mk mc l k).getD i default=mk (l.getD i default) (k+JH mc (l.take i))
 |[],_,i,h=>by simp at h
 |o::r,k,0,_=>by simp[mkL,JH]
 | o::r,k,i+1,h=>by
   have:=Y2 r (k+(mc o:Nat)) (i:=i) (by simpa using h);simp only[mkL,nO,this,uG,JH]
   congr 1
   omega
theorem VL [Inhabited α]:∀(l:List α) {i:Nat},i<l.length->JH mc (l.take (i+1))=JH mc (l.take i)+mc (l.getD i default)
 |[],i,h=>by simp at h
 |n::r,0,_=>by simp[JH]
 | n::r,i+1,h=>by have:=VL r (i:=i) (by simpa using h);simp only[uG,JH,this,nO];omega
theorem adh : ∀(l:List α) (i:Nat),JH mc (l.take i)<=JH mc l
 |[],i=>by simp[JH]
 |n::r,0=>by simp[JH]
 |n::r,i+1=>by have:=adh r i;simp only[uG,JH];omega
end
theorem aeB {α:Type}{mk:α->Int->α}{mc:α->Nat}{cells:α->List Cell}{mt:FI}{acts:List MA}(H:∀(x:α) (k:Int),0<=k->k+(mc x:Nat)<4611686018427387904->CS mt tx (.E acts (cells x) k (cells (mk x k)) (k+(mc x:Nat)))):∀(l:List α) {k:Int},0<=k->k+(JH mc l:Nat)<4611686018427387904->CS mt tx (.L acts (l.map cells) k ((mkL mk mc l k).map cells) (k+(JH mc l:Nat)))
 |[],k,_,_=>by simpa[mkL,JH]using CS.l0
 | o::r,k,h0,h1=>by simp only[JH]at h1;have h2:=H o k h0 aI;have h3:=aeB H r (k:=k+(mc o:Nat)) aI aI;simp only[bT,mkL,JH];have e:k+((mc o:Nat):Int)+((JH mc r:Nat):Int)=k+((mc o+JH mc r:Nat):Int):=(by omega);rw[e]at h3;exact .l1 h2 h3
theorem ajC {P:Program}{tX n:Nat}{α:Type}{cells:α->List Cell}{fn:Nat->Nat}(h4:xO P tX=n)(H:∀(o:α) (j sz:Nat) (es:List (List Cell)),(cells o)[j]? = some (.sl sz es)->(j,fn j)∈oD P tX/\NU P (fn j) (.sl sz es))(l:List α):NU P tX (.sl n (l.map cells)):=by
 have key:∀(i j sz':Nat) (es':List (List Cell)),((l.map cells).getD i [])[j]? = some (.sl sz' es')->(j,fn j)∈oD P tX/\NU P (fn j) (.sl sz' es'):=by
  intro i j sz' es' h;simp only[cZ,dG]at h;cases hl:l[i]? with
  |none=>rw[hl]at h;simp at h
  | some o=>rw[hl]at h;exact H o j sz' es' (by simpa using h)
 exact .sl _ _ _ fn h4 (λi j sz' es' h=>(key i j sz' es' h).1) (λi j sz' es' h=>(key i j sz' es' h).2)
def Dp (x:fA):Nat:=1+1+TJ x.pO
noncomputable def mkItem (x:fA)(k:Int):fA:=fA.mk (tx (k+((0:Nat):Int))) (k+((1:Nat):Int)) (Ox x.pO (k+((1+1:Nat):Int))).1
noncomputable abbrev aeA : List fA->Int->List fA:=mkL mkItem Dp
abbrev yU : List fA->Nat:=JH Dp
abbrev P6 (fS fN:Nat):List MA:=[.str 0,.int 1,.int 2,.int 3,.str 4,.sub 5 fS,.sub 6 fN]
theorem aiS {mt:FI}{fS fN tS tN:Nat}(M:MT mt fS fN tS tN)(x:fA){k:Int}(h0:0<=k)(h1:k+(Dp x:Nat)<4611686018427387904):CS mt tx (.E (P6 fS fN) x.cells k (mkItem x k).cells (k+(Dp x:Nat))):=by
 unfold Dp at *;have aox:=Gz x.pO;obtain⟨K1,e1⟩:∃z:Int,z=k+((1:Nat):Int):=⟨_,rfl⟩;obtain⟨K2,e2⟩:∃z:Int,z=K1+((1:Nat):Int):=⟨_,rfl⟩;obtain⟨K3,e3⟩:∃z:Int,z=K2+((1:Nat):Int):=⟨_,rfl⟩;obtain⟨K4,e4⟩:∃z:Int,z=K3+((1:Nat):Int):=⟨_,rfl⟩;obtain⟨K5,e5⟩:∃z:Int,z=K4+((1:Nat):Int):=⟨_,rfl⟩;obtain⟨K6,e6⟩:∃z:Int,z=K5+(x.pO.aO.length:Int):=⟨_,rfl⟩;obtain⟨K7,e7⟩:∃z:Int,z=K6+((yz x.pO.aP:Nat):Int):=⟨_,rfl⟩;have eL:k+((1+1+TJ x.pO:Nat):Int)=K7:=by omega
 have o0:k+((0:Nat):Int)=k:=by omega
 have o1:k+((1:Nat):Int)=K1:=by omega
 have o2:k+((1+1:Nat):Int)=K2:=by omega
 rw[eL];rw[fA.iG,fA.iG];unfold mkItem;simp only[Lh,o0,o1,o2];have i0:K2+1=K3:=by omega
 have i1:K2+2=K4:=by omega
 have i2:K5+(x.pO.aO.length:Int)=K6:=by omega
 have i3:K2+3=K5:=by omega
 simp only[i0,i1,i2,i3];refine CS.es' (k1:=K1) ⟨aI,aI⟩ ⟨aI,aI⟩ aI mD ?_;refine CS.ei' (k1:=K2) ⟨aI,aI⟩ ⟨aI,aI⟩ aI mD ?_;refine CS.ei' (k1:=K3) ⟨aI,aI⟩ ⟨aI,aI⟩ aI mD ?_;refine CS.ei' (k1:=K4) ⟨aI,aI⟩ ⟨aI,aI⟩ aI mD ?_;refine CS.es' (k1:=K5) ⟨aI,aI⟩ ⟨aI,aI⟩ aI mD ?_;refine CS.ef (k1:=K6) (c:=.sl 1 (x.pO.aO.map cS)) mD ((Iq M x.pO.aO aI aI).to aI) ?_;refine CS.ef (k1:=K7) (c:=.sl 5 (x.pO.aP.map aj.cells)) mD ((VO M x.pO.aP aI aI).to (by rw[Oa];omega)) ?_;simpa using CS.e0
theorem akU {mt:FI}{fS fN tS tN tX fX:Nat}(M:MT mt fS fN tS tN)(hX:mt fX=some (tX,7,P6 fS fN))(l:List fA){k:Int}(h0:0<=k)(h1:k+(yU l:Nat)<4611686018427387904):CS mt tx (.C fX (.sl 7 (l.map fA.cells)) k (.sl 7 ((aeA l k).map fA.cells)) (k+(yU l:Nat))):=
 .c hX ⟨h0,aI⟩ (aeB (λx _ a b=>aiS M x a b) l h0 h1)
theorem akx {P:Program}{tS tN tP:Nat}(H:TyH P tS tN tP)(x:fA)(a b:Nat)(j sz:Nat)(es:List (List Cell))(h:x.cells[j]? = some (.sl sz es)):∃r,r∈[(5,tS,a),(6,tN,b)]/\r.1=j/\NU P r.2.1 (.sl sz es):=by
 rw[fA.iG]at h
 match j,h with
 | 5,h=>simp only[eX,eY,aH,Cell.sl.injEq]at h;obtain⟨rfl,rfl⟩:=h;exact⟨(5,tS,a),mD,rfl,F6 H.s _⟩
 | 6,h=>simp only[eX,eY,aH,Cell.sl.injEq]at h;obtain⟨rfl,rfl⟩:=h;exact⟨(6,tN,b),mD,rfl,IG H.s H.n H.rn _⟩
 |0,h=>simp at h
 |1,h=>simp at h
 |2,h=>simp at h
 |3,h=>simp at h
 |4,h=>simp at h
 |j+7,h=>simp at h
theorem agS {P:Program}{tS tN tP tX:Nat}(H:TyH P tS tN tP)(h4:xO P tX=7)(h5:oD P tX=[(5,tS),(6,tN)])(l:List fA):NU P tX (.sl 7 (l.map fA.cells)):=by refine ajC (fn:=λj=>(if j=6 then tN else tS)) h4 (λo j sz' es' h=>?_) l;obtain⟨r,hr,rfl,ht⟩:=akx H o 0 0 j sz' es' h;simp only[aK,iW,or_false]at hr;rcases hr with rfl|rfl<;>exact⟨by simp[h5],by simpa using ht⟩
theorem T.afW (l:List fA){k:Int}(h0:0<=k)(h1:k+(JH Dp l:Nat)<4611686018427387904)(hlen:l.length<4611686018427387904):Ev (λf=>G.l9 f (mkL mkItem Dp l k) k) (k+(JH Dp l:Nat)):=by
 have L:∀(m i:Nat),i+m=l.length->Ev (λf=>G.l9.L1 f (mkL mkItem Dp l k) (k+(JH Dp (l.take i):Nat)) i) (k+(JH Dp l:Nat)):=by
  intro m
  induction m with
  | zero=>intro i hi;refine aN ?_;simp only[G.l9.L1,QE];exact sH (aT (by rw[bz aI]))
  | succ m ih=>
    intro i hi;have hil:i<l.length:=(by omega);have hs:=VL Dp l hil;have hle:=adh Dp l (i+1);have hg:=Y2 mkItem Dp l k hil;generalize hq:l.getD i default=q at hs hg;rw[show Dp q=1+1+TJ q.pO from rfl]at hs;obtain⟨K0,e0⟩:∃z:Int,z=k+(JH Dp (l.take i):Nat):=⟨_,rfl⟩;rw[<- e0]at hg;have aox:=Gz q.pO;obtain⟨K1,e1⟩:∃z:Int,z=K0+((1:Nat):Int):=⟨_,rfl⟩;obtain⟨K2,e2⟩:∃z:Int,z=K1+((1:Nat):Int):=⟨_,rfl⟩;obtain⟨K3,e3⟩:∃z:Int,z=K2+((1:Nat):Int):=⟨_,rfl⟩;obtain⟨K4,e4⟩:∃z:Int,z=K3+((1:Nat):Int):=⟨_,rfl⟩;obtain⟨K5,e5⟩:∃z:Int,z=K4+((1:Nat):Int):=⟨_,rfl⟩;obtain⟨K6,e6⟩:∃z:Int,z=K5+(q.pO.aO.length:Int):=⟨_,rfl⟩;obtain⟨K7,e7⟩:∃z:Int,z=K6+((yz q.pO.aP:Nat):Int):=⟨_,rfl⟩;have o0:K0+((0:Nat):Int)=K0:=(by omega);have o1:K0+((1:Nat):Int)=K1:=(by omega);have o2:K0+((1+1:Nat):Int)=K2:=(by omega);have i0:K2+1=K3:=(by omega);have i1:K2+2=K4:=(by omega);have i2:K5+(q.pO.aO.length:Int)=K6:=(by omega);have i3:K2+3=K5:=(by omega);generalize hz:mkItem q K0=z at hg;unfold mkItem at hz;simp only[Lh,o0,o1,o2]at hz;simp only[i0,i1,i2,i3]at hz;subst hz;have w0:af .i64 (K0+1)=K1:=(by rw[CV aI aI];omega);have w1:af .i64 (K1+1)=K2:=(by rw[CV aI aI];omega);have w2:af .i64 (K2+1)=K3:=(by rw[CV aI aI];omega);have w3:af .i64 (K3+1)=K4:=(by rw[CV aI aI];omega);have w4:af .i64 (K4+1)=K5:=(by rw[CV aI aI];omega);have g5:=(T.VF (l:=q.pO.aO) (k:=K5) aI aI).eq (show _=K6 by omega);have g6:=(T.XG q.pO.aP (k:=K6) aI aI).eq (show _=K7 by omega);have e9:=ih (i+1) aI;have e8:k+((JH Dp (l.take (i+1)):Nat):Int)=K7:=(by omega);rw[e8]at e9;rw[<- e0];refine aN ?_;simp only[G.l9.L1,QE,ai,hg,FC i];refine sG ?_;refine dA (ak (WI ⟨aI,aI⟩) (dR mD ?_))
    try simp only[w0]
    refine dA (dB mD ?_)
    try simp only[w1]
    refine dA (dB mD ?_)
    try simp only[w2]
    refine dA (dB mD ?_)
    try simp only[w3]
    refine dA (ak (WI ⟨aI,aI⟩) (dR mD ?_))
    try simp only[w4]
    refine dA (ak g5 (sH ?_));refine dA (ak g6 (sH ?_));exact e9
 refine aN ?_;simp only[G.l9];have:=L l.length 0 aI;simpa[JH]using this
def IB (x:bn):Nat:=1+1+x.yK.length+x.uM.length+TJ x.Body+L9 x.Me
noncomputable def SC (x:bn)(k:Int):bn:=bn.mk (k+((0:Nat):Int)) (tx (k+((1:Nat):Int))) (Mc x.yK (k+((1+1:Nat):Int))) (Mc x.uM (k+((1+1+x.yK.length:Nat):Int))) (Ox x.Body (k+((1+1+x.yK.length+x.uM.length:Nat):Int))).1 (XT x.Me (k+((1+1+x.yK.length+x.uM.length+TJ x.Body:Nat):Int)))
noncomputable abbrev adk : List bn->Int->List bn:=mkL SC IB
abbrev DW : List bn->Nat:=JH IB
abbrev MJ (fS fN fP:Nat):List MA:=[.int 0,.str 1,.sub 2 fS,.sub 3 fS,.int 4,.int 5,.str 6,.sub 7 fS,.sub 8 fN,.sub 9 fP]
theorem aaU {mt:FI}{fS fN tS tN fP tP:Nat}(M:MT mt fS fN tS tN)(hP:mt fP=some (tP,8,VT fS fN))(x:bn){k:Int}(h0:0<=k)(h1:k+(IB x:Nat)<4611686018427387904):CS mt tx (.E (MJ fS fN fP) x.cells k (SC x k).cells (k+(IB x:Nat))):=by
 unfold IB at *;have alR:=Gz x.Body;obtain⟨K1,e1⟩:∃z:Int,z=k+((1:Nat):Int):=⟨_,rfl⟩;obtain⟨K2,e2⟩:∃z:Int,z=K1+((1:Nat):Int):=⟨_,rfl⟩;obtain⟨K3,e3⟩:∃z:Int,z=K2+(x.yK.length:Int):=⟨_,rfl⟩;obtain⟨K4,e4⟩:∃z:Int,z=K3+(x.uM.length:Int):=⟨_,rfl⟩;obtain⟨K5,e5⟩:∃z:Int,z=K4+((1:Nat):Int):=⟨_,rfl⟩;obtain⟨K6,e6⟩:∃z:Int,z=K5+((1:Nat):Int):=⟨_,rfl⟩;obtain⟨K7,e7⟩:∃z:Int,z=K6+((1:Nat):Int):=⟨_,rfl⟩;obtain⟨K8,e8⟩:∃z:Int,z=K7+(x.Body.aO.length:Int):=⟨_,rfl⟩;obtain⟨K9,e9⟩:∃z:Int,z=K8+((yz x.Body.aP:Nat):Int):=⟨_,rfl⟩;obtain⟨K10,e10⟩:∃z:Int,z=K9+((L9 x.Me:Nat):Int):=⟨_,rfl⟩;have eL:k+((1+1+x.yK.length+x.uM.length+TJ x.Body+L9 x.Me:Nat):Int)=K10:=by omega
 have o0:k+((0:Nat):Int)=k:=by omega
 have o1:k+((1:Nat):Int)=K1:=by omega
 have o2:k+((1+1:Nat):Int)=K2:=by omega
 have o3:k+((1+1+x.yK.length:Nat):Int)=K3:=by omega
 have o4:k+((1+1+x.yK.length+x.uM.length:Nat):Int)=K4:=by omega
 have o5:k+((1+1+x.yK.length+x.uM.length+TJ x.Body:Nat):Int)=K9:=by omega
 rw[eL];rw[bn.iG,bn.iG];unfold SC;simp only[Lh,o0,o1,o2,o3,o4,o5];have i0:K4+1=K5:=by omega
 have i1:K4+2=K6:=by omega
 have i2:K7+(x.Body.aO.length:Int)=K8:=by omega
 have i3:K4+3=K7:=by omega
 simp only[i0,i1,i2,i3];refine CS.ei' (k1:=K1) ⟨aI,aI⟩ ⟨aI,aI⟩ aI mD ?_;refine CS.es' (k1:=K2) ⟨aI,aI⟩ ⟨aI,aI⟩ aI mD ?_;refine CS.ef (k1:=K3) (c:=.sl 1 (x.yK.map cS)) mD ((Iq M x.yK aI aI).to aI) ?_;refine CS.ef (k1:=K4) (c:=.sl 1 (x.uM.map cS)) mD ((Iq M x.uM aI aI).to aI) ?_;refine CS.ei' (k1:=K5) ⟨aI,aI⟩ ⟨aI,aI⟩ aI mD ?_;refine CS.ei' (k1:=K6) ⟨aI,aI⟩ ⟨aI,aI⟩ aI mD ?_;refine CS.es' (k1:=K7) ⟨aI,aI⟩ ⟨aI,aI⟩ aI mD ?_;refine CS.ef (k1:=K8) (c:=.sl 1 (x.Body.aO.map cS)) mD ((Iq M x.Body.aO aI aI).to aI) ?_;refine CS.ef (k1:=K9) (c:=.sl 5 (x.Body.aP.map aj.cells)) mD ((VO M x.Body.aP aI aI).to (by rw[Oa];omega)) ?_;refine CS.ef (k1:=K10) (c:=.sl 8 (x.Me.map uN.cells)) mD ((amW M hP x.Me aI aI).to aI) ?_;simpa using CS.e0
theorem adi {mt:FI}{fS fN tS tN fP tP tX fX:Nat}(M:MT mt fS fN tS tN)(hP:mt fP=some (tP,8,VT fS fN))(hX:mt fX=some (tX,10,MJ fS fN fP))(l:List bn){k:Int}(h0:0<=k)(h1:k+(DW l:Nat)<4611686018427387904):CS mt tx (.C fX (.sl 10 (l.map bn.cells)) k (.sl 10 ((adk l k).map bn.cells)) (k+(DW l:Nat))):=
 .c hX ⟨h0,aI⟩ (aeB (λx _ a b=>aaU M hP x a b) l h0 h1)
theorem acH {P:Program}{tS tN tP:Nat}(H:TyH P tS tN tP)(x:bn)(a b c d e:Nat)(j sz:Nat)(es:List (List Cell))(h:x.cells[j]? = some (.sl sz es)):∃r,r∈[(2,tS,a),(3,tS,b),(7,tS,c),(8,tN,d),(9,tP,e)]/\r.1=j/\NU P r.2.1 (.sl sz es):=by
 rw[bn.iG]at h
 match j,h with
 | 2,h=>simp only[eX,eY,aH,Cell.sl.injEq]at h;obtain⟨rfl,rfl⟩:=h;exact⟨(2,tS,a),mD,rfl,F6 H.s _⟩
 | 3,h=>simp only[eX,eY,aH,Cell.sl.injEq]at h;obtain⟨rfl,rfl⟩:=h;exact⟨(3,tS,b),mD,rfl,F6 H.s _⟩
 | 7,h=>simp only[eX,eY,aH,Cell.sl.injEq]at h;obtain⟨rfl,rfl⟩:=h;exact⟨(7,tS,c),mD,rfl,F6 H.s _⟩
 | 8,h=>simp only[eX,eY,aH,Cell.sl.injEq]at h;obtain⟨rfl,rfl⟩:=h;exact⟨(8,tN,d),mD,rfl,IG H.s H.n H.rn _⟩
 | 9,h=>simp only[eX,eY,aH,Cell.sl.injEq]at h;obtain⟨rfl,rfl⟩:=h;exact⟨(9,tP,e),mD,rfl,alo H.s H.n H.rn H.p H.rp _⟩
 |0,h=>simp at h
 |1,h=>simp at h
 |4,h=>simp at h
 |5,h=>simp at h
 |6,h=>simp at h
 |j+10,h=>simp at h
theorem ZF {P:Program}{tS tN tP tX:Nat}(H:TyH P tS tN tP)(h4:xO P tX=10)(h5:oD P tX=[(2,tS),(3,tS),(7,tS),(8,tN),(9,tP)])(l:List bn):NU P tX (.sl 10 (l.map bn.cells)):=by refine ajC (fn:=λj=>(if j=9 then tP else(if j=8 then tN else tS))) h4 (λo j sz' es' h=>?_) l;obtain⟨r,hr,rfl,ht⟩:=acH H o 0 0 0 0 0 j sz' es' h;simp only[aK,iW,or_false]at hr;rcases hr with rfl|rfl|rfl|rfl|rfl<;>exact⟨by simp[h5],by simpa using ht⟩
def uX (x:bP):Nat:=1+1+1+TJ x.Body
noncomputable def DX (x:bP)(k:Int):bP:=bP.mk (k+((0:Nat):Int)) (tx (k+((1:Nat):Int))) (k+((1+1:Nat):Int)) (Ox x.Body (k+((1+1+1:Nat):Int))).1
noncomputable abbrev Js : List bP->Int->List bP:=mkL DX uX
abbrev Aj : List bP->Nat:=JH uX
abbrev KP (fS fN:Nat):List MA:=[.int 0,.str 1,.int 2,.int 3,.int 4,.str 5,.sub 6 fS,.sub 7 fN]
theorem Y4 {mt:FI}{fS fN tS tN:Nat}(M:MT mt fS fN tS tN)(x:bP){k:Int}(h0:0<=k)(h1:k+(uX x:Nat)<4611686018427387904):CS mt tx (.E (KP fS fN) x.cells k (DX x k).cells (k+(uX x:Nat))):=by
 unfold uX at *;have alR:=Gz x.Body;obtain⟨K1,e1⟩:∃z:Int,z=k+((1:Nat):Int):=⟨_,rfl⟩;obtain⟨K2,e2⟩:∃z:Int,z=K1+((1:Nat):Int):=⟨_,rfl⟩;obtain⟨K3,e3⟩:∃z:Int,z=K2+((1:Nat):Int):=⟨_,rfl⟩;obtain⟨K4,e4⟩:∃z:Int,z=K3+((1:Nat):Int):=⟨_,rfl⟩;obtain⟨K5,e5⟩:∃z:Int,z=K4+((1:Nat):Int):=⟨_,rfl⟩;obtain⟨K6,e6⟩:∃z:Int,z=K5+((1:Nat):Int):=⟨_,rfl⟩;obtain⟨K7,e7⟩:∃z:Int,z=K6+(x.Body.aO.length:Int):=⟨_,rfl⟩;obtain⟨K8,e8⟩:∃z:Int,z=K7+((yz x.Body.aP:Nat):Int):=⟨_,rfl⟩;have eL:k+((1+1+1+TJ x.Body:Nat):Int)=K8:=by omega
 have o0:k+((0:Nat):Int)=k:=by omega
 have o1:k+((1:Nat):Int)=K1:=by omega
 have o2:k+((1+1:Nat):Int)=K2:=by omega
 have o3:k+((1+1+1:Nat):Int)=K3:=by omega
 rw[eL];rw[bP.iG,bP.iG];unfold DX;simp only[Lh,o0,o1,o2,o3];have i0:K3+1=K4:=by omega
 have i1:K3+2=K5:=by omega
 have i2:K6+(x.Body.aO.length:Int)=K7:=by omega
 have i3:K3+3=K6:=by omega
 simp only[i0,i1,i2,i3];refine CS.ei' (k1:=K1) ⟨aI,aI⟩ ⟨aI,aI⟩ aI mD ?_;refine CS.es' (k1:=K2) ⟨aI,aI⟩ ⟨aI,aI⟩ aI mD ?_;refine CS.ei' (k1:=K3) ⟨aI,aI⟩ ⟨aI,aI⟩ aI mD ?_;refine CS.ei' (k1:=K4) ⟨aI,aI⟩ ⟨aI,aI⟩ aI mD ?_;refine CS.ei' (k1:=K5) ⟨aI,aI⟩ ⟨aI,aI⟩ aI mD ?_;refine CS.es' (k1:=K6) ⟨aI,aI⟩ ⟨aI,aI⟩ aI mD ?_;refine CS.ef (k1:=K7) (c:=.sl 1 (x.Body.aO.map cS)) mD ((Iq M x.Body.aO aI aI).to aI) ?_;refine CS.ef (k1:=K8) (c:=.sl 5 (x.Body.aP.map aj.cells)) mD ((VO M x.Body.aP aI aI).to (by rw[Oa];omega)) ?_;simpa using CS.e0
theorem aaV {mt:FI}{fS fN tS tN tX fX:Nat}(M:MT mt fS fN tS tN)(hX:mt fX=some (tX,8,KP fS fN))(l:List bP){k:Int}(h0:0<=k)(h1:k+(Aj l:Nat)<4611686018427387904):CS mt tx (.C fX (.sl 8 (l.map bP.cells)) k (.sl 8 ((Js l k).map bP.cells)) (k+(Aj l:Nat))):=
 .c hX ⟨h0,aI⟩ (aeB (λx _ a b=>Y4 M x a b) l h0 h1)
theorem aam {P:Program}{tS tN tP:Nat}(H:TyH P tS tN tP)(x:bP)(a b:Nat)(j sz:Nat)(es:List (List Cell))(h:x.cells[j]? = some (.sl sz es)):∃r,r∈[(6,tS,a),(7,tN,b)]/\r.1=j/\NU P r.2.1 (.sl sz es):=by
 rw[bP.iG]at h
 match j,h with
 | 6,h=>simp only[eX,eY,aH,Cell.sl.injEq]at h;obtain⟨rfl,rfl⟩:=h;exact⟨(6,tS,a),mD,rfl,F6 H.s _⟩
 | 7,h=>simp only[eX,eY,aH,Cell.sl.injEq]at h;obtain⟨rfl,rfl⟩:=h;exact⟨(7,tN,b),mD,rfl,IG H.s H.n H.rn _⟩
 |0,h=>simp at h
 |1,h=>simp at h
 |2,h=>simp at h
 |3,h=>simp at h
 |4,h=>simp at h
 |5,h=>simp at h
 |j+8,h=>simp at h
theorem Xk {P:Program}{tS tN tP tX:Nat}(H:TyH P tS tN tP)(h4:xO P tX=8)(h5:oD P tX=[(6,tS),(7,tN)])(l:List bP):NU P tX (.sl 8 (l.map bP.cells)):=by refine ajC (fn:=λj=>(if j=7 then tN else tS)) h4 (λo j sz' es' h=>?_) l;obtain⟨r,hr,rfl,ht⟩:=aam H o 0 0 j sz' es' h;simp only[aK,iW,or_false]at hr;rcases hr with rfl|rfl<;>exact⟨by simp[h5],by simpa using ht⟩
theorem T.WY (l:List bP){k:Int}(h0:0<=k)(h1:k+(JH uX l:Nat)<4611686018427387904)(hlen:l.length<4611686018427387904):Ev (λf=>G.jE f (mkL DX uX l k) k) (k+(JH uX l:Nat)):=by
 have L:∀(m i:Nat),i+m=l.length->Ev (λf=>G.jE.L1 f (mkL DX uX l k) (k+(JH uX (l.take i):Nat)) i) (k+(JH uX l:Nat)):=by
  intro m
  induction m with
  | zero=>intro i hi;refine aN ?_;simp only[G.jE.L1,QE];exact sH (aT (by rw[bz aI]))
  | succ m ih=>
    intro i hi;have hil:i<l.length:=(by omega);have hs:=VL uX l hil;have hle:=adh uX l (i+1);have hg:=Y2 DX uX l k hil;generalize hq:l.getD i default=q at hs hg;rw[show uX q=1+1+1+TJ q.Body from rfl]at hs;obtain⟨K0,e0⟩:∃z:Int,z=k+(JH uX (l.take i):Nat):=⟨_,rfl⟩;rw[<- e0]at hg;have alR:=Gz q.Body;obtain⟨K1,e1⟩:∃z:Int,z=K0+((1:Nat):Int):=⟨_,rfl⟩;obtain⟨K2,e2⟩:∃z:Int,z=K1+((1:Nat):Int):=⟨_,rfl⟩;obtain⟨K3,e3⟩:∃z:Int,z=K2+((1:Nat):Int):=⟨_,rfl⟩;obtain⟨K4,e4⟩:∃z:Int,z=K3+((1:Nat):Int):=⟨_,rfl⟩;obtain⟨K5,e5⟩:∃z:Int,z=K4+((1:Nat):Int):=⟨_,rfl⟩;obtain⟨K6,e6⟩:∃z:Int,z=K5+((1:Nat):Int):=⟨_,rfl⟩;obtain⟨K7,e7⟩:∃z:Int,z=K6+(q.Body.aO.length:Int):=⟨_,rfl⟩;obtain⟨K8,e8⟩:∃z:Int,z=K7+((yz q.Body.aP:Nat):Int):=⟨_,rfl⟩;have o0:K0+((0:Nat):Int)=K0:=(by omega);have o1:K0+((1:Nat):Int)=K1:=(by omega);have o2:K0+((1+1:Nat):Int)=K2:=(by omega);have o3:K0+((1+1+1:Nat):Int)=K3:=(by omega);have i0:K3+1=K4:=(by omega);have i1:K3+2=K5:=(by omega);have i2:K6+(q.Body.aO.length:Int)=K7:=(by omega);have i3:K3+3=K6:=(by omega);generalize hz:DX q K0=z at hg;unfold DX at hz;simp only[Lh,o0,o1,o2,o3]at hz;simp only[i0,i1,i2,i3]at hz;subst hz;have w0:af .i64 (K0+1)=K1:=(by rw[CV aI aI];omega);have w1:af .i64 (K1+1)=K2:=(by rw[CV aI aI];omega);have w2:af .i64 (K2+1)=K3:=(by rw[CV aI aI];omega);have w3:af .i64 (K3+1)=K4:=(by rw[CV aI aI];omega);have w4:af .i64 (K4+1)=K5:=(by rw[CV aI aI];omega);have w5:af .i64 (K5+1)=K6:=(by rw[CV aI aI];omega);have g6:=(T.VF (l:=q.Body.aO) (k:=K6) aI aI).eq (show _=K7 by omega);have g7:=(T.XG q.Body.aP (k:=K7) aI aI).eq (show _=K8 by omega);have e9:=ih (i+1) aI;have e8:k+((JH uX (l.take (i+1)):Nat):Int)=K8:=(by omega);rw[e8]at e9;rw[<- e0];refine aN ?_;simp only[G.jE.L1,QE,ai,hg,FC i];refine sG ?_;refine dA (dB mD ?_)
    try simp only[w0]
    refine dA (ak (WI ⟨aI,aI⟩) (dR mD ?_))
    try simp only[w1]
    refine dA (dB mD ?_)
    try simp only[w2]
    refine dA (dB mD ?_)
    try simp only[w3]
    refine dA (dB mD ?_)
    try simp only[w4]
    refine dA (ak (WI ⟨aI,aI⟩) (dR mD ?_))
    try simp only[w5]
    refine dA (ak g6 (sH ?_));refine dA (ak g7 (sH ?_));exact e9
 refine aN ?_;simp only[G.jE];have:=L l.length 0 aI;simpa[JH]using this
section
variable {mt:FI} {sb:ab5} {fS fN tS tN fP tP fI tI fM:Nat} {ty:Nat->Nat}
noncomputable def adl (s:bU)(k:Int):bU:=bU.mk (aeA s.bH k) s.kY
theorem abz (M:MT mt fS fN tS tN)(hI:mt fI=some (tI,7,P6 fS fN))(h0':ty 0=tI)(s:bU){k:Int}(h0:0<=k)(h1:k+(yU s.bH:Nat)<4611686018427387904):SR mt sb tx ty [.sl 0 fI] s.cells k (adl s k).cells (k+(yU s.bH:Nat)):=by have e1:=akU M hI s.bH h0 h1;rw[bU.iG,bU.iG];refine .sl (c:=.sl 7 (s.bH.map fA.cells)) rfl ⟨_,_,by rw[h0'];exact hI⟩ e1 ?_;simpa[adl]using SR.nil
end
theorem aan {P:Program}{tS tN tP tI:Nat}(H:TyH P tS tN tP)(h4:xO P tI=7)(h5:oD P tI=[(5,tS),(6,tN)])(x:bU)(a:Nat)(j sz:Nat)(es:List (List Cell))(h:x.cells[j]? = some (.sl sz es)):∃r,r∈[(0,tI,a)]/\r.1=j/\NU P r.2.1 (.sl sz es):=by
 rw[bU.iG]at h
 match j,h with
 | 0,h=>simp only[eY,aH,Cell.sl.injEq]at h;obtain⟨rfl,rfl⟩:=h;exact⟨(0,tI,a),mD,rfl,agS H h4 h5 _⟩
 |1,h=>simp at h
 |j+2,h=>simp at h
theorem T.afX (s:bU){k:Int}(h0:0<=k)(h1:k+(yU s.bH:Nat)<4611686018427387904)(hl:s.bH.length<4611686018427387904):Ev (λf=>G.vH f (adl s k) k) (k+(yU s.bH:Nat)):=by refine aN ?_;simp only[G.vH,adl];exact ak (T.afW s.bH h0 h1 hl) (sH (bK _))
end
section
def okN (b:UInt8):Bool:=(decide (97<=b.toNat)&&decide (b.toNat<=122))||(decide (48<=b.toNat)&&decide (b.toNat<=57))
def NmV (s:fC):Bool:=s.all okN&&(decide (1<=s.length)&&decide (s.length<=8))
def ItV (c:Int)(it:fA):Bool:=NmV it.iC&&(Val it.pO&&(decide (1<=it.mW)&&decide (it.mW<=c)))
def Dq (l:List fA):List fC:=l.map λit=>it.iC
def JO (s:bU):Bool:=(s.bH.all (ItV s.kY)&&Asc (Dq s.bH))&&(decide (s.bH.length<=10)&&(decide (0<=s.kY)&&decide (s.kY<=999)))
structure Ht (B:Nat)(s:bU):Prop where
 len:s.bH.length<=B
 TL:∀it,it∈s.bH->it.iC.length<=B
 XZ:∀it,it∈s.bH->ZP B it.pO
theorem Cf {l:List fA} : (Dq l).length=l.length:=by unfold Dq;rw[List.length_map]
theorem JJ {l:List fA}{i:Nat}(h:i<l.length):(Dq l).getD i default=(l.getD i default).iC:=by rw[iD _ (by rw[Cf];exact h),iD _ h];unfold Dq;rw[List.getElem_map]
theorem aab {l:List fC}{i:Nat}(h0:0<i)(h:i<l.length):Asc (l.drop (i-1))=(bl (l.getD (i-1) default) (l.getD i default)&&Asc (l.drop i)):=by rw[drop_pred h0 h,Asc,gu (default:fC) h]
theorem ad7 {l:List fC}{i:Nat}(h:l.length<=i):Asc (l.drop (i-1))=true:=by
 by_cases h0:l.length<=i-1
 ·rw[ay h0];rfl
 ·rw[gu (default:fC) (by omega:i-1<l.length),ay aI];rfl
theorem T.jC.L1 (s:fC)(hs:s.length<big):∀(k i:Nat),i+k=s.length->Ev (λf=>G.jC.L1 f s i) ((s.drop i).all okN&&(decide (1<=s.length)&&decide (s.length<=8))):=by
 unfold big at hs;intro k
 induction k with
 | zero=>
   intro i hi;refine aN ?_;simp only[G.jC.L1];refine sH (ak (T.iP _ _ _) (aT ?_));rw[ay aI,zX,dS]
   congr 1<;>(apply decide_eq_decide.2;omega)
 | succ k ih=>
   intro i hi;refine aN ?_;simp only[G.jC.L1,ai,J6,FC i];rw[gu (0:UInt8) (by omega:i<s.length),gU];have e1:(decide ((97:Int)<=((s.getD i 0).toNat:Int))&&decide (((s.getD i 0).toNat:Int)<=122))=(decide (97<=(s.getD i 0).toNat)&&decide ((s.getD i 0).toNat<=122)):=(by congr 1<;>(apply decide_eq_decide.2;omega));have e2:(decide ((48:Int)<=((s.getD i 0).toNat:Int))&&decide (((s.getD i 0).toNat:Int)<=57))=(decide (48<=(s.getD i 0).toNat)&&decide ((s.getD i 0).toNat<=57)):=(by congr 1<;>(apply decide_eq_decide.2;omega));refine sG (dA (ak (T.iP _ _ _) ?_));rw[e1];refine dh (λh=>?_) (λh=>?_)
   ·refine(ih (i+1) aI).eq ?_;unfold okN;rw[show(decide (97<=(s.getD i 0).toNat)&&decide ((s.getD i 0).toNat<=122))=true from h,zW,dS]
   ·refine dA (ak (T.iP _ _ _) ?_);rw[e2];refine dh (λh2=>?_) (λh2=>aT ?_)
    ·refine(ih (i+1) aI).eq ?_;unfold okN;rw[show(decide (48<=(s.getD i 0).toNat)&&decide ((s.getD i 0).toNat<=57))=true from h2,yl,dS]
    ·unfold okN;rw[show(decide (97<=(s.getD i 0).toNat)&&decide ((s.getD i 0).toNat<=122))=false from h,show(decide (48<=(s.getD i 0).toNat)&&decide ((s.getD i 0).toNat<=57))=false from h2];rfl
theorem T.jC (s:fC)(hs:s.length<big):Ev (λf=>G.jC f s) (NmV s):=by refine aN ?_;simp only[G.jC];exact T.jC.L1 s hs s.length 0 aI
theorem T.kQ.L1 (s:fC)(hs:s.length<big):∀(k i:Nat),i+k=s.length->Ev (λf=>G.kQ.L1 f s i) ((s.drop i).all okN):=by
 unfold big at hs;intro k
 induction k with
 | zero=>intro i hi;refine aN ?_;simp only[G.kQ.L1];refine sH (aT ?_);rw[ay aI];rfl
 | succ k ih=>
   intro i hi;refine aN ?_;simp only[G.kQ.L1,ai,FC i];rw[gu (0:UInt8) (by omega:i<s.length),gU];have yes:okN (s.getD i 0)=true->Ev (λf=>G.kQ.L1 f s ((i+1:Nat):Int)) (okN (s.getD i 0)&&(s.drop (i+1)).all okN):=λh=>(ih (i+1) aI).eq (by rw[h];rfl);have no:okN (s.getD i 0)=false->Ev (λ_=>some false) (okN (s.getD i 0)&&(s.drop (i+1)).all okN):=λh=>aT (by rw[h];rfl);have ok:okN (s.getD i 0)=decide ((97<=(s.getD i 0).toNat/\(s.getD i 0).toNat<=122)\/(48<=(s.getD i 0).toNat/\(s.getD i 0).toNat<=57)):=(by unfold okN;simp);refine sG (dA ?_);refine dh (λh=>?_) (λh=>?_)
   ·simp only[aC]at h;refine dA (dh (λh2=>?_) (λh2=>?_))
    ·simp only[aC]at h2;exact no (by rw[ok];exact bg aI)
    ·simp only[dn]at h2;refine dA (dh (λh3=>?_) (λh3=>?_))
     ·simp only[aC]at h3;exact no (by rw[ok];exact bg aI)
     ·simp only[dn]at h3;exact yes (by rw[ok];exact dW aI)
   ·simp only[dn]at h;refine dA (dh (λh2=>?_) (λh2=>?_))
    ·simp only[aC]at h2;refine dA (sH (dA (sG ?_)));exact no (by rw[ok];exact bg aI)
    ·simp only[dn]at h2;exact yes (by rw[ok];exact dW aI)
theorem T.kQ (s:fC)(hs:s.length<big):Ev (λf=>G.kQ f s) (NmV s):=by
 refine aN ?_;simp only[G.kQ];unfold NmV;refine dh (λh=>aT ?_) (λh=>dh (λh2=>aT ?_) (λh2=>?_))
 ·have:s=[]:=by simpa using h
  subst this;rfl
 ·simp only[aC]at h2;rw[bg (show ¬s.length<=8 by omega),rP,rP]
 ·simp only[dn]at h2;have hne:s≠[]:=by simpa using h
  have hl:1<=s.length:=by cases s with
   |nil=>exact eF rfl hne
   |cons _ _=>simp
  refine(T.kQ.L1 s hs s.length 0 aI).eq ?_;rw[dW hl,dW (show s.length<=8 by omega),dM];simp
def al4 (B:Nat)(n:aj):Prop:=∃D,Aq B D n
structure WU (B:Nat)(s:bU):Prop where
 len:s.bH.length<=B
 TL:∀it,it∈s.bH->it.iC.length<=B
 XZ:∀it,it∈s.bH->al4 B it.pO
theorem WU.at_ {B:Nat}{s:bU}(h:WU B s){i:Nat}(hi:i<s.bH.length):(s.bH.getD i default).iC.length<=B/\al4 B (s.bH.getD i default).pO:=
 ⟨h.TL _ (getD_mem default hi),h.XZ _ (getD_mem default hi)⟩
section
variable {B:Nat} {s:bU} (hB:B<=lim) (h:WU B s)
include hB h
theorem T0.gX.L1 : ∀(k i:Nat),i+k=s.bH.length->Ev (λf=>G.gX.L1 f s i) (((s.bH.drop i).all (ItV s.kY)&&Asc ((Dq s.bH).drop (i-1)))&&(decide (s.bH.length<=10)&&(decide (0<=s.kY)&&decide (s.kY<=999)))):=by
 have hl:=h.len;unfold lim at hB;intro k
 induction k with
 | zero=>
   intro i hi;refine aN ?_;simp only[G.gX.L1];rw[ay aI,ad7 (by rw[Cf];omega)];refine sH (dh (λe=>?_) (λe=>aT ?_))
   ·refine ak (T.iP _ _ _) (aT ?_);rw[dW (show s.bH.length<=10 by simp only[aC]at e;omega)];simp
   ·rw[bg (show ¬s.bH.length<=10 by simp only[dn]at e;omega)];simp
 | succ k ih=>
   intro i hi;have hil:i<s.bH.length:=(by omega);obtain⟨hn,⟨D,hd⟩⟩:=h.at_ hil;refine aN ?_;simp only[G.gX.L1,ai,FC i];rw[gu (default:fA) hil,gU];refine sG (dA ?_);unfold ItV;refine ak (T.jC _ (by unfold big;omega)) (dh (λe1=>?_) (λe1=>aT (by rw[e1];simp)));refine ak (T0.iI (by unfold lim;omega) hd) (dh (λe2=>?_) (λe2=>aT (by rw[e2];simp)));refine ak (T.iP _ _ _) (dh (λe3=>?_) (λe3=>aT (by rw[e3];simp)));rw[e1,e2,e3];have ih':=ih (i+1) aI;unfold ItV at ih';rw[jJ]at ih';by_cases h0:0<i
   ·have e:af .i64 ((i:Int)-1)=((i-1:Nat):Int):=wrapN aI aI;rw[e,ai];rw[aab h0 (by rw[Cf];exact hil),JJ hil,JJ (by omega:i-1<s.bH.length)];refine sG (dA (dh (λh1=>aT ?_) (λh1=>dh (λh2=>aT ?_) (λh2=>?_))))
    ·rw[show bl (s.bH.getD (i-1) default).iC (s.bH.getD i default).iC=false from U2 h1];simp
    ·rw[aY]at h2;rw[show bl (s.bH.getD (i-1) default).iC (s.bH.getD i default).iC=false by rw[h2];exact Rw _];simp
    ·have hb:bl (s.bH.getD (i-1) default).iC (s.bH.getD i default).iC=true:=by
      cases hb:bl (s.bH.getD (i-1) default).iC (s.bH.getD i default).iC with
      |true=>rfl
      |false=>rw[O7 h1 hb]at h2;simp at h2
     rw[hb];exact ih'.eq mD
   ·have:i=0:=(by omega);subst this;exact dB xM (ih'.eq mD)
theorem T0.gX : Ev (λf=>G.gX f s) (JO s):=by refine aN ?_;simp only[G.gX];exact T0.gX.L1 hB h s.bH.length 0 aI
theorem T0.dY.L1 : ∀(k i:Nat),i+k=s.bH.length->Ev (λf=>G.dY.L1 f s i) ((s.bH.drop i).all (ItV s.kY)&&Asc ((Dq s.bH).drop (i-1))):=by
 have hl:=h.len;unfold lim at hB;intro k
 induction k with
 | zero=>intro i hi;refine aN ?_;simp only[G.dY.L1];rw[ay aI,ad7 (by rw[Cf];omega)];exact sH (bK _)
 | succ k ih=>
   intro i hi;have hil:i<s.bH.length:=(by omega);obtain⟨hn,⟨D,hd⟩⟩:=h.at_ hil;refine aN ?_;simp only[G.dY.L1,ai,FC i];rw[gu (default:fA) hil,gU];have ih':=ih (i+1) aI;rw[jJ]at ih';refine sG (dA ?_);refine ak (T.kQ _ (by unfold big;omega)) (dh (λe1=>?_) (λe1=>aT (by unfold ItV;rw[e1];simp)));have tail:∀q:Bool,(q=true->Asc ((Dq s.bH).drop (i-1))=Asc ((Dq s.bH).drop i))->q=true->Ev (λf=>cond (decide ((s.bH.getD i default).mW<1)) (some false) (cond (decide (s.kY<(s.bH.getD i default).mW)) (some false)
    (mV (G.dm f (s.bH.getD i default).pO) λv=>cond v (G.dY.L1 f s ((i+1:Nat):Int)) (some false)))) (ItV s.kY (s.bH.getD i default)&&(s.bH.drop (i+1)).all (ItV s.kY)&&Asc ((Dq s.bH).drop (i-1))):=λq hq hq'=>by
    rw[hq hq'];refine dh (λv1=>aT ?_) (λv1=>dh (λv2=>aT ?_) (λv2=>?_))
    ·simp only[aC]at v1;unfold ItV;rw[bg (show ¬ 1<=(s.bH.getD i default).mW by omega)];simp
    ·simp only[aC]at v2;unfold ItV;rw[bg (show ¬(s.bH.getD i default).mW<=s.kY by omega)];simp
    ·simp only[dn]at v1 v2;refine ak (T0.dm (by unfold lim;omega) hd) (dh (λe2=>?_) (λe2=>aT (by unfold ItV;rw[e2];simp)));refine ih'.eq ?_;have:ItV s.kY (s.bH.getD i default)=true:=by
      unfold ItV;rw[e1,e2,dW (show 1<=(s.bH.getD i default).mW by omega),dW (show(s.bH.getD i default).mW<=s.kY by omega)];rfl
     rw[this];rfl
   by_cases h0:0<i
   ·have e:af .i64 ((i:Int)-1)=((i-1:Nat):Int):=wrapN aI aI;rw[e,ai];have hst:=aab h0 (l:=Dq s.bH) (by rw[Cf];exact hil);rw[JJ hil,JJ (by omega:i-1<s.bH.length)]at hst;refine sG (dA (dh (λh1=>?_) (λh1=>aT ?_)))
    ·exact tail true (λ_=>by rw[hst,show bl (s.bH.getD (i-1) default).iC (s.bH.getD i default).iC=true from h1];rfl) rfl
    ·rw[hst,show bl (s.bH.getD (i-1) default).iC (s.bH.getD i default).iC=false from h1];simp
   ·have:i=0:=(by omega);subst this;exact dB xM (tail true (λ_=>rfl) rfl)
theorem T0.dY : Ev (λf=>G.dY f s) (JO s):=by
 refine aN ?_;simp only[G.dY];unfold JO;refine dh (λe=>aT ?_) (λe=>dh (λe2=>aT ?_) (λe2=>dh (λe3=>aT ?_) (λe3=>?_)))
 ·rw[bg (show ¬s.bH.length<=10 by simp only[aC]at e;omega)];simp
 ·rw[bg (show ¬ 0<=s.kY by simp only[aC]at e2;omega)];simp
 ·rw[bg (show ¬s.kY<=999 by simp only[aC]at e3;omega)];simp
 ·simp only[dn]at e e2 e3;refine(T0.dY.L1 hB h s.bH.length 0 aI).eq ?_;rw[dW (show s.bH.length<=10 by omega),dW (show 0<=s.kY by omega),dW (show s.kY<=999 by omega),dM];simp
end
theorem Ht.at_ {B:Nat}{s:bU}(h:Ht B s){i:Nat}(hi:i<s.bH.length):(s.bH.getD i default).iC.length<=B/\ZP B (s.bH.getD i default).pO:=
 ⟨h.TL _ (getD_mem default hi),h.XZ _ (getD_mem default hi)⟩
theorem Ht.fin {B:Nat}{s:bU}(h:Ht B s):WU B s:=⟨h.len,h.TL,λit hi=>let ⟨D,hd⟩:=h.XZ it hi;⟨D,hd.fin0⟩⟩
section
variable {B:Nat} {s:bU} (hB:B<=lim) (h:Ht B s)
include hB h
theorem T.gX : Ev (λf=>G.gX f s) (JO s):=T0.gX hB h.fin
theorem T.dY : Ev (λf=>G.dY f s) (JO s):=T0.dY hB h.fin
theorem T.fZ : Ev (λf=>G.fZ f s) s:=by
 have hl:=h.len;unfold lim at hB;have L:∀(k i:Nat),i+k=s.bH.length->Ev (λf=>G.fZ.L1 f s i (s.bH.take i)) s:=by
  intro k
  induction k with
  | zero=>intro i hi;refine aN ?_;simp only[G.fZ.L1];refine sH (aT ?_);rw[bz aI]
  | succ k ih=>intro i hi;have hil:i<s.bH.length:=(by omega);obtain⟨hn,⟨D,hd⟩⟩:=h.at_ hil;refine aN ?_;simp only[G.fZ.L1,ai,FC i];refine sG (dA (dA (dA (ak (T.cO (by unfold lim;omega) hd) (um (by simp;omega) ?_)))));have:=ih (i+1) aI;rw[kC hil,<- iD (default:fA) hil]at this;exact this
 refine aN ?_;simp only[G.fZ];exact L s.bH.length 0 aI
theorem T.fG : Ev (λf=>G.fG f s) s:=by
 have hl:=h.len;unfold lim at hB;have L:∀(k i:Nat),i+k=s.bH.length->Ev (λf=>G.fG.L1 f s i (s.bH.take i++bW (s.bH.length-i) (fA.mk [] 0 (aj.mk 0 0 [] [] [])))) s:=by
  intro k
  induction k with
  | zero=>intro i hi;refine aN ?_;simp only[G.fG.L1];refine sH (aT ?_);rw[bz aI,show s.bH.length-i=0 by omega,List.replicate_zero,mM]
  | succ k ih=>
    intro i hi;have hil:i<s.bH.length:=(by omega);obtain⟨hn,⟨D,hd⟩⟩:=h.at_ hil;have hc:Ev (λf=>G.su f (s.bH.getD i default)) (s.bH.getD i default):=by refine aN ?_;simp only[G.su];exact ak (T.bC (by unfold lim;omega) hd) (bK _)
    refine aN ?_;simp only[G.fG.L1,ai,FC i];refine sG (dA (ak hc (um (by simp;omega) ?_)));have hset:(s.bH.take i++bW (s.bH.length-i) (fA.mk [] 0 (aj.mk 0 0 [] [] []))).set i (s.bH.getD i default)=s.bH.take (i+1)++bW (s.bH.length-(i+1)) (fA.mk [] 0 (aj.mk 0 0 [] [] [])):=by obtain⟨q,hq⟩:∃q,s.bH.length-i=q+1:=⟨s.bH.length-i-1,aI⟩;have e1:(s.bH.take i).length=i:=(by simp;omega);rw[hq,List.replicate_succ,List.set_append_right _ _ aI,e1,Nat.sub_self,Ji,show s.bH.length-(i+1)=q by omega,kC hil,iD _ hil,ji];rfl
    rw[hset];exact ih (i+1) aI
 refine aN ?_;simp only[G.fG];refine dh (λe=>?_) (λe=>aT ?_)
 ·refine dA ?_;have:=L s.bH.length 0 aI;rw[List.take_zero,lu,Nat.sub_zero]at this;exact this
 ·have:s.bH=[]:=gJ (by simp only[dn]at e;omega);cases s;simp only at this;subst this;rfl
end
structure StF (s:bU):Prop where
 itm:∀it,it∈s.bH->ItV s.kY it=true
 P7:Asc (Dq s.bH)=true
 len:s.bH.length<=10
 lo:0<=s.kY
 hi:s.kY<=999
theorem Ci {s:bU} : JO s=true<->StF s:=by unfold JO;simp only[ah,aC,bf];exact⟨λ⟨⟨h1,h2⟩,h3,h4,h5⟩=>⟨h1,h2,h3,h4,h5⟩,λh=>⟨⟨h.itm,h.P7⟩,h.len,h.lo,h.hi⟩⟩
structure ItF (c:Int)(it:fA):Prop where
 TL:NmV it.iC=true
 XZ:Val it.pO=true
 lo:1<=it.mW
 hi:it.mW<=c
theorem Sl {c:Int}{it:fA} : ItV c it=true<->ItF c it:=by unfold ItV;simp only[ah,aC];exact⟨λ⟨h1,h2,h3,h4⟩=>⟨h1,h2,h3,h4⟩,λh=>⟨h.TL,h.XZ,h.lo,h.hi⟩⟩
theorem VR {s:fC}(h:NmV s=true):1<=s.length/\s.length<=8:=by unfold NmV at h;simp only[ah,aC]at h;exact h.2
theorem StF.it {s:bU}(h:StF s){i:Nat}(hi:i<s.bH.length):ItF s.kY (s.bH.getD i default):=Sl.1 (h.itm _ (getD_mem default hi))
theorem StF.fine {s:bU}(h:StF s):Ht 60 s:=
 ⟨by have:=h.len;omega,λit hi=>by have:=(VR (Sl.1 (h.itm it hi)).TL).2;omega,λit hi=>⟨5,Eo (Sl.1 (h.itm it hi)).XZ⟩⟩
def agp : bU:=bU.mk [] 0
theorem T.ahW.L1 {l:List fA}(t:fC)(hl:l.length<big)(hA:∀i j,i<j->j<(Dq l).length->bl ((Dq l).getD i default) ((Dq l).getD j default)=true) :
 ∀ (k i j:Nat),j-i<=k->i<=j->j<=l.length->(∀q,q<i->bl ((Dq l).getD q default) t=true)->(∀q,j<=q->q<(Dq l).length->bl ((Dq l).getD q default) t=false) ->
   ∃p:Nat,Ev (λf=>G.aW.L1 f l t i j) ((p:Int),decide (p<l.length)&&(l.getD p default).iC==t)/\LB (Dq l) t p:=by
 unfold big at hl;have cmp:∀i,Ev (λf=>G.sQ f (l.getD i default) t) (jZ (l.getD i default).iC t):=λi=>by
  refine aN ?_;simp only[G.sQ];have h1:Ev (λf=>G.strings_Compare f (l.getD i default).iC t) (jZ (l.getD i default).iC t):=by
   refine aN ?_;simp only[G.strings_Compare];have:Ev (λf=>G.iH f (l.getD i default).iC t) (jZ (l.getD i default).iC t):=by refine aN ?_;simp only[G.iH];exact bK _
   exact ak this (bK _)
  exact ak h1 (bK _)
 have neg:∀x y:fC,decide (jZ x y<0)=bl x y:=λx y=>by
  rw[amg];cases h:bl x y with
  |true=>rw[aA rfl];rfl
  |false=>rw[au mD];by_cases e:x=y<;>simp[e]
 have eqz:∀x y:fC,(jZ x y==0)=(x==y):=λx y=>by rw[tH,aY,aY];exact XB
 intro k
 induction k with
 | zero=>
   intro i j hk hij hj hlo hhi;have:i=j:=(by omega);subst this;refine⟨i,aN ?_,by rw[Cf];exact hj,hlo,hhi⟩;simp only[G.aW.L1,ai];refine dB mD (dh (λe=>?_) (λe=>aT ?_))
   ·have e':i<l.length:=(by simpa using e);refine dA (ak (cmp i) (aT ?_));rw[eqz,dW e',dS]
   ·have d1:decide (i<l.length)=false:=(by simpa using e);rw[d1];rfl
 | succ k ih=>
   intro i j hk hij hj hlo hhi;by_cases he:i=j
   ·exact ih i j aI hij hj hlo hhi
   have h1:(i+j)/2<j:=(by omega);have h2:i<=(i+j)/2:=(by omega);have hat:=JJ (l:=l) (i:=(i+j)/2) aI;cases hc:bl ((Dq l).getD ((i+j)/2) default) t with
   | true=>
     obtain⟨p,g,hp⟩:=ih ((i+j)/2+1) j aI aI hj (λq hq=>by
      by_cases hq2:q=(i+j)/2
      ·rw[hq2];exact hc
      ·exact DR (hA q ((i+j)/2) aI (by rw[Cf];omega)) hc) hhi
     refine⟨p,aN ?_,hp⟩;simp only[G.aW.L1];refine dR (by simp;omega) ?_;rw[half i j aI,ai];refine dA (ak (cmp _) (dR (by rw[neg,<- hat];exact hc) ?_));rw[tu aI];exact g
   | false=>
     obtain⟨p,g,hp⟩:=ih i ((i+j)/2) aI h2 aI hlo (λq hq hq2=>by
      by_cases hq3:q=(i+j)/2
      ·rw[hq3];exact hc
      ·cases hb:bl ((Dq l).getD q default) t with
       |false=>rfl
       |true=>rw[DR (hA ((i+j)/2) q aI hq2) hb]at hc;cases hc)
     refine⟨p,aN ?_,hp⟩;simp only[G.aW.L1];refine dR (by simp;omega) ?_;rw[half i j aI,ai];refine dA (ak (cmp _) (dB (by rw[neg,<- hat];exact hc) ?_));exact g
theorem T.nZ {l:List fA}(t:fC)(hl:l.length<big)(hA:Asc (Dq l)=true) :
 ∃p:Nat,Ev (λf=>G.nZ f l t) ((p:Int),decide (p<l.length)&&(l.getD p default).iC==t)/\LB (Dq l) t p:=by
 obtain⟨p,g,hp⟩:=T.ahW.L1 t hl (He hA) l.length 0 l.length aI aI aI (λq hq=>by omega) (λq h1 h2=>by rw[Cf]at h2;omega);refine⟨p,aN ?_,hp⟩;simp only[G.nZ];have g':Ev (λf=>G.aW f l t) ((p:Int),decide (p<l.length)&&(l.getD p default).iC==t):=by refine aN ?_;simp only[G.aW];exact g
 exact ak g' (bK _)
end
section
def okH (b:UInt8):Bool:=(decide (48<=b.toNat)&&decide (b.toNat<=57))||(decide (97<=b.toNat)&&decide (b.toNat<=102))
def WV (s:fC):Bool:=s.all okH&&decide (s.length=4)
def ZV (s:fC):Bool:=s==[42]||WV s
def JS (l:List fC):Bool:=l.all ZV&&decide (l.length<=4)
def hexD : fC:=[48,49,50,51,52,53,54,55,56,57,97,98,99,100,101,102]
theorem akN : ∀n:Nat,n<256->decide (xB hexD (gy n)<0) = !okH (gy n):=by decide +kernel
theorem amB (b:UInt8):decide (xB hexD b<0) = !okH b:=by
 have:=akN b.toNat b.toNat_lt
 rwa[EH]at this
theorem T.lS (s:fC)(hs:s.length<big):Ev (λf=>G.lS f s) (WV s):=by
 unfold big at hs;have L:∀(k i:Nat),i+k=s.length->Ev (λf=>G.lS.L1 f s i) ((s.drop i).all okH&&decide (s.length=4)):=by
  intro k
  induction k with
  | zero=>intro i hi;refine aN ?_;simp only[G.lS.L1];refine sH (aT ?_);rw[ay aI,zX,dS,tH,aY,aC];omega
  | succ k ih=>
    intro i hi;refine aN ?_;simp only[G.lS.L1,ai,J6,FC i];rw[gu (0:UInt8) (by omega:i<s.length),gU];have e1:(decide ((48:Int)<=((s.getD i 0).toNat:Int))&&decide (((s.getD i 0).toNat:Int)<=57))=(decide (48<=(s.getD i 0).toNat)&&decide ((s.getD i 0).toNat<=57)):=(by congr 1<;>(apply decide_eq_decide.2;omega));have e2:(decide ((97:Int)<=((s.getD i 0).toNat:Int))&&decide (((s.getD i 0).toNat:Int)<=102))=(decide (97<=(s.getD i 0).toNat)&&decide ((s.getD i 0).toNat<=102)):=(by congr 1<;>(apply decide_eq_decide.2;omega));refine sG (dA (ak (T.iP _ _ _) ?_));rw[e1];refine dh (λh=>?_) (λh=>?_)
    ·refine(ih (i+1) aI).eq ?_;unfold okH;rw[show(decide (48<=(s.getD i 0).toNat)&&decide ((s.getD i 0).toNat<=57))=true from h,zW,dS]
    ·refine dA (ak (T.iP _ _ _) ?_);rw[e2];refine dh (λh2=>?_) (λh2=>aT ?_)
     ·refine(ih (i+1) aI).eq ?_;unfold okH;rw[show(decide (97<=(s.getD i 0).toNat)&&decide ((s.getD i 0).toNat<=102))=true from h2,yl,dS]
     ·unfold okH;rw[show(decide (48<=(s.getD i 0).toNat)&&decide ((s.getD i 0).toNat<=57))=false from h,show(decide (97<=(s.getD i 0).toNat)&&decide ((s.getD i 0).toNat<=102))=false from h2];rfl
 refine aN ?_;simp only[G.lS];exact L s.length 0 aI
theorem T.o8 (s:fC)(hs:s.length<big):Ev (λf=>G.o8 f s) (WV s):=by
 unfold big at hs;have hI:∀b:UInt8,Ev (λf=>G.strings_IndexByte f [48,49,50,51,52,53,54,55,56,57,97,98,99,100,101,102] (b.toNat:Int)) (xB hexD b):=λb=>by refine aN ?_;simp only[G.strings_IndexByte];refine ak (aN ?_) (bK _);simp only[G.jR];refine aT ?_;rw[ai,show b.toNat.toUInt8=b from EH];rfl
 have L:∀(k i:Nat),i+k=s.length->Ev (λf=>G.o8.L1 f s i) ((s.drop i).all okH):=by
  intro k
  induction k with
  | zero=>intro i hi;refine aN ?_;simp only[G.o8.L1];refine sH (aT ?_);rw[ay aI];rfl
  | succ k ih=>
    intro i hi;refine aN ?_;simp only[G.o8.L1,ai,FC i];rw[gu (0:UInt8) (by omega:i<s.length),gU];refine sG (dA (ak (hI _) ?_));rw[amB];refine dh (λh=>aT ?_) (λh=>(ih (i+1) aI).eq ?_)
    ·have:okH (s.getD i 0)=false:=(by simpa using h);rw[this];rfl
    ·have:okH (s.getD i 0)=true:=(by simpa using h);rw[this];rfl
 refine aN ?_;simp only[G.o8];unfold WV;refine dh (λe=>aT ?_) (λe=>?_)
 ·have:¬s.length=4:=by
   have:(s.length:Int)≠4:=(by simpa using e);omega
  rw[bg this,rP]
 ·have:s.length=4:=by
   have:(s.length:Int)=4:=(by simpa using e);omega
  exact(L s.length 0 aI).eq (by rw[dW this,rf,dM])
theorem T.kH {l:List fC}(h:Sm l):Ev (λf=>G.kH f l) (JS l):=by
 have hl:=h.1;unfold big at hl;have L:∀(k i:Nat),i+k=l.length->Ev (λf=>G.kH.L1 f l i) ((l.drop i).all ZV&&decide (l.length<=4)):=by
  intro k
  induction k with
  | zero=>intro i hi;refine aN ?_;simp only[G.kH.L1];refine sH (aT ?_);rw[ay aI,zX,dS];apply decide_eq_decide.2;omega
  | succ k ih=>intro i hi;refine aN ?_;simp only[G.kH.L1,ai,FC i];rw[gu (default:fC) (by omega:i<l.length),gU];unfold ZV;refine sG (dA (dh (λe=>(ih (i+1) aI).eq (by rw[e];rfl)) (λe=>dA (ak (T.lS _ (h.get aI)) ?_))));exact dh (λe2=>(ih (i+1) aI).eq (by rw[e,e2];rfl)) (λe2=>aT (by rw[e,e2];rfl))
 refine aN ?_;simp only[G.kH];exact L l.length 0 aI
theorem T.kK {l:List fC}(h:Sm l):Ev (λf=>G.kK f l) (JS l):=by
 have hl:=h.1;unfold big at hl;have L:∀(k i:Nat),i+k=l.length->Ev (λf=>G.kK.L1 f l i) ((l.drop i).all ZV):=by
  intro k
  induction k with
  | zero=>intro i hi;refine aN ?_;simp only[G.kK.L1];refine sH (aT ?_);rw[ay aI];rfl
  | succ k ih=>intro i hi;refine aN ?_;simp only[G.kK.L1,ai,FC i];rw[gu (default:fC) (by omega:i<l.length),gU];unfold ZV;refine sG (dA (dh (λe=>(ih (i+1) aI).eq (by rw[e];rfl)) (λe=>ak (T.o8 _ (h.get aI)) ?_)));exact dh (λe2=>(ih (i+1) aI).eq (by rw[e,e2];rfl)) (λe2=>aT (by rw[e,e2];rfl))
 refine aN ?_;simp only[G.kK];unfold JS;refine dh (λe=>aT ?_) (λe=>(L l.length 0 aI).eq ?_)
 ·rw[bg (show ¬l.length<=4 by simp only[aC]at e;omega),rP]
 ·rw[dW (show l.length<=4 by simp only[dn]at e;omega),rf,dM]
structure OD (B:Nat)(q:bn):Prop where
 TL:q.iC.length<=B
 want:FH B q.yK
 avoid:FH B q.uM
 body:ZP B q.Body
 ops:Tv q.Me
def ZM (q:bn):Bool:=(decide (1<=q.kP)&&decide (q.kP<=5))&&(NmV q.iC&&(JS q.yK&&(JS q.uM&&(Val q.Body&&PW q.Me))))
structure TZ (B:Nat)(q:bn):Prop where
 TL:q.iC.length<=B
 want:FH B q.yK
 avoid:FH B q.uM
 body:al4 B q.Body
 ops:ae7 q.Me
section
variable {B:Nat} {q:bn} (hB:B<=lim) (h:TZ B q)
include hB h
theorem T0.oL : Ev (λf=>G.oL f q) (ZM q):=by obtain⟨E,hb⟩:=h.body;have hn:=h.TL;unfold lim at hB;refine aN ?_;simp only[G.oL];unfold ZM;refine ak (T.iP _ _ _) (dh (λe1=>?_) (λe1=>aT (by rw[e1];rfl)));refine ak (T.jC _ (by unfold big;omega)) (dh (λe2=>?_) (λe2=>aT (by rw[e1,e2];rfl)));refine ak (T.kH (h.want.sm (by unfold lim;omega))) (dh (λe3=>?_) (λe3=>aT (by rw[e1,e2,e3];rfl)));refine ak (T.kH (h.avoid.sm (by unfold lim;omega))) (dh (λe4=>?_) (λe4=>aT (by rw[e1,e2,e3,e4];rfl)));refine ak (T0.iI (by unfold lim;omega) hb) (dh (λe5=>?_) (λe5=>aT (by rw[e1,e2,e3,e4,e5];rfl)));exact ak (T0.iL h.ops) (aT (by rw[e1,e2,e3,e4,e5];rfl))
theorem T0.l7 : Ev (λf=>G.l7 f q) (ZM q):=by obtain⟨E,hb⟩:=h.body;have hn:=h.TL;unfold lim at hB;refine aN ?_;simp only[G.l7];unfold ZM;refine dh (λe0=>?_) (λe0=>aT (by rw[e0];rfl));refine dh (λe1=>?_) (λe1=>aT (by rw[e0,e1];rfl));refine ak (T.kQ _ (by unfold big;omega)) (dh (λe2=>?_) (λe2=>aT (by rw[e0,e1,e2];rfl)));refine ak (T.kK (h.want.sm (by unfold lim;omega))) (dh (λe3=>?_) (λe3=>aT (by rw[e0,e1,e2,e3];rfl)));refine ak (T.kK (h.avoid.sm (by unfold lim;omega))) (dh (λe4=>?_) (λe4=>aT (by rw[e0,e1,e2,e3,e4];rfl)));refine ak (T0.dm (by unfold lim;omega) hb) (dh (λe5=>?_) (λe5=>aT (by rw[e0,e1,e2,e3,e4,e5];rfl)));exact ak (T0.gY h.ops) (aT (by rw[e0,e1,e2,e3,e4,e5];rfl))
end
theorem OD.fin {B:Nat}{q:bn}(h:OD B q):TZ B q:=⟨h.TL,h.want,h.avoid,let ⟨D,hd⟩:=h.body;⟨D,hd.fin0⟩,h.ops.fin⟩
section
variable {B:Nat} {q:bn} (hB:B<=lim) (h:OD B q)
include hB h
theorem T.l7 : Ev (λf=>G.l7 f q) (ZM q):=T0.l7 hB h.fin
end
def TY (l:List bn):Bool:=l.all ZM&&decide (l.length<=8)
structure Tu (l:List bn):Prop where
 len:l.length<=1000
 req:∀q,q∈l->OD 60 q
theorem Tu.at_ {l:List bn}(h:Tu l){i:Nat}(hi:i<l.length):OD 60 (l.getD i default):=h.req _ (getD_mem default hi)
structure Yk (l:List bn):Prop where
 len:l.length<=1048576
 req:∀q,q∈l->TZ 1048576 q
theorem Yk.at_ {l:List bn}(h:Yk l){i:Nat}(hi:i<l.length):TZ 1048576 (l.getD i default):=h.req _ (getD_mem default hi)
theorem T0.jo {l:List bn}(h:Yk l):Ev (λf=>G.jo f l) (TY l):=by
 have hl:=h.len;have L:∀(k i:Nat),i+k=l.length->Ev (λf=>G.jo.L1 f l i) ((l.drop i).all ZM&&decide (l.length<=8)):=by
  intro k
  induction k with
  | zero=>intro i hi;refine aN ?_;simp only[G.jo.L1];refine sH (aT ?_);rw[ay aI,zX,dS];apply decide_eq_decide.2;omega
  | succ k ih=>intro i hi;refine aN ?_;simp only[G.jo.L1,ai,FC i];rw[gu (default:bn) (by omega:i<l.length),gU];exact sG (dA (ak (T0.oL IX (h.at_ aI)) (dh (λe=>(ih (i+1) aI).eq (by rw[e];rfl)) (λe=>aT (by rw[e];rfl)))))
 refine aN ?_;simp only[G.jo];exact L l.length 0 aI
theorem T0.ja {l:List bn}(h:Yk l):Ev (λf=>G.ja f l) (TY l):=by
 have hl:=h.len;have L:∀(k i:Nat),i+k=l.length->Ev (λf=>G.ja.L1 f l i) ((l.drop i).all ZM):=by
  intro k
  induction k with
  | zero=>intro i hi;refine aN ?_;simp only[G.ja.L1];refine sH (aT ?_);rw[ay aI];rfl
  | succ k ih=>intro i hi;refine aN ?_;simp only[G.ja.L1,ai,FC i];rw[gu (default:bn) (by omega:i<l.length),gU];exact sG (dA (ak (T0.l7 IX (h.at_ aI)) (dh (λe=>(ih (i+1) aI).eq (by rw[e];rfl)) (λe=>aT (by rw[e];rfl)))))
 refine aN ?_;simp only[G.ja];unfold TY;refine dh (λe=>aT ?_) (λe=>(L l.length 0 aI).eq ?_)
 ·rw[bg (show ¬l.length<=8 by simp only[aC]at e;omega),rP]
 ·rw[dW (show l.length<=8 by simp only[dn]at e;omega),rf,dM]
theorem TZ.mono {B C:Nat}{q:bn}(h:TZ B q)(hB:B<=C):TZ C q:=⟨bJ h.TL hB,⟨bJ h.want.1 hB,λs hs=>bJ (h.want.2 s hs) hB⟩,⟨bJ h.avoid.1 hB,λs hs=>bJ (h.avoid.2 s hs) hB⟩,let ⟨D,hd⟩:=h.body;⟨D,hd.mono hB (aF _)⟩,h.ops⟩
theorem Tu.fin {l:List bn}(h:Tu l):Yk l:=⟨by have:=h.len;omega,λq hq=>(h.req q hq).fin.mono aI⟩
theorem T.jo {l:List bn}(h:Tu l):Ev (λf=>G.jo f l) (TY l):=T0.jo h.fin
theorem T.ja {l:List bn}(h:Tu l):Ev (λf=>G.ja f l) (TY l):=T0.ja h.fin
end
theorem UO {x:fC}{l:List fC}(h:Asc l=true)(hx:∀y,y∈l->bl x y=true):Asc (x::l)=true:=by
 cases l with
 |nil=>rfl
 |cons y l=>rw[Asc,h,rf];exact hx y mD
section
def Ll (x:fA):List fA->List fA
 |[]=>[x]
 |y::r=>if bl y.iC x.iC then y::Ll x r else if y.iC=x.iC then x::r else x::y::r
def V3 (s:bU)(t:fC)(n:aj):bU:=bU.mk (Ll (fA.mk t (s.kY+1) n) s.bH) (s.kY+1)
def PX (s:bU)(t:fC)(n:aj):Option bU:=if JO s&&NmV t&&Val n then(some (V3 s t n)).filter JO else none
def aba : Option bU->bU×Bool
 |some s=>(s,true)
 |none=>(agp,false)
theorem Zf {s:bU} : aba ((some s).filter JO)=if JO s then(s,true)else(agp,false):=by cases h:JO s<;>simp[uf,h,aba]
theorem QL {y:fA}{r:List fA} : Dq (y::r)=y.iC::Dq r:=rfl
theorem aeK {x:fA} : ∀{l:List fA} {p:Nat},LB (Dq l) x.iC p->Ll x l=if decide (p<l.length)&&(l.getD p default).iC==x.iC then l.set p x else l.take p++[x]++l.drop p
 | [],p,h=>by have:p=0:=(by have:=h.le;simpa[Dq]using this);subst this;rfl
 | y::r,0,h=>by
   have hb:bl y.iC x.iC=false:=h.hi 0 aI (by rw[Cf];simp);rw[Ll,hb,au mD];by_cases e:y.iC=x.iC
   ·rw[aA e,aA (by simp[e])];rfl
   ·rw[au e,au (by simp[e])];rfl
 | y::r,p+1,h=>by
   have hb:bl y.iC x.iC=true:=h.lo 0 aI;have hr:LB (Dq r) x.iC p:=⟨by have:=h.le;rw[Cf]at this⊢;simp at this;omega,λj hj=>by
    have:=h.lo (j+1) aI
    rwa[QL,nO]at this,λj h1 h2=>by
    have:=h.hi (j+1) aI (by rw[QL];simp;omega)
    rwa[QL,nO]at this⟩
   rw[Ll,aA hb,aeK hr];have e1:(decide (p+1<(y::r).length)&&((y::r).getD (p+1) default).iC==x.iC)=(decide (p<r.length)&&(r.getD p default).iC==x.iC):=(by simp);rw[e1];by_cases c:(decide (p<r.length)&&(r.getD p default).iC==x.iC)=true
   ·rw[aA c,aA c];rfl
   ·rw[au c,au c];rfl
theorem Z9 {y:fA}{r:List fA}(h:Asc (Dq (y::r))=true):Asc (Dq r)=true/\∀z,z∈r->bl y.iC z.iC=true:=by rw[QL]at h;exact⟨IK h,λz hz=>JP h _ (List.mem_map.2 ⟨z,hz,rfl⟩)⟩
theorem I9 {x:fA} : ∀{l:List fA} {it:fA},Asc (Dq l)=true->(it∈Ll x l<->it=x\/(it∈l/\it.iC≠x.iC))
 |[],it,_=>by simp[Ll]
 | y::r,it,h=>by
   obtain⟨h1,h2⟩:=Z9 h;rw[Ll];cases hb:bl y.iC x.iC with
   | true=>
     have hne:=Jm hb;rw[aA rfl,aK,I9 h1,aK];constructor
     ·rintro(e|e|⟨e,e2⟩)
      ·exact .inr ⟨.inl e,e▸hne⟩
      ·exact .inl e
      ·exact .inr ⟨.inr e,e2⟩
     ·rintro(e|⟨e|e,e2⟩)
      ·exact .inr (.inl e)
      ·exact .inl e
      ·exact .inr (.inr ⟨e,e2⟩)
   | false=>
     rw[au mD];by_cases e:y.iC=x.iC
     ·rw[aA e,aK,aK];constructor
      ·rintro(q|q)
       ·exact .inl q
       ·exact .inr ⟨.inr q,λw=>by have:=Jm (h2 it q);rw[e,w]at this;exact this rfl⟩
      ·rintro(q|⟨q|q,w⟩)
       ·exact .inl q
       ·exact eF (q▸e) w
       ·exact .inr q
     ·rw[au e,aK,aK];have hx:bl x.iC y.iC=true:=by
       cases k:bl x.iC y.iC with
       |true=>rfl
       |false=>exact eF (O7 hb k) e
      constructor
      ·rintro(q|q|q)
       ·exact .inl q
       ·exact .inr ⟨.inl q,q▸e⟩
       ·exact .inr ⟨.inr q,λw=>by have:=Jm (DR hx (h2 it q));rw[w]at this;exact this rfl⟩
      ·rintro(q|⟨q,_⟩)
       ·exact .inl q
       ·exact .inr q
theorem VZ {x:fA} : ∀{l:List fA},(Ll x l).length<=l.length+1
 |[]=>by simp[Ll]
 | y::r=>by
   have:=VZ (x:=x) (l:=r);rw[Ll];split
   ·simp only[iV];omega
   ·split<;>simp
theorem T.xU {l:List fA}{x:fA}(hl:l.length<=1000)(hA:Asc (Dq l)=true):Ev (λf=>G.xU f l x) (Ll x l):=by
 obtain⟨p,g,hp⟩:=T.nZ x.iC (by unfold big;omega) hA;have hle:=hp.le;rw[Cf]at hle;rw[aeK hp];refine aN ?_;simp only[G.xU];refine ak g ?_;cases hc:decide (p<l.length)&&(l.getD p default).iC==x.iC with
 | true=>rw[aA rfl];simp only[ah,aC]at hc;exact dR rfl (dA (aT (by rw[ai])))
 | false=>rw[au mD];refine dB rfl (ak (aN ?_) (bK _));simp only[G.ou];exact um (by simp;omega) (aT (by rw[ai]))
section
variable {B D:Nat} {s:bU} {t:fC} {n:aj} (hB:B<=lim) (h:Ht B s) (ht:t.length<=B) (hn:Fine B D n)
include hB h ht hn
theorem T.vO : Ev (λf=>G.vO f s t n) (aba (PX s t n)):=by
 refine aN ?_;simp only[G.vO];unfold PX;refine ak (T.dY hB h) (dh (λe1=>?_) (λe1=>aT (by rw[e1];rfl)));refine ak (T.kQ _ (by unfold big;unfold lim at hB;omega)) (dh (λe2=>?_) (λe2=>aT (by rw[e1,e2];rfl)));refine ak (T.dm hB hn) (dh (λe3=>?_) (λe3=>aT (by rw[e1,e2,e3];rfl)));have hs:=Ci.1 e1;have hl:=hs.len;have hlo:=hs.lo;have hhi:=hs.hi;have w:af .i64 (s.kY+1)=s.kY+1:=by rw[GZ aI aI]
 rw[e1,e2,e3];refine ak (T.fG hB h) (ak (T.bC hB hn) ?_);rw[w];refine ak (T.xU aI hs.P7) ?_;have hf:Ht 60 (V3 s t n):=by
  have:=VZ (x:=fA.mk t (s.kY+1) n) (l:=s.bH);refine⟨by show(Ll _ _).length<=_;omega,λit hi=>?_,λit hi=>?_⟩
  ·rcases(I9 hs.P7).1 hi with e|⟨e,_⟩
   ·rw[e];show t.length<=60;have:=(VR e2).2;omega
   ·exact hs.fine.TL it e
  ·rcases(I9 hs.P7).1 hi with e|⟨e,_⟩
   ·rw[e];exact⟨5,Eo e3⟩
   ·exact hs.fine.XZ it e
 refine ak (T.dY DV hf) ?_;show Ev _ (aba ((some (V3 s t n)).filter JO));rw[Zf];cases hv:JO (V3 s t n)with
 |true=>exact dR hv (bK _)
 |false=>exact dB hv (bK _)
end
section
variable {s:bU} {t:fC} {n:aj}
theorem T.mP.done (hl:s.bH.length<=1000):∀(k i:Nat) (z:List fA),i+k=s.bH.length->z.length<=i+1->(∀it,it∈s.bH.drop i->it.iC≠t) ->
 Ev (λf=>G.mP.L3 f s t n s true i z) (bU.mk (z++s.bH.drop i) (af .i64 (s.kY+1))):=by
 intro k
 induction k with
 | zero=>intro i z hi hz _;refine aN ?_;simp only[G.mP.L3];refine sH (dR rfl (aT ?_));rw[ay aI,mM]
 | succ k ih=>intro i z hi hz hne;have hil:i<s.bH.length:=(by omega);have hd:=gu (default:fA) hil;rw[hd]at hne;have h1:=hne (s.bH.getD i default) mD;refine aN ?_;simp only[G.mP.L3];refine sG (dR rfl (aN ?_));simp only[G.mP.K4,ai,FC i];refine dA (dB (by simpa using h1) (dA (dA ?_)));refine(ih (i+1) _ aI (by simp;omega) (λit hit=>hne it (by simp[hit]))).eq ?_;rw[hd];simp
theorem T.mP.more (hl:s.bH.length<=1000)(hA:Asc (Dq s.bH)=true):∀(k i:Nat) (z:List fA),i+k=s.bH.length->z.length<=i ->
 Ev (λf=>G.mP.L3 f s t n s false i z) (bU.mk (z++Ll (fA.mk t (af .i64 (s.kY+1)) n) (s.bH.drop i)) (af .i64 (s.kY+1))):=by
 intro k
 induction k with
 | zero=>intro i z hi hz;refine aN ?_;simp only[G.mP.L3];refine sH (dB rfl (dA (aT ?_)));rw[ay aI];rfl
 | succ k ih=>
   intro i z hi hz;have hil:i<s.bH.length:=(by omega);have hd:=gu (default:fA) hil;have later:∀it,it∈s.bH.drop (i+1)->bl (s.bH.getD i default).iC it.iC=true:=λit hit=>by obtain⟨j,hj,e⟩:=List.mem_drop_iff_getElem.1 hit;have hj':i+1+j<s.bH.length:=(by omega);have:=He hA i (i+1+j) aI (by rw[Cf];exact hj');rw[JJ hil,JJ hj',iD _ hj',e]at this;exact this
   refine aN ?_;simp only[G.mP.L3,ai];rw[hd,Ll];refine sG (dB rfl (dA ?_));refine dh (λe=>?_) (λe=>?_)
   ·have e:bl (s.bH.getD i default).iC t=true:=e;rw[aA e];refine aN ?_;simp only[G.mP.K4,ai,FC i];refine dA (dB (by simpa using Jm e) (dA (dA ?_)));refine(ih (i+1) _ aI (by simp;omega)).eq ?_;simp
   ·have e:bl (s.bH.getD i default).iC t=false:=e;rw[au (by simp only[e];simp)];refine dA (aN ?_);simp only[G.mP.K4,ai,FC i];refine dA (dh (λe2=>?_) (λe2=>?_))
    ·have e2:(s.bH.getD i default).iC=t:=(by simpa using e2);rw[aA e2];refine(T.mP.done hl k (i+1) _ aI (by simp;omega) (λit hit w=>by have:=Jm (later it hit);rw[e2,w]at this;exact this rfl)).eq ?_;simp
    ·have e2:(s.bH.getD i default).iC≠t:=(by simpa using e2);rw[au e2];have hx:bl t (s.bH.getD i default).iC=true:=by
      cases q:bl t (s.bH.getD i default).iC with
      |true=>rfl
      |false=>exact eF (O7 e q) e2
     refine dA (um (by simp;omega) ?_);refine(T.mP.done hl k (i+1) _ aI (by simp;omega) (λit hit w=>by have:=Jm (DR hx (later it hit));rw[w]at this;exact this rfl)).eq ?_;simp
end
section
variable {B D:Nat} {s:bU} {t:fC} {n:aj} (hB:B<=lim) (h:Ht B s)
include hB h
theorem T.mP (hn:Fine B D n)(hs:StF s):Ev (λf=>G.mP f s t n) (V3 s t n):=by have hl:=hs.len;have hlo:=hs.lo;have hhi:=hs.hi;refine aN ?_;simp only[G.mP];refine ak (T.cO hB hn) (ak (T.fZ hB h) ?_);refine(T.mP.more aI hs.P7 s.bH.length 0 [] aI mD).eq ?_;rw[GZ aI aI];rfl
theorem aja (hs:StF s)(ht:NmV t=true)(hn:Val n=true):Ht 60 (V3 s t n):=by
 have:=VZ (x:=fA.mk t (s.kY+1) n) (l:=s.bH);have:=hs.len;refine⟨by show(Ll _ _).length<=_;omega,λit hi=>?_,λit hi=>?_⟩
 ·rcases(I9 hs.P7).1 hi with e|⟨e,_⟩
  ·rw[e];show t.length<=60;have:=(VR ht).2;omega
  ·exact hs.fine.TL it e
 ·rcases(I9 hs.P7).1 hi with e|⟨e,_⟩
  ·rw[e];exact⟨5,Eo hn⟩
  ·exact hs.fine.XZ it e
end
theorem abj {s m:bU}{t:fC}{n:aj}(h:PX s t n=some m):JO s=true/\NmV t=true/\Val n=true/\m=V3 s t n/\JO m=true:=by
 unfold PX at h;split at h
 ·rename_i c;obtain⟨⟨c1,c2⟩,c3⟩:(JO s=true/\NmV t=true)/\Val n=true:=by simpa using c
  obtain⟨h1,h2⟩:=yh.1 h;cases h1;exact⟨c1,c2,c3,rfl,h2⟩
 ·cases h
def WS (l:List fA)(t:fC):Option Nat:=(bV 0 l.length).find? λi=>(l.getD i default).iC==t
theorem Kr {l:List fA}{t:fC}{j:Nat} : WS l t=some j<->(j<l.length/\(l.getD j default).iC=t/\∀q,q<j->(l.getD q default).iC≠t):=by
 unfold WS;rw[Iy];constructor
 ·rintro⟨_,h2,h3,h4⟩;exact⟨aI,by simpa using h3,λq hq=>by simpa using h4 q aI hq⟩
 ·rintro⟨h2,h3,h4⟩;exact⟨aI,aI,by simpa using h3,λq _ hq=>by simpa using h4 q hq⟩
theorem aay {l:List fA}{t:fC} : WS l t=none<->∀it,it∈l->it.iC≠t:=by
 unfold WS;rw[NZ];constructor
 ·intro h it hit;obtain⟨i,hi,e⟩:=kG.1 hit;have:=h i aI aI;rw[iD _ hi,e]at this;simpa using this
 ·intro h q _ hq;have:=h _ (getD_mem default (show q<l.length by omega));simpa using this
theorem T.pX {s:bU}(t:fC)(hl:s.bH.length<=lim):Ev (λf=>G.pX f s t) (KA (WS s.bH t)):=by
 unfold lim at hl;have L:∀(k i:Nat),i+k=s.bH.length->Ev (λf=>G.pX.L1 f s t i) (KA ((bV i k).find? λi=>(s.bH.getD i default).iC==t)):=by
  intro k
  induction k with
  | zero=>intro i hi;refine aN ?_;simp only[G.pX.L1];exact sH (bK _)
  | succ k ih=>
    intro i hi;refine aN ?_;simp only[G.pX.L1,ai,FC i];rw[rZ,x9];refine sG (dA (dh (λe=>aT ?_) (λe=>?_)))
    ·simp only[show((s.bH.getD i default).iC==t)=true from e];rfl
    ·simp only[show((s.bH.getD i default).iC==t)=false from e];exact ih (i+1) aI
 refine aN ?_;simp only[G.pX];exact L s.bH.length 0 aI
def ahO (s:bU)(t:fC):bU:=bU.mk (s.bH.filter λit=> !(it.iC==t)) (s.kY+1)
def PR (s:bU)(t:fC):Option bU:=if JO s&&(WS s.bH t).isSome && !(s.kY==999)then some (ahO s t)else none
theorem T.sS {B:Nat}{s:bU}{t:fC}(hB:B<=lim)(h:Ht B s)(hs:StF s):Ev (λf=>G.sS f s t) (ahO s t):=by
 have hl:=hs.len;have hlo:=hs.lo;have hhi:=hs.hi;have L:∀(k i:Nat) (z:List fA),i+k=s.bH.length->z.length<=i->Ev (λf=>G.sS.L1 f s t s i z) (bU.mk (z++(s.bH.drop i).filter λit=> !(it.iC==t)) (af .i64 (s.kY+1))):=by
  intro k
  induction k with
  | zero=>intro i z hi hz;refine aN ?_;simp only[G.sS.L1];refine sH (aT ?_);rw[ay aI];simp
  | succ k ih=>
    intro i z hi hz;have hil:i<s.bH.length:=(by omega);refine aN ?_;simp only[G.sS.L1,ai,FC i];rw[gu (default:fA) hil,List.filter_cons];refine sG (dA (dh (λe=>?_) (λe=>?_)))
    ·rw[show((s.bH.getD i default).iC==t)=true from e];exact(ih (i+1) z aI aI).eq mD
    ·rw[show((s.bH.getD i default).iC==t)=false from e];refine dA (dA ?_);exact(ih (i+1) _ aI (by simp;omega)).eq mD
 refine aN ?_;simp only[G.sS];refine ak (T.fZ hB h) ((L s.bH.length 0 [] aI mD).eq ?_);rw[GZ aI aI];rfl
theorem akm {l m:List fC}(h:l.Sublist m)(hm:Asc m=true):Asc l=true:=BZ.2 ((BZ.1 hm).sublist h)
theorem ahQ {s m:bU}{t:fC}(h:PR s t=some m):JO s=true/\(WS s.bH t).isSome=true/\s.kY≠999/\m=ahO s t/\JO m=true:=by
 unfold PR at h;split at h
 ·rename_i c;obtain⟨⟨c1,c2⟩,c3⟩:(JO s=true/\(WS s.bH t).isSome=true)/\s.kY≠999:=by simpa using c
  cases h;have hs:=Ci.1 c1;refine⟨c1,c2,c3,rfl,Ci.2 ⟨λit hit=>?_,?_,?_,?_,?_⟩⟩
  ·have:=Sl.1 (hs.itm it (List.mem_filter.1 hit).1);have hhi:=this.hi;exact Sl.2 ⟨this.TL,this.XZ,this.lo,by show it.mW<=s.kY+1;omega⟩
  ·exact akm (List.Sublist.map _ List.filter_sublist) hs.P7
  ·show(s.bH.filter _).length<=10;exact bJ (List.length_filter_le _ _) hs.len
  ·show 0<=s.kY+1;have:=hs.lo;omega
  ·show s.kY+1<=999;have:=hs.hi;omega
 ·cases h
end
theorem ajt : JO agp=true:=xM
def lk (n:aj)(s:fC):Option aj:=(Gh n s).map λj=>n.aP.getD j default
structure Jw (n:aj):Prop where
 kind:n.bM=4
 P7:Asc n.aO=true
 len:n.aP.length=n.aO.length
theorem QB {n:aj}(h:Parts n=true)(hk:n.bM=4):Jw n/\n.aO.length<=6/\∀s,s∈n.aO->s.length<=12:=by obtain⟨_,_,hN,hl,hkl⟩:=BH h hk;exact⟨⟨hk,Pn hN,hkl⟩,hl,λs hs=>VY (adq hN s hs)⟩
theorem aiD {n:aj}(h:Jw n){s:fC} : (lk n s).isSome=true<->s∈n.aO:=by
 unfold lk;rw[Option.isSome_map];constructor
 ·intro hs;obtain⟨j,hj⟩:=qx.1 hs;obtain⟨h1,h2,_⟩:=Ny.1 hj;rw[GN h.kind,aY]at h2;rw[<- h2];exact getD_mem default (by rw[<- h.len];exact h1)
 ·intro hs;cases hp:Gh n s with
  |some j=>rfl
  | none=>obtain⟨i,hi,e⟩:=kG.1 hs;have:=QO.1 hp i (by rw[h.len];exact hi);rw[GN h.kind,iD default hi,e]at this;simp at this
theorem adb {n x:aj}{s:fC}(h:lk n s=some x):x∈n.aP:=by unfold lk at h;obtain⟨j,hj,rfl⟩:=dD.1 h;exact getD_mem default (A8 hj)
theorem Qz {n:aj}(h:Jw n){s:fC} : lk n s=none<->s ∉ n.aO:=by rw[<- aiD h];cases lk n s<;>simp
structure Acc (n:aj)(m:Nat):Prop where
 map:Jw n
 num:n.wJ=0
 text:n.lI=[]
 len:n.aO.length<=m
 small:∀s,s∈n.aO->s.length<=12
theorem Acc.eq {n:aj}{m:Nat}(h:Acc n m):n=aj.mk 4 0 [] n.aO n.aP:=by obtain⟨⟨h1,_,_⟩,h2,h3,_,_⟩:=h;cases n;simp only at h1 h2 h3;subst h1;subst h2;subst h3;rfl
theorem Z8 : ∀{l:List fC} (i:Nat),Asc l=true->Asc (l.drop i)=true
 |l,0,h=>by simpa using h
 |[],i+1,_=>rfl
 |x::l,i+1,h=>Z8 (l:=l) i (IK h)
open Classical in
noncomputable def mn (F:aj->aj->aj->Option aj)(o a b:aj)(s:fC):Option (Option aj):=
 match lk a s,lk b s,lk o s with
 |some x,some y,some z=>(F z x y).map some
 |some x,some y,none=>if x=y then some (some x)else none
 |some x,none,none=>some (some x)
 |none,some y,none=>some (some y)
 |some x,none,some z=>if x=z then some none else none
 |none,some y,some z=>if y=z then some none else none
 |none,none,_=>some none
def anY : aj:=aj.mk 4 0 [] [] []
def YL (z:Int):fC:=if z<0 then 45::Ij (-z).toNat else Ij z.toNat
def QT (b:UInt8):fC:=if b=34\/b=92 then [92,b]else [b]
def Uj (s:fC):fC:=34::(s.flatMap QT++[34])
def FT (F:aj->fC)(n:aj)(i:Nat):fC:=((if 0<i then [44]else [])++(if n.bM=4 then Uj (n.aO.getD i default)++[58]else []))++F (n.aP.getD i default)
def BG : Nat->aj->fC
 |0,_=>[]
 | d+1,n=>if n.bM=1 then YL n.wJ else if n.bM=2 then Uj n.lI else if n.bM=0 then [110,117,108,108]else
   if n.bM=4 then([123]++(bV 0 n.aP.length).flatMap (FT (BG d) n))++[125]else([91]++(bV 0 n.aP.length).flatMap (FT (BG d) n))++[93]
theorem RJ {d:Nat}{n:aj} : BG (d+1) n=if n.bM=1 then YL n.wJ else if n.bM=2 then Uj n.lI else if n.bM=0 then [110,117,108,108]else
 if n.bM=4 then([123]++(bV 0 n.aP.length).flatMap (FT (BG d) n))++[125]else([91]++(bV 0 n.aP.length).flatMap (FT (BG d) n))++[93]:=by rw[BG]
theorem maxL : 4000000000<=maxLen:=xM
theorem Zm (s:fC):(Uj s).length<=2*s.length+2:=by
 have:(s.flatMap QT).length<=2*s.length:=by
  induction s with
  |nil=>simp
  | cons b s ih=>rw[kE,bZ,iV];have:(QT b).length<=2:=(by unfold QT;split<;>simp);omega
 unfold Uj;simp only[iV,bZ,iU];omega
theorem Xj {s:fC}{i:Nat}(h:i<s.length):(s.take (i+1)).drop i=[s.getD i 0]:=by rw[kC h,List.drop_append_of_le_length (by simp;omega),ay (by rw[iK];omega),lu,iD _ h]
theorem T.nY (s:fC)(hs:s.length<=1000000):Ev (λf=>G.nY f s) (Uj s):=by
 have hM:=maxL;have L:∀(k i:Nat) (z:fC),i+k=s.length->z.length<=2*i+1->Ev (λf=>G.nY.L1 f s z i) (z++((s.drop i).flatMap QT++[34])):=by
  intro k
  induction k with
  | zero=>intro i z hi hz;refine aN ?_;simp only[G.nY.L1];refine sH (dA (aT ?_));rw[ay aI];rfl
  | succ k ih=>
    intro i z hi hz;have hil:i<s.length:=(by omega);have e1:=Xj hil;have two:s.getD i 0=34\/s.getD i 0=92->Ev (λf=>G.nY.L1 f s ((z++[92])++[s.getD i 0]) ((i+1:Nat):Int)) (z++((s.drop i).flatMap QT++[34])):=λhq=>by refine(ih (i+1) _ aI (by simp;omega)).eq ?_;rw[gu (0:UInt8) hil,kE];have:QT (s.getD i 0)=[92,s.getD i 0]:=aA hq;rw[this];simp
    have byt:∀c:UInt8,(((s.getD i 0).toNat:Int)==(c.toNat:Int))=(s.getD i 0==c):=λc=>by rw[tH,aY,aY];exact⟨λh=>Ag.1 aI,λh=>by rw[h]⟩
    refine aN ?_;simp only[G.nY.L1,ai,FC i,e1];refine sG (dA (dh (λh=>?_) (λh=>?_)))
    ·have h:s.getD i 0=34:=(by rw[show((34:Int))=((34:UInt8).toNat:Int)from rfl,byt]at h;simpa using h);exact dA (dA (um (by simp only[nV];omega) (two (.inl h))))
    ·have h:s.getD i 0≠34:=(by rw[show((34:Int))=((34:UInt8).toNat:Int)from rfl,byt]at h;simpa using h);refine dA (dh (λh2=>?_) (λh2=>?_))
     ·have h2:s.getD i 0=92:=(by rw[show((92:Int))=((92:UInt8).toNat:Int)from rfl,byt]at h2;simpa using h2);exact dA (dA (um (by simp only[nV];omega) (two (.inr h2))))
     ·have h2:s.getD i 0≠92:=(by rw[show((92:Int))=((92:UInt8).toNat:Int)from rfl,byt]at h2;simpa using h2);refine dA (um (by simp only[nV];omega) ?_);refine(ih (i+1) _ aI (by simp;omega)).eq ?_;rw[gu (0:UInt8) hil,kE];have:QT (s.getD i 0)=[s.getD i 0]:=au (λq=>q.elim h h2);rw[this];simp
 refine aN ?_;simp only[G.nY];exact(L s.length 0 [34] aI mD).eq (by rw[dM];rfl)
theorem MR : ∀{i:Nat},i<=999999->(Ij i).length<=6:=by
 have step:∀{i m:Nat},(Ij (i/10)).length<=m->(Ij i).length<=m+1:=λ{i m} h=>by
  rw[Ij];split
  ·simp
  ·simp;omega
 intro i h;have h1:(Ij (i/10/10/10/10/10)).length<=1:=by rw[KW aI];simp
 exact step (step (step (step (step h1))))
theorem ahM {z:Int}(h1 : -999999<=z)(h2:z<=999999):(YL z).length<=7:=by
 unfold YL;split
 ·have:=MR (i:=(-z).toNat) aI;simp;omega
 ·have:=MR (i:=z.toNat) aI;omega
theorem T.agK {z:Int}(h1 : -999999<=z)(h2:z<=999999):Ev (λf=>G.lY f z) (YL z):=by
 have hM:=maxL;unfold YL;by_cases h:z<0
 ·rw[aA h];have w:af .i64 (0-z)=((-z).toNat:Int):=wrapN aI aI;have hl:=MR (i:=(-z).toNat) aI;refine aN ?_;simp only[G.lY,w];exact dR (dW h) (dB (by simp only[beq_eq_false_iff_ne];omega) (ak (T.decimal (by unfold lim;omega)) (dA (aT rfl))))
 ·rw[au h];obtain⟨k,rfl⟩:∃k:Nat,z=k:=⟨z.toNat,aI⟩;rw[ai];exact T.decimal (by unfold lim;omega)
theorem SL {n:aj}(h:Parts n=true)(hk:n.bM=1) : -999999<=n.wJ/\n.wJ<=999999:=by unfold Parts at h;simp[hk]at h;omega
theorem Px {n:aj}(h:Parts n=true):n.lI.length<=12:=by
 by_cases hk:n.bM=2
 ·unfold Parts at h;simp[hk]at h;exact VY h.2.1
 ·unfold Parts at h;simp only[ah,iJ,aY]at h;have:=h.1.1.2.resolve_left hk;rw[this];simp
theorem akD {α:Type}{g:Nat->List α}{m:Nat} : ∀(k i:Nat),(∀j,i<=j->j<i+k->(g j).length<=m)->((bV i k).flatMap g).length<=k*m:=by
 intro k
 induction k with
 |zero=>intro i _;simp
 | succ k ih=>intro i h;have h1:=h i aI aI;have h2:=ih (i+1) (λj h1 h2=>h j aI aI);rw[rZ,kE,bZ,Nat.add_mul];omega
theorem YP : ∀(d:Nat) {n:aj},Shape d n=true->(BG d n).length<=200*7^d
 |0,_,h=>by cases h
 | d+1,n,h=>by
   have hp:=rW h;have h6:=Fh h;have aod:1<=7^d:=Nat.one_le_pow _ _ aI;rw[RJ,Ie];have hb:((bV 0 n.aP.length).flatMap (FT (BG d) n)).length<=6*(28+200*7^d):=by
    refine bJ (akD (m:=28+200*7^d) _ _ (λj _ hj=>?_)) (aX _ h6);have hj':j<n.aP.length:=(by omega);have hk:=YP d (Di h hj');unfold FT;rw[bZ,bZ];have a1:(if 0<j then([44]:fC)else []).length<=1:=(by split<;>simp);have a2:(if n.bM=4 then Uj (n.aO.getD j default)++[58]else []).length<=27:=by
     split
     ·rename_i h4;obtain⟨mn,_,hn⟩:=QB hp h4;have:=hn _ (getD_mem default (show j<n.aO.length by rw[<- mn.len];exact hj'));have:=Zm (n.aO.getD j default);simp only[bZ,nV];omega
     ·simp
    omega
   split
   ·rename_i h1;obtain⟨b1,b2⟩:=SL hp h1;have:=ahM b1 b2;omega
   ·split
    ·have:=Px hp;have:=Zm n.lI;omega
    ·split
     ·simp only[iV,iU];omega
     ·split
      ·simp only[bZ,nV];omega
      ·simp only[bZ,nV];omega
theorem T.ig : ∀(d:Nat) {n:aj},d<=5->Shape d n=true->Ev (λf=>G.ig f n) (BG d n)
 |0,_,_,h=>by cases h
 | d+1,n,hd,h=>by
   have hM:=maxL;have hp:=rW h;have h6:=Fh h;have aod:=Zl hd;rw[Ie]at aod;have L:∀(k i:Nat) (z:fC),i+k=n.aP.length->z.length<=i*1000000->Ev (λf=>G.ig.L5 f n z i)
    (if n.bM=4 then([123]++(z++(bV i k).flatMap (FT (BG d) n)))++[125]else([91]++(z++(bV i k).flatMap (FT (BG d) n)))++[93]):=by
    intro k
    induction k with
    | zero=>
      intro i z hi hz;refine aN ?_;simp only[G.ig.L5];refine sH (dh (λe=>dA (dA (aT ?_))) (λe=>dA (dA (aT ?_))))
      ·rw[aA (by simpa using e)];simp
      ·rw[au (by simpa using e)];simp
    | succ k ih=>
      intro i z hi hz;have hil:i<n.aP.length:=(by omega);have hk:=Di h hil;have hkl:=YP d hk;have K7:∀z':fC,z'.length<=i*1000000+28->z'++BG d (n.aP.getD i default)=z++FT (BG d) n i->Ev (λf=>G.ig.K7 f n (i:Int) z')
       (if n.bM=4 then([123]++(z++(bV i (k+1)).flatMap (FT (BG d) n)))++[125]else([91]++(z++(bV i (k+1)).flatMap (FT (BG d) n)))++[93]):=λz' hz' he=>by
       refine aN ?_;simp only[G.ig.K7,ai,FC i];refine dA (ak (T.ig d aI hk) (dA ?_));refine(ih (i+1) _ aI (by rw[bZ];omega)).eq ?_;rw[rZ,kE,<- ji z,<- he]
      have K6:∀z':fC,z'=z++(if 0<i then [44]else [])->Ev (λf=>G.ig.K6 f n (i:Int) z')
       (if n.bM=4 then([123]++(z++(bV i (k+1)).flatMap (FT (BG d) n)))++[125]else([91]++(z++(bV i (k+1)).flatMap (FT (BG d) n)))++[93]):=λz' he=>by
       have hz':z'.length<=i*1000000+1:=by rw[he,bZ];have:(if 0<i then([44]:fC)else []).length<=1:=(by split<;>simp);omega
       refine aN ?_;simp only[G.ig.K6,ai];by_cases h4:n.bM=4
       ·obtain⟨mn,_,hn⟩:=QB hp h4;have hin:i<n.aO.length:=(by rw[<- mn.len];exact hil);have h12:=hn _ (getD_mem default hin);have hq:=Zm (n.aO.getD i default);refine dR (by simpa using h4) (dA (ak (T.nY _ aI) (dA (dA (K7 _ (by simp only[bZ,nV];omega) ?_)))));rw[he];unfold FT;rw[aA h4];simp
       ·refine dB (by simpa using h4) (K7 z' (bJ hz' (Nat.add_le_add_left xM _)) ?_);rw[he];unfold FT;rw[au h4];simp
      refine aN ?_;simp only[G.ig.L5];refine sG ?_;by_cases h0:0<i
      ·exact sG (dA (K6 _ (by rw[aA h0])))
      ·exact sH (K6 _ (by rw[au h0,mM]))
   refine aN ?_;simp only[G.ig];rw[RJ];refine dh (λe=>?_) (λe1=>?_)
   ·have e:n.bM=1:=(by simpa using e);rw[aA e];obtain⟨b1,b2⟩:=SL hp e;exact ak (T.agK b1 b2) (bK _)
   rw[au (by simpa using e1)];refine dh (λe=>?_) (λe2=>?_)
   ·rw[aA (by simpa using e)];have:=Px hp;exact ak (T.nY _ aI) (bK _)
   rw[au (by simpa using e2)];refine dh (λe=>?_) (λe3=>?_)
   ·rw[aA (by simpa using e)];exact bK _
   rw[au (by simpa using e3)];exact(L n.aP.length 0 [] aI mD).eq mD
def agO (s:fC):Nat:=s.foldl (λn b=>(131*n+b.toNat)%65521) 17
def afY (k:Nat):UInt8:=hexD.getD k 0
def WZ (n:Nat):fC:=[afY (n/4096),afY (n/256%16),afY (n/16%16),afY (n%16)]
def G6 (n:aj):fC:=if Val n then WZ (agO (BG 5 n))else []
theorem T.rH (s:fC)(hs:s.length<big):Ev (λf=>G.rH f s) ((agO s:Nat):Int):=by
 unfold big at hs;have L:∀(k i m:Nat),i+k=s.length->m<65521->Ev (λf=>G.rH.L1 f s (m:Int) i) (((s.drop i).foldl (λn b=>(131*n+b.toNat)%65521) m:Nat):Int):=by
  intro k
  induction k with
  | zero=>intro i m hi _;refine aN ?_;simp only[G.rH.L1];refine sH (aT ?_);rw[ay aI];rfl
  | succ k ih=>intro i m hi hm;have hb:=(s.getD i 0).toNat_lt;refine aN ?_;simp only[G.rH.L1,ai,J6,FC i,wrapN (x:=131*(m:Int)) (m:=131*m) aI aI];rw[wrapN (x:=((131*m:Nat):Int)+((s.getD i 0).toNat:Int)) (m:=131*m+(s.getD i 0).toNat) aI aI,show(65521:Int)=((65521:Nat):Int)from rfl,KH];rw[gu (0:UInt8) (by omega:i<s.length),wG];exact sG (dA (ih (i+1) _ aI (xg _ aI)))
 refine aN ?_;simp only[G.rH];exact L s.length 0 17 aI aI
theorem sum_lt (s:fC):agO s<65521:=by
 unfold agO;have:∀(s:fC) (m:Nat),m<65521->s.foldl (λn b=>(131*n+b.toNat)%65521) m<65521:=by
  intro s
  induction s with
  |nil=>intro m hm;exact hm
  |cons b s ih=>intro m hm;exact ih _ (xg _ aI)
 exact this s 17 aI
theorem T.Bj {n:Nat}(h:n<65536):Ev (λf=>G.Bj f (n:Int)) (WZ n):=by
 have hM:=maxL;have w1:af .i64 (mJ (n:Int) 4096)=((n/4096:Nat):Int):=by rw[show(4096:Int)=((4096:Nat):Int)from rfl,Q7];exact wrapN rfl aI
 have w2:af .i64 (mJ (n:Int) 256)=((n/256:Nat):Int):=by rw[show(256:Int)=((256:Nat):Int)from rfl,Q7];exact wrapN rfl aI
 have w3:af .i64 (mJ (n:Int) 16)=((n/16:Nat):Int):=by rw[show(16:Int)=((16:Nat):Int)from rfl,Q7];exact wrapN rfl aI
 have t2:lC ((n/256:Nat):Int) 16=((n/256%16:Nat):Int):=by rw[show(16:Int)=((16:Nat):Int)from rfl,KH]
 have t3:lC ((n/16:Nat):Int) 16=((n/16%16:Nat):Int):=by rw[show(16:Int)=((16:Nat):Int)from rfl,KH]
 have t4:lC (n:Int) 16=((n%16:Nat):Int):=by rw[show(16:Int)=((16:Nat):Int)from rfl,KH]
 refine aN ?_;simp only[G.Bj,w1,w2,w3,t2,t3,t4,ai,EH];exact dA (dA (dA (dA (dA (aT rfl)))))
theorem alk (n:aj):(G6 n).length<=4:=by
 unfold G6;split
 ·simp[WZ]
 ·simp
def ap1 : fA:=fA.mk [] 0 xJ
def aoL : Option fA->fA×Bool
 |some it=>(it,true)
 |none=>(ap1,false)
def PU (s:bU)(t:fC):Option fA:=if JO s then(WS s.bH t).map λj=>s.bH.getD j default else none
theorem XF {s:bU}{t:fC}{it:fA}(h:PU s t=some it):StF s/\it∈s.bH/\it.iC=t/\Val it.pO=true:=by
 unfold PU at h;split at h
 ·rename_i hs;obtain⟨j,hj,rfl⟩:=dD.1 h;obtain⟨h1,h2,_⟩:=Kr.1 hj;have:=Ci.1 hs;exact⟨this,getD_mem default h1,h2,(this.it h1).XZ⟩
 ·cases h
theorem T.wb {b:jM}{c:Int}(hc:0<=c/\c<256)(hl:b.buf.length+1<=140737488355328):Ev (λf=>G.dH f b c) ((),jM.mk (b.buf++[gy c.toNat])):=by refine aN ?_;simp only[G.dH];exact um ⟨hc,hl⟩ (bK _)
theorem T.ws {b:jM}{s:fC}(hl:b.buf.length+s.length<=140737488355328):Ev (λf=>G.nG f b s) ((s.length:Int),(),jM.mk (b.buf++s)):=by refine aN ?_;simp only[G.nG];exact um hl (bK _)
theorem T.bs' {b:jM}(hl:b.buf.length<=140737488355328):Ev (λf=>G.uZ f b) b.buf:=by refine aN ?_;simp only[G.uZ];exact um hl (bK _)
theorem aeZ (b:UInt8):gy (b.toNat:Int).toNat=b:=mD
theorem T.iE {s z:fC}(h:z.length+2*s.length+2<=4000000000):Ev (λf=>G.iE f (jM.mk z) s) (jM.mk (z++Uj s)):=by
 have KN:∀(z:fC) (b:UInt8),z.length<5000000000->Ev (λf=>G.dH f (jM.mk z) (b.toNat:Int)) ((),jM.mk (z++[b])):=λz b hz=>by
  have:=T.wb (b:=jM.mk z) (c:=(b.toNat:Int)) (by have:=b.toNat_lt;omega) (by show z.length+1<=_;omega)
  rwa[aeZ]at this
 have L:∀(k i:Nat) (z:fC),i+k=s.length->z.length+2*k+1<=4000000001->Ev (λf=>G.iE.L3 f s (i:Int) z) (jM.mk (z++((s.drop i).flatMap QT++[34]))):=by
  intro k
  induction k with
  | zero=>intro i z hi hz;rw[List.drop_eq_nil_of_le aI];refine aN ?_;simp only[G.iE.L3];exact sH (ak (KN z 34 aI) (aT rfl))
  | succ k ih=>
    intro i z hi hz;have hlt:i<s.length:=(by omega);have hd:s.drop i=s.getD i 0::s.drop (i+1):=(by rw[Bq hlt];simp[dI,hlt]);have hK:∀z:fC,z.length+2*k+2<=4000000001->Ev (λf=>G.iE.K4 f s (i:Int) z) (jM.mk (z++(s.getD i 0::((s.drop (i+1)).flatMap QT++[34])))):=λz hz=>by refine aN ?_;simp only[G.iE.K4];rw[ai];refine dA (ak (KN z (s.getD i 0) aI) ?_);rw[tu aI];have:=ih (i+1) (z++[s.getD i 0]) aI (by simp;omega);simpa using this
    rw[hd];refine aN ?_;simp only[G.iE.L3];rw[ai];refine sG (dA (dh (λe=>?_) (λe=>dA (dh (λe2=>?_) (λe2=>?_)))))
    ·have hb:s.getD i 0=34:=Ag.1 (by have:=beq_iff_eq.1 e;show(s.getD i 0).toNat=34;omega);refine ak (KN z 92 aI) ?_;have:=hK (z++[92]) (by simp;omega);rw[hb]at this⊢;simpa[QT]using this
    ·have hb:s.getD i 0=92:=Ag.1 (by have:=beq_iff_eq.1 e2;show(s.getD i 0).toNat=92;omega);refine ak (KN z 92 aI) ?_;have:=hK (z++[92]) (by simp;omega);rw[hb]at this⊢;simpa[QT]using this
    ·have:=hK z aI;have hq:QT (s.getD i 0)=[s.getD i 0]:=by
      unfold QT;rw[au];rintro(h|h)
      ·rw[h]at e;simp at e
      ·rw[h]at e2;simp at e2
     rw[kE,hq];simpa using this
 refine aN ?_;simp only[G.iE];refine ak (KN z 34 aI) ?_;have:=L s.length 0 (z++[34]) aI (by simp;omega);simpa[Uj]using this
theorem ais (z:Int):wC z=YL z:=by
 unfold wC YL;split
 ·rw[acJ (z.natAbs+1) z.natAbs aI,show z.natAbs=(-z).toNat from by omega]
 ·rw[acJ (z.toNat+1) z.toNat aI]
theorem T.itoa {z:Int}(h : -900000000000000<=z/\z<=900000000000000):Ev (λf=>G.strconv_Itoa f z) (YL z):=by rw[<- ais];exact T.Itoa h
theorem adu {n:aj}(h:Parts n=true):n.bM=0\/n.bM=1\/n.bM=2\/n.bM=3\/n.bM=4:=by
 by_cases h0:n.bM=0\/n.bM=1\/n.bM=2\/n.bM=3\/n.bM=4
 ·exact h0
 ·simp only[not_or]at h0;obtain⟨a,b,c,d,e⟩:=h0;unfold Parts at h;rw[au a,au b,au c,au d,au e]at h;simp at h
theorem KN {z:fC}(b:UInt8)(hz:z.length<5000000000):Ev (λf=>G.dH f (jM.mk z) (b.toNat:Int)) ((),jM.mk (z++[b])):=by
 have:=T.wb (b:=jM.mk z) (c:=(b.toNat:Int)) (by have:=b.toNat_lt;omega) (by show z.length+1<=_;omega)
 rwa[aeZ]at this
theorem aax (F:aj->fC)(n:aj)(i:Nat):FT F n i=(if 0<i then [44]else [])++((if n.bM=4 then Uj (n.aO.getD i default)++[58]else [])++F (n.aP.getD i default)):=by unfold FT;rw[ji]
theorem T.dO : ∀(d:Nat) {n:aj} {z:fC},Shape d n=true->z.length+(BG d n).length<=2000000000->Ev (λf=>G.dO f (jM.mk z) n) (jM.mk (z++BG d n))
 |0,_,_,h,_=>by cases h
 | d+1,n,z,h,hz=>by
   have hp:=rW h;have h6:=Fh h;rw[RJ]at hz⊢;have L3:n.bM=3->∀(k i:Nat) (z:fC),i+k=n.aP.length->z.length+((bV i k).flatMap (FT (BG d) n)++[93]).length<=2000000000 ->
    Ev (λf=>G.dO.L3 f n (i:Int) z) (jM.mk (z++((bV i k).flatMap (FT (BG d) n)++[93]))):=by
    intro hk3 k
    induction k with
    | zero=>intro i z hi hz;refine aN ?_;simp only[G.dO.L3];refine sH (ak (KN 93 aI) (aT ?_));simp
    | succ k ih=>
      intro i z hi hz;have hil:i<n.aP.length:=(by omega);rw[rZ,kE]at hz⊢;simp only[bZ]at hz;have ez:FT (BG d) n i=(if 0<i then [44]else [])++BG d (n.aP.getD i default):=(by rw[aax,au (by omega:¬n.bM=4),lu]);have hK:∀z':fC,z'=z++(if 0<i then [44]else [])->Ev (λf=>G.dO.K4 f n (i:Int) z') (jM.mk (z++((FT (BG d) n i++(bV (i+1) k).flatMap (FT (BG d) n))++[93]))):=λz' he=>by have e2:z'++BG d (n.aP.getD i default)=z++FT (BG d) n i:=(by rw[he,ez,ji]);have e3:=sN yO e2;simp only[bZ]at e3;refine aN ?_;simp only[G.dO.K4,ai,FC i];refine ak (T.dO d (Di h hil) aI) ?_;refine(ih (i+1) _ aI (by simp only[bZ];omega)).eq ?_;rw[e2];simp only[ji]
      refine aN ?_;simp only[G.dO.L3];refine sG (dA ?_);by_cases h0:0<i
      ·exact sG (ak (KN 44 aI) (hK _ (by rw[aA h0])))
      ·exact sH (hK _ (by rw[au h0,mM]))
   have L7:n.bM=4->∀(k i:Nat) (z:fC),i+k=n.aP.length->z.length+((bV i k).flatMap (FT (BG d) n)++[125]).length<=2000000000 ->
    Ev (λf=>G.dO.L7 f n (i:Int) z) (jM.mk (z++((bV i k).flatMap (FT (BG d) n)++[125]))):=by
    intro hk4 k;obtain⟨mn,_,hn⟩:=QB hp hk4
    induction k with
    | zero=>intro i z hi hz;refine aN ?_;simp only[G.dO.L7];refine sH (ak (KN 125 aI) (aT ?_));simp
    | succ k ih=>
      intro i z hi hz;have hil:i<n.aP.length:=(by omega);have hin:i<n.aO.length:=(by rw[<- mn.len];exact hil);have h12:=hn _ (getD_mem default hin);rw[rZ,kE]at hz⊢;simp only[bZ]at hz;have ez:FT (BG d) n i=(if 0<i then [44]else [])++((Uj (n.aO.getD i default)++[58])++BG d (n.aP.getD i default)):=(by rw[aax,aA hk4]);have hK:∀z':fC,z'=z++(if 0<i then [44]else [])->Ev (λf=>G.dO.K8 f n (i:Int) z') (jM.mk (z++((FT (BG d) n i++(bV (i+1) k).flatMap (FT (BG d) n))++[125]))):=λz' he=>by have e2:((z'++Uj (n.aO.getD i default))++[58])++BG d (n.aP.getD i default)=z++FT (BG d) n i:=(by rw[he,ez];simp only[ji]);have e3:=sN yO e2;simp only[bZ]at e3;refine aN ?_;simp only[G.dO.K8,ai,FC i];refine dA (ak (T.iE aI) (ak (KN 58 (by simp only[bZ];omega)) ?_));refine ak (T.dO d (Di h hil) (by simp only[bZ];omega)) ?_;refine(ih (i+1) _ aI (by simp only[bZ];omega)).eq ?_;rw[e2];simp only[ji]
      refine aN ?_;simp only[G.dO.L7];refine sG (dA ?_);by_cases h0:0<i
      ·exact sG (ak (KN 44 aI) (hK _ (by rw[aA h0])))
      ·exact sH (hK _ (by rw[au h0,mM]))
   refine aN ?_;simp only[G.dO];rcases adu hp with e|e|e|e|e<;>simp only[e,reduceIte,Int.reduceEq]at hz⊢
   ·exact dR rfl (ak (T.ws (by simp only[iV,iU]at hz⊢;omega)) (bK _))
   ·obtain⟨b1,b2⟩:=SL hp e;exact dB rfl (dR rfl (ak (T.itoa aI) (ak (T.ws (by show z.length+_<=_;omega)) (bK _))))
   ·have:=Px hp;exact dB rfl (dB rfl (dR rfl (ak (T.iE aI) (bK _))))
   ·refine dB rfl (dB rfl (dB rfl (dR rfl (ak (KN 91 aI) ?_))));refine(L3 e n.aP.length 0 (z++[91]) aI (by simp only[bZ,iV,iU]at hz⊢;omega)).eq ?_;simp only[ji]
   ·refine dB rfl (dB rfl (dB rfl (dB rfl (dR rfl (ak (KN 123 aI) ?_)))));refine(L7 e n.aP.length 0 (z++[123]) aI (by simp only[bZ,iV,iU]at hz⊢;omega)).eq ?_;simp only[ji]
theorem fmt5 {n:aj}(h:Val n=true):(BG 5 n).length<=4000000:=by have:=YP 5 (uF h);have:=Zl (aF 5);omega
def al6 (n:aj):fC:=if Val n then BG 5 n else []
theorem T.rC {B D:Nat}{n:aj}(hB:B<=lim)(h:Fine B D n):Ev (λf=>G.rC f n) (al6 n):=by refine aN ?_;simp only[G.rC];unfold al6;refine ak (T.dm hB h) (dh (λe=>?_) (λe=>aT (by rw[e];rfl)));have hl:=fmt5 e;rw[e];exact ak (T.dO 5 (uF e) (by simp only[iU];omega)) (ak (T.bs' (by show(_:fC).length<=_;simp only[lu];omega)) (bK _))
theorem T.jy (s:fC)(hs:s.length<big):Ev (λf=>G.jy f s) (WZ (agO s)):=by
 unfold big at hs;have hM:=maxL;have L2:∀m:Nat,m<65521->Ev (λf=>G.jy.L2 f (m:Int) 3 (bW 4 0)) (WZ m):=λm hm=>by
  have st:∀m:Nat,m<65521->af .i64 (mJ (m:Int) 16)=((m/16:Nat):Int):=λm hm=>by rw[show(16:Int)=((16:Nat):Int)from rfl,Q7];exact wrapN rfl aI
  have tm:∀m:Nat,lC (m:Int) 16=((m%16:Nat):Int):=λm=>by rw[show(16:Int)=((16:Nat):Int)from rfl,KH]
  refine aN ?_;simp only[G.jy.L2,tm,st m hm,ai];refine dR rfl (dA (um mD (dA ?_)));refine aN ?_;simp only[G.jy.L2,tm,st (m/16) aI,ai];refine dR rfl (dA (um (by simp;decide) (um xM ?_)));refine aN ?_;simp only[G.jy.L2,tm,st (m/16/16) aI,ai];refine dR rfl (dA (um (by simp;decide) (um xM ?_)));refine aN ?_;simp only[G.jy.L2,tm,st (m/16/16/16) aI,ai];refine dR rfl (dA (um (by simp;decide) (um xM ?_)));refine aN ?_;simp only[G.jy.L2];refine dB rfl (um mD (um (by simp;omega) (aT ?_)));unfold WZ afY;rw[show m/4096=m/16/16/16%16 by omega,show m/256%16=m/16/16%16 by omega];show IM [((hexD.getD (m/16/16/16%16) 0).toNat:Int),((hexD.getD (m/16/16%16) 0).toNat:Int),((hexD.getD (m/16%16) 0).toNat:Int),((hexD.getD (m%16) 0).toNat:Int)]=_;simp[IM]
 have L:∀(k i m:Nat),i+k=s.length->m<65521->Ev (λf=>G.jy.L1 f s (m:Int) i) (WZ ((s.drop i).foldl (λn b=>(131*n+b.toNat)%65521) m)):=by
  intro k
  induction k with
  | zero=>intro i m hi hm;refine aN ?_;simp only[G.jy.L1];rw[ay aI];exact sH (L2 m hm)
  | succ k ih=>intro i m hi hm;have hb:=(s.getD i 0).toNat_lt;refine aN ?_;simp only[G.jy.L1,ai,J6,FC i,wrapN (x:=131*(m:Int)) (m:=131*m) aI aI];rw[wrapN (x:=((131*m:Nat):Int)+((s.getD i 0).toNat:Int)) (m:=131*m+(s.getD i 0).toNat) aI aI,show(65521:Int)=((65521:Nat):Int)from rfl,KH];rw[gu (0:UInt8) (by omega:i<s.length),wG];exact sG (dA (ih (i+1) _ aI (xg _ aI)))
 refine aN ?_;simp only[G.jy];exact L s.length 0 17 aI aI
theorem T.wo {B D:Nat}{n:aj}(hB:B<=lim)(h:Fine B D n):Ev (λf=>G.wo f n) (G6 n):=by refine aN ?_;simp only[G.wo];unfold G6;refine ak (T.dm hB h) (dh (λe=>?_) (λe=>aT (by rw[e];rfl)));have hl:=fmt5 e;have hf:=T.rC hB h;unfold al6 at hf;rw[e]at hf⊢;exact ak hf (ak (T.jy _ (by show(BG 5 n).length<_;unfold big;omega)) (bK _))
theorem ai8 {n c:aj}{j:Nat}(s:fC):Gh (Jd n j c) s=Gh n s:=by
 unfold Gh;have e:(Jd n j c).aP.length=n.aP.length:=by simp[Jd]
 rw[e];rfl
theorem aiy {n c:aj}{j:Nat}(h:j<n.aP.length):(Jd n j c).aP.getD j default=c:=by simp[Jd,dI,h]
abbrev N2 (x:aj×aj):Prop:=ZP 60 x.1/\ZP 60 x.2
theorem Kw {n:aj}(h:Jw n){r:fC}{k:aj} : lk n r=some k<->(r,k)∈n.aO.zip n.aP:=by
 have at_:∀j,j<n.aO.length->(n.aO.getD j default,n.aP.getD j default)∈n.aO.zip n.aP:=λj hj=>by
  have hk:j<n.aP.length:=by rw[h.len];exact hj
  rw[iD _ hj,iD _ hk];exact kG.2 ⟨j,by simp;omega,mD⟩
 constructor
 ·intro e;unfold lk at e;obtain⟨j,hj,rfl⟩:=dD.1 e;obtain⟨h1,h2,_⟩:=Ny.1 hj;rw[GN h.kind,aY]at h2;rw[<- h2];exact at_ j (by rw[<- h.len];exact h1)
 ·intro e;obtain⟨j,hj,e⟩:=kG.1 e;have hj1:j<n.aO.length:=by simp at hj;omega
  have hj2:j<n.aP.length:=by simp at hj;omega
  simp only[Fq,dF]at e;obtain⟨e1,e2⟩:=e;have hp:Gh n r=some j:=by rw[Ny];refine⟨hj2,by rw[GN h.kind,iD _ hj1,e1];simp,λq hq=>?_⟩;rw[GN h.kind];have:=Jm (He h.P7 q j hq hj1);rw[iD _ hj1,e1]at this;simpa using this
  unfold lk;rw[hp,kL,iD _ hj2,e2]
theorem alu {α β:Type}{a:List α}{b:List β}{p:Nat}{x:α}{y:β}(h:a.length=b.length):(insL a p x).zip (insL b p y)=insL (a.zip b) p (x,y):=by
 unfold insL;rw[F9 (by simp[h]),F9 (by simp[h])];have e1:(a.zip b).take p=(a.take p).zip (b.take p):=by rw[Hr,List.take_zipWith]
 have e2:(a.zip b).drop p=(a.drop p).zip (b.drop p):=by rw[Hr,List.drop_zipWith]
 rw[e1,e2];rfl
theorem YY {α:Type}{l:List α}{p:Nat}{x y:α} : y∈insL l p x<->y=x\/y∈l:=by
 unfold insL;rw[bG,bG,uU];have:=CY p l;constructor
 ·rintro((h|h)|h)
  ·exact .inr (gG h)
  ·exact .inl h
  ·exact .inr (lq h)
 ·rintro(h|h)
  ·exact .inl (.inr h)
  ·rw[<- this,bG]at h;rcases h with h|h
   ·exact .inl (.inl h)
   ·exact .inr h
theorem ahq {n v:aj}{s:fC}(h:Jw n)(hs:s ∉ n.aO):∃m,addN n s v=some m/\m.bM=4/\m.wJ=0/\m.lI=[]/\m.aP.length=m.aO.length/\∀r k,(r,k)∈m.aO.zip m.aP<->(r,k)=(s,v)\/(r,k)∈n.aO.zip n.aP:=by
 have hp:Gh n s=none:=by have:=(Qz h).2 hs;unfold lk at this;simpa using this
 have hk:=h.kind;refine⟨aj.mk 4 0 [] (insL n.aO (slt n s) s) (insL n.aP (slt n s) v),?_,rfl,rfl,rfl,?_,λr k=>?_⟩
 ·unfold addN;rw[hp];simp only[hk,jY,show ¬((4:Int)=3) by decide,if_false]
 ·show(insL n.aP _ v).length=(insL n.aO _ s).length;have:=h.len;unfold insL;simp;omega
 ·show(r,k)∈(insL n.aO (slt n s) s).zip (insL n.aP (slt n s) v)<->_;rw[alu h.len.symm,YY]
theorem aac : ∀{l:List fC} (i:Nat),Asc l=true->Asc (l.take i)=true
 |_,0,_=>by simp[Asc]
 |[],i+1,_=>rfl
 | x::l,i+1,h=>by rw[uG];exact UO (aac i (IK h)) (λy hy=>JP h y (gG hy))
theorem akQ {n m v:aj}{s:fC}(h:Jw n)(hs:s ∉ n.aO)(hm:addN n s v=some m):Asc m.aO=true:=by
 have hp:Gh n s=none:=by have:=(Qz h).2 hs;unfold lk at this;simpa using this
 have hk:=h.kind;unfold addN at hm;rw[hp]at hm;simp only[hk,jY,show ¬((4:Int)=3) by decide,if_false,aH]at hm;subst hm;show Asc (insL n.aO (slt n s) s)=true;have hle:=adJ n s;have hl:=h.len;have before:∀i,i<slt n s->bl (n.aO.getD i default) s=true:=λi hi=>by
  have h1:bl s (n.aO.getD i default)=false:=by
   unfold slt at hi;cases hf:(bV 0 n.aP.length).find? λi=>bl s (n.aO.getD i default)with
   | none=>rw[hf]at hi;exact NZ.1 hf i aI (by simpa using hi)
   | some j=>rw[hf]at hi;exact(Iy.1 hf).2.2.2 i aI hi
  cases h2:bl (n.aO.getD i default) s with
  |true=>rfl
  |false=>exact eF (getD_mem default (by omega:i<n.aO.length)) (by rw[O7 h2 h1];exact hs)
 have behind:∀i,slt n s<=i->i<n.aO.length->bl s (n.aO.getD i default)=true:=λi h1 h2=>by
  have h3:slt n s<n.aP.length:=by omega
  have h4:bl s (n.aO.getD (slt n s) default)=true:=by
   unfold slt at h3⊢;cases hf:(bV 0 n.aP.length).find? λi=>bl s (n.aO.getD i default)with
   |none=>rw[hf]at h3;simp at h3
   |some j=>exact(Iy.1 hf).2.2.1
  by_cases e:slt n s=i
  ·rw[<- e];exact h4
  ·exact DR h4 (He h.P7 (slt n s) i aI h2)
 generalize slt n s=p at *;unfold insL;have key:∀(A S:List fC),Asc A=true->Asc S=true->(∀x,x∈A->bl x s=true)->(∀y,y∈S->bl s y=true)->Asc ((A++[s])++S)=true:=by
  intro A
  induction A with
  |nil=>intro S _ hS _ h2;exact UO hS h2
  | cons a A ih=>
    intro S hA hS h1 h2;rw[zI,zI];refine UO (ih S (IK hA) hS (λx hx=>h1 x (by simp[hx])) h2) (λy hy=>?_);rcases bG.1 hy with hy|hy
    ·rcases bG.1 hy with hy|hy
     ·exact JP hA y hy
     ·rw[uU]at hy;subst hy;exact h1 a mD
    ·exact DR (h1 a mD) (h2 y hy)
 refine key _ _ (aac p h.P7) (Z8 p h.P7) (λx hx=>?_) (λy hy=>?_)
 ·obtain⟨i,hi,e⟩:=kG.1 hx;have hi2:i<p/\i<n.aO.length:=by simp at hi;omega
  have:=before i hi2.1;rw[iD _ hi2.2]at this;rw[<- e];simpa using this
 ·obtain⟨i,hi,e⟩:=kG.1 hy;have hi2:p+i<n.aO.length:=by simp at hi;omega
  have:=behind (p+i) aI hi2;rw[iD _ hi2]at this;rw[<- e];simpa using this
structure Mp (m:aj):Prop where
 map:Jw m
 num:m.wJ=0
 text:m.lI=[]
theorem aoB {n:aj}(h:Parts n=true)(hk:n.bM=4):Mp n:=⟨(QB h hk).1,(BH h hk).1,(BH h hk).2.1⟩
theorem amO {m x:aj}{s:fC}(h:lk m s=some x):∃j,Gh m s=some j/\m.aP.getD j default=x:=by unfold lk at h;exact dD.1 h
theorem aov {m:aj}(h:Jw m){i:Nat}(hi:i<m.aP.length):lk m (m.aO.getD i default)=some (m.aP.getD i default):=by
 have hi':i<m.aO.length:=by rw[<- h.len];exact hi
 rw[Kw h,iD _ hi,iD _ hi'];exact kG.2 ⟨i,by simp;omega,mD⟩
theorem aa0 {m:aj}(h:Jw m){i j:Nat}(hi:i<m.aO.length)(hj:j<m.aO.length)(e:m.aO.getD i default=m.aO.getD j default):i=j:=by
 rcases Nat.lt_trichotomy i j with k|k|k
 ·exact eF e (Jm (He h.P7 i j k hj))
 ·exact k
 ·exact eF e.symm (Jm (He h.P7 j i k hi))
theorem akT {m y:aj}{s:fC}{j:Nat}(h:Jw m)(hj:Gh m s=some j)(r:fC):lk (Jd m j y) r=if r=s then some y else lk m r:=by
 unfold lk;rw[ai8];by_cases e:r=s
 ·subst e;rw[aA rfl,hj,kL,aiy (A8 hj)]
 ·rw[au e];cases hr:Gh m r with
  |none=>rfl
  | some i=>
    have hne:j≠i:=λe2=>by subst e2;have a:=Oe hj;have b:=Oe hr;rw[GN h.kind,aY]at a b;exact e (b.symm.trans a)
    simp[Jd,dI,List.getElem?_set,hne]
theorem akW {m y:aj}{j:Nat}(h:Mp m):Mp (Jd m j y):=⟨⟨h.map.kind,h.map.P7,by show(m.aP.set j y).length=m.aO.length;rw[qR];exact h.map.len⟩,h.num,h.text⟩
theorem agm {α:Type}{l:List α}{k:Nat}{y:α} : y∈zo l k<->∃i,∃h:i<l.length,i≠k/\l[i]=y:=by
 unfold zo;rw[bG,List.mem_take_iff_getElem,List.mem_drop_iff_getElem];constructor
 ·rintro(⟨i,h,e⟩|⟨i,h,e⟩)
  ·exact⟨i,aI,aI,e⟩
  ·exact⟨k+1+i,aI,aI,e⟩
 ·rintro⟨i,h,hk,e⟩;by_cases c:i<k
  ·exact .inl ⟨i,aI,e⟩
  ·refine .inr ⟨i-(k+1),aI,?_⟩;have:k+1+(i-(k+1))=i:=(by omega);simp only[this];exact e
theorem ag4 {α β:Type}{a:List α}{b:List β}{k:Nat}(h:a.length=b.length):(zo a k).zip (zo b k)=zo (a.zip b) k:=by
 unfold zo;rw[F9 (by simp[h])];have e1:(a.zip b).take k=(a.take k).zip (b.take k):=by rw[Hr,List.take_zipWith]
 have e2:(a.zip b).drop (k+1)=(a.drop (k+1)).zip (b.drop (k+1)):=by rw[Hr,List.drop_zipWith]
 rw[e1,e2]
theorem am8 {m:aj}{s:fC}(h:Jw m)(hs:s∈m.aO):∃m',FX m s=some m'/\Mp m'/\∀r,lk m' r=if r=s then none else lk m r:=by
 obtain⟨x,hx⟩:=qx.1 ((aiD h).2 hs);obtain⟨j,hj,_⟩:=amO hx;obtain⟨hjl,hjh,_⟩:=Ny.1 hj;rw[GN h.kind,aY]at hjh;have hjn:j<m.aO.length:=by rw[<- h.len];exact hjl
 have hM:Jw (aj.mk 4 0 [] (zo m.aO j) (zo m.aP j)):=by refine⟨rfl,BZ.2 ((BZ.1 h.P7).sublist (Ea _ _)),?_⟩;show(zo m.aP j).length=(zo m.aO j).length;rw[Gx hjl,Gx hjn,h.len]
 refine⟨_,?_,⟨hM,rfl,rfl⟩,λr=>?_⟩
 ·unfold FX;rw[hj];simp only[h.kind,jY]
 ·apply Option.ext;intro x;rw[Kw hM];show(r,x)∈(zo m.aO j).zip (zo m.aP j)<->_;rw[ag4 h.len.symm,agm];by_cases e:r=s
  ·rw[aA e];constructor
   ·rintro⟨i,hi,hne,e2⟩;have l1:i<m.aO.length:=(by simp at hi;omega);rw[Fq,dF]at e2;refine eF (aa0 h l1 hjn ?_) hne;rw[iD _ l1,e2.1,hjh,e]
   ·intro e2;cases e2
  ·rw[au e,Kw h,kG];constructor
   ·rintro⟨i,hi,_,e2⟩;exact⟨i,hi,e2⟩
   ·rintro⟨i,hi,e2⟩;refine⟨i,hi,λc=>?_,e2⟩;subst c;rw[Fq,dF]at e2;rw[iD _ hjn,e2.1]at hjh;exact e hjh
theorem amb {m v:aj}{s:fC}(h:Jw m)(hs:s ∉ m.aO):∃m',addN m s v=some m'/\Mp m'/\∀r,lk m' r=if r=s then some v else lk m r:=by
 obtain⟨m',e,k1,k2,k3,k4,k5⟩:=ahq (v:=v) h hs;have hM:Jw m':=⟨k1,akQ h hs e,k4⟩;refine⟨m',e,⟨hM,k2,k3⟩,λr=>?_⟩;apply Option.ext;intro x;rw[Kw hM,k5];by_cases c:r=s
 ·rw[aA c];constructor
  ·rintro(q|q)
   ·rw[dF]at q;rw[q.2]
   ·have:=(Qz h).2 hs;rw[<- Kw h,c,this]at q;cases q
  ·intro q;cases q;exact .inl (by rw[c])
 ·rw[au c,Kw h];constructor
  ·rintro(q|q)
   ·rw[dF]at q;exact eF q.1 c
   ·exact q
  ·exact .inr
theorem JI {l:List fC}{i:Nat}(h:i<l.length){r:fC} : r∈l.take (i+1)<->r∈l.take i\/r=l.getD i default:=by rw[kC h,bG,uU,iD _ h]
theorem aiZ {m:aj}(h:Jw m){i:Nat}(hi:i<m.aO.length):m.aO.getD i default ∉ m.aO.take i:=by
 intro c;obtain⟨j,hj,e⟩:=List.mem_take_iff_getElem.1 c;have hj':j<m.aO.length:=by omega
 have:=aa0 h hj' hi (by rw[iD _ hj'];exact e);omega
def upn (p:List fC)(o:uN):uN:=uN.mk o.bM (p++o.uq) [] o.Value
theorem T.bs {n:aj}(s:fC)(h:Jw n)(hl:n.aO.length<=1000):∃p:Nat,Ev (λf=>G.slices_BinarySearch_string f n.aO s) ((p:Int),(Gh n s).isSome)/\∀j,Gh n s=some j->p=j:=by
 obtain⟨p,g,hp⟩:=T.slices_BinarySearch_string s (by unfold big;omega) h.P7;have hpl:=Zj h.kind h.P7 h.len hp;cases hc:decide (p<n.aO.length)&&n.aO.getD p default==s with
 | true=>rw[hc]at g hpl;rw[aA rfl]at hpl;refine⟨p,by rw[hpl];exact g,λj hj=>?_⟩;rw[hpl]at hj;exact Option.some.inj hj
 | false=>rw[hc]at g hpl;rw[au mD]at hpl;refine⟨p,by rw[hpl];exact g,λj hj=>?_⟩;rw[hpl]at hj;cases hj
theorem FH.big {B:Nat}{p:List fC}(hB:B<=1000)(h:FH B p):p.length<Ab.big:=by have:=h.1;unfold Ab.big;omega
theorem N2.fine {x:aj×aj}(h:N2 x):∃D E,Fine 60 D x.1/\Fine 60 E x.2:=by obtain⟨⟨D,h1⟩,⟨E,h2⟩⟩:=h;exact⟨D,E,h1,h2⟩
structure MF (D c:Nat)(m:aj):Prop where
 mp:Mp m
 cnt:m.aO.length<=c
 sh:∀s,s∈m.aO->s.length<=12
 kid:∀k,k∈m.aP->Fine 12 D k
theorem MF.fine {D c:Nat}{m:aj}(h:MF D c m)(hc:c<=12):Fine 12 (D+1) m:=by have h1:=h.cnt;have h2:=h.mp.map.len;exact⟨by rw[h.mp.text];simp,aI,h.sh,aI,λ_=>by omega,h.kid⟩
theorem ac6 {α:Type}{l:List α}{k:Nat}{v:α}(h:k<=l.length):(insL l k v).length=l.length+1:=by unfold insL;simp;omega
theorem Yo {m v:aj}{s:fC}{j:Nat}(h:Jw m)(hj:Gh m s=some j):addN m s v=some (Jd m j v):=by unfold addN;rw[hj];simp[h.kind]
theorem ZX {m v:aj}{s:fC}(h:Jw m)(hj:Gh m s=none):addN m s v=some (aj.mk 4 0 [] (insL m.aO (slt m s) s) (insL m.aP (slt m s) v)):=by unfold addN;rw[hj];simp[h.kind]
theorem Zk {m:aj}{s:fC}(h:Jw m):Gh m s=none<->s ∉ m.aO:=by rw[<- Qz h];unfold lk;simp
theorem amS {D c:Nat}{m v:aj}{s:fC}(h:MF D c m)(hs:s.length<=12)(hv:Fine 12 D v) :
 ∃m',addN m s v=some m'/\MF D (c+1) m'/\∀r,lk m' r=if r=s then some v else lk m r:=by
 cases hj:Gh m s with
 | some j=>
   refine⟨Jd m j v,Yo h.mp.map hj,⟨akW h.mp,Nat.le_succ_of_le h.cnt,h.sh,λk hk=>?_⟩,akT h.mp.map hj⟩;rcases qf hk with q|q
   ·exact h.kid k q
   ·exact q▸hv
 | none=>
   obtain⟨m',e,g1,g2⟩:=amb (v:=v) h.mp.map ((Zk h.mp.map).1 hj);refine⟨m',e,?_,g2⟩;rw[ZX h.mp.map hj,aH]at e;subst e;have hsl:=adJ m s;have hl:=h.mp.map.len;refine⟨g1,?_,λt ht=>?_,λk hk=>?_⟩
   ·show(insL m.aO (slt m s) s).length<=_;rw[ac6 aI];have:=h.cnt;omega
   ·rcases YY.1 ht with q|q
    ·exact q▸hs
    ·exact h.sh t q
   ·rcases YY.1 hk with q|q
    ·exact q▸hv
    ·exact h.kid k q
theorem amT {D c:Nat}{m:aj}{s:fC}(h:MF D c m):MF D c ((FX m s).getD m)/\∀r,lk ((FX m s).getD m) r=if r=s then none else lk m r:=by
 cases hj:Gh m s with
 | none=>
   have:FX m s=none:=(by unfold FX;rw[hj]);rw[this];refine⟨h,λr=>?_⟩;by_cases c:r=s
   ·rw[aA c,c];exact(Qz h.mp.map).2 ((Zk h.mp.map).1 hj)
   ·rw[au c];rfl
 | some j=>
   have hs:s∈m.aO:=by apply Classical.byContradiction;intro q;rw[(Zk h.mp.map).2 q]at hj;cases hj
   obtain⟨m',e,g1,g2⟩:=am8 h.mp.map hs;rw[e];refine⟨?_,g2⟩;unfold FX at e;rw[hj]at e;simp only[h.mp.map.kind,jY,aH]at e;subst e;have hjl:=A8 hj;refine⟨g1,?_,λt ht=>h.sh t ((Ea _ _).subset ht),λk hk=>h.kid k ((Ea _ _).subset hk)⟩;show(zo m.aO j).length<=c;have:=h.mp.map.len;rw[Gx aI];have:=h.cnt;omega
theorem T.adw {n v:aj}(s:fC)(h:Mp n)(hn:n.aO.length<=1000):∃m,addN n s v=some m/\Ev (λf=>G.pV f n s v) m:=by
 have hk:=h.map.kind;have hkl:=h.map.len;obtain⟨p,g,hlb⟩:=T.slices_BinarySearch_string s (by unfold big;omega) h.map.P7;have hpl:=Zj hk h.map.P7 hkl hlb;have aoc:=hlb.le;cases hc:decide (p<n.aO.length)&&n.aO.getD p default==s with
 | true=>rw[hc,aA rfl]at hpl;refine⟨Jd n p v,Yo h.map hpl,aN ?_⟩;simp only[G.pV];have:=A8 hpl;refine ak g (dR hc (dA (aT ?_)));rw[ai];rfl
 | false=>
   rw[hc,au mD]at hpl;have hsl:=ajr h.map.P7 hkl hlb hc;refine⟨aj.mk 4 0 [] (insL n.aO p s) (insL n.aP p v),by rw[ZX h.map hpl,hsl],aN ?_⟩;simp only[G.pV];refine ak g (dB hc ?_);have i1:Ev (λf=>G.mZ f n.aO (p:Int) [s]) (insL n.aO p s):=by refine aN ?_;simp only[G.mZ];refine um (by simp;omega) (aT ?_);rw[ai];rfl
   have i2:Ev (λf=>G.jf f n.aP (p:Int) [v]) (insL n.aP p v):=by refine aN ?_;simp only[G.jf];refine um (by simp;omega) (aT ?_);rw[ai];rfl
   exact ak i1 (ak i2 (aT (by rw[h.num,h.text,hk])))
theorem T.ahP {n:aj}(s:fC)(h:Mp n)(hn:n.aO.length<=1000):Ev (λf=>G.wF f n s) ((FX n s).getD n):=by
 have hkl:=h.map.len;obtain⟨p,g,hp⟩:=T.bs s h.map hn;refine aN ?_;simp only[G.wF];refine ak g ?_;unfold FX;cases hj:Gh n s with
 |none=>exact dB rfl (bK _)
 | some j=>
   have e:=hp j hj;subst e;have hpl:=A8 hj;simp only[FC p];have d1:Ev (λf=>G.jW f n.aP (p:Int) ((p+1:Nat):Int)) (zo n.aP p):=by refine aN ?_;simp only[G.jW,ai];exact dA (bK _)
   have d2:Ev (λf=>G.slices_Delete_string f n.aO (p:Int) ((p+1:Nat):Int)) (zo n.aO p):=by refine aN ?_;simp only[G.slices_Delete_string,ai];exact dA (bK _)
   refine dR rfl (ak d2 (ak d1 (aT ?_)));simp[h.map.kind,h.num,h.text]
def abk (m:aj)(s:fC)(v:aj):aj:=(addN m s v).getD m
theorem amR {D:Nat} : MF D 0 anY:=⟨⟨⟨rfl,rfl,rfl⟩,rfl,rfl⟩,aF _,(λs hs=>by cases hs),(λk hk=>by cases hk)⟩
structure MS (d:Nat)(a:aj):Prop where
 mp:Mp a
 sh:Shape (d+1) a=true
 len:a.aO.length<=6
 txt:∀s,s∈a.aO->s.length<=12
theorem aeE {d:Nat}{a:aj}(h:Shape (d+1) a=true)(hk:a.bM=4):MS d a:=by obtain⟨_,h2,h3⟩:=QB (rW h) hk;exact⟨aoB (rW h) hk,h,h2,h3⟩
theorem MS.name {d:Nat}{a:aj}(h:MS d a){i:Nat}(hi:i<a.aP.length):(a.aO.getD i default).length<=12:=h.txt _ (getD_mem default (by rw[<- h.mp.map.len];exact hi))
theorem MS.mf {d:Nat}{a:aj}(h:MS d a):MF d 6 a:=⟨h.mp,h.len,h.txt,λk hk=>Az (wu h.sh k hk)⟩
theorem QC {D E c e:Nat}{m:aj}(h:MF D c m)(hD:D<=E)(hc:c<=e):MF E e m:=⟨h.mp,bJ h.cnt hc,h.sh,λk hk=>(h.kid k hk).mono (aF _) hD⟩
theorem adx {D c:Nat}{m v:aj}{s:fC}(h:MF D c m)(hs:s.length<=12)(hv:Fine 12 D v):addN m s v=some (abk m s v)/\MF D (c+1) (abk m s v)/\∀r,lk (abk m s v) r=if r=s then some v else lk m r:=by
 obtain⟨m',e,h1,h2⟩:=amS h hs hv;have:abk m s v=m':=by unfold abk;rw[e];rfl
 rw[this];exact⟨e,h1,h2⟩
theorem Lm (k:Nat):bV 0 (k+1)=bV 0 k++[k]:=by rw[List.range'_concat];simp
theorem SI {a:aj}(h:Jw a){i:Nat}(hi:i<a.aP.length):a.aO.getD i default ∉ a.aO.take i:=aiZ h (by rw[<- h.len];exact hi)
def Uh (F:aj->aj->aj)(p m:aj)(i:Nat):aj:=
 if(p.aP.getD i default).bM=0 then(FX m (p.aO.getD i default)).getD m else abk m (p.aO.getD i default) (F ((lk m (p.aO.getD i default)).getD xJ) (p.aP.getD i default))
def Rt (n:aj):aj:=if n.bM=4 then n else anY
def N9 : Nat->aj->aj->aj
 |0,_,p=>p
 |d+1,n,p=>if p.bM=4 then(bV 0 p.aP.length).foldl (Uh (N9 d) p) (Rt n)else p
theorem VM {d:Nat}{n p:aj} : N9 (d+1) n p=if p.bM=4 then(bV 0 p.aP.length).foldl (Uh (N9 d) p) (Rt n)else p:=by rw[N9]
def mgV (F:aj->aj->aj)(n0 p:aj)(r:fC):Option aj:=match lk p r with
 |none=>lk n0 r
 |some q=>if q.bM=0 then none else some (F ((lk n0 r).getD xJ) q)
theorem SA {d D c:Nat}{n0 p:aj}{F:aj->aj->aj}(mp:MS d p)(h0:MF D c n0){Q:aj->Prop}(hQ:Q xJ)(hq:∀k,k∈n0.aP->Q k)(hF:∀o q,Q o->Shape d q=true->Fine 12 D (F o q)) :
 ∀i,i<=p.aP.length->MF D (c+i) ((bV 0 i).foldl (Uh F p) n0)/\∀r,lk ((bV 0 i).foldl (Uh F p) n0) r=if r∈p.aO.take i then mgV F n0 p r else lk n0 r:=by
 intro i
 induction i with
 |zero=>intro _;exact⟨h0,λr=>by simp⟩
 | succ i ih=>
   intro hi;obtain⟨h1,h2⟩:=ih aI;have hi':i<p.aP.length:=(by omega);have hin:i<p.aO.length:=(by rw[<- mp.mp.map.len];exact hi');have hx:=aov mp.mp.map hi';have hnt:=SI mp.mp.map hi';rw[Lm,EG,wG,Gu];generalize (bV 0 i).foldl (Uh F p) n0=m at h1 h2⊢;have hms:lk m (p.aO.getD i default)=lk n0 (p.aO.getD i default):=(by rw[h2,au hnt]);have fin:∀(m':aj),(∀r,lk m' r=if r=p.aO.getD i default then mgV F n0 p (p.aO.getD i default)else lk m r)->∀r,lk m' r=if r∈p.aO.take (i+1)then mgV F n0 p r else lk n0 r:=λm' g r=>by
    rw[g];by_cases c:r=p.aO.getD i default
    ·rw[aA c,aA ((JI hin).2 (.inr c)),c]
    ·rw[au c,h2];by_cases q:r∈p.aO.take i
     ·rw[aA q,aA ((JI hin).2 (.inl q))]
     ·rw[au q,au (λz=>((JI hin).1 z).elim q c)]
   unfold Uh;by_cases c:(p.aP.getD i default).bM=0
   ·rw[aA c];obtain⟨g1,g2⟩:=amT (s:=p.aO.getD i default) h1;refine⟨QC g1 (aF _) aI,fin _ (λr=>?_)⟩;rw[g2];have:mgV F n0 p (p.aO.getD i default)=none:=(by unfold mgV;rw[hx];simp only[aA c]);rw[this]
   ·rw[au c,hms];have hold:Q ((lk n0 (p.aO.getD i default)).getD xJ):=by
     cases hl:lk n0 (p.aO.getD i default)with
     |none=>exact hQ
     |some x=>exact hq _ (adb hl)
    obtain⟨_,g1,g2⟩:=adx h1 (mp.name hi') (hF _ _ hold (Di mp.sh hi'));refine⟨g1,fin _ (λr=>?_)⟩;rw[g2];have:mgV F n0 p (p.aO.getD i default)=some (F ((lk n0 (p.aO.getD i default)).getD xJ) (p.aP.getD i default)):=(by unfold mgV;rw[hx];simp only[au c]);rw[this]
abbrev ShN (E:Nat)(n:aj):Prop:=Shape E n=true\/n=xJ
theorem acg {E:Nat}{n:aj}(h:ShN E n):∃e,(e+1=E\/e=0)/\MF e 6 (Rt n)/\∀k,k∈(Rt n).aP->ShN e k:=by
 unfold Rt;by_cases hk:n.bM=4
 ·rw[aA hk];rcases h with h|h
  ·cases E with
   |zero=>cases h
   |succ e=>exact⟨e,.inl rfl,(aeE h hk).mf,λk hk'=>.inl (wu h k hk')⟩
  ·rw[h]at hk;cases hk
 ·rw[au hk];exact⟨0,.inr rfl,QC amR (aF _) aI,λk hk'=>by cases hk'⟩
theorem QD : ∀(d:Nat) {E:Nat} {n p:aj},Shape d p=true->ShN E n->Fine 12 (d+E+1) (N9 d n p)
 |0,_,_,_,h,_=>by cases h
 | d+1,E,n,p,hp,hn=>by
   rw[VM];by_cases h4:p.bM=4
   ·rw[aA h4];have mp:=aeE hp h4;obtain⟨e,he,hb,hk⟩:=acg hn;have h:=(SA (F:=N9 d) (D:=d+e+1) mp (QC hb aI (aF _)) (Q:=ShN e) (.inr rfl) hk (λo q ho hq=>QD d hq ho) p.aP.length (aF _)).1;have:=mp.len;have:=mp.mp.map.len;exact(h.fine aI).mono (aF _) aI
   ·rw[au h4];exact(Az hp).mono (aF _) aI
section
section
variable {d e:Nat} {n0 p:aj} (mp:MS d p) (h0:MF (d+e+1) 6 n0) (hq:∀k,k∈n0.aP->ShN e k) (hd:d<=5)
include mp h0 hq hd
theorem T.Le.L4 (hs:∀o q,ShN e o->Shape d q=true->Ev (λf=>G.fD f o q) (N9 d o q)):∀(t i:Nat),i+t=p.aP.length ->
 Ev (λf=>G.fD.L4 f p (i:Int) ((bV 0 i).foldl (Uh (N9 d) p) n0).bM ((bV 0 i).foldl (Uh (N9 d) p) n0).wJ ((bV 0 i).foldl (Uh (N9 d) p) n0).lI ((bV 0 i).foldl (Uh (N9 d) p) n0).aO ((bV 0 i).foldl (Uh (N9 d) p) n0).aP) ((bV 0 p.aP.length).foldl (Uh (N9 d) p) n0):=by
 have hl:=mp.len;have hk:=mp.mp.map.len;intro t
 induction t with
 | zero=>intro i hi;have:i=p.aP.length:=(by omega);subst this;refine aN ?_;simp only[G.fD.L4];exact sH (aT (aj.eta _))
 | succ t ih=>
   intro i hi;have hn:=ih (i+1) aI;rw[Lm,EG,wG,Gu]at hn;have hF:=λ(o q:aj) (ho:ShN e o) (hq:Shape d q=true)=>QD d hq ho;obtain⟨h1,h2⟩:=SA mp h0 (Q:=ShN e) (.inr rfl) hq hF i aI;generalize (bV 0 i).foldl (Uh (N9 d) p) n0=m at h1 h2 hn⊢;have hi':i<p.aP.length:=(by omega);have hx:=Di mp.sh hi';have hc:=h1.cnt;have hms:lk m (p.aO.getD i default)=lk n0 (p.aO.getD i default):=(by rw[h2,au (SI mp.mp.map hi')]);obtain⟨q,gq,hqj⟩:=T.bs (p.aO.getD i default) h1.mp.map aI;refine aN ?_;simp only[G.fD.L4,ai,FC i,aj.eta];unfold Uh at hn;refine sG (dA (dA ?_));by_cases c:(p.aP.getD i default).bM=0
   ·rw[aA c]at hn;exact dR (by simpa using c) (ak (T.ahP _ h1.mp aI) hn)
   ·rw[au c]at hn;have fin:∀o,o=(lk m (p.aO.getD i default)).getD xJ->Ev (λf=>G.fD.K5 f p (i:Int) m.bM m.wJ m.lI m.aO m.aP o.bM o.wJ o.lI o.aO o.aP) ((bV 0 p.aP.length).foldl (Uh (N9 d) p) n0):=λo ho=>by
     have hso:ShN e o:=by
      rw[ho,hms];cases hl':lk n0 (p.aO.getD i default)with
      |none=>exact .inr rfl
      |some x=>exact hq x (adb hl')
     have hf:=hF _ _ hso hx;obtain⟨g1,_⟩:=adx h1 (mp.name hi') hf;obtain⟨m',g2,g3⟩:=T.adw (v:=N9 d o (p.aP.getD i default)) (p.aO.getD i default) h1.mp aI;rw[g1]at g2;cases g2;rw[<- ho]at hn;refine aN ?_;simp only[G.fD.K5,ai,FC i,aj.eta];exact dA (ak (hs _ _ hso hx) (ak g3 hn))
    refine dB (by simpa using c) (ak gq ?_);cases hj:Gh m (p.aO.getD i default)with
    |none=>exact dB rfl (fin xJ (by unfold lk;rw[hj];rfl))
    | some j=>have ej:=hqj j hj;subst ej;have hjl:=A8 hj;simp only[ai];exact dR rfl (dA (fin (m.aP.getD q default) (by unfold lk;rw[hj];rfl)))
end
theorem T.Le : ∀(d:Nat) {E:Nat} {n p:aj},d<=5->Shape d p=true->ShN E n->Ev (λf=>G.fD f n p) (N9 d n p)
 |0,_,_,_,_,h,_=>by cases h
 | d+1,E,n,p,hd,hp,hn=>by
   refine aN ?_;simp only[G.fD];rw[VM];refine dh (λc=>?_) (λc=>?_)
   ·have:¬p.bM=4:=(by simpa using c);rw[au this];exact ak (T.bC Fe (Az hp)) (bK _)
   ·have kp:p.bM=4:=(by simpa using c);rw[aA kp];have mp:=aeE hp kp;obtain⟨e,he,hb,hq⟩:=acg hn;have L:=T.Le.L4 mp (QC hb (by omega:e<=d+e+1) (aF _)) hq aI (λo q ho hq=>T.Le d aI hq ho) p.aP.length 0 aI;have L':Ev (λf=>G.fD.K1 f p (Rt n).bM (Rt n).wJ (Rt n).lI (Rt n).aO (Rt n).aP) ((bV 0 p.aP.length).foldl (Uh (N9 d) p) (Rt n)):=by
     refine aN ?_;simp only[G.fD.K1];exact L
    unfold Rt at L'⊢;refine dh (λc=>?_) (λc=>?_)
    ·have kn:n.bM=4:=(by simpa using c);rw[aA kn]at L'⊢;have hf:Fine 12 E n:=by
      rcases hn with h|h
      ·exact Az h
      ·rw[h]at kn;cases kn
     exact ak (T.bC Fe hf) L'
    ·have kn:¬n.bM=4:=(by simpa using c);rw[au kn]at L'⊢;exact L'
theorem T.sV {D E:Nat}{n p:aj}(hn:Fine 60 D n)(hp:Fine 60 E p):Ev (λf=>G.sV f n p) (pW (if Val n&&Val p then(some (N9 5 n p)).filter Val else none)):=by refine aN ?_;simp only[G.sV];refine ak (T.dm DV hn) (dh (λe1=>?_) (λe1=>aT (by rw[e1];rfl)));refine ak (T.dm DV hp) (dh (λe2=>?_) (λe2=>aT (by rw[e1,e2];rfl)));have gp:=T.Le 5 aI (uF e2) (.inl (uF e1));have gc:=T.pU (o:=some (N9 5 n p)) Fe (λm hm=>by cases hm;exact QD 5 (uF e2) (.inl (uF e1)));rw[e1,e2];exact ak gp (ak gc (bK _))
end
theorem agw {n:aj}{s:fC} : Ee n [s]=FX n s:=by unfold Ee Ih;rfl
theorem T.jK : ∀(d:Nat) {E:Nat} {n p:aj},d<=5->Shape d p=true->ShN E n->Ev (λf=>G.jK f n p) (N9 d n p)
 |0,_,_,_,_,h,_=>by cases h
 | d+1,E,n,p,hd,hp,hn=>by
   refine aN ?_;simp only[G.jK];rw[VM];refine dh (λc=>?_) (λc=>?_)
   ·have:¬p.bM=4:=(by simpa using c);rw[au this];exact ak (T.cO Fe (Az hp)) (bK _)
   ·have kp:p.bM=4:=(by simpa using c);rw[aA kp];have mp:=aeE hp kp;obtain⟨e,he,hb,hq⟩:=acg hn;have hl:=mp.len;have hk:=mp.mp.map.len;have hF:=λ(o q:aj) (ho:ShN e o) (hq:Shape d q=true)=>QD d hq ho;have facts:=λi hi=>SA (F:=N9 d) mp (QC hb (by omega:e<=d+e+1) (aF _)) (Q:=ShN e) (.inr rfl) hq hF i hi;have L:∀(t i:Nat),i+t=p.aP.length->Ev (λf=>G.jK.L2 f p (i:Int) ((bV 0 i).foldl (Uh (N9 d) p) (Rt n)).bM ((bV 0 i).foldl (Uh (N9 d) p) (Rt n)).wJ ((bV 0 i).foldl (Uh (N9 d) p) (Rt n)).lI ((bV 0 i).foldl (Uh (N9 d) p) (Rt n)).aO ((bV 0 i).foldl (Uh (N9 d) p) (Rt n)).aP) ((bV 0 p.aP.length).foldl (Uh (N9 d) p) (Rt n)):=by
     intro t
     induction t with
     | zero=>intro i hi;have:i=p.aP.length:=(by omega);subst this;refine aN ?_;simp only[G.jK.L2];exact sH (aT (aj.eta _))
     | succ t ih=>
       intro i hi;have hnx:=ih (i+1) aI;rw[Lm,EG,wG,Gu]at hnx;obtain⟨h1,h2⟩:=facts i aI;generalize (bV 0 i).foldl (Uh (N9 d) p) (Rt n)=m at h1 h2 hnx⊢;have hi':i<p.aP.length:=(by omega);have hx:=Di mp.sh hi';have hc:=h1.cnt;have hms:lk m (p.aO.getD i default)=lk (Rt n) (p.aO.getD i default):=(by rw[h2,au (SI mp.mp.map hi')]);have hfm:=h1.fine aI;refine aN ?_;simp only[G.jK.L2,ai,FC i,aj.eta];unfold Uh at hnx;refine sG (dA (ak (T.jL _ Fe hfm) (dA ?_)));cases hpl:Gh m (p.aO.getD i default)with
       | none=>
         have neg:decide (0<=KA none)=false:=(by decide);have hlk:lk m (p.aO.getD i default)=none:=(by unfold lk;rw[hpl];rfl);by_cases c:(p.aP.getD i default).bM=0
         ·rw[aA c]at hnx;have:(FX m (p.aO.getD i default)).getD m=m:=(by unfold FX;rw[hpl];rfl);rw[this]at hnx;exact dR (by simpa using c) (dB neg (dA (dB (by simpa using c) (dA hnx))))
         ·rw[au c,hlk]at hnx;have hf:=hF xJ _ (.inr rfl) hx;obtain⟨g1,_⟩:=adx h1 (mp.name hi') hf;have g3:=T.rO (p.aO.getD i default) (show 12<lim by decide) hfm hf;rw[g1]at g3;exact dB (by simpa using c) (dA (dR (by simpa using c) (dB neg (dA (dA (ak (T.jK d aI hx (.inr rfl:ShN 0 xJ)) (ak g3 hnx)))))))
       | some j=>
         have pos:decide (0<=KA (some j))=true:=dW (by show(0:Int)<=(j:Int);omega);have hjl:=A8 hpl;have hlk:lk m (p.aO.getD i default)=some (m.aP.getD j default):=(by unfold lk;rw[hpl];rfl);by_cases c:(p.aP.getD i default).bM=0
         ·rw[aA c]at hnx;have g3:=T.kV [p.aO.getD i default] (show 12+1<lim by decide) (by unfold big;simp) hfm;rw[agw]at g3;obtain⟨m',hm'⟩:∃m',FX m (p.aO.getD i default)=some m':=(by unfold FX;rw[hpl];exact⟨_,rfl⟩);rw[hm']at g3 hnx;exact dR (by simpa using c) (dR pos (ak g3 hnx))
         ·rw[au c,hlk]at hnx;have hso:ShN e (m.aP.getD j default):=by
           rw[hms]at hlk;exact hq _ (adb hlk)
          have hf:=hF _ _ hso hx;have e1:abk m (p.aO.getD i default) (N9 d (m.aP.getD j default) (p.aP.getD i default))=Jd m j (N9 d (m.aP.getD j default) (p.aP.getD i default)):=(by unfold abk;rw[Yo h1.mp.map hpl];rfl);rw[lW,e1]at hnx;refine dB (by simpa using c) (dA (dR (by simpa using c) (dR pos ?_)));show Ev (λf=>Ab.chk _ _) _;simp only[KA,ai];exact dA (dA (ak (T.jK d aI hx hso) (ak (T.pY Fe hfm hf hjl) hnx)))
    have L':Ev (λf=>G.jK.K1 f p (Rt n).bM (Rt n).wJ (Rt n).lI (Rt n).aO (Rt n).aP) ((bV 0 p.aP.length).foldl (Uh (N9 d) p) (Rt n)):=by refine aN ?_;simp only[G.jK.K1];exact L p.aP.length 0 aI
    unfold Rt at L'⊢;refine dh (λc=>?_) (λc=>?_)
    ·have kn:n.bM=4:=(by simpa using c);rw[aA kn]at L'⊢;have hf:Fine 12 E n:=by
      rcases hn with h|h
      ·exact Az h
      ·rw[h]at kn;cases kn
     exact ak (T.cO Fe hf) L'
    ·have kn:¬n.bM=4:=(by simpa using c);rw[au kn]at L'⊢;exact L'
def afa (n p:aj):Option aj:=if Val n&&Val p then(some (N9 5 n p)).filter Val else none
theorem T.rF {D E:Nat}{n p:aj}(hn:Fine 60 D n)(hp:Fine 60 E p):Ev (λf=>G.rF f n p) (pW (afa n p)):=by refine aN ?_;simp only[G.rF];unfold afa;refine ak (T.iI DV hn) (dh (λe1=>?_) (λe1=>aT (by rw[e1];rfl)));refine ak (T.iI DV hp) (dh (λe2=>?_) (λe2=>aT (by rw[e1,e2];rfl)));have gp:=T.jK 5 aI (uF e2) (.inl (uF e1));have gc:=T.qJ (o:=some (N9 5 n p)) Fe (λm hm=>by cases hm;exact QD 5 (uF e2) (.inl (uF e1)));rw[e1,e2];exact ak gp (ak gc (bK _))
def NmT (l:List fC)(t:fC):Bool:=decide (t∈l)||decide (([42]:fC)∈l)
theorem T.nJ {l:List fC}{t:fC}(hl:l.length<=1000):Ev (λf=>G.nJ f l t) (NmT l t):=by
 have L:∀(k i:Nat),i+k=l.length->Ev (λf=>G.nJ.L1 f l t i) (NmT (l.drop i) t):=by
  intro k
  induction k with
  | zero=>intro i hi;refine aN ?_;simp only[G.nJ.L1];refine sH (aT ?_);rw[ay aI];rfl
  | succ k ih=>
    intro i hi;have e:NmT (l.drop i) t=(l.getD i default==t||(l.getD i default==[42]||NmT (l.drop (i+1)) t)):=by
     rw[gu default (by omega:i<l.length)];unfold NmT;rw[tH];simp only[iJ,aC,aK,aY];constructor
     ·rintro((h|h)|(h|h))
      ·exact .inl h.symm
      ·exact .inr (.inr (.inl h))
      ·exact .inr (.inl h.symm)
      ·exact .inr (.inr (.inr h))
     ·rintro(h|h|h|h)
      ·exact .inl (.inl h.symm)
      ·exact .inr (.inl h.symm)
      ·exact .inl (.inr h)
      ·exact .inr (.inr h)
    refine aN ?_;simp only[G.nJ.L1,ai,FC i];rw[e];refine sG (dA (dh (λe1=>aT (by rw[e1];rfl)) (λe1=>dA (dh (λe2=>aT (by rw[e1,e2];rfl)) (λe2=>?_)))));rw[e1,e2];exact ih (i+1) aI
 refine aN ?_;simp only[G.nJ];exact L l.length 0 aI
theorem T.Contains {l:List fC}{t:fC}(hl:l.length<=1000):Ev (λf=>G.slices_Contains_string f l t) (decide (t∈l)):=by
 have L:∀(k i:Nat),i+k=l.length->∃r:Int,Ev (λf=>G.slices_Index_string.L1 f l t i) r/\decide (0<=r)=decide (t∈l.drop i):=by
  intro k
  induction k with
  | zero=>intro i hi;refine⟨-1,aN ?_,by rw[ay aI];simp⟩;simp only[G.slices_Index_string.L1];exact sH (bK _)
  | succ k ih=>
    intro i hi;rw[gu default (by omega:i<l.length)];by_cases c:t=l.getD i default
    ·refine⟨i,aN ?_,by rw[<- c];simp⟩;simp only[G.slices_Index_string.L1,ai];exact sG (dA (dR (beq_iff_eq.2 c) (bK _)))
    ·obtain⟨r,h1,h2⟩:=ih (i+1) aI;refine⟨r,aN ?_,by rw[h2];simp only[aK,c,false_or]⟩;simp only[G.slices_Index_string.L1,ai,FC i];exact sG (dA (dB (beq_eq_false_iff_ne.2 c) h1))
 obtain⟨r,h1,h2⟩:=L l.length 0 aI;rw[dM]at h2;refine aN ?_;simp only[G.slices_Contains_string];refine ak (a:=r) (aN ?_) (aT h2);simp only[G.slices_Index_string];exact h1
theorem T.qV {l:List fC}{t:fC}(hl:l.length<=1000):Ev (λf=>G.qV f l t) (NmT l t):=by refine aN ?_;simp only[G.qV];unfold NmT;exact ak (T.Contains hl) (dh (λe=>aT (by rw[e];rfl)) (λe=>ak (T.Contains hl) (aT (by rw[e];rfl))))
def JQ (w a:List fC)(t:fC)(rd:Bool):Int:=
 if !w.isEmpty&&(t==[] || !NmT w t)then 412 else if !a.isEmpty&&(!(t==[])&&NmT a t)then(if rd then 304 else 412)else 200
theorem aeu {α:Type}(l:List α):decide ((0:Int)<(l.length:Int)) = !l.isEmpty:=by cases l<;>simp
theorem T.wV {w a:List fC}{t:fC}{rd:Bool}(hw:w.length<=1000)(ha:a.length<=1000):Ev (λf=>G.wV f w a t rd) (JQ w a t rd):=by refine aN ?_;simp only[G.wV,aeu];unfold JQ;have A:=T.nJ (t:=t) ha;have W:=T.nJ (t:=t) hw;generalize NmT a t=na at *;generalize NmT w t=nw at *;generalize w.isEmpty=ew;generalize a.isEmpty=ea;generalize (t==[])=et;cases ew<;>cases ea<;>cases et<;>cases na<;>cases nw<;>cases rd<;>exact evd
theorem T.kZ {w a:List fC}{t:fC}{rd:Bool}(hw:JS w=true)(ha:JS a=true)(sw:Sm w)(sa:Sm a)(ht:t=[]\/(WV t=true/\t.length<big))(lw:w.length<=1000)(la:a.length<=1000):Ev (λf=>G.kZ f w a t rd) (JQ w a t rd):=by
 have K:Ev (λf=>G.kZ.K1 f w a t rd) (JQ w a t rd):=by refine aN ?_;simp only[G.kZ.K1,aeu];unfold JQ;have A:=T.qV (t:=t) la;have W:=T.qV (t:=t) lw;clear ht;generalize NmT a t=na at *;generalize NmT w t=nw at *;generalize w.isEmpty=ew;generalize a.isEmpty=ea;generalize (t==[])=et;cases ew<;>cases ea<;>cases et<;>cases na<;>cases nw<;>cases rd<;>exact evd
 refine aN ?_;simp only[G.kZ];have h1:=T.kK sw;have h2:=T.kK sa;rw[hw]at h1;rw[ha]at h2;refine ak h1 (dR rfl (ak h2 (dR rfl (dh (λ_=>K) (λe=>?_)))));rcases ht with h|⟨h,hl⟩
 ·rw[h]at e;cases e
 ·have h3:=T.o8 t hl;rw[h]at h3;exact ak h3 (dR rfl K)
section
theorem aat {l:List fA}{t:fC}{p:Nat}(hA:Asc (Dq l)=true)(hp:LB (Dq l) t p):WS l t=if decide (p<l.length)&&(l.getD p default).iC==t then some p else none:=by
 have at_:∀q,q<l.length->(Dq l).getD q default=(l.getD q default).iC:=λq h=>JJ h
 by_cases c:p<l.length/\(l.getD p default).iC=t
 ·rw[aA (by simpa using c)];refine Kr.2 ⟨c.1,c.2,λq hq=>?_⟩;have:=hp.lo q hq;rw[at_ q aI]at this;exact Jm this
 ·rw[au (by simpa using c)];refine aay.2 λit hit e=>?_;obtain⟨q,hq,rfl⟩:=kG.1 hit;have e:(l.getD q default).iC=t:=by rw[iD _ hq];exact e
  by_cases h1:q<p
  ·have:=hp.lo q h1;rw[at_ q hq,e,Rw]at this;cases this
  ·by_cases h2:q=p
   ·subst h2;exact c ⟨hq,e⟩
   ·have h3:=He hA p q aI (by rw[Cf];exact hq);have h4:=hp.hi p (aF _) (by rw[Cf];omega);rw[at_ q hq,e]at h3;rw[h3]at h4;cases h4
theorem aas {l:List fA}{t:fC}{j:Nat}(hA:Asc (Dq l)=true)(h:WS l t=some j):(l.filter λit=> !(it.iC==t))=l.take j++l.drop (j+1):=by
 obtain⟨h1,h2,h3⟩:=Kr.1 h;have e:l=l.take j++l.getD j default::l.drop (j+1):=by rw[<- gu default h1,CY]
 have a1:(l.take j).filter (λit=> !(it.iC==t))=l.take j:=x8.2 λit hit=>by obtain⟨q,hq,rfl⟩:=kG.1 hit;rw[iK]at hq;have:=h3 q aI;rw[iD _ aI]at this;rw[List.getElem_take];simpa using this
 have a2:(l.drop (j+1)).filter (λit=> !(it.iC==t))=l.drop (j+1):=x8.2 λit hit=>by obtain⟨q,hq,rfl⟩:=kG.1 hit;rw[nD]at hq;have:=He hA j (j+1+q) aI (by rw[Cf];omega);rw[JJ h1,JJ aI,h2]at this;have:=Jm this;rw[iD _ aI]at this;rw[List.getElem_drop];simpa using λe=>this e.symm
 conv=>lhs;rw[e]
 rw[List.filter_append,List.filter_cons,a1,a2,h2];simp
section
variable {B:Nat} {s:bU} (t:fC) (hB:B<=lim) (h:Ht B s)
include hB h
theorem T.vN : Ev (λf=>G.vN f s t) (aoL (PU s t)):=by
 have hl:=h.len;unfold lim at hB;refine aN ?_;simp only[G.vN];unfold PU;refine ak (T.dY hB h) (dh (λe=>?_) (λe=>aT (by rw[e];rfl)));have hs:=Ci.1 e;obtain⟨p,g,hp⟩:=T.nZ t (by unfold big;omega) hs.P7;rw[aA e,aat hs.P7 hp];refine ak g (dh (λc=>?_) (λc=>?_))
 ·have c:decide (p<s.bH.length)&&(s.bH.getD p default).iC==t:=c;rw[aA c];have c1:p<s.bH.length:=by simp only[ah,aC]at c;exact c.1
  obtain⟨D,hD⟩:=(h.at_ c1).2;refine um (by show(0:Int)<=(p:Int)/\(p:Int)<_;omega) (ak (aN ?_) (bK _));simp only[G.su,ai];exact ak (T.bC hB hD) (bK _)
 ·have c:(decide (p<s.bH.length)&&(s.bH.getD p default).iC==t)=false:=c;rw[au (by rw[c];simp)];exact bK _
theorem T.uI : Ev (λf=>G.uI f s t) (aba (PR s t)):=by
 have hl:=h.len;unfold lim at hB;refine aN ?_;simp only[G.uI];unfold PR;refine ak (T.dY hB h) (dh (λe=>?_) (λe=>aT (by rw[e];rfl)));have hs:=Ci.1 e;have hsl:=hs.len;have hlo:=hs.lo;have hhi:=hs.hi;obtain⟨p,g,hp⟩:=T.nZ t (by unfold big;omega) hs.P7;have hf:=aat hs.P7 hp;refine dh (λe2=>aT (by rw[e2];simp;rfl)) (λe2=>?_);refine ak g (dh (λc=>?_) (λc=>?_))
 ·have c:(decide (p<s.bH.length)&&(s.bH.getD p default).iC==t)=true:=c;rw[aA c]at hf;have c1:p<s.bH.length:=by simp only[ah,aC]at c;exact c.1
  have w:af .i64 (s.kY+1)=s.kY+1:=by rw[GZ aI aI]
  refine ak (T.fG hB h) (ak (a:=s.bH.take p++s.bH.drop (p+1)) (aN ?_) (aT ?_))
  ·simp only[G.oh,FC p,ai];exact dA (bK _)
  ·rw[w,<- aas hs.P7 hf,e,e2,hf];rfl
 ·have c:(decide (p<s.bH.length)&&(s.bH.getD p default).iC==t)=false:=c;rw[au (by rw[c];simp)]at hf;exact aT (by rw[e,e2,hf];rfl)
end
structure RqF (q:bn):Prop where
 lo:1<=q.kP
 hi:q.kP<=5
 TL:NmV q.iC=true
 want:JS q.yK=true
 avoid:JS q.uM=true
 body:Val q.Body=true
 ops:PW q.Me=true
theorem Nz {q:bn} : ZM q=true<->RqF q:=by unfold ZM;simp only[ah,aC];exact⟨λ⟨⟨a,b⟩,c,d,e,f,g⟩=>⟨a,b,c,d,e,f,g⟩,λ⟨a,b,c,d,e,f,g⟩=>⟨⟨a,b⟩,c,d,e,f,g⟩⟩
theorem aju {t:fC}(h:WV t=true):t.length=4:=by unfold WV at h;simp only[ah,aC]at h;exact h.2
theorem abG {t:fC}(h:ZV t=true):t.length<=4:=by
 unfold ZV at h;simp only[iJ,aY]at h;rcases h with h|h
 ·rw[h];simp
 ·rw[aju h];exact aF _
theorem KG {l:List fC}(h:JS l=true):l.length<=4/\∀t,t∈l->ZV t=true:=by unfold JS at h;simp only[ah,aC,bf]at h;exact⟨h.2,h.1⟩
theorem UJ {l:List fC}(h:JS l=true):Sm l:=by obtain⟨h1,h2⟩:=KG h;refine⟨by unfold big;omega,λt ht=>?_⟩;have:=abG (h2 t ht);unfold big;omega
theorem UG : ∀k:Nat,k<16->okH (afY k)=true:=xM
theorem aib {n:Nat}(h:n<65521):WV (WZ n)=true:=by unfold WV WZ;simp only[gU,zX,rf,ah,iV,iU,decide_true];exact⟨UG _ aI,UG _ aI,UG _ aI,UG _ aI⟩
theorem ajy {n:aj}(h:Val n=true):WV (G6 n)=true:=by unfold G6;rw[aA h];exact aib (sum_lt _)
def ans (c:Int):bP:=bP.mk c [] 0 xJ
def Uw (s:bU)(t:fC)(n:aj)(c:Int):bU×bP:=match PX s t n with
 |some m=>(m,bP.mk c (G6 n) m.kY xJ)
 |none=>(s,ans 422)
noncomputable def SE (old:aj)(q:bn):Option aj:=if q.kP=4 then MG old q.Me else if q.kP=5 then afa old q.Body else some q.Body
noncomputable def ah8 (s:bU)(q:bn)(it:fA):bU×bP:=
 if q.kP=1 then(s,bP.mk 200 (G6 it.pO) it.mW it.pO)else if q.kP=3 then(match PR s q.iC with
  |some m=>(m,bP.mk 200 [] m.kY xJ)
  |none=>(s,ans 422))else match SE it.pO q with
  |some n=>Uw s q.iC n 200
  |none=>(s,ans 422)
noncomputable def aaG (s:bU)(q:bn):bU×bP:=match PU s q.iC with
 |none=>if q.kP=2 then(if JQ q.yK q.uM [] false=200 then Uw s q.iC q.Body 201 else(s,ans (JQ q.yK q.uM [] false)))else(s,ans 404)
 |some it=>if JQ q.yK q.uM (G6 it.pO) (q.kP==1)=200 then ah8 s q it else(s,ans (JQ q.yK q.uM (G6 it.pO) (q.kP==1)))
noncomputable def Gj (s:bU)(q:bn):bU×bP:=if JO s&&ZM q then aaG s q else(agp,ans 400)
theorem adM {j:Nat} : decide (KA (some j)<0)=false:=bg (by show ¬(j:Int)<0;omega)
theorem akG {s:bU}{t:fC}(hs:JO s=true):PU s t=(WS s.bH t).map λj=>s.bH.getD j default:=by unfold PU;rw[aA hs]
theorem abe {n m:aj}{l:List uN}(h:MG n l=some m):Val m=true:=by
 unfold MG at h;split at h
 ·rename_i c;exact aji (by simp at c;exact c.1) h
 ·cases h
theorem aaZ {n p m:aj}(h:afa n p=some m):Val m=true:=by
 unfold afa at h;split at h
 ·exact(yh.1 h).2
 ·cases h
theorem aiX {q:bn}{old n:aj}(hr:ZM q=true)(h:SE old q=some n):Val n=true:=by
 unfold SE at h;split at h
 ·exact abe h
 ·split at h
  ·exact aaZ h
  ·cases h;exact(Nz.1 hr).body
theorem T.vS {q:bn}{old:aj}(hq:OD 60 q)(ho:Val old=true):Ev (λf=>G.vS f old q) (pW (SE old q)):=by
 refine aN ?_;simp only[G.vS];unfold SE;have hp:=T.ry DV (Eo ho) hq.ops;obtain⟨D,hD⟩:=hq.body;have hm:=T.sV (Eo ho) hD;refine dh (λe=>?_) (λe=>dh (λe2=>?_) (λe2=>?_))
 ·rw[aA (by simpa using e)];exact ak hp (bK _)
 ·rw[au (by simpa using e),aA (by simpa using e2)];exact ak hm (bK _)
 ·rw[au (by simpa using e),au (by simpa using e2)];exact bK _
section
variable {s:bU} {q:bn} (hs:StF s) (hq:OD 60 q)
theorem T.pz (c:Int):Ev (λf=>G.pz f c) (ans c):=by refine aN ?_;simp only[G.pz];exact bK _
theorem copyS (s:bU)(hs:StF s):Ev (λf=>G.fG f s) s/\Ev (λf=>G.fZ f s) s:=⟨T.fG DV hs.fine,T.fZ DV hs.fine⟩
include hs hq
theorem T.nP {old:aj}{b:Bool}(hr:RqF q)(ho:Val old=true):Ev (λf=>G.nP f s q old b) (match SE old q with
 |some n=>Uw s q.iC n (if b then 200 else 201)
 |none=>(s,ans 422)):=by
 obtain⟨c1,_⟩:=copyS s hs;refine aN ?_;simp only[G.nP];refine ak (T.vS hq ho) ?_;cases hn:SE old q with
 |none=>exact dB rfl (ak c1 (bK _))
 | some n=>
   have hv:=aiX (Nz.2 hr) hn;refine dR rfl (ak (T.vO DV hs.fine hq.TL (Eo hv)) ?_);show Ev _ (Uw s q.iC n (if b then 200 else 201));unfold Uw;simp only[pW];cases PX s q.iC n with
   |none=>exact dB rfl (ak c1 (bK _))
   | some m=>refine dR rfl (ak (T.wo Fe (oG hv)) ?_);cases b<;>exact evd
theorem T.fF : Ev (λf=>G.fF f s q) (Gj s q):=by
 obtain⟨c1,_⟩:=copyS s hs;have hsv:=Ci.2 hs;refine aN ?_;simp only[G.fF];unfold Gj;refine ak (T.dY DV hs.fine) (dh (λ_=>?_) (λe=>by rw[hsv]at e;cases e));refine ak (T.l7 DV hq) (dh (λe=>?_) (λe=>aT (by rw[e,rP];rfl)));have hr:=Nz.1 e;have hw:=KG hr.want;have ha:=KG hr.avoid;rw[hsv,e];show Ev _ (aaG s q);unfold aaG;refine ak (T.vN q.iC DV hs.fine) ?_;cases hg:PU s q.iC with
 | none=>
   refine dB rfl (dh (λe2=>?_) (λe2=>?_))
   ·exact ak c1 (aT (by show _=if q.kP=2 then _ else _;rw[au (by simpa using e2)];rfl))
   have e2:q.kP=2:=(by simpa using e2);show Ev _ (if q.kP=2 then _ else _);rw[aA e2];refine aN ?_;simp only[G.fF.K2,e2];refine ak (T.kZ hr.want hr.avoid (UJ hr.want) (UJ hr.avoid) (.inl rfl) aI aI) (dh (λe3=>?_) (λe3=>?_))
   ·exact ak c1 (aT (by rw[au (by simpa using e3)];rfl))
   ·have e3:JQ q.yK q.uM [] false=200:=(by simpa using e3);rw[aA e3];have:=T.nP (old:=xJ) (b:=false) hs hq hr Tm;have hn:SE xJ q=some q.Body:=(by unfold SE;rw[au aI,au aI]);rw[hn]at this;exact dB rfl (dB rfl (ak this (bK _)))
 | some it=>
   obtain⟨_,_,_,hv⟩:=XF hg;have hct:=T.kZ (t:=G6 it.pO) (rd:=q.kP==1) hr.want hr.avoid (UJ hr.want) (UJ hr.avoid) (.inr ⟨ajy hv,by have:=alk it.pO;unfold big;omega⟩) aI aI;refine dR rfl (ak (T.wo Fe (oG hv)) (aN ?_));simp only[G.fF.K1];refine ak hct (dh (λe3=>?_) (λe3=>?_))
   ·exact ak c1 (aT (by show _=if _=_ then _ else _;rw[au (by simpa using e3)];rfl))
   show Ev _ (if _=_ then _ else _);rw[aA (by simpa using e3)];unfold ah8;refine dh (λe4=>?_) (λe4=>?_)
   ·rw[aA (by simpa using e4)];exact ak c1 (bK _)
   rw[au (by simpa using e4)];refine dh (λe5=>?_) (λe5=>?_)
   ·rw[aA (by simpa using e5)];refine ak (aN ?_) (bK _);simp only[G.rD];refine ak (T.uI q.iC DV hs.fine) ?_;cases PR s q.iC with
    |none=>exact dB rfl (ak c1 (bK _))
    |some m=>exact dR rfl (bK _)
   ·rw[au (by simpa using e5)];exact ak (T.nP hs hq hr hv) (bK _)
omit hq
theorem T.uD (t:fC):Ev (λf=>G.uD f s t) (match WS s.bH t with
 |some j=>G6 (s.bH.getD j default).pO
 |none=>[]):=by
 have hl:=hs.len;refine aN ?_;simp only[G.uD];refine ak (T.pX t (by unfold lim;omega)) ?_;cases hj:WS s.bH t with
 |none=>exact dR xM (bK _)
 | some j=>have hjl:=(Kr.1 hj).1;have hv:=(hs.it hjl).XZ;have h5:=fmt5 hv;have:=sum_lt (BG 5 (s.bH.getD j default).pO);have e:G6 (s.bH.getD j default).pO=WZ (agO (BG 5 (s.bH.getD j default).pO)):=(by unfold G6;rw[aA hv]);refine dB adM (um (by show(0:Int)<=(j:Int)/\(j:Int)<_;omega) ?_);rw[show(KA (some j)).toNat=j from ai j];show Ev _ (G6 _);rw[e];exact ak (T.ig 5 aI (uF hv)) (ak (T.rH _ (by unfold big;omega)) (ak (T.Bj aI) (bK _)))
theorem ai9 {x:fA} : ∃j,WS (Ll x s.bH) x.iC=some j/\(Ll x s.bH).getD j default=x:=by
 cases hj:WS (Ll x s.bH) x.iC with
 |none=>exact eF rfl (aay.1 hj x ((I9 hs.P7).2 (.inl rfl)))
 | some j=>
   obtain⟨h1,h2,_⟩:=Kr.1 hj;refine⟨j,rfl,?_⟩;rcases(I9 hs.P7).1 (getD_mem default h1)with e|⟨_,e⟩
   ·exact e
   ·exact eF h2 e
theorem T.mG {t:fC}{n:aj}(ht:NmV t=true)(hn:Val n=true):Ev (λf=>G.mG f s t n) (Uw s t n (if(WS s.bH t).isSome then 200 else 201)):=by
 obtain⟨_,c2⟩:=copyS s hs;have hl:=hs.len;have K:∀c:Int,Ev (λf=>G.mG.K1 f s t n c) (Uw s t n c):=λc=>by
  have e:PX s t n=(some (V3 s t n)).filter JO:=by unfold PX;rw[Ci.2 hs,ht,hn];rfl
  refine aN ?_;simp only[G.mG.K1];unfold Uw;rw[e];refine ak (T.mP DV hs.fine (Eo hn) hs) (ak (T.gX DV (aja DV hs.fine hs ht hn)) (dh (λe1=>?_) (λe1=>?_)))
  ·obtain⟨j,hj,hx⟩:=ai9 (x:=fA.mk t (s.kY+1) n) hs;have ht:=T.uD (s:=V3 s t n) (Ci.1 e1) t;have hj:WS (V3 s t n).bH t=some j:=hj;have hx:(V3 s t n).bH.getD j default=fA.mk t (s.kY+1) n:=hx;rw[hj]at ht;simp only[hx]at ht;refine ak ht (aT ?_);simp[uf,e1];rfl
  ·refine ak c2 (ak (T.pz 422) (aT ?_));simp[uf,e1]
 refine aN ?_;simp only[G.mG];refine ak (T.pX t (by unfold lim;omega)) ?_;cases WS s.bH t with
 |none=>exact dR xM (K _)
 |some j=>exact dB adM (K _)
include hq
theorem T.kR (hr:RqF q):Ev (λf=>G.kR f s q) (aaG s q):=by
 obtain⟨_,c2⟩:=copyS s hs;have hl:=hs.len;have hf:=T.pX (s:=s) q.iC (by unfold lim;omega);have htag:=T.uD hs q.iC;have hw:=KG hr.want;have ha:=KG hr.avoid;have chk:∀t,Ev (λf=>G.wV f q.yK q.uM t (q.kP==1)) (JQ q.yK q.uM t (q.kP==1)):=λt=>T.wV aI aI;have an:=T.pz;obtain⟨D,hD⟩:=hq.body;have hwr:=λ{n:aj} (hn:Val n=true)=>T.mG hs hr.TL hn;have K:∀(o:Option aj),(∀n,o=some n->Val n=true)->Ev (λf=>G.kR.K1 f s q (pW o).2 (pW o).1.bM (pW o).1.wJ (pW o).1.lI (pW o).1.aO (pW o).1.aP) (match o with
  |some n=>Uw s q.iC n (if(WS s.bH q.iC).isSome then 200 else 201)
  |none=>(s,ans 422))/\Ev (λf=>G.kR.K2 f s q (pW o).2 (pW o).1.bM (pW o).1.wJ (pW o).1.lI (pW o).1.aO (pW o).1.aP) (match o with
  |some n=>Uw s q.iC n (if(WS s.bH q.iC).isSome then 200 else 201)
  |none=>(s,ans 422)):=λo ho=>by
  cases o with
  | none=>
    constructor<;>refine aN ?_
    ·simp only[G.kR.K1];exact dB rfl (ak c2 (ak (an _) (bK _)))
    ·simp only[G.kR.K2];exact dB rfl (ak c2 (ak (an _) (bK _)))
  | some n=>
    constructor<;>refine aN ?_
    ·simp only[G.kR.K1,aj.eta];exact dR rfl (ak (hwr (ho n rfl)) (bK _))
    ·simp only[G.kR.K2,aj.eta];exact dR rfl (ak (hwr (ho n rfl)) (bK _))
 refine aN ?_;simp only[G.kR];unfold aaG;rw[akG (Ci.2 hs)];refine ak hf ?_;cases hj:WS s.bH q.iC with
 | none=>
   rw[hj]at htag hwr;refine dR xM (dh (λe=>?_) (λe=>?_))
   ·refine ak c2 (ak (an _) (aT ?_));show _=if q.kP=2 then _ else _
    rw[au (by simpa using e)]
   have e:q.kP=2:=(by simpa using e);show Ev _ (if q.kP=2 then _ else _);rw[aA e];have hc:=chk [];simp only[e]at hc⊢;refine ak htag (ak hc (dh (λe3=>?_) (λe3=>?_)))
   ·exact ak c2 (ak (an _) (aT (by rw[au (by simpa using e3)];rfl)))
   ·rw[aA (by simpa using e3)];exact dB rfl (dR rfl (ak (hwr hr.body) (bK _)))
 | some j=>
   rw[hj]at htag hwr K;have hjl:=(Kr.1 hj).1;have hit:=hs.it hjl;have hv:=hit.XZ;have jn:(KA (some j)).toNat=j:=ai j;have jr:0<=KA (some j)/\KA (some j)<(s.bH.length:Int):=(by show(0:Int)<=(j:Int)/\(j:Int)<_;omega);have hap:=T.jH DV (Eo hv) hq.ops;have hmg:=T.rF (Eo hv) hD;have k1:=K (MG (s.bH.getD j default).pO q.Me) (λn h=>abe h);have k2:=K (afa (s.bH.getD j default).pO q.Body) (λn h=>aaZ h);refine dB adM (ak htag (ak (chk _) (dh (λe3=>?_) (λe3=>?_))))
   ·refine ak c2 (ak (an _) (aT ?_));show _=if _=_ then _ else _
    rw[au (by simpa using e3)]
   have e3:JQ q.yK q.uM (G6 (s.bH.getD j default).pO) (q.kP==1)=200:=(by simpa using e3);show Ev _ (if _=_ then _ else _);rw[aA e3];unfold ah8;simp only[jn,e3];refine dh (λe4=>?_) (λe4=>?_)
   ·rw[aA (by simpa using e4)];exact ak c2 (ak htag (um jr (um jr (ak (T.cO Fe (oG hv)) (bK _)))))
   have e4:¬q.kP=1:=(by simpa using e4);rw[au e4];refine dh (λe5=>?_) (λe5=>?_)
   ·have e5:q.kP=2:=(by simpa using e5);rw[au aI];unfold SE;rw[au aI,au aI];exact ak (hwr hr.body) (bK _)
   refine dh (λe6=>?_) (λe6=>?_)
   ·rw[aA (by simpa using e6)];unfold PR;rw[Ci.2 hs,hj];refine dh (λe7=>?_) (λe7=>?_)
    ·exact ak c2 (ak (an _) (aT (by rw[e7];rfl)))
    ·have hlo:=hs.lo;have hhi:=hs.hi;have w:af .i64 (s.kY+1)=s.kY+1:=(by rw[GZ aI aI]);rw[w,e7];exact ak (T.sS DV hs.fine hs) (bK _)
   rw[au (by simpa using e6)];unfold SE;refine um jr (ak hap (dh (λe7=>?_) (λe7=>?_)))
   ·have e7:q.kP=5:=(by simpa using e7);rw[au aI,aA e7];refine um jr (ak hmg ?_)
    first|exact k2.1|exact k2.2
   ·have e7:¬q.kP=5:=(by simpa using e7);have e5:¬q.kP=2:=(by simpa using e5);have e6:¬q.kP=3:=(by simpa using e6);have:=hr.lo;have:=hr.hi;rw[aA aI]
    first|exact k1.1|exact k1.2
end
end
structure Yl (B D:Nat)(it:fA):Prop where
 TL:it.iC.length<=B
 XZ:Aq B D it.pO
theorem T.alh {D:Nat}{it:fA}{left:Int}(h:Yl mx D it)(h0:0<=left)(hl:left<=1048576):∃r,Ev (λf=>G.wY f it left) r/\r<=left/\(0<=r->Yl 1048576 D it/\(TJ it.pO:Int)<=3*(left-r)+3):=by
 have hn:it.iC.length<=9223372036854775807:=h.TL;have w0:af .i64 (left-(it.iC.length:Int))=left-(it.iC.length:Int):=CV aI aI;by_cases c:left-(it.iC.length:Int)<0
 ·refine⟨-1,aN ?_,aI,λh=>by omega⟩;simp only[G.wY,w0];exact dR (dW c) (bK _)
 obtain⟨v1,g1,a1,b1⟩:=T.UI D h.XZ (left:=left-(it.iC.length:Int)) aI aI;by_cases c1:v1<0
 ·refine⟨-1,aN ?_,aI,λh=>by omega⟩;simp only[G.wY,w0];exact dB (bg c) (ak g1 (dR (dW c1) (bK _)))
 refine⟨v1,aN ?_,aI,λh=>⟨⟨aI,(b1 h).1⟩,by have:=(b1 h).2;omega⟩⟩;simp only[G.wY,w0];exact dB (bg c) (ak g1 (dB (bg c1) (bK _)))
def mkI : List fA->Nat
 |[]=>0
 |it::r=>TJ it.pO+2+mkI r
theorem T.ajw {D:Nat}{s:bU}{left:Int}(h1:s.bH.length<=mx)(hO:∀o,o∈s.bH->Yl mx D o)(h0:0<=left)(hl:left<=1048576) :
 ∃r,Ev (λf=>G.sW f s left) r/\r<=left/\(0<=r->WU 1048576 s/\(mkI s.bH:Int)<=5*(left-r)):=by
 obtain⟨l,ck⟩:=s;have S:∃r,Ev (λf=>G.nM f l left) r/\r<=left/\(0<=r->(l.length:Int)<=left/\(∀o,o∈l->Yl 1048576 D o)/\(mkI l:Int)<=5*(left-r)):=by
  unfold mx at h1;simp only at h1 hO;have w0:af .i64 (left-(l.length:Int))=left-(l.length:Int):=CV aI aI;by_cases c:left-(l.length:Int)<0
  ·refine⟨-1,aN ?_,aI,λh=>by omega⟩;simp only[G.nM,w0];exact dR (dW c) (bK _)
  ·have L:∀(k i:Nat) (a:Int),i+k=l.length->0<=a->a<=1048576->∃r,Ev (λf=>G.nM.L1 f l a i) r/\r<=a/\(0<=r->(∀o,o∈l.drop i->Yl 1048576 D o)/\(mkI (l.drop i):Int)<=3*(a-r)+5*k):=by
    intro k
    induction k with
    | zero=>
      intro i a hi ha ha2;refine⟨a,aN ?_,aI,λ_=>⟨λs hs=>?_,by rw[ay aI];simp[mkI]⟩⟩
      ·simp only[G.nM.L1];exact sH (bK _)
      ·rw[ay aI]at hs;cases hs
    | succ k ih=>
      intro i a hi ha ha2;have hil:i<l.length:=(by omega);obtain⟨q,gq,q1,q2⟩:=T.alh (hO _ (ET default hil)) ha ha2;by_cases c1:q<0
      ·refine⟨-1,aN ?_,aI,λh=>by omega⟩;simp only[G.nM.L1,ai];exact sG (dA (ak gq (dR (dW c1) (bK _))))
      ·obtain⟨r,g,g1,g2⟩:=ih (i+1) q aI aI aI;refine⟨r,aN ?_,aI,λh=>⟨λs hs=>?_,?_⟩⟩
       ·simp only[G.nM.L1,ai,FC i];exact sG (dA (ak gq (dB (bg c1) g)))
       ·rw[gu default hil]at hs;rcases aK.1 hs with e|e
        ·rw[e];exact(q2 aI).1
        ·exact(g2 h).1 s e
       ·have h1:=(q2 aI).2;have h2:=(g2 h).2;rw[gu default hil];simp only[mkI];omega
   obtain⟨r,g,g1,g2⟩:=L l.length 0 (left-(l.length:Int)) aI aI aI;refine⟨r,aN ?_,aI,λh=>⟨aI,λs hs=>(g2 h).1 s (by rw[dM];exact hs),by have:=(g2 h).2;rw[dM]at this;omega⟩⟩;simp only[G.nM,w0];exact dB (bg c) g
 obtain⟨r,g,g1,g2⟩:=S;by_cases c:r<0
 ·refine⟨-1,aN ?_,aI,λh=>by omega⟩;simp only[G.sW];exact ak g (dR (dW c) (bK _))
 ·refine⟨r,aN ?_,aI,λh=>?_⟩
  ·simp only[G.sW];exact ak g (dB (bg c) (bK _))
  ·obtain⟨e1,e2,e3⟩:=g2 h;exact⟨⟨by show l.length<=_;omega,λit hi=>(e2 it hi).TL,λit hi=>⟨D,(e2 it hi).XZ⟩⟩,e3⟩
structure ae8 (D:Nat)(q:bn):Prop where
 TL:q.iC.length<=mx
 want:q.yK.length<=mx/\∀s,s∈q.yK->s.length<=mx
 avoid:q.uM.length<=mx/\∀s,s∈q.uM->s.length<=mx
 body:Aq mx D q.Body
 ops:q.Me.length<=mx/\∀o,o∈q.Me->Gi mx D o
theorem T.adO {D:Nat}{q:bn}{left:Int}(h:ae8 D q)(h0:0<=left)(hl:left<=1048576):∃r,Ev (λf=>G.o9 f q left) r/\r<=left/\(0<=r->TZ 1048576 q/\((q.yK.length+q.uM.length+TJ q.Body+L9 q.Me:Nat):Int)<=4*(left-r)+3):=by
 have hn:q.iC.length<=9223372036854775807:=h.TL;have w0:af .i64 (left-(q.iC.length:Int))=left-(q.iC.length:Int):=CV aI aI;by_cases c:left-(q.iC.length:Int)<0
 ·refine⟨-1,aN ?_,aI,λh=>by omega⟩;simp only[G.o9,w0];exact dR (dW c) (bK _)
 obtain⟨v1,g1,a1,b1⟩:=T.WA h.want.1 h.want.2 (left:=left-(q.iC.length:Int)) aI aI;by_cases c1:v1<0
 ·refine⟨-1,aN ?_,aI,λh=>by omega⟩;simp only[G.o9,w0];exact dB (bg c) (ak g1 (dR (dW c1) (bK _)))
 obtain⟨v2,g2,a2,b2⟩:=T.WA h.avoid.1 h.avoid.2 (left:=v1) aI aI;by_cases c2:v2<0
 ·refine⟨-1,aN ?_,aI,λh=>by omega⟩;simp only[G.o9,w0];exact dB (bg c) (ak g1 (dB (bg c1) (ak g2 (dR (dW c2) (bK _)))))
 obtain⟨v3,g3,a3,b3⟩:=T.UI D h.body (left:=v2) aI aI;by_cases c3:v3<0
 ·refine⟨-1,aN ?_,aI,λh=>by omega⟩;simp only[G.o9,w0];exact dB (bg c) (ak g1 (dB (bg c1) (ak g2 (dB (bg c2) (ak g3 (dR (dW c3) (bK _)))))))
 obtain⟨v4,g4,a4,b4⟩:=T.anf h.ops.1 h.ops.2 (left:=v3) aI aI;by_cases c4:v4<0
 ·refine⟨-1,aN ?_,aI,λh=>by omega⟩;simp only[G.o9,w0];exact dB (bg c) (ak g1 (dB (bg c1) (ak g2 (dB (bg c2) (ak g3 (dB (bg c3) (ak g4 (dR (dW c4) (bK _)))))))))
 refine⟨v4,aN ?_,aI,λh=>?_⟩
 ·simp only[G.o9,w0];exact dB (bg c) (ak g1 (dB (bg c1) (ak g2 (dB (bg c2) (ak g3 (dB (bg c3) (ak g4 (dB (bg c4) (bK _)))))))))
 ·obtain⟨e1,e2⟩:=b1 aI;obtain⟨e3,e4⟩:=b2 aI;obtain⟨e5,e6,e7⟩:=b4 aI;obtain⟨e8,e9⟩:=b3 aI;exact⟨⟨aI,⟨aI,λs hs=>by have:=e2 s hs;omega⟩,⟨aI,λs hs=>by have:=e4 s hs;omega⟩,⟨D,e8⟩,aI,λo ho=>⟨D,e6 o ho⟩⟩,aI⟩
theorem T.aln {s:bU}(h:WU 1048576 s):Ev (λf=>G.vT f s) s:=by
 obtain⟨l,ck⟩:=s;have hl:l.length<=1048576:=h.len;have I:∀it,it∈l->Ev (λf=>G.yx f it) it:=λit hi=>by obtain⟨D,hd⟩:=h.XZ it hi;refine aN ?_;simp only[G.yx];exact ak (T.ZE IX hd) (bK _)
 have L:∀(k i:Nat) (z:List fA),i+k=l.length->z.length=l.length->z.take i=l.take i->Ev (λf=>G.oW.L1 f l i z) l:=by
  intro k
  induction k with
  | zero=>intro i z hi hz ht;refine aN ?_;simp only[G.oW.L1];rw[bz aI,bz aI]at ht;exact sH (aT ht)
  | succ k ih=>intro i z hi hz ht;have hil:i<l.length:=(by omega);refine aN ?_;simp only[G.oW.L1,ai,FC i];refine sG (dA (ak (I _ (ET default hil)) (dA (ih (i+1) _ aI (by rw[qR];exact hz) ?_))));rw[iD _ hil];exact NC hil hz ht
 have S:Ev (λf=>G.oW f l) l:=by refine aN ?_;simp only[G.oW];exact dA (L l.length 0 _ aI mD rfl)
 refine aN ?_;simp only[G.vT];exact ak S (bK _)
theorem T.aei {s:bU}(h:WU 1048576 s):Ev (λf=>G.uy f s s) true:=by
 obtain⟨l,ck⟩:=s;have hl:l.length<=1048576:=h.len;have I:∀it,it∈l->Ev (λf=>G.yw f it it) true:=λit hi=>by obtain⟨D,hd⟩:=h.XZ it hi;refine aN ?_;simp only[G.yw];exact dR mD (dB mD (ak (T.Vr IX hd) (dR rfl (bK _))))
 have L:∀(k i:Nat),i+k=l.length->Ev (λf=>G.oU.L1 f l l i) true:=by
  intro k
  induction k with
  | zero=>intro i hi;refine aN ?_;simp only[G.oU.L1];exact sH (bK _)
  | succ k ih=>intro i hi;refine aN ?_;simp only[G.oU.L1,ai,FC i];exact sG (dA (dA (ak (I _ (ET default aI)) (dR rfl (ih (i+1) aI)))))
 have S:Ev (λf=>G.oU f l l) true:=by refine aN ?_;simp only[G.oU];exact dB mD (L l.length 0 aI)
 refine aN ?_;simp only[G.uy];exact ak S (dR rfl (dB mD (bK _)))
theorem T.agP {q:bn}(h:TZ 1048576 q):Ev (λf=>G.vI f q) q:=by obtain⟨D,hd⟩:=h.body;obtain⟨D',_,ho⟩:=Gi.all 0 h.ops.2;refine aN ?_;simp only[G.vI];exact ak (T.WH (bJ h.want.1 IX)) (ak (T.WH (bJ h.avoid.1 IX)) (ak (T.ZE IX hd) (ak (T.aoY IX (bJ h.ops.1 IX) ho) (bK _))))
theorem T.afL {q:bn}(h:TZ 1048576 q):Ev (λf=>G.vG f q q) true:=by obtain⟨D,hd⟩:=h.body;obtain⟨D',_,ho⟩:=Gi.all 0 h.ops.2;refine aN ?_;simp only[G.vG];exact dB mD (dR mD (ak (T.Vs (bJ h.want.1 IX)) (dR rfl (ak (T.Vs (bJ h.avoid.1 IX)) (dR rfl (ak (T.Vr IX hd) (dR rfl (ak (T.an0 IX (bJ h.ops.1 IX) ho) (dR rfl (bK _))))))))))
theorem abr {q:bn}(h:RqF q):OD 60 q:=by
 have P:∀{l:List fC},JS l=true->FH 60 l:=λ{l} hl=>by obtain⟨h1,h2⟩:=KG hl;exact⟨aI,λs hs=>by have:=abG (h2 s hs);omega⟩
 exact⟨by have:=VR h.TL;omega,P h.want,P h.avoid,⟨5,Eo h.body⟩,afN h.ops⟩
theorem T0.fF {s:bU}{q:bn}(hs:WU 1048576 s)(hq:TZ 1048576 q):Ev (λf=>G.fF f s q) (Gj s q):=by
 cases h1:JO s with
 | true=>
   cases h2:ZM q with
   |true=>exact T.fF (Ci.1 h1) (abr (Nz.1 h2))
   | false=>refine aN ?_;simp only[G.fF];unfold Gj;rw[h1,h2];exact ak (T0.dY IX hs) (dR h1 (ak (T0.l7 IX hq) (dB h2 (bK _))))
 | false=>refine aN ?_;simp only[G.fF];unfold Gj;rw[h1];exact ak (T0.dY IX hs) (dB h1 (bK _))
end Go.Ab
