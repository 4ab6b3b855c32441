/- The functions of the program that the laws reach: what they compute, the proofs that they do, the laws of the data (part 2). No conditions. -/
import Derived.Test.YtfengbmckcgbiaaGreatDoorB1
set_option linter.unusedVariables false
set_option linter.unusedSimpArgs false
set_option maxRecDepth 100000
set_option maxHeartbeats 4000000
set_option linter.defProp false
set_option linter.unusedSectionVars false
open Bool renaming false_or->Oz,and_eq_true->ah,true_and->bV,or_eq_true->gV,and_true->nD,and_false->nT,and_eq_false_iff->pK,eq_iff_iff->sN,false_and->wu,or_true->xC,true_or->yX
open Go.IntKind renaming wrap->af,bits->iq,signed->yu
open Go.Lib renaming compareBytes->jO,itoa->vF,indexByte->wO
open Go.Op renaming bytesLess->iw
open Int renaming tdiv_eq_ediv_of_nonneg->Af,toNat_natCast->aj,tmod->kP,tdiv->lU
open List renaming take_append_drop->CG,foldl_append->EE,getElem_zip->Fz,foldl_nil->GI,zip_append->Gn,zip->Ig,set_cons_zero->Jz,all_eq_true->aP,take_of_length_le->aT,mem_cons_self->aW,mem_append->aY,map_cons->aZ,drop_of_length_le->au,mem_cons->ay,replicate->bC,length_append->bD,getElem?_map->bP,drop_zero->bT,getD->bZ,getD_eq_getElem?_getD->bf,range'->bu,getElem_mem->dD,all_cons->dH,getElem?_cons_succ->dM,getElem?_cons_zero->dN,mem_cons_of_mem->dY,not_mem_nil->dn,mem_of_mem_take->fD,eq_nil_of_length_eq_zero->fO,length_take->gW,append_assoc->gX,length_cons->iC,append_nil->iQ,length_nil->iy,nil_append->jI,take_succ_eq_append_getElem->jS,flatMap_cons->jU,mem_iff_getElem->jW,mem_of_mem_drop->kN,getD_cons_succ->kU,length_drop->mG,take_succ_cons->mZ,length_singleton->nI,length_pos_iff->oQ,mem_or_eq_of_mem_set->pq,length_set->qp,range'_succ->rM,mem_singleton->rW,sum_cons->sS,foldl_cons->vK,all_nil->vS,filter_eq_self->xq,find?_cons->xu,cons_append->yN,length->yf,getD_cons_zero->zV
open List.cons renaming injEq->xm
open Nat renaming le_max_left->Cc,le_max_right->FB,pow_succ->Iz,le_refl->aA,mul_le_mul_right->aQ,le_trans->bH,add_sub_cancel->iH,mod_lt->wo
open Option renaming map_eq_some_iff->bW,map_some->iR,isSome_iff_exists->iW,bind_some->jP,getD_some->jQ,bind->lG,filter->sV,filter_eq_some_iff->xA
open Option.some renaming injEq->aC
open Prod.mk renaming injEq->bI
open UInt8 renaming ofNat_toNat->EF,ofNat->fB,toNat_inj->zB
namespace Go.Ab
open Go
def okB (b:UInt8):Bool:=decide (32<=b.toNat)&&decide (b.toNat<=126)
def PT (s:dR):Bool:=s.all okB&&decide (s.length<=12)
def PP (p:List dR):Bool:=p.all PT&&decide (p.length<=5)
def Asc : List dR->Bool
 |[]=>true
 |[_]=>true
 |x::y::r=>iw x y&&Asc (y::r)
def big : Nat:=4611686018427387904
theorem KD (b:UInt8):af .i64 (b.toNat:Int)=(b.toNat:Int):=by have:=b.toNat_lt;exact wrapN rfl (by omega)
theorem T.gu (a lo hi:Int):Ev (λn=>G.gu n a lo hi) (decide (lo<=a)&&decide (a<=hi)):=by
 refine ais ?_;simp only[G.gu];refine alH (λh=>?_) (λh=>?_)
 ·exact ake (by rw[h,bV])
 ·exact ake (by rw[h,wu])
theorem T.iP.L1 (s:dR)(hs:s.length<big):∀(k i:Nat),i+k=s.length->Ev (λn=>G.iP.L1 n s i) ((s.drop i).all okB&&decide (s.length<=12)):=by
 unfold big at hs;intro k
 induction k with
 | zero=>intro i hi;refine ais ?_;simp only[G.iP.L1];refine alW (by simp;omega) (ake ?_);rw[au (by omega)];simp;omega
 | succ k ih=>
   intro i hi;refine ais ?_;simp only[G.iP.L1];refine alZ (by simp;omega) (alI ?_);refine af5 (T.gu _ _ _) ?_;rw[dW (0:UInt8) (by omega:i<s.length),dH,aj,KD];have e:(decide ((32:Int)<=((s.getD i 0).toNat:Int))&&decide (((s.getD i 0).toNat:Int)<=126))=okB (s.getD i 0):=(by unfold okB;congr 1<;>(apply decide_eq_decide.2;omega));rw[e];refine alH (λh=>?_) (λh=>?_)
   ·rw[dS (by omega),h,bV];exact ih (i+1) (by omega)
   ·exact ake (by rw[h];rfl)
theorem T.iP (s:dR)(hs:s.length<big):Ev (λn=>G.iP n s) (PT s):=by refine ais ?_;simp only[G.iP];exact T.iP.L1 s hs s.length 0 (by omega)
theorem T.fK.L1 (s:dR)(hs:s.length<big):∀(k i:Nat),i+k=s.length->Ev (λn=>G.fK.L1 n s i) ((s.drop i).all okB):=by
 unfold big at hs;intro k
 induction k with
 | zero=>intro i hi;refine ais ?_;simp only[G.fK.L1];refine alW (by simp;omega) (ake ?_);rw[au (by omega)];rfl
 | succ k ih=>
   intro i hi;refine ais ?_;simp only[G.fK.L1];rw[dW (0:UInt8) (by omega:i<s.length),dH,aj];refine alZ (by simp;omega) (alI ?_);refine alH (λh=>?_) (λh=>?_)
   ·refine ake ?_;have:okB (s.getD i 0)=false:=by
     simp only[ahm]at h;simp only[okB,pK,alR];omega
    rw[this];rfl
   ·refine alI ?_;refine alH (λk=>?_) (λk=>?_)
    ·refine ake ?_;have:okB (s.getD i 0)=false:=by
      simp only[ahm]at k;simp only[okB,pK,alR];omega
     rw[this];rfl
    ·have:okB (s.getD i 0)=true:=by
      simp only[alR]at h k;simp only[okB,ah,ahm];omega
     rw[this,bV,dS (by omega)];exact ih (i+1) (by omega)
theorem T.fK (s:dR)(hs:s.length<big):Ev (λn=>G.fK n s) (PT s):=by
 refine ais ?_;simp only[G.fK];refine alH (λh=>?_) (λh=>?_)
 ·simp only[ahm]at h;refine ake ?_;have:decide (s.length<=12)=false:=by simp;omega
  rw[PT,this,nT]
 ·simp only[alR]at h;refine(T.fK.L1 s hs s.length 0 (by omega)).eq ?_;have:decide (s.length<=12)=true:=by simp;omega
  rw[PT,this,nD,bT]
def Sm (l:List dR):Prop:=l.length<big/\∀s,s∈l->s.length<big
theorem Sm.get {l:List dR}(h:Sm l){i:Nat}(hi:i<l.length):(l.getD i default).length<big:=by rw[gJ _ hi];exact h.2 _ (dD hi)
theorem T.jk.L1 (p:List dR)(hp:Sm p):∀(k i:Nat),i+k=p.length->Ev (λn=>G.jk.L1 n p i) ((p.drop i).all PT&&decide (p.length<=5)):=by
 have hl:=hp.1;unfold big at hl;intro k
 induction k with
 | zero=>intro i hi;refine ais ?_;simp only[G.jk.L1];refine alW (by simp;omega) (ake ?_);rw[au (by omega)];simp;omega
 | succ k ih=>
   intro i hi;refine ais ?_;simp only[G.jk.L1];refine alZ (by simp;omega) (alI ?_);rw[dW (default:dR) (by omega:i<p.length),dH,aj];refine af5 (T.iP _ (hp.get (by omega))) ?_;refine alH (λh=>?_) (λh=>?_)
   ·rw[dS (by omega),h,bV];exact ih (i+1) (by omega)
   ·exact ake (by rw[h];rfl)
theorem T.jk (p:List dR)(hp:Sm p):Ev (λn=>G.jk n p) (PP p):=by refine ais ?_;simp only[G.jk];exact T.jk.L1 p hp p.length 0 (by omega)
theorem T.iT.L1 (p:List dR)(hp:Sm p):∀(k i:Nat),i+k=p.length->Ev (λn=>G.iT.L1 n p i) ((p.drop i).all PT):=by
 have hl:=hp.1;unfold big at hl;intro k
 induction k with
 | zero=>intro i hi;refine ais ?_;simp only[G.iT.L1];refine alW (by simp;omega) (ake ?_);rw[au (by omega)];rfl
 | succ k ih=>
   intro i hi;refine ais ?_;simp only[G.iT.L1];refine alZ (by simp;omega) (alI ?_);rw[dW (default:dR) (by omega:i<p.length),dH,aj];refine af5 (T.fK _ (hp.get (by omega))) ?_;refine alH (λh=>?_) (λh=>?_)
   ·rw[dS (by omega),h,bV];exact ih (i+1) (by omega)
   ·exact ake (by rw[h];rfl)
theorem T.iT (p:List dR)(hp:Sm p):Ev (λn=>G.iT n p) (PP p):=by
 refine ais ?_;simp only[G.iT];refine alH (λh=>?_) (λh=>?_)
 ·simp only[ahm]at h;refine ake ?_;have:decide (p.length<=5)=false:=by simp;omega
  rw[PP,this,nT]
 ·simp only[alR]at h;refine(T.iT.L1 p hp p.length 0 (by omega)).eq ?_;have:decide (p.length<=5)=true:=by simp;omega
  rw[PP,this,nD,bT]
def NM (l:List dR):Bool:=l.all PT&&Asc l
theorem drop_pred {l:List dR}{i:Nat}(h0:0<i)(h:i<l.length):l.drop (i-1)=l.getD (i-1) default::l.getD i default::l.drop (i+1):=by rw[dW (default:dR) (by omega:i-1<l.length),show i-1+1=i by omega,dW (default:dR) h]
theorem T.oO.L1 (l:List dR)(hp:Sm l):∀(k i:Nat),i+k=l.length->Ev (λn=>G.oO.L1 n l i) ((l.drop i).all PT&&Asc (l.drop (i-1))):=by
 have hl:=hp.1;unfold big at hl;intro k
 induction k with
 | zero=>
   intro i hi;refine ais ?_;simp only[G.oO.L1];refine alW (by simp;omega) (ake ?_);rw[au (by omega)];by_cases h0:i=0
   ·rw[au (by omega)];rfl
   ·rw[dW (default:dR) (by omega:i-1<l.length),au (by omega)];rfl
 | succ k ih=>
   intro i hi;refine ais ?_;simp only[G.oO.L1];refine alZ (by simp;omega) (alI ?_);rw[dW (default:dR) (by omega:i<l.length),dH,aj];refine af5 (T.iP _ (hp.get (by omega))) ?_;refine alH (λh=>?_) (λh=>?_)
   ·rw[h,bV,dS (by omega)];refine alH (λh0=>?_) (λh0=>?_)
    ·simp only[ahm]at h0;have e:af .i64 ((i:Int)-1)=((i-1:Nat):Int):=wrapN (by omega) (by omega);rw[e,aj];refine alI (alI ?_);rw[drop_pred (by omega) (by omega),Asc];have hd:l.getD i default::l.drop (i+1)=l.drop (i+1-1):=(by rw[iH,<- dW (default:dR) (by omega:i<l.length)]);refine alH (λh1=>?_) (λh1=>?_)
     ·exact ake (by rw[show iw (l.getD (i-1) default) (l.getD i default)=false from QH h1];simp)
     ·refine alH (λh2=>?_) (λh2=>?_)
      ·rw[akg]at h2;exact ake (by rw[show iw (l.getD (i-1) default) (l.getD i default)=false by rw[h2];exact P8 _];simp)
      ·have:iw (l.getD (i-1) default) (l.getD i default)=true:=by
        cases hb:iw (l.getD (i-1) default) (l.getD i default)with
        |true=>rfl
        |false=>rw[Nz h1 hb]at h2;simp at h2
       rw[this,bV,hd];exact ih (i+1) (by omega)
    ·simp only[alR]at h0;have:i=0:=(by omega);subst this;exact ih 1 (by omega)
   ·exact ake (by rw[h];rfl)
theorem T.oO (l:List dR)(hp:Sm l):Ev (λn=>G.oO n l) (NM l):=by refine ais ?_;simp only[G.oO];exact T.oO.L1 l hp l.length 0 (by omega)
theorem T.jZ.L1 (l:List dR)(hp:Sm l):∀(k i:Nat),i+k=l.length->Ev (λn=>G.jZ.L1 n l i) ((l.drop i).all PT&&Asc (l.drop (i-1))):=by
 have hl:=hp.1;unfold big at hl;intro k
 induction k with
 | zero=>
   intro i hi;refine ais ?_;simp only[G.jZ.L1];refine alW (by simp;omega) (ake ?_);rw[au (by omega)];by_cases h0:i=0
   ·rw[au (by omega)];rfl
   ·rw[dW (default:dR) (by omega:i-1<l.length),au (by omega)];rfl
 | succ k ih=>
   intro i hi;refine ais ?_;simp only[G.jZ.L1];refine alZ (by simp;omega) (alI ?_);rw[dW (default:dR) (by omega:i<l.length),dH,aj];refine af5 (T.fK _ (hp.get (by omega))) ?_;refine alH (λh=>?_) (λh=>?_)
   ·rw[h,bV,dS (by omega)];refine alH (λh0=>?_) (λh0=>?_)
    ·simp only[ahm]at h0;have e:af .i64 ((i:Int)-1)=((i-1:Nat):Int):=wrapN (by omega) (by omega);rw[e,aj];refine alI ?_;rw[drop_pred (by omega) (by omega),Asc];have hd:l.getD i default::l.drop (i+1)=l.drop (i+1-1):=(by rw[iH,<- dW (default:dR) (by omega:i<l.length)]);refine alH (λh1=>?_) (λh1=>?_)
     ·rw[h1,bV,hd];exact ih (i+1) (by omega)
     ·exact ake (by rw[h1];simp)
    ·simp only[alR]at h0;have:i=0:=(by omega);subst this;exact ih 1 (by omega)
   ·exact ake (by rw[h];rfl)
theorem T.jZ (l:List dR)(hp:Sm l):Ev (λn=>G.jZ n l) (NM l&&decide (l.length<=6)):=by
 refine ais ?_;simp only[G.jZ];refine alH (λh=>?_) (λh=>?_)
 ·simp only[ahm]at h;refine ake ?_;have:decide (l.length<=6)=false:=by simp;omega
  rw[this,nT]
 ·simp only[alR]at h;refine(T.jZ.L1 l hp l.length 0 (by omega)).eq ?_;have:decide (l.length<=6)=true:=by simp;omega
  rw[NM,this,nD,bT]
def Fine (B:Nat):Nat->ak->Prop
 |0,_=>False
 |d+1,n=>n.amV.length<=B/\n.aiJ.length<=B/\(∀s,s∈n.aiJ->s.length<=B)/\n.ajX.length<=B/\(n.alC=4->n.ajX.length<=n.aiJ.length)/\∀k,k∈n.ajX->Fine B d k
def zJ (B:Nat):Nat->ak->Prop
 |0,_=>False
 |d+1,n=>n.amV.length<=B/\n.aiJ.length<=B/\(∀s,s∈n.aiJ->s.length<=B)/\n.ajX.length<=B/\True/\∀k,k∈n.ajX->zJ B d k
theorem Fine.fin0 {B:Nat} : ∀{d:Nat} {n:ak},Fine B d n->zJ B d n
 |0,_,h=>h
 |d+1,n,⟨h1,h2,h3,h4,_,h6⟩=>⟨h1,h2,h3,h4,trivial,λk hk=>(h6 k hk).fin0⟩
theorem Fine.mono {B C:Nat}(hB:B<=C):∀{d e:Nat} {n:ak},d<=e->Fine B d n->Fine C e n
 |0,_,_,_,h=>h.elim
 |d+1,0,_,hd,_=>by omega
 | d+1,e+1,n,hd,h=>by obtain⟨h1,h2,h3,h4,h5,h6⟩:=h;exact⟨by omega,by omega,λs hs=>bH (h3 s hs) hB,by omega,h5,λk hk=>(h6 k hk).mono hB (by omega)⟩
theorem zJ.mono {B C:Nat}(hB:B<=C):∀{d e:Nat} {n:ak},d<=e->zJ B d n->zJ C e n
 |0,_,_,_,h=>h.elim
 |d+1,0,_,hd,_=>by omega
 | d+1,e+1,n,hd,h=>by obtain⟨h1,h2,h3,h4,h5,h6⟩:=h;exact⟨by omega,by omega,λs hs=>bH (h3 s hs) hB,by omega,h5,λk hk=>(h6 k hk).mono hB (by omega)⟩
def lim : Nat:=4294967296
theorem Fine.sm {B d:Nat}{n:ak}(hB:B<=lim)(h:Fine B d n):Sm n.aiJ:=by
 cases d with
 |zero=>exact h.elim
 | succ d=>obtain⟨h1,h2,h3,h4,h5,h6⟩:=h;unfold lim at hB;exact⟨by unfold big;omega,λs hs=>by have:=h3 s hs;unfold big;omega⟩
theorem zJ.sm {B d:Nat}{n:ak}(hB:B<=lim)(h:zJ B d n):Sm n.aiJ:=by
 cases d with
 |zero=>exact h.elim
 | succ d=>obtain⟨h1,h2,h3,h4,h5,h6⟩:=h;unfold lim at hB;exact⟨by unfold big;omega,λs hs=>by have:=h3 s hs;unfold big;omega⟩
theorem Fine.text {B d:Nat}{n:ak}(hB:B<=lim)(h:Fine B d n):n.amV.length<big:=by
 cases d with
 |zero=>exact h.elim
 |succ d=>obtain⟨h1,_⟩:=h;unfold lim at hB;unfold big;omega
theorem zJ.text {B d:Nat}{n:ak}(hB:B<=lim)(h:zJ B d n):n.amV.length<big:=by
 cases d with
 |zero=>exact h.elim
 |succ d=>obtain⟨h1,_⟩:=h;unfold lim at hB;unfold big;omega
theorem Fine.kids {B d:Nat}{n:ak}(h:Fine B d n):n.ajX.length<=B:=by
 cases d with
 |zero=>exact h.elim
 |succ d=>exact h.2.2.2.1
theorem zJ.kids {B d:Nat}{n:ak}(h:zJ B d n):n.ajX.length<=B:=by
 cases d with
 |zero=>exact h.elim
 |succ d=>exact h.2.2.2.1
theorem Fine.names {B d:Nat}{n:ak}(h:Fine B d n):n.aiJ.length<=B:=by
 cases d with
 |zero=>exact h.elim
 |succ d=>exact h.2.1
theorem zJ.names {B d:Nat}{n:ak}(h:zJ B d n):n.aiJ.length<=B:=by
 cases d with
 |zero=>exact h.elim
 |succ d=>exact h.2.1
theorem Fine.map {B d:Nat}{n:ak}(h:Fine B d n)(hk:n.alC=4):n.ajX.length<=n.aiJ.length:=by
 cases d with
 |zero=>exact h.elim
 |succ d=>exact h.2.2.2.2.1 hk
theorem Fine.kid {B d:Nat}{n:ak}(h:Fine B (d+1) n){i:Nat}(hi:i<n.ajX.length):Fine B d (n.ajX.getD i default):=by rw[gJ _ hi];exact h.2.2.2.2.2 _ (dD hi)
theorem zJ.kid {B d:Nat}{n:ak}(h:zJ B (d+1) n){i:Nat}(hi:i<n.ajX.length):zJ B d (n.ajX.getD i default):=by rw[gJ _ hi];exact h.2.2.2.2.2 _ (dD hi)
def Parts (n:ak):Bool:=
 (n.alC==1||n.Num==0)&&(n.alC==2||n.amV==[])&&(n.alC==4||n.aiJ.length==0) &&
 (if n.alC=0 then n.ajX.length==0 else if n.alC=1 then(decide (-999999<=n.Num)&&decide (n.Num<=999999))&&n.ajX.length==0 else if n.alC=2 then PT n.amV&&n.ajX.length==0
  else if n.alC=3 then decide (n.ajX.length<=6)else if n.alC=4 then NM n.aiJ&&decide (n.aiJ.length<=6)&&n.ajX.length==n.aiJ.length else false)
def Shape : Nat->ak->Bool
 |0,_=>false
 |d+1,n=>Parts n&&n.ajX.all (Shape d)
theorem ilen {a b:Nat} : ((a:Int)==(b:Int))=(a==b):=by rw[sN];simp;omega
theorem aot {a:Nat} : ((a:Int)==0)=(a==0):=by rw[sN];simp
theorem Jw {a b:Nat} : decide ((a:Int)<=(b:Int))=decide (a<=b):=by rw[sN];simp
def PS (n:ak):Bool:=
 (n.alC==4||n.aiJ.length==0) &&
 (if n.alC=0 then n.ajX.length==0 else if n.alC=1 then(decide (-999999<=n.Num)&&decide (n.Num<=999999))&&n.ajX.length==0 else if n.alC=2 then PT n.amV&&n.ajX.length==0
  else if n.alC=3 then decide (n.ajX.length<=6)else if n.alC=4 then NM n.aiJ&&decide (n.aiJ.length<=6)&&n.ajX.length==n.aiJ.length else false)
theorem ahp (n:ak):Parts n=((n.alC==1||n.Num==0)&&(n.alC==2||n.amV==[])&&PS n):=by unfold Parts PS;simp only[Bool.and_assoc]
theorem T0.fU.K1 {B d:Nat}{n:ak}(hB:B<=lim)(h:zJ B d n):Ev (λf=>G.fU.K1 f n) (PS n):=by
 refine ais ?_;simp only[G.fU.K1];have ht:=T.fK _ (h.text hB);have hn:=T.jZ _ (h.sm hB);have h0:decide ((0:Int)<(n.aiJ.length:Int)) = !(n.aiJ.length==0):=by cases hq:n.aiJ.length<;>simp
 have h6:decide ((n.ajX.length:Int)<=6)=decide (n.ajX.length<=6):=by rw[sN];simp;omega
 rw[h0];have tail:Ev (λf=>cond (n.alC==0) (some ((n.ajX.length:Int)==0)) (cond (n.alC==1) (cond (decide ((-999999)<=n.Num)) (cond (decide (n.Num<=999999)) (some ((n.ajX.length:Int)==0)) (some false)) (some false))
  (cond (n.alC==2) (lG (G.fK f n.amV) λv3=>cond v3 (some ((n.ajX.length:Int)==0)) (some false))
  (cond (n.alC==3) (some (decide ((n.ajX.length:Int)<=6))) (cond (n.alC==4) (lG (G.jZ f n.aiJ) λv4=>cond v4 (some ((n.ajX.length:Int)==(n.aiJ.length:Int))) (some false)) (some false))))))
  (if n.alC=0 then n.ajX.length==0 else if n.alC=1 then(decide (-999999<=n.Num)&&decide (n.Num<=999999))&&n.ajX.length==0 else if n.alC=2 then PT n.amV&&n.ajX.length==0
   else if n.alC=3 then decide (n.ajX.length<=6)else if n.alC=4 then NM n.aiJ&&decide (n.aiJ.length<=6)&&n.ajX.length==n.aiJ.length else false):=by
  rw[aot,ilen,h6];refine alH (λe=>ake ?_) (λe0=>?_)
  ·rw[ahl (by simpa using e)]
  rw[ahk (by simpa using e0)];refine alH (λe=>?_) (λe1=>?_)
  ·rw[ahl (by simpa using e)];refine alH (λk=>alH (λk2=>ake ?_) (λk2=>ake ?_)) (λk=>ake ?_)
   ·rw[k,k2];simp
   ·rw[k2];simp
   ·rw[k];simp
  rw[ahk (by simpa using e1)];refine alH (λe=>?_) (λe2=>?_)
  ·rw[ahl (by simpa using e)];refine af5 ht (alH (λk=>ake ?_) (λk=>ake ?_))
   ·rw[k,bV]
   ·rw[k,wu]
  rw[ahk (by simpa using e2)];refine alH (λe=>ake ?_) (λe3=>?_)
  ·rw[ahl (by simpa using e)]
  rw[ahk (by simpa using e3)];refine alH (λe=>?_) (λe4=>ake ?_)
  ·rw[ahl (by simpa using e)];refine af5 hn (alH (λk=>ake ?_) (λk=>ake ?_))
   ·rw[k,bV]
   ·rw[k,wu]
  ·rw[ahk (by simpa using e4)]
 refine alH (λe=>?_) (λe=>?_)
 ·have e':(n.alC==4)=false:=by simpa using e
  refine alH (λk=>ake ?_) (λk=>?_)
  ·rw[Bool.not_eq_true']at k;rw[PS,e',k];rfl
  ·rw[Bool.not_eq_false']at k;exact tail.eq (by rw[PS,k,xC,bV])
 ·have e':(n.alC==4)=true:=by simpa using e
  exact tail.eq (by rw[PS,e',yX,bV])
theorem T0.fU {B d:Nat}{n:ak}(hB:B<=lim)(h:zJ B d n):Ev (λf=>G.fU f n) (Parts n):=by
 refine ais ?_;simp only[G.fU];have hk:=T0.fU.K1 hB h;rw[ahp];have tail:Ev (λf=>cond (n.alC != 2) (cond (n.amV==[]) (G.fU.K1 f n) (some false)) (G.fU.K1 f n)) ((n.alC==2||n.amV==[])&&PS n):=by
  refine alH (λe=>?_) (λe=>?_)
  ·have e':(n.alC==2)=false:=(by simpa using e);refine alH (λk=>?_) (λk=>ake ?_)
   ·exact hk.eq (by rw[k,xC,bV])
   ·rw[e',k];rfl
  ·have e':(n.alC==2)=true:=(by simpa using e);exact hk.eq (by rw[e',yX,bV])
 refine alH (λe=>?_) (λe=>?_)
 ·have e':(n.alC==1)=false:=by simpa using e
  refine alH (λk=>ake ?_) (λk=>?_)
  ·have:(n.Num==0)=false:=(by simpa using k);rw[e',this];rfl
  ·have:(n.Num==0)=true:=(by simpa using k);exact tail.eq (by rw[this,xC,bV])
 ·have e':(n.alC==1)=true:=by simpa using e
  exact tail.eq (by rw[e',yX,bV])
theorem T0.tC.L1 {B D d:Nat}{n:ak}(hB:B<=lim)(h:zJ B (D+1) n)(hd:d<1000)(hs:∀k,k∈n.ajX->Ev (λf=>G.ji f k d) (Shape d k)) :
 ∀(k i:Nat),i+k=n.ajX.length->Ev (λf=>G.tC.L1 f n ((d+1:Nat):Int) i) ((n.ajX.drop i).all (Shape d)):=by
 have hl:=h.kids;unfold lim at hB;intro k
 induction k with
 | zero=>intro i hi;refine ais ?_;simp only[G.tC.L1];refine alW (by simp;omega) (ake ?_);rw[au (by omega)];rfl
 | succ k ih=>
   intro i hi;refine ais ?_;simp only[G.tC.L1];refine alZ (by simp;omega) (alI ?_);rw[dW (default:ak) (by omega:i<n.ajX.length),dH,aj];have e:af .i64 (((d+1:Nat):Int)-1)=(d:Int):=wrapN (by omega) (by omega);rw[e];refine af5 (hs _ (by rw[gJ _ (by omega:i<n.ajX.length)];exact dD _)) ?_;refine alH (λh=>?_) (λh=>?_)
   ·rw[dS (by omega),h,bV];exact ih (i+1) (by omega)
   ·exact ake (by rw[h];rfl)
theorem T0.tC {B D d:Nat}{n:ak}(hB:B<=lim)(h:zJ B (D+1) n)(hd:d<1000)(hs:∀k,k∈n.ajX->Ev (λf=>G.ji f k d) (Shape d k)) :
 Ev (λf=>G.tC f n ((d+1:Nat):Int)) (n.ajX.all (Shape d)):=by
 refine ais ?_;simp only[G.tC];exact T0.tC.L1 hB h hd hs n.ajX.length 0 (by omega)
def ShK (d:Nat)(n:ak):Bool:=
 if n.alC=1 then decide (-999999<=n.Num)&&decide (n.Num<=999999)else if n.alC=2 then PT n.amV else if n.alC=3 then n.ajX.all (Shape d)
 else if n.alC=4 then n.aiJ.length==n.ajX.length&&NM n.aiJ&&n.ajX.all (Shape d)else n.alC==0
theorem T0.ji.K1 {B D d:Nat}{n:ak}(hB:B<=lim)(h:zJ B (D+1) n)(hd:d<1000)(hs:∀k,k∈n.ajX->Ev (λf=>G.ji f k d) (Shape d k)) :
 Ev (λf=>G.ji.K1 f n ((d+1:Nat):Int)) (ShK d n):=by
 refine ais ?_;simp only[G.ji.K1];have hk:=T0.tC hB h hd hs;unfold ShK;refine alH (λe=>?_) (λe1=>?_)
 ·rw[ahl (by simpa using e)];exact af5 (T.gu _ _ _) (akk _)
 rw[ahk (by simpa using e1)];refine alH (λe=>?_) (λe2=>?_)
 ·rw[ahl (by simpa using e)];exact af5 (T.iP _ (h.text hB)) (akk _)
 rw[ahk (by simpa using e2)];refine alH (λe=>?_) (λe3=>?_)
 ·rw[ahl (by simpa using e)];exact af5 hk (akk _)
 rw[ahk (by simpa using e3)];refine alH (λe=>?_) (λe4=>?_)
 ·rw[ahl (by simpa using e),ilen];refine alH (λk=>?_) (λk=>ake (by rw[k];rfl));refine af5 (T.oO _ (h.sm hB)) ?_;refine alH (λk2=>?_) (λk2=>ake (by rw[k2];simp));exact af5 hk (ake (by rw[k,k2];rfl))
 ·exact ake (by rw[ahk (by simpa using e4)])
theorem aou {a:Nat} : decide ((0:Int)<(a:Int)) = !(a==0):=by cases a<;>simp
theorem adm {c a:Bool}{g:Nat->Option Bool}{V:Bool}(h:Ev g V):Ev (λf=>cond c (cond a (some false) (g f)) (g f)) ((!c || !a)&&V):=by
 cases c<;>cases a
 ·exact h
 ·exact h
 ·exact h
 ·exact akk _
theorem akK {c a:Bool}{g:Nat->Option Bool}{V:Bool}(h:Ev g V):Ev (λf=>cond c (cond a (g f) (some false)) (g f)) ((!c||a)&&V):=by
 cases c<;>cases a
 ·exact h
 ·exact h
 ·exact akk _
 ·exact h
theorem Qp {n:ak}(h:6<n.ajX.length):Parts n=false:=by
 have e0:(n.ajX.length==0)=false:=beq_eq_false_iff_ne.2 (by omega);have e6:decide (n.ajX.length<=6)=false:=by simp;omega
 have e4:(NM n.aiJ&&decide (n.aiJ.length<=6)&&n.ajX.length==n.aiJ.length)=false:=by
  cases h1:decide (n.aiJ.length<=6)with
  |false=>simp
  | true=>have:(n.ajX.length==n.aiJ.length)=false:=(by simp at h1;simp;omega);rw[this,nT]
 unfold Parts;rw[e0,e6,e4];simp
theorem ajy {d:Nat}{n:ak}(h:n.ajX.length<=6) :
 ((!(n.alC != 1) || !(n.Num != 0))&&((!(n.alC != 2)||n.amV==[])&&((!(n.alC != 4) || !(!(n.aiJ.length==0)))&&((!(decide (n.alC<3)) || !(!(n.ajX.length==0)))&&ShK d n))))=Shape (d+1) n:=by
 have e6:decide (n.ajX.length<=6)=true:=by simp;omega
 have hall:n.ajX.length=0->n.ajX.all (Shape d)=true:=λe=>by rw[fO e];rfl
 have hb:∀x y:Int,(!(x != y))=(x==y):=λx y=>by simp[bne]
 rw[hb,hb,hb,hb];unfold Shape Parts ShK;simp only[Bool.not_not,Bool.and_assoc]
 congr 1
 congr 1
 congr 1
 rw[e6];by_cases k0:n.alC=0
 ·simp only[k0];cases hz:(n.ajX.length==0)<;>simp_all
 by_cases k1:n.alC=1
 ·simp only[k1];cases hz:(n.ajX.length==0)<;>simp_all
 by_cases k2:n.alC=2
 ·simp only[k2];cases hz:(n.ajX.length==0)<;>simp_all
 by_cases k3:n.alC=3
 ·simp[k3]
 by_cases k4:n.alC=4
 ·simp only[k4];have hc:(n.ajX.length==n.aiJ.length)=(n.aiJ.length==n.ajX.length):=by rw[sN];simp;omega
  rw[hc];cases hz:(n.aiJ.length==n.ajX.length)
  ·simp
  ·have:decide (n.aiJ.length<=6)=true:=(by simp at hz;simp;omega);simp[this]
 ·simp[k0,k1,k2,k3,k4]
def Cnt : Nat->ak->Nat
 |0,_=>0
 |d+1,n=>1+(n.ajX.map (Cnt d)).sum
theorem rG {d:Nat}{n:ak}(h:Shape (d+1) n=true):Parts n=true:=by unfold Shape at h;simp only[ah]at h;exact h.1
theorem vw {d:Nat}{n:ak}(h:Shape (d+1) n=true):∀k,k∈n.ajX->Shape d k=true:=by unfold Shape at h;simp only[ah]at h;exact aP.1 h.2
theorem Fh {d:Nat}{n:ak}(h:Shape d n=true):n.ajX.length<=6:=by
 cases d with
 |zero=>cases h
 | succ d=>
   by_cases k:n.ajX.length<=6
   ·exact k
   ·have:=Qp (n:=n) (by omega);rw[rG h]at this;cases this
theorem ajF {α:Type}(f:α->Nat)(m:Nat):∀l:List α,(∀x,x∈l->f x<=m)->(l.map f).sum<=l.length*m
 |[],_=>by simp
 | x::l,h=>by have h1:=ajF f m l (λy hy=>h y (by simp[hy]));have h2:=h x (by simp);simp only[aZ,sS,iC,Nat.add_mul];omega
theorem cnt_le : ∀{d:Nat} {n:ak},Shape d n=true->Cnt d n<=7^d
 |0,_,h=>by cases h
 | d+1,n,h=>by have hk:=vw h;have:=ajF (Cnt d) (7^d) n.ajX (λk hk'=>cnt_le (hk k hk'));have h6:=Fh h;have hm:n.ajX.length*7^d<=6*7^d:=aQ _ h6;have hp:1<=7^d:=Nat.one_le_pow _ _ (by omega);unfold Cnt;rw[Iz];omega
theorem aae {d:Nat}(h:d<=5):7^d<=16807:=bH (Nat.pow_le_pow_right (by omega) h) (by decide)
theorem T0.ji {B:Nat}(hB:B<=lim):∀(d D:Nat) (n:ak),d<1000->zJ B D n->Ev (λf=>G.ji f n (d:Int)) (Shape d n):=by
 intro d
 induction d with
 | zero=>intro D n _ h;refine ais ?_;simp only[G.ji];exact alZ (by simp) (akk _)
 | succ d ih=>
   intro D n hd h;cases D with
   |zero=>exact h.elim
   |succ D=>
   have hK:=T0.ji.K1 (d:=d) hB h (by omega) (λk hk=>ih D k (by omega) (h.2.2.2.2.2 k hk));refine ais ?_;simp only[G.ji];rw[aou,aou];have t1:=adm (c:=decide (n.alC<3)) (a:= !(n.ajX.length==0)) hK;have t2:=adm (c:=n.alC != 4) (a:= !(n.aiJ.length==0)) t1;have t3:=akK (c:=n.alC != 2) (a:=n.amV==[]) t2;have t4:=adm (c:=n.alC != 1) (a:=n.Num != 0) t3;refine alW (by simp;omega) ?_;refine alH (λe=>ake ?_) (λe=>t4.eq ?_)
   ·simp only[ahm]at e;rw[Shape,Qp (by omega)];rfl
   ·simp only[alR]at e;exact ajy (by omega)
theorem T0.nJ.L1 {B D d:Nat}{n:ak}(hB:B<=lim)(h:zJ B (D+1) n)(hs:∀k,k∈n.ajX->Ev (λf=>G.nJ f k) ((Cnt d k:Nat):Int)) :
 ∀(k i c:Nat),i+k=n.ajX.length->c+((n.ajX.drop i).map (Cnt d)).sum<big->Ev (λf=>G.nJ.L1 f n (c:Int) i) ((c+((n.ajX.drop i).map (Cnt d)).sum:Nat):Int):=by
 have hl:=h.kids;unfold lim at hB;unfold big;intro k
 induction k with
 | zero=>intro i c hi hc;refine ais ?_;simp only[G.nJ.L1];refine alW (by simp;omega) (ake ?_);rw[au (by omega)];rfl
 | succ k ih=>intro i c hi;rw[dW (default:ak) (by omega:i<n.ajX.length),aZ,sS];intro hc;refine ais ?_;simp only[G.nJ.L1];refine alZ (by simp;omega) (alI ?_);rw[aj];refine af5 (hs _ (by rw[gJ _ (by omega:i<n.ajX.length)];exact dD _)) ?_;rw[dS (by omega),wrapN (m:=c+Cnt d (n.ajX.getD i default)) (by omega) (by omega)];exact(ih (i+1) (c+Cnt d (n.ajX.getD i default)) (by omega) (by omega)).eq (by congr 1;omega)
theorem T0.nJ {B:Nat}(hB:B<=lim):∀(d D:Nat) (n:ak),d<=5->zJ B D n->Shape d n=true->Ev (λf=>G.nJ f n) ((Cnt d n:Nat):Int):=by
 intro d
 induction d with
 |zero=>intro D n _ _ h;cases h
 | succ d ih=>
   intro D n hd h hS;cases D with
   |zero=>exact h.elim
   |succ D=>
   have hS':=vw hS;refine ais ?_;simp only[G.nJ];have:=cnt_le (d:=d+1) (n:=n) hS;have hp:=aae hd;refine(T0.nJ.L1 hB h (λk hk=>ih D k (by omega) (h.2.2.2.2.2 k hk) (hS' k hk)) n.ajX.length 0 1 (by omega) ?_).eq rfl;rw[bT];show Cnt (d+1) n<big;unfold big;omega
def Val (n:ak):Bool:=Shape 5 n&&decide (Cnt 5 n<=40)
theorem T0.fZ {B D:Nat}{n:ak}(hB:B<=lim)(h:zJ B D n):Ev (λf=>G.fZ f n) (Val n):=by refine ais ?_;simp only[G.fZ];refine af5 (T0.ji hB 5 D n (by omega) h) (alH (λe=>?_) (λe=>ake (by rw[Val,e];rfl)));refine af5 (T0.nJ hB 5 D n (by omega) h e) (ake ?_);rw[Val,e,bV];apply decide_eq_decide.2;omega
theorem T.fZ {B D:Nat}{n:ak}(hB:B<=lim)(h:Fine B D n):Ev (λf=>G.fZ f n) (Val n):=T0.fZ hB h.fin0
theorem T0.fC.L1 {B D d l:Nat}{n:ak}(hB:B<=lim)(h:zJ B (D+1) n)(hl:l<1000)
 (hs:∀k,k∈n.ajX->∃c dp,Ev (λf=>G.fC f k ((l+1:Nat):Int)) (c,dp,Shape d k)/\(Shape d k=true->c=((Cnt d k:Nat):Int))) :
 ∀ (k i c:Nat) (dp:Int),i+k=n.ajX.length->(n.ajX.drop i).all (Shape d)=true->c+((n.ajX.drop i).map (Cnt d)).sum<big ->
   ∃dp',Ev (λf=>G.fC.L1 f n (l:Int) (c:Int) dp i) (((c+((n.ajX.drop i).map (Cnt d)).sum:Nat):Int),dp',true):=by
 have hk:=h.kids;unfold lim at hB;unfold big;intro k
 induction k with
 | zero=>intro i c dp hi _ hc;refine⟨dp,ais ?_⟩;simp only[G.fC.L1];refine alW (by simp;omega) (ake ?_);rw[au (by omega)];rfl
 | succ k ih=>intro i c dp hi;rw[dW (default:ak) (by omega:i<n.ajX.length),aZ,sS,dH,ah];intro⟨hS,hA⟩ hc;obtain⟨c1,d1,h1,h2⟩:=hs (n.ajX.getD i default) (by rw[gJ _ (by omega:i<n.ajX.length)];exact dD _);have e:=h2 hS;subst e;obtain⟨dp',g1⟩:=ih (i+1) (c+Cnt d (n.ajX.getD i default)) (if af .i64 (d1+1)>dp then af .i64 (d1+1)else dp) (by omega) hA (by omega);refine⟨dp',ais ?_⟩;simp only[G.fC.L1];refine alZ (by simp;omega) (alI ?_);rw[aj,dS (by omega)];refine af5 h1 ?_;refine alZ hS ?_;rw[dS (by omega),wrapN (m:=c+Cnt d (n.ajX.getD i default)) (by omega) (by omega)];exact g1.eq (by rw[Nat.add_assoc])
theorem T0.fC.L1f {B D d l:Nat}{n:ak}(hB:B<=lim)(h:zJ B (D+1) n)(hl:l<1000)
 (hs:∀k,k∈n.ajX->∃c dp,Ev (λf=>G.fC f k ((l+1:Nat):Int)) (c,dp,Shape d k)) :
 ∀(k i:Nat) (c dp:Int),i+k=n.ajX.length->(n.ajX.drop i).all (Shape d)=false->Ev (λf=>G.fC.L1 f n (l:Int) c dp i) (0,0,false):=by
 have hk:=h.kids;unfold lim at hB;intro k
 induction k with
 | zero=>intro i c dp hi hA;rw[au (by omega)]at hA;cases hA
 | succ k ih=>intro i c dp hi;rw[dW (default:ak) (by omega:i<n.ajX.length),dH];intro hA;obtain⟨c1,d1,h1⟩:=hs (n.ajX.getD i default) (by rw[gJ _ (by omega:i<n.ajX.length)];exact dD _);refine ais ?_;simp only[G.fC.L1];refine alZ (by simp;omega) (alI ?_);rw[aj,dS (by omega)];refine af5 h1 ?_;refine alH (λhS=>?_) (λhS=>akk _);have hS:Shape d (n.ajX.getD i default)=true:=hS;rw[hS,bV]at hA;rw[dS (by omega)];exact ih (i+1) _ _ (by omega) hA
theorem T0.fC {B:Nat}(hB:B<=lim):∀(d l D:Nat) (n:ak),d+l=6->1<=l->zJ B D n ->
 ∃c dp,Ev (λf=>G.fC f n (l:Int)) (c,dp,Shape d n)/\(Shape d n=true->c=((Cnt d n:Nat):Int)):=by
 intro d
 induction d with
 | zero=>intro l D n hl h1 h;refine⟨0,0,ais ?_,λe=>by cases e⟩;simp only[G.fC];exact alZ (by simp;omega) (akk _)
 | succ d ih=>
   intro l D n hl h1 h;cases D with
   |zero=>exact h.elim
   |succ D=>
   have hs:=λk (hk:k∈n.ajX)=>ih (l+1) D k (by omega) (by omega) (h.2.2.2.2.2 k hk);have hp:=T0.fU hB h;cases hS:Shape (d+1) n with
   | true=>have hk:=vw hS;have hc:=cnt_le hS;have hpw:=aae (d:=d+1) (by omega);obtain⟨dp',g⟩:=T0.fC.L1 hB h (by omega) hs n.ajX.length 0 1 1 (by omega) (by rw[bT];exact aP.2 hk) (by rw[bT];unfold big;show Cnt (d+1) n<_;omega);rw[bT]at g;refine⟨((Cnt (d+1) n:Nat):Int),dp',ais ?_,λ_=>rfl⟩;simp only[G.fC];exact alW (by simp;omega) (af5 hp (alZ (rG hS) g))
   | false=>
     refine⟨0,0,ais ?_,λe=>by cases e⟩;simp only[G.fC];refine alW (by simp;omega) (af5 hp (alH (λe=>?_) (λe=>akk _)));refine T0.fC.L1f (d:=d) hB h (by omega) (λk hk=>?_) n.ajX.length 0 1 1 (by omega) ?_
     ·obtain⟨c,dp,g,_⟩:=hs k hk;exact⟨c,dp,g⟩
     ·rw[bT];unfold Shape at hS;rw[e,bV]at hS;exact hS
theorem T0.bJ {B D:Nat}{n:ak}(hB:B<=lim)(h:zJ B D n):Ev (λf=>G.bJ f n) (Val n):=by
 obtain⟨c,dp,g,hc⟩:=T0.fC hB 5 1 D n rfl (by omega) h;refine ais ?_;simp only[G.bJ];refine af5 g (alH (λe=>ake ?_) (λe=>ake ?_))
 ·have e:Shape 5 n=true:=e;show decide (c<=40)=_;rw[hc e,Val,e,bV];apply decide_eq_decide.2;omega
 ·have e:Shape 5 n=false:=e;rw[Val,e];rfl
theorem T.bJ {B D:Nat}{n:ak}(hB:B<=lim)(h:Fine B D n):Ev (λf=>G.bJ f n) (Val n):=T0.bJ hB h.fin0
theorem T0.bG.L1 {B D:Nat}{n:ak}(hB:B<=lim)(h:zJ B (D+1) n)(hs:∀k,k∈n.ajX->Ev (λf=>G.bG f k) k) :
 ∀(k i:Nat),i+k=n.ajX.length->Ev (λf=>G.bG.L1 f n i (n.ajX.take i)) n:=by
 have hl:=h.kids;have hn:=h.names;unfold lim at hB;intro k
 induction k with
 | zero=>intro i hi;refine ais ?_;simp only[G.bG.L1];refine alW (by simp;omega) (alI (ake ?_));rw[aT (by omega)];cases n;rfl
 | succ k ih=>intro i hi;refine ais ?_;simp only[G.bG.L1];refine alZ (by simp;omega) (alI ?_);rw[aj];refine af5 (hs _ (by rw[gJ _ (by omega:i<n.ajX.length)];exact dD _)) ?_;refine ant (by rw[gW];omega) ?_;have e:n.ajX.take i++[n.ajX.getD i default]=n.ajX.take (i+1):=(by rw[gJ _ (by omega:i<n.ajX.length),jS (by omega)]);rw[dS (by omega),e];exact ih (i+1) (by omega)
theorem T0.bG {B:Nat}(hB:B<=lim):∀{D:Nat} {n:ak},zJ B D n->Ev (λf=>G.bG f n) n:=by
 intro D
 induction D with
 |zero=>intro n h;exact h.elim
 | succ D ih=>intro n h;refine ais ?_;simp only[G.bG];exact T0.bG.L1 hB h (λk hk=>ih (h.2.2.2.2.2 k hk)) n.ajX.length 0 (by omega)
theorem T.bG {B:Nat}(hB:B<=lim){D:Nat}{n:ak}(h:Fine B D n):Ev (λf=>G.bG f n) n:=T0.bG hB h.fin0
theorem T0.aV.L2 {B D:Nat}{n:ak}(zs:List dR)(hB:B<=lim)(h:zJ B (D+1) n)(hs:∀k,k∈n.ajX->Ev (λf=>G.aV f k) k) :
 ∀(k i:Nat) (z:List ak),i+k=n.ajX.length->z.length=n.ajX.length->z.take i=n.ajX.take i->Ev (λf=>G.aV.L2 f n zs i z) (ak.mk n.alC n.Num n.amV zs n.ajX):=by
 have hl:=h.kids;unfold lim at hB;intro k
 induction k with
 | zero=>intro i z hi hz ht;refine ais ?_;simp only[G.aV.L2];refine alW (by simp;omega) (ake ?_);rw[aT (by omega),aT (by omega)]at ht;rw[ht]
 | succ k ih=>intro i z hi hz ht;refine ais ?_;simp only[G.aV.L2];refine alZ (by simp;omega) (alI ?_);rw[aj];refine af5 (hs _ (by rw[gJ _ (by omega:i<n.ajX.length)];exact dD _)) ?_;refine alI ?_;rw[dS (by omega)];refine ih (i+1) _ (by omega) (by rw[qp];exact hz) ?_;rw[gJ _ (by omega:i<n.ajX.length),jS (by rw[qp];omega),jS (by omega:i<n.ajX.length),List.getElem_set_self,List.take_set_of_le (aA i),ht]
theorem T0.aV {B:Nat}(hB:B<=lim):∀{D:Nat} {n:ak},zJ B D n->Ev (λf=>G.aV f n) n:=by
 intro D
 induction D with
 |zero=>intro n h;exact h.elim
 | succ D ih=>
   intro n h;have hl:=h.kids;have hn:=h.names;have hB':=hB;unfold lim at hB';have hK:Ev (λf=>G.aV.K1 f n n.aiJ) n:=by
    refine ais ?_;simp only[G.aV.K1];refine alH (λe=>?_) (λe=>ake ?_)
    ·refine alI ?_;refine(T0.aV.L2 n.aiJ hB h (λk hk=>ih (h.2.2.2.2.2 k hk)) n.ajX.length 0 (bC n.ajX.length (ak.mk 0 0 [] [] [])) (by omega) (by simp) rfl).eq ?_;cases n;rfl
    ·have:n.ajX=[]:=by
      apply fO;simp only[alR]at e;omega
     cases n;simp only at this;subst this;rfl
   refine ais ?_;simp only[G.aV];refine alH (λe=>?_) (λe=>?_)
   ·exact alI hK
   ·have:n.aiJ=[]:=by
     apply fO;simp only[alR]at e;omega
    rw[this]at hK;exact hK
theorem T.aV {B:Nat}(hB:B<=lim){D:Nat}{n:ak}(h:Fine B D n):Ev (λf=>G.aV f n) n:=T0.aV hB h.fin0
theorem EP {α:Type}{l:List α}{i:Nat}(d:α)(h:i<l.length):l.getD i d∈l:=by rw[gJ d h];exact dD h
theorem Oh {α:Type}{l z:List α}{i:Nat}(hi:i<l.length)(hz:z.length=l.length)(ht:z.take i=l.take i):(z.set i l[i]).take (i+1)=l.take (i+1):=by rw[jS (by rw[qp];omega),jS hi,List.getElem_set_self,List.take_set_of_le (aA i),ht]
theorem T.XO {l:List dR}(hl:l.length<=lim):Ev (λf=>G.jL f l) l:=by
 unfold lim at hl;have L:∀(k i:Nat) (z:List dR),i+k=l.length->z.length=l.length->z.take i=l.take i->Ev (λf=>G.jL.L1 f l i z) l:=by
  intro k
  induction k with
  | zero=>intro i z hi hz ht;refine ais ?_;simp only[G.jL.L1];rw[aT (by omega),aT (by omega)]at ht;exact anm (ake ht)
  | succ k ih=>intro i z hi hz ht;have hil:i<l.length:=(by omega);refine ais ?_;simp only[G.jL.L1,aj,wrS i];refine ani (alI (alI (ih (i+1) _ (by omega) (by rw[qp];exact hz) ?_)));rw[gJ _ hil];exact Oh hil hz ht
 refine ais ?_;simp only[G.jL];exact alI (L l.length 0 _ (by omega) (by simp) rfl)
theorem T.alA {l:List ak}(hl:l.length<=lim)(hs:∀k,k∈l->Ev (λf=>G.sG f k) k):Ev (λf=>G.qf f l) l:=by
 unfold lim at hl;have L:∀(k i:Nat) (z:List ak),i+k=l.length->z.length=l.length->z.take i=l.take i->Ev (λf=>G.qf.L1 f l i z) l:=by
  intro k
  induction k with
  | zero=>intro i z hi hz ht;refine ais ?_;simp only[G.qf.L1];rw[aT (by omega),aT (by omega)]at ht;exact anm (ake ht)
  | succ k ih=>intro i z hi hz ht;have hil:i<l.length:=(by omega);refine ais ?_;simp only[G.qf.L1,aj,wrS i];refine ani (alI (af5 (hs _ (EP default hil)) (alI (ih (i+1) _ (by omega) (by rw[qp];exact hz) ?_))));rw[gJ _ hil];exact Oh hil hz ht
 refine ais ?_;simp only[G.qf];exact alI (L l.length 0 _ (by omega) (by simp) rfl)
theorem T.aau {B:Nat}(hB:B<=lim):∀{D:Nat} {n:ak},zJ B D n->Ev (λf=>G.sG f n) n
 |0,_,h=>h.elim
 | D+1,n,h=>by have h1:=h.names;have h2:=h.kids;refine ais ?_;simp only[G.sG];exact af5 (T.XO (by omega)) (af5 (T.alA (by omega) (λk hk=>T.aau hB (h.2.2.2.2.2 k hk))) (ake (by cases n;rfl)))
theorem T.WA {l:List dR}(hl:l.length<=lim):Ev (λf=>G.jK f l l) true:=by
 unfold lim at hl;have L:∀(k i:Nat),i+k=l.length->Ev (λf=>G.jK.L1 f l l i) true:=by
  intro k
  induction k with
  | zero=>intro i hi;refine ais ?_;simp only[G.jK.L1];exact anm (akk _)
  | succ k ih=>intro i hi;refine ais ?_;simp only[G.jK.L1,wrS i];exact ani (alI (alI (alZ (by simp) (ih (i+1) (by omega)))))
 refine ais ?_;simp only[G.jK];exact alW (by simp) (L l.length 0 (by omega))
theorem T.akR {l:List ak}(hl:l.length<=lim)(hs:∀k,k∈l->Ev (λf=>G.qy f k k) true):Ev (λf=>G.pY f l l) true:=by
 unfold lim at hl;have L:∀(k i:Nat),i+k=l.length->Ev (λf=>G.pY.L1 f l l i) true:=by
  intro k
  induction k with
  | zero=>intro i hi;refine ais ?_;simp only[G.pY.L1];exact anm (akk _)
  | succ k ih=>intro i hi;refine ais ?_;simp only[G.pY.L1,aj,wrS i];exact ani (alI (alI (af5 (hs _ (EP default (by omega))) (alZ rfl (ih (i+1) (by omega))))))
 refine ais ?_;simp only[G.pY];exact alW (by simp) (L l.length 0 (by omega))
theorem T.Wv {B:Nat}(hB:B<=lim):∀{D:Nat} {n:ak},zJ B D n->Ev (λf=>G.qy f n n) true
 |0,_,h=>h.elim
 | D+1,n,h=>by have h1:=h.names;have h2:=h.kids;refine ais ?_;simp only[G.qy];exact alW (by simp) (alW (by simp) (alZ (by simp) (af5 (T.WA (by omega)) (alZ rfl (af5 (T.akR (by omega) (λk hk=>T.Wv hB (h.2.2.2.2.2 k hk))) (alZ rfl (akk _)))))))
def mx : Nat:=9223372036854775807
mutual
def UK : ak->Nat
 |ak.mk _ _ _ ns ks=>3+ns.length+xG ks
def xG : List ak->Nat
 |[]=>0
 |n::r=>UK n+xG r
end
theorem FX (n:ak):UK n=3+n.aiJ.length+xG n.ajX:=by cases n;rfl
theorem Cj {x:Int}(h0 : -9223372036854775808<=x)(h1:x<9223372036854775808):af .i64 x=x:=by simp only[af,iq,yu];simp;omega
theorem T.XI {l:List dR}(h1:l.length<=mx)(h2:∀s,s∈l->s.length<=mx){left:Int}(h0:0<=left)(hl:left<=1048576) :
 ∃r,Ev (λf=>G.jh f l left) r/\r<=left/\(0<=r->(l.length:Int)<=left-r/\∀s,s∈l->(s.length:Int)<=left):=by
 unfold mx at *;have w0:af .i64 (left-(l.length:Int))=left-(l.length:Int):=Cj (by omega) (by omega);by_cases c:left-(l.length:Int)<0
 ·refine⟨-1,ais ?_,by omega,λh=>by omega⟩;simp only[G.jh,w0];exact alZ (al6 c) (akk _)
 ·have L:∀(k i:Nat) (a:Int),i+k=l.length->0<=a->a<=1048576->∃r,Ev (λf=>G.jh.L1 f l a i) r/\r<=a/\(0<=r->∀s,s∈l.drop i->(s.length:Int)<=a):=by
   intro k
   induction k with
   | zero=>
     intro i a hi ha ha2;refine⟨a,ais ?_,by omega,λ_ s hs=>?_⟩
     ·simp only[G.jh.L1];exact anm (akk _)
     ·rw[au (by omega)]at hs;cases hs
   | succ k ih=>
     intro i a hi ha ha2;have hil:i<l.length:=(by omega);have hb:=h2 _ (EP default hil);have w1:af .i64 (a-((l.getD i default).length:Int))=a-((l.getD i default).length:Int):=Cj (by omega) (by omega);by_cases c1:a-((l.getD i default).length:Int)<0
     ·refine⟨-1,ais ?_,by omega,λh=>by omega⟩;simp only[G.jh.L1,aj,w1];exact ani (alI (alZ (al6 c1) (akk _)))
     ·obtain⟨r,g,g1,g2⟩:=ih (i+1) (a-((l.getD i default).length:Int)) (by omega) (by omega) (by omega);refine⟨r,ais ?_,by omega,λh s hs=>?_⟩
      ·simp only[G.jh.L1,aj,w1,wrS i];exact ani (alI (alW (aki c1) g))
      ·rw[dW default hil]at hs;rcases ay.1 hs with e|e
       ·rw[e];omega
       ·have:=g2 h s e;omega
  obtain⟨r,g,g1,g2⟩:=L l.length 0 (left-(l.length:Int)) (by omega) (by omega) (by omega);refine⟨r,ais ?_,by omega,λh=>⟨by omega,λs hs=>?_⟩⟩
  ·simp only[G.jh,w0];exact alW (aki c) g
  ·have:=g2 h s (by rw[bT];exact hs);omega
theorem T.VB : ∀(D:Nat) {n:ak} {left:Int},zJ mx D n->0<=left->left<=1048576->∃r,Ev (λf=>G.qC f n left) r/\r<=left/\(0<=r->zJ 1048576 D n/\(UK n:Int)<=3*(left-r)+3)
 |0,_,_,h,_,_=>h.elim
 | D+1,n,left,h,h0,hl=>by
   obtain⟨hT,hN,hS,hK,_,hR⟩:=h;have S:∀(left:Int),0<=left->left<=1048576->∃r,Ev (λf=>G.oD f n.ajX left) r/\r<=left/\(0<=r->(n.ajX.length:Int)<=left-r/\(∀k,k∈n.ajX->zJ 1048576 D k)/\(xG n.ajX:Int)<=3*(left-r)):=by
    intro left h0 hl;have hK':n.ajX.length<=9223372036854775807:=hK;have w0:af .i64 (left-(n.ajX.length:Int))=left-(n.ajX.length:Int):=Cj (by omega) (by omega);by_cases c:left-(n.ajX.length:Int)<0
    ·refine⟨-1,ais ?_,by omega,λh=>by omega⟩;simp only[G.oD,w0];exact alZ (al6 c) (akk _)
    ·have L:∀(k i:Nat) (a:Int),i+k=n.ajX.length->0<=a->a<=1048576->∃r,Ev (λf=>G.oD.L1 f n.ajX a i) r/\r<=a/\(0<=r->(∀k,k∈n.ajX.drop i->zJ 1048576 D k)/\(xG (n.ajX.drop i):Int)<=3*(a-r)+3*((n.ajX.length:Int)-i)):=by
      intro k
      induction k with
      | zero=>
        intro i a hi ha ha2;refine⟨a,ais ?_,by omega,λ_=>⟨λs hs=>?_,?_⟩⟩
        ·simp only[G.oD.L1];exact anm (akk _)
        ·rw[au (by omega)]at hs;cases hs
        ·rw[au (by omega)];simp only[xG];omega
      | succ k ih=>
        intro i a hi ha ha2;have hil:i<n.ajX.length:=(by omega);obtain⟨q,gq,q1,q2⟩:=T.VB D (hR _ (EP default hil)) ha ha2;by_cases c1:q<0
        ·refine⟨-1,ais ?_,by omega,λh=>by omega⟩;simp only[G.oD.L1,aj];exact ani (alI (af5 gq (alZ (al6 c1) (akk _))))
        ·obtain⟨r,g,g1,g2⟩:=ih (i+1) q (by omega) (by omega) (by omega);refine⟨r,ais ?_,by omega,λh=>⟨λs hs=>?_,?_⟩⟩
         ·simp only[G.oD.L1,aj,wrS i];exact ani (alI (af5 gq (alW (aki c1) g)))
         ·rw[dW default hil]at hs;rcases ay.1 hs with e|e
          ·rw[e];exact(q2 (by omega)).1
          ·exact(g2 h).1 s e
         ·rw[dW default hil];have h3:=(q2 (by omega)).2;have h4:=(g2 h).2;simp only[xG];omega
     obtain⟨r,g,g1,g2⟩:=L n.ajX.length 0 (left-(n.ajX.length:Int)) (by omega) (by omega) (by omega);refine⟨r,ais ?_,by omega,λh=>⟨by omega,λs hs=>(g2 h).1 s (by rw[bT];exact hs),?_⟩⟩
     rotate_left
     ·have h4:=(g2 h).2;rw[bT]at h4;omega
     simp only[G.oD,w0];exact alW (aki c) g
   have hT':n.amV.length<=9223372036854775807:=hT;have w0:af .i64 (left-(n.amV.length:Int))=left-(n.amV.length:Int):=Cj (by omega) (by omega);by_cases c:left-(n.amV.length:Int)<0
   ·refine⟨-1,ais ?_,by omega,λh=>by omega⟩;simp only[G.qC,w0];exact alZ (al6 c) (akk _)
   ·obtain⟨v1,g1,a1,b1⟩:=T.XI hN hS (left:=left-(n.amV.length:Int)) (by omega) (by omega);by_cases c1:v1<0
    ·refine⟨-1,ais ?_,by omega,λh=>by omega⟩;simp only[G.qC,w0];exact alW (aki c) (af5 g1 (alZ (al6 c1) (akk _)))
    ·obtain⟨v2,g2,a2,b2⟩:=S v1 (by omega) (by omega);by_cases c2:v2<0
     ·refine⟨-1,ais ?_,by omega,λh=>by omega⟩;simp only[G.qC,w0];exact alW (aki c) (af5 g1 (alW (aki c1) (af5 g2 (alZ (al6 c2) (akk _)))))
     ·refine⟨v2,ais ?_,by omega,λh=>?_⟩
      ·simp only[G.qC,w0];exact alW (aki c) (af5 g1 (alW (aki c1) (af5 g2 (alW (aki c2) (akk _)))))
      ·obtain⟨e1,e2⟩:=b1 (by omega);obtain⟨e3,e4,e5⟩:=b2 (by omega);refine⟨⟨by omega,by omega,λs hs=>by have:=e2 s hs;omega,by omega,trivial,e4⟩,?_⟩;rw[FX];omega
structure GL (B D:Nat)(o:pW):Prop where
 path:o.anu.length<=B/\∀s,s∈o.anu->s.length<=B
 from_:o.anw.length<=B/\∀s,s∈o.anw->s.length<=B
 val:zJ B D o.Value
theorem GL.mono {B D D':Nat}{o:pW}(h:GL B D o)(hD:D<=D'):GL B D' o:=⟨h.path,h.from_,h.val.mono (aA _) hD⟩
theorem GL.all {B:Nat} : ∀{l:List pW} (D:Nat),(∀o,o∈l->∃D,GL B D o)->∃D',D<=D'/\∀o,o∈l->GL B D' o
 |[],D,_=>⟨D,aA _,λo h=>by cases h⟩
 | o::l,D,h=>by
   obtain⟨d,hd⟩:=h o (aW ..);obtain⟨D',h1,h2⟩:=GL.all (l:=l) (max D d) (λo ho=>h o (dY _ ho));refine⟨D',by omega,λx hx=>?_⟩;rcases ay.1 hx with e|e
   ·rw[e];exact hd.mono (by omega)
   ·exact h2 x e
def mkO (o:pW):Nat:=o.anu.length+o.anw.length+UK o.Value
theorem T.aoT {D:Nat}{o:pW}{left:Int}(h:GL mx D o)(h0:0<=left)(hl:left<=1048576):∃r,Ev (λf=>G.x9 f o left) r/\r<=left/\(0<=r->GL 1048576 D o/\(mkO o:Int)<=3*(left-r)+3):=by
 obtain⟨v1,g1,a1,b1⟩:=T.XI h.path.1 h.path.2 h0 hl;by_cases c1:v1<0
 ·refine⟨-1,ais ?_,by omega,λh=>by omega⟩;simp only[G.x9];exact af5 g1 (alZ (al6 c1) (akk _))
 obtain⟨v2,g2,a2,b2⟩:=T.XI h.from_.1 h.from_.2 (left:=v1) (by omega) (by omega);by_cases c2:v2<0
 ·refine⟨-1,ais ?_,by omega,λh=>by omega⟩;simp only[G.x9];exact af5 g1 (alW (aki c1) (af5 g2 (alZ (al6 c2) (akk _))))
 obtain⟨v3,g3,a3,b3⟩:=T.VB D h.val (left:=v2) (by omega) (by omega);by_cases c3:v3<0
 ·refine⟨-1,ais ?_,by omega,λh=>by omega⟩;simp only[G.x9];exact af5 g1 (alW (aki c1) (af5 g2 (alW (aki c2) (af5 g3 (alZ (al6 c3) (akk _))))))
 refine⟨v3,ais ?_,by omega,λh=>⟨⟨?_,?_,(b3 h).1⟩,?_⟩⟩
 ·simp only[G.x9];exact af5 g1 (alW (aki c1) (af5 g2 (alW (aki c2) (af5 g3 (alW (aki c3) (akk _))))))
 ·obtain⟨e1,e2⟩:=b1 (by omega);exact⟨by omega,λs hs=>by have:=e2 s hs;omega⟩
 ·obtain⟨e1,e2⟩:=b2 (by omega);exact⟨by omega,λs hs=>by have:=e2 s hs;omega⟩
 ·have e1:=(b1 (by omega)).1;have e2:=(b2 (by omega)).1;have e3:=(b3 h).2;unfold mkO;omega
def Jy : List pW->Nat
 |[]=>0
 |o::r=>mkO o+1+Jy r
theorem T.ann {D:Nat}{l:List pW}{left:Int}(h1:l.length<=mx)(hO:∀o,o∈l->GL mx D o)(h0:0<=left)(hl:left<=1048576) :
 ∃r,Ev (λf=>G.qV f l left) r/\r<=left/\(0<=r->(l.length:Int)<=left/\(∀o,o∈l->GL 1048576 D o)/\(Jy l:Int)<=4*(left-r)):=by
 unfold mx at h1;have w0:af .i64 (left-(l.length:Int))=left-(l.length:Int):=Cj (by omega) (by omega);by_cases c:left-(l.length:Int)<0
 ·refine⟨-1,ais ?_,by omega,λh=>by omega⟩;simp only[G.qV,w0];exact alZ (al6 c) (akk _)
 ·have L:∀(k i:Nat) (a:Int),i+k=l.length->0<=a->a<=1048576->∃r,Ev (λf=>G.qV.L1 f l a i) r/\r<=a/\(0<=r->(∀o,o∈l.drop i->GL 1048576 D o)/\(Jy (l.drop i):Int)<=3*(a-r)+4*k):=by
   intro k
   induction k with
   | zero=>
     intro i a hi ha ha2;refine⟨a,ais ?_,by omega,λ_=>⟨λs hs=>?_,by rw[au (by omega)];simp[Jy]⟩⟩
     ·simp only[G.qV.L1];exact anm (akk _)
     ·rw[au (by omega)]at hs;cases hs
   | succ k ih=>
     intro i a hi ha ha2;have hil:i<l.length:=(by omega);obtain⟨q,gq,q1,q2⟩:=T.aoT (hO _ (EP default hil)) ha ha2;by_cases c1:q<0
     ·refine⟨-1,ais ?_,by omega,λh=>by omega⟩;simp only[G.qV.L1,aj];exact ani (alI (af5 gq (alZ (al6 c1) (akk _))))
     ·obtain⟨r,g,g1,g2⟩:=ih (i+1) q (by omega) (by omega) (by omega);refine⟨r,ais ?_,by omega,λh=>⟨λs hs=>?_,?_⟩⟩
      ·simp only[G.qV.L1,aj,wrS i];exact ani (alI (af5 gq (alW (aki c1) g)))
      ·rw[dW default hil]at hs;rcases ay.1 hs with e|e
       ·rw[e];exact(q2 (by omega)).1
       ·exact(g2 h).1 s e
      ·have h1:=(q2 (by omega)).2;have h2:=(g2 h).2;rw[dW default hil];simp only[Jy];omega
  obtain⟨r,g,g1,g2⟩:=L l.length 0 (left-(l.length:Int)) (by omega) (by omega) (by omega);refine⟨r,ais ?_,by omega,λh=>⟨by omega,λs hs=>(g2 h).1 s (by rw[bT];exact hs),by have:=(g2 h).2;rw[bT]at this;omega⟩⟩;simp only[G.qV,w0];exact alW (aki c) g
theorem T.apU {B D:Nat}{o:pW}(hB:B<=lim)(h:GL B D o):Ev (λf=>G.Ap f o) o:=by refine ais ?_;simp only[G.Ap];exact af5 (T.XO (bH h.path.1 hB)) (af5 (T.XO (bH h.from_.1 hB)) (af5 (T.aau hB h.val) (akk _)))
theorem T.aoX {B D:Nat}{l:List pW}(hB:B<=lim)(hl:l.length<=lim)(h:∀o,o∈l->GL B D o):Ev (λf=>G.tu f l) l:=by
 unfold lim at hl;have L:∀(k i:Nat) (z:List pW),i+k=l.length->z.length=l.length->z.take i=l.take i->Ev (λf=>G.tu.L1 f l i z) l:=by
  intro k
  induction k with
  | zero=>intro i z hi hz ht;refine ais ?_;simp only[G.tu.L1];rw[aT (by omega),aT (by omega)]at ht;exact anm (ake ht)
  | succ k ih=>intro i z hi hz ht;have hil:i<l.length:=(by omega);refine ais ?_;simp only[G.tu.L1,aj,wrS i];refine ani (alI (af5 (T.apU hB (h _ (EP default hil))) (alI (ih (i+1) _ (by omega) (by rw[qp];exact hz) ?_))));rw[gJ _ hil];exact Oh hil hz ht
 refine ais ?_;simp only[G.tu];exact alI (L l.length 0 _ (by omega) (by simp) rfl)
theorem T.apj {B D:Nat}{o:pW}(hB:B<=lim)(h:GL B D o):Ev (λf=>G.Am f o o) true:=by refine ais ?_;simp only[G.Am];exact alW (by simp) (af5 (T.WA (bH h.path.1 hB)) (alZ rfl (af5 (T.WA (bH h.from_.1 hB)) (alZ rfl (af5 (T.Wv hB h.val) (alZ rfl (akk _)))))))
theorem T.an6 {B D:Nat}{l:List pW}(hB:B<=lim)(hl:l.length<=lim)(h:∀o,o∈l->GL B D o):Ev (λf=>G.tq f l l) true:=by
 unfold lim at hl;have L:∀(k i:Nat),i+k=l.length->Ev (λf=>G.tq.L1 f l l i) true:=by
  intro k
  induction k with
  | zero=>intro i hi;refine ais ?_;simp only[G.tq.L1];exact anm (akk _)
  | succ k ih=>intro i hi;refine ais ?_;simp only[G.tq.L1,aj,wrS i];exact ani (alI (alI (af5 (T.apj hB (h _ (EP default (by omega)))) (alZ rfl (ih (i+1) (by omega))))))
 refine ais ?_;simp only[G.tq];exact alW (by simp) (L l.length 0 (by omega))
def IG (i:Nat):dR:=if i<10 then [fB (48+i)]else IG (i/10)++[fB (48+i%10)]
 termination_by i
theorem Lu {i:Nat}(h:i<10):IG i=[fB (48+i)]:=by rw[IG,ahl h]
theorem Ws {i:Nat}(h:¬i<10):IG i=IG (i/10)++[fB (48+i%10)]:=by rw[IG,ahk h]
theorem ahP : ∀(k i:Nat),i<k->(IG i).length<=i+1:=by
 intro k
 induction k with
 |zero=>intro i h;omega
 | succ k ih=>
   intro i h;by_cases hi:i<10
   ·rw[Lu hi];simp
   ·rw[Ws hi,bD];have:=ih (i/10) (by omega);simp only[nI];omega
theorem wrap_u8 {m:Nat}(h:m<256):af .u8 (m:Int)=m:=by simp only[af,iq,yu];simp;omega
theorem T.lJ : ∀(k i:Nat),i<k->i<lim->Ev (λf=>G.lJ f (i:Int)) (IG i):=by
 intro k
 induction k with
 |zero=>intro i h;omega
 | succ k ih=>
   intro i h hl;unfold lim at hl;have hm:4294967296<maxLen:=(by decide);refine ais ?_;simp only[G.lJ];refine alW (by simp) ?_;refine alH (λe=>?_) (λe=>?_)
   ·simp only[ahm]at e;refine alI (ake ?_);rw[Lu (by omega),wrapN (m:=48+i) (by omega) (by omega),wrap_u8 (by omega),aj]
   ·simp only[alR]at e;have e1:lU (i:Int) 10=((i/10:Nat):Int):=(by rw[Af (by omega)];omega);have e2:kP (i:Int) 10=((i%10:Nat):Int):=(by rw[Int.tmod_eq_emod_of_nonneg (by omega)];omega);rw[e1,e2,wrapN (m:=i/10) rfl (by omega),wrapN (m:=48+i%10) (by omega) (by omega),wrap_u8 (by omega),aj];refine af5 (ih (i/10) (by omega) (by unfold lim;omega)) ?_;have:=ahP (i/10+1) (i/10) (by omega);refine alI (alI (ake ?_));exact(Ws (by omega)).symm
theorem T.decimal {i:Nat}(h:i<lim):Ev (λf=>G.lJ f (i:Int)) (IG i):=T.lJ (i+1) i (by omega) h
theorem ado : ∀(k i:Nat),i<k->Lib.decDigits i=IG i:=by
 intro k
 induction k with
 |zero=>intro i h;omega
 | succ k ih=>
   intro i h;by_cases h10:i<10
   ·rw[Lib.decDigits_one h10,Lu h10]
   ·rw[Ws h10,Lib.decDigits,dif_neg h10,ih (i/10) (by omega)]
theorem aiA (i:Nat):vF (i:Int)=IG i:=by unfold vF;rw[ahk (by omega),aj,ado (i+1) i (by omega)]
theorem T.Itoa {n:Int}(h : -900000000000000<=n/\n<=900000000000000):Ev (λf=>G.strconv_Itoa f n) (vF n):=by refine ais ?_;simp only[G.strconv_Itoa];exact ant ⟨by omega,bH (Lib.itoa_length_le n (by omega) (by omega)) (by decide)⟩ (akk _)
theorem T.strconv_Itoa {i:Nat}(h:i<10):Ev (λf=>G.strconv_Itoa f (i:Int)) (IG i):=by
 have:=T.Itoa (n:=(i:Int)) (by omega)
 rwa[aiA]at this
def hit (n:ak)(s:dR)(j:Nat):Bool:=(n.alC==4&&n.aiJ.getD j default==s)||(n.alC==3&&IG j==s)
def Gt (n:ak)(s:dR):Option Nat:=(bu 0 n.ajX.length).find? (hit n s)
def KU : Option Nat->Int
 |some j=>j
 |none=> -1
theorem Ag {n:ak}{s:dR}{j:Nat}(h:Gt n s=some j):j<n.ajX.length:=by have:=List.mem_of_find?_eq_some h;simp at this;exact this
theorem OZ {n:ak}{s:dR}{j:Nat}(h:Gt n s=some j):hit n s j=true:=List.find?_some h
theorem T.jE.L1 {B D:Nat}{n:ak}(s:dR)(hB:B<=lim)(h:Fine B D n) :
 ∀(k i:Nat),i+k=n.ajX.length->Ev (λf=>G.jE.L1 f n s i) (KU ((bu i k).find? (hit n s))):=by
 have hl:=h.kids;have hm:=h.map;intro k
 induction k with
 | zero=>intro i hi;refine ais ?_;simp only[G.jE.L1];exact alW (by simp;omega) (akk _)
 | succ k ih=>
   intro i hi;have hih:=ih (i+1) (by omega);have hd:=T.decimal (i:=i) (by omega);unfold lim at hB;rw[rM,xu];have apr:n.alC≠4->Ev (λf=>cond (n.alC==3) (lG (G.lJ f (i:Int)) λv5=>cond (v5==s) (some (i:Int)) (G.jE.L1 f n s (af .i64 ((i:Int)+1)))) (G.jE.L1 f n s (af .i64 ((i:Int)+1))))
    (KU (match hit n s i with|true=>some i|false=>(bu (i+1) k).find? (hit n s))):=by
    intro h4;have e4:(n.alC==4)=false:=(by simpa using h4);rw[dS (by omega)];refine alH (λe=>?_) (λe=>?_)
    ·refine af5 hd (alH (λe2=>ake ?_) (λe2=>?_))
     ·rw[show hit n s i=true by unfold hit;rw[e,e2,e4];rfl];rfl
     ·exact hih.eq (by rw[show hit n s i=false by unfold hit;rw[e,e2,e4];rfl])
    ·exact hih.eq (by rw[show hit n s i=false by unfold hit;rw[e,e4];rfl])
   refine ais ?_;simp only[G.jE.L1];refine alZ (by simp;omega) ?_;refine alH (λe=>?_) (λe=>apr (by simpa using e));have h4:n.alC=4:=(by simpa using e);have:=hm h4;refine alI ?_;rw[aj];refine alH (λe2=>ake ?_) (λe2=>?_)
   ·rw[show hit n s i=true by unfold hit;rw[e,e2];rfl];rfl
   ·refine alW (by rw[h4];rfl) ?_;rw[dS (by omega)];exact hih.eq (by rw[show hit n s i=false by unfold hit;rw[e2,h4];rfl])
theorem T.jE {B D:Nat}{n:ak}(s:dR)(hB:B<=lim)(h:Fine B D n):Ev (λf=>G.jE f n s) (KU (Gt n s)):=by refine ais ?_;simp only[G.jE];exact T.jE.L1 s hB h n.ajX.length 0 (by omega)
theorem T.cmp_Less_string (x y:dR):Ev (λf=>G.cmp_Less_string f x y) (bl x y):=by
 refine ais ?_;simp only[G.cmp_Less_string];have:Ev (λf=>G.cmp_isNaN_string f x) false:=by refine ais ?_;simp only[G.cmp_isNaN_string];exact ake (by simp)
 exact af5 this (akk _)
structure LB (l:List dR)(t:dR)(i:Nat):Prop where
 le:i<=l.length
 lo:∀j,j<i->bl (l.getD j default) t=true
 hi:∀j,i<=j->j<l.length->bl (l.getD j default) t=false
theorem half (i j:Nat)(h:i+j<9223372036854775808):af .i64 ((Int.fdiv (af .u64 (af .i64 ((i:Int)+(j:Int)))) (2^(min 1 (iq .u64)))))=(((i+j)/2:Nat):Int):=by
 rw[wrapN (x:=(i:Int)+(j:Int)) (m:=i+j) (by omega) h];have e:af .u64 ((i+j:Nat):Int)=((i+j:Nat):Int):=by simp only[af,iq,yu];simp;omega
 rw[e];have e2:Int.fdiv ((i+j:Nat):Int) (2^(min 1 (iq .u64)))=(((i+j)/2:Nat):Int):=by have:(2:Int)^(min 1 (iq .u64))=2:=rfl;rw[this,Int.fdiv_eq_ediv_of_nonneg _ (by omega)];omega
 rw[e2];exact wrapN rfl (by omega)
theorem T.BinarySearch.L1 {l:List dR}(t:dR)(hl:l.length<big)(hA:∀i j,i<j->j<l.length->bl (l.getD i default) (l.getD j default)=true) :
 ∀ (k i j:Nat),j-i<=k->i<=j->j<=l.length->(∀q,q<i->bl (l.getD q default) t=true)->(∀q,j<=q->q<l.length->bl (l.getD q default) t=false) ->
   ∃p:Nat,Ev (λf=>G.slices_BinarySearch_string.L1 f l t i j) ((p:Int),decide (p<l.length)&&l.getD p default==t)/\LB l t p:=by
 unfold big at hl;intro k
 induction k with
 | zero=>
   intro i j hk hij hj hlo hhi;have:i=j:=(by omega);subst this;refine⟨i,ais ?_,hj,hlo,hhi⟩;simp only[G.slices_BinarySearch_string.L1];refine alW (by simp) (alH (λe=>?_) (λe=>ake ?_))
   ·have e':i<l.length:=(by simpa using e);rw[aj];have d1:decide (i<l.length)=true:=(by simpa using e');rw[d1,bV];refine alI (alH (λe2=>ake (by rw[e2])) (λe2=>alI ?_));have:Ev (λf=>G.slices_isNaN_string f (l.getD i default)) false:=by
     refine ais ?_;simp only[G.slices_isNaN_string];exact ake (by simp)
    exact af5 this (ake (by rw[e2]))
   ·have d1:decide (i<l.length)=false:=(by simpa using e);rw[d1];rfl
 | succ k ih=>
   intro i j hk hij hj hlo hhi;by_cases he:i=j
   ·exact ih i j (by omega) hij hj hlo hhi
   have h1:(i+j)/2<j:=(by omega);have h2:i<=(i+j)/2:=(by omega);cases hc:bl (l.getD ((i+j)/2) default) t with
   | true=>
     obtain⟨p,g,hp⟩:=ih ((i+j)/2+1) j (by omega) (by omega) hj (λq hq=>by
      by_cases hq2:q=(i+j)/2
      ·rw[hq2];exact hc
      ·exact Dt (hA q ((i+j)/2) (by omega) (by omega)) hc) hhi
     refine⟨p,ais ?_,hp⟩;simp only[G.slices_BinarySearch_string.L1];refine alZ (by simp;omega) ?_;rw[half i j (by omega),aj];refine alI (af5 (T.cmp_Less_string _ _) (alZ hc ?_));rw[dS (by omega)];exact g
   | false=>
     obtain⟨p,g,hp⟩:=ih i ((i+j)/2) (by omega) h2 (by omega) hlo (λq hq hq2=>by
      by_cases hq3:q=(i+j)/2
      ·rw[hq3];exact hc
      ·cases hb:bl (l.getD q default) t with
       |false=>rfl
       |true=>rw[Dt (hA ((i+j)/2) q (by omega) hq2) hb]at hc;cases hc)
     refine⟨p,ais ?_,hp⟩;simp only[G.slices_BinarySearch_string.L1];refine alZ (by simp;omega) ?_;rw[half i j (by omega),aj];refine alI (af5 (T.cmp_Less_string _ _) (alW hc ?_));exact g
theorem I5 {x:dR}{l:List dR}(h:Asc (x::l)=true):Asc l=true:=by
 cases l with
 |nil=>rfl
 |cons y r=>rw[Asc,ah]at h;exact h.2
theorem Kr : ∀{l:List dR} {x:dR},Asc (x::l)=true->∀y,y∈l->bl x y=true
 |[],_,_,y,hy=>by cases hy
 | z::r,x,h,y,hy=>by
   have h1:bl x z=true:=(by rw[Asc,ah]at h;exact h.1);rcases ay.1 hy with rfl|hy
   ·exact h1
   ·exact Dt h1 (Kr (I5 h) y hy)
theorem H6 : ∀{l:List dR},Asc l=true->∀i j,i<j->j<l.length->bl (l.getD i default) (l.getD j default)=true
 |[],_,i,j,_,hj=>by simp at hj
 | x::l,h,i,j,hij,hj=>by
   cases j with
   |zero=>omega
   | succ j=>
     rw[kU];have hj':j<l.length:=(by simpa using hj);cases i with
     |zero=>rw[zV,gJ _ hj'];exact Kr h _ (dD _)
     |succ i=>rw[kU];exact H6 (I5 h) i j (by omega) hj'
theorem T.slices_BinarySearch_string {l:List dR}(t:dR)(hl:l.length<big)(hA:Asc l=true) :
 ∃p:Nat,Ev (λf=>G.slices_BinarySearch_string f l t) ((p:Int),decide (p<l.length)&&l.getD p default==t)/\LB l t p:=by
 obtain⟨p,g,hp⟩:=T.BinarySearch.L1 t hl (H6 hA) l.length 0 l.length (by omega) (by omega) (by omega) (λq hq=>by omega) (λq h1 h2=>by omega);refine⟨p,ais ?_,hp⟩;simp only[G.slices_BinarySearch_string];exact g
theorem ak.eta (n:ak):ak.mk n.alC n.Num n.amV n.aiJ n.ajX=n:=by cases n;rfl
theorem OM {p:Nat->Bool} : ∀{k i:Nat},(bu i k).find? p=none<->∀q,i<=q->q<i+k->p q=false:=by
 intro k i;rw[List.find?_eq_none];constructor
 ·intro h q h1 h2;have:=h q (by simp;omega);simpa using this
 ·intro h q hq;simp at hq;rw[h q hq.1 hq.2];simp
theorem IU {p:Nat->Bool} : ∀{k i j:Nat},(bu i k).find? p=some j<->(i<=j/\j<i+k/\p j=true/\∀q,i<=q->q<j->p q=false):=by
 intro k
 induction k with
 |zero=>intro i j;simp;omega
 | succ k ih=>
   intro i j;rw[rM,xu];cases h:p i with
   | true=>
     simp only[aC];constructor
     ·rintro rfl;exact⟨by omega,by omega,h,λq h1 h2=>by omega⟩
     ·rintro⟨h1,h2,h3,h4⟩;by_cases e:i=j
      ·exact e
      ·have:=h4 i (by omega) (by omega);rw[h]at this;cases this
   | false=>
     simp only;rw[ih];constructor
     ·rintro⟨h1,h2,h3,h4⟩;refine⟨by omega,by omega,h3,λq g1 g2=>?_⟩;by_cases e:q=i
      ·rw[e];exact h
      ·exact h4 q (by omega) g2
     ·rintro⟨h1,h2,h3,h4⟩;have:j≠i:=λe=>(by rw[e,h]at h3;cases h3);exact⟨by omega,by omega,h3,λq g1 g2=>h4 q (by omega) g2⟩
theorem Og {n:ak}{s:dR}{j:Nat} : Gt n s=some j<->(j<n.ajX.length/\hit n s j=true/\∀q,q<j->hit n s q=false):=by
 unfold Gt;rw[IU];constructor
 ·rintro⟨h1,h2,h3,h4⟩;exact⟨by omega,h3,λq hq=>h4 q (by omega) hq⟩
 ·rintro⟨h1,h2,h3⟩;exact⟨by omega,by omega,h2,λq _ hq=>h3 q hq⟩
theorem RG {n:ak}{s:dR} : Gt n s=none<->∀q,q<n.ajX.length->hit n s q=false:=by
 unfold Gt;rw[OM];constructor
 ·intro h q hq;exact h q (by omega) (by omega)
 ·intro h q _ hq;exact h q (by omega)
theorem Bh {n:ak}(h:Parts n=true)(hk:n.alC=4):n.Num=0/\n.amV=[]/\NM n.aiJ=true/\n.aiJ.length<=6/\n.ajX.length=n.aiJ.length:=by unfold Parts at h;simp[hk]at h;obtain⟨⟨h1,h2⟩,⟨h3,h4⟩,h5⟩:=h;exact⟨h1,h2,h3,h4,h5⟩
theorem GZ {n:ak}(h:Parts n=true)(hk:n.alC=3):n.Num=0/\n.amV=[]/\n.aiJ=[]/\n.ajX.length<=6:=by unfold Parts at h;simp[hk]at h;obtain⟨⟨⟨h1,h2⟩,h3⟩,h4⟩:=h;exact⟨h1,h2,h3,h4⟩
theorem Qk {n:ak}(h:Parts n=true)(h4:n.alC≠4)(h3:n.alC≠3):n.aiJ=[]/\n.ajX=[]:=by
 unfold Parts at h;have e4:(n.alC==4)=false:=by simpa using h4
 simp only[ah,e4,Oz]at h;obtain⟨⟨_,h1⟩,h2⟩:=h;refine⟨fO (by simpa using h1),fO ?_⟩;by_cases k0:n.alC=0
 ·rw[ahl k0]at h2;simpa using h2
 rw[ahk k0]at h2;by_cases k1:n.alC=1
 ·rw[ahl k1]at h2;simp at h2;rw[h2.2];rfl
 rw[ahk k1]at h2;by_cases k2:n.alC=2
 ·rw[ahl k2]at h2;simp at h2;rw[h2.2];rfl
 rw[ahk k2,ahk h3,ahk h4]at h2;cases h2
theorem Qg {l:List dR}(h:NM l=true):Asc l=true:=by unfold NM at h;simp only[ah]at h;exact h.2
theorem adZ {l:List dR}(h:NM l=true):∀s,s∈l->PT s=true:=by unfold NM at h;simp only[ah]at h;exact aP.1 h.1
theorem Ua {n:ak}(h:Parts n=true):n.ajX.length<=6:=by
 by_cases k:n.ajX.length<=6
 ·exact k
 ·rw[Qp (by omega)]at h;cases h
theorem G8 {n:ak}(hk:n.alC=4)(s:dR)(j:Nat):hit n s j=(n.aiJ.getD j default==s):=by unfold hit;rw[hk];simp
theorem aij {n:ak}(hk:n.alC=3)(s:dR)(j:Nat):hit n s j=(IG j==s):=by unfold hit;rw[hk];simp
theorem KL {n:ak}(h4:n.alC≠4)(h3:n.alC≠3)(s:dR)(j:Nat):hit n s j=false:=by unfold hit;rw[show(n.alC==4)=false by simpa using h4,show(n.alC==3)=false by simpa using h3];rfl
theorem aac {n:ak}{s:dR}{p:Nat}(hk:n.alC=4)(hA:Asc n.aiJ=true)(hl:n.ajX.length=n.aiJ.length)(h:LB n.aiJ s p) :
 Gt n s=if decide (p<n.aiJ.length)&&n.aiJ.getD p default==s then some p else none:=by
 cases hc:decide (p<n.aiJ.length)&&n.aiJ.getD p default==s with
 | true=>simp only[ah,ahm]at hc;rw[ahl rfl,Og];refine⟨by omega,by rw[G8 hk];exact hc.2,λq hq=>?_⟩;rw[G8 hk];have:=JH (h.lo q hq);simpa using this
 | false=>
   rw[ahk (by simp),RG];intro q hq;rw[G8 hk];by_cases h1:q<p
   ·have:=JH (h.lo q h1);simpa using this
   ·cases he:n.aiJ.getD q default==s with
    |false=>rfl
    | true=>
      rw[akg]at he;by_cases h2:q=p
      ·subst h2;rw[he]at hc;have:decide (q<n.aiJ.length)=true:=(by simp;omega);rw[this]at hc;simp at hc
      ·have:=H6 hA p q (by omega) (by omega);rw[he,h.hi p (by omega) (by omega)]at this;cases this
theorem T.fQ.L1 {n:ak}(s:dR)(hk:n.alC=3)(hl:n.ajX.length<=6) :
 ∀(k i:Nat),i+k=n.ajX.length->Ev (λf=>G.fQ.L1 f n s i) (match(bu i k).find? (hit n s)with|some j=>((j:Int),true)|none=>(0,false)):=by
 intro k
 induction k with
 | zero=>intro i hi;refine ais ?_;simp only[G.fQ.L1];exact alW (by simp;omega) (akk _)
 | succ k ih=>intro i hi;refine ais ?_;simp only[G.fQ.L1];refine alZ (by simp;omega) (af5 (T.strconv_Itoa (i:=i) (by omega)) ?_);rw[rM,xu,aij hk,dS (by omega)];refine alH (λe=>ake (by rw[e])) (λe=>?_);exact(ih (i+1) (by omega)).eq (by rw[e])
theorem T.fQ {n:ak}(s:dR)(h:Parts n=true) :
 ∃v b,Ev (λf=>G.fQ f n s) (v,b)/\(∀j,Gt n s=some j->v=(j:Int)/\b=true)/\(Gt n s=none->b=false):=by
 by_cases h4:n.alC=4
 ·obtain⟨_,_,hN,hl,hkl⟩:=Bh h h4;obtain⟨p,g,hp⟩:=T.slices_BinarySearch_string s (by unfold big;omega) (Qg hN);have hpl:=aac h4 (Qg hN) hkl hp;refine⟨p,decide (p<n.aiJ.length)&&n.aiJ.getD p default==s,ais ?_,λj hj=>?_,λhn=>?_⟩
  ·simp only[G.fQ];exact alZ (by simpa using h4) (af5 g (akk _))
  ·rw[hpl]at hj;split at hj
   ·rename_i hc;cases hj;exact⟨rfl,hc⟩
   ·cases hj
  ·rw[hpl]at hn;split at hn
   ·cases hn
   ·rename_i hc;simpa using hc
 ·have e4:(n.alC==4)=false:=by simpa using h4
  by_cases h3:n.alC=3
  ·obtain⟨_,_,_,hl⟩:=GZ h h3;have g:=T.fQ.L1 s h3 hl n.ajX.length 0 (by omega);cases hp:Gt n s with
   | some j=>refine⟨j,true,ais ?_,λj' hj=>(by cases hj;exact⟨rfl,rfl⟩),λhn=>(by cases hn)⟩;simp only[G.fQ];refine alW e4 (alZ (by simpa using h3) ?_);exact g.eq (by unfold Gt at hp;rw[hp])
   | none=>refine⟨0,false,ais ?_,λj' hj=>(by cases hj),λ_=>rfl⟩;simp only[G.fQ];refine alW e4 (alZ (by simpa using h3) ?_);exact g.eq (by unfold Gt at hp;rw[hp])
  ·have hp:Gt n s=none:=RG.2 (λq _=>KL h4 h3 s q);refine⟨0,false,ais ?_,λj hj=>(by rw[hp]at hj;cases hj),λ_=>rfl⟩;simp only[G.fQ];exact alW e4 (alW (by simpa using h3) (akk _))
def Ny : ak->List dR->Option ak
 |n,[]=>some n
 | n,s::p=>match Gt n s with
   |some j=>Ny (n.ajX.getD j default) p
   |none=>none
def wU : ak:=ak.mk 0 0 [] [] []
def o7 : Option ak->ak×Bool
 |some n=>(n,true)
 |none=>(wU,false)
theorem T.uB.L1 {B:Nat}(p:List dR)(hB:B<=lim)(hp:p.length<big) :
 ∀(k i D:Nat) (n:ak),i+k=p.length->Fine B D n->Ev (λf=>G.uB.L1 f p i n.alC n.Num n.amV n.aiJ n.ajX) (o7 (Ny n (p.drop i))):=by
 unfold big at hp;intro k
 induction k with
 | zero=>intro i D n hi h;refine ais ?_;simp only[G.uB.L1,ak.eta];refine alW (by simp;omega) ?_;rw[au (by omega)];have hc:=T.bG hB h;exact af5 hc (akk _)
 | succ k ih=>
   intro i D n hi h;refine ais ?_;simp only[G.uB.L1,ak.eta];refine alZ (by simp;omega) (alI ?_);rw[dW (default:dR) (by omega:i<p.length),aj];have hP:=T.jE (p.getD i default) hB h;refine af5 hP ?_;rw[Ny];cases hj:Gt n (p.getD i default)with
   |none=>exact alZ rfl (akk _)
   | some j=>
     have hjl:=Ag hj;cases D with
     |zero=>exact h.elim
     |succ D=>
     refine alW (aki (by simp only[KU];omega)) (ant (by simp only[KU];omega) ?_);rw[dS (by omega)];exact ih (i+1) D _ (by omega) (h.kid hjl)
theorem T.uB {B D:Nat}{n:ak}(p:List dR)(hB:B<=lim)(hp:p.length<big)(h:Fine B D n):Ev (λf=>G.uB f n p) (o7 (Ny n p)):=by refine ais ?_;simp only[G.uB];exact T.uB.L1 p hB hp p.length 0 D n (by omega) h
theorem T.kz.L1 (p:List dR)(hp:p.length<big) :
 ∀(k i d:Nat) (n:ak),i+k=p.length->Shape d n=true->Ev (λf=>G.kz.L1 f p i n.alC n.Num n.amV n.aiJ n.ajX) (o7 (Ny n (p.drop i))):=by
 unfold big at hp;intro k
 induction k with
 | zero=>intro i d n hi h;refine ais ?_;simp only[G.kz.L1,ak.eta];refine alW (by simp;omega) ?_;rw[au (by omega)];exact akk _
 | succ k ih=>
   intro i d n hi h;cases d with
   |zero=>cases h
   |succ d=>
   refine ais ?_;simp only[G.kz.L1,ak.eta];refine alZ (by simp;omega) (alI ?_);rw[dW (default:dR) (by omega:i<p.length),aj];obtain⟨v,b,g,h1,h2⟩:=T.fQ (p.getD i default) (rG h);refine af5 g ?_;rw[Ny];cases hj:Gt n (p.getD i default)with
   |none=>exact alW (h2 hj) (akk _)
   | some j=>have hjl:=Ag hj;obtain⟨rfl,rfl⟩:=h1 j hj;refine alZ rfl (alI ?_);rw[dS (by omega)];exact ih (i+1) d _ (by omega) (vw h _ (by rw[aj,gJ _ hjl];exact dD _))
theorem T.kz {d:Nat}{n:ak}(p:List dR)(hp:p.length<big)(h:Shape d n=true):Ev (λf=>G.kz f n p) (o7 (Ny n p)):=by refine ais ?_;simp only[G.kz];exact T.kz.L1 p hp p.length 0 d n (by omega) h
def Jr (n:ak)(j:Nat)(c:ak):ak:=ak.mk n.alC n.Num n.amV n.aiJ (n.ajX.set j c)
def IC (f:ak->Option ak):ak->List dR->Option ak
 |n,[]=>f n
 | n,s::p=>match Gt n s with
   |some j=>(IC f (n.ajX.getD j default) p).map (Jr n j)
   |none=>none
def Ve (n:ak)(p:List dR)(v:ak):Option ak:=IC (λ_=>some v) n p
theorem Ze (f:ak->Option ak):∀(p:List dR) (n:ak),IC f n p=(Ny n p).bind λm=>(f m).bind λm'=>Ve n p m'
 | [],n=>by show f n=(f n).bind λm'=>some m';cases f n<;>rfl
 | s::p,n=>by
   rw[IC,Ny];cases hj:Gt n s with
   |none=>rfl
   | some j=>
     simp only;rw[Ze f p];cases ha:Ny (n.ajX.getD j default) p with
     |none=>rfl
     | some m=>
       simp only[jP];cases hf:f m with
       |none=>rfl
       | some m'=>simp only[jP];unfold Ve;rw[IC,hj]
theorem aa8 {B D E:Nat}{n v:ak}{j:Nat}(h:Fine B (D+1) n)(hv:Fine B E v):Fine B (max D E+1) (Jr n j v):=by
 obtain⟨h1,h2,h3,h4,h5,h6⟩:=h;refine⟨h1,h2,h3,by simpa[Jr]using h4,by simpa[Jr]using h5,λk hk=>?_⟩;rcases pq hk with hk|rfl
 ·exact(h6 k hk).mono (aA _) (Cc _ _)
 ·exact hv.mono (aA _) (FB _ _)
theorem WG {B E:Nat}{f:ak->Option ak} : ∀(p:List dR) {D:Nat} {n m:ak},(∀D' k k',Fine B D' k->f k=some k'->Fine B (D'+E) k')->Fine B D n->IC f n p=some m->Fine B (D+E) m
 |[],D,n,m,hf,h,hm=>hf D n m h hm
 | s::p,D,n,m,hf,h,hm=>by
   rw[IC]at hm;cases hj:Gt n s with
   |none=>rw[hj]at hm;cases hm
   | some j=>
     rw[hj]at hm;simp only at hm;cases D with
     |zero=>exact h.elim
     |succ D=>
     cases hc:IC f (n.ajX.getD j default) p with
     |none=>rw[hc]at hm;cases hm
     | some c=>rw[hc]at hm;cases hm;have:=aa8 (j:=j) h (WG p hf (h.kid (Ag hj)) hc);exact this.mono (aA _) (by omega)
theorem Tm {B D E:Nat}{n v m:ak}{p:List dR}(h:Fine B D n)(hv:Fine B E v)(hm:Ve n p v=some m):Fine B (D+E) m:=
 WG p (λD' k k' _ e=>by cases e;exact hv.mono (aA _) (by omega)) h hm
theorem QX {B:Nat} : ∀(p:List dR) {D:Nat} {n m:ak},Fine B D n->Ny n p=some m->Fine B D m
 |[],_,_,_,h,e=>by cases e;exact h
 | s::p,D,n,m,h,e=>by
   rw[Ny]at e;cases hj:Gt n s with
   |none=>rw[hj]at e;cases e
   | some j=>
     rw[hj]at e;cases D with
     |zero=>exact h.elim
     |succ D=>exact(QX p (h.kid (Ag hj)) e).mono (aA _) (by omega)
theorem T.o9 {B D E:Nat}{n v:ak}{j:Nat}(hB:B<=lim)(h:Fine B D n)(hv:Fine B E v)(hj:j<n.ajX.length):Ev (λf=>G.o9 f n j v) (Jr n j v):=by refine ais ?_;simp only[G.o9];refine af5 (T.bG hB h) (af5 (T.bG hB hv) (alI (ake ?_)));rw[aj];rfl
theorem T.pJ {B E:Nat}{v:ak}(hB:B<=lim)(hv:Fine B E v):∀(p:List dR) {D:Nat} {n:ak},p.length<big->Fine B D n->Ev (λf=>G.pJ f n p v) (o7 (Ve n p v))
 | [],D,n,_,h=>by refine ais ?_;simp only[G.pJ];exact alZ rfl (af5 (T.bG hB hv) (akk _))
 | s::p,D,n,hp,h=>by
   simp only[iC]at hp;have hp':=hp;unfold big at hp';refine ais ?_;simp only[G.pJ];refine alW (by simp;omega) (ant (by simp) ?_);rw[zV];refine af5 (T.jE s hB h) ?_;unfold Ve;rw[IC];cases hj:Gt n s with
   |none=>exact alZ rfl (akk _)
   | some j=>
     have hjl:=Ag hj;cases D with
     |zero=>exact h.elim
     |succ D=>
     refine alW (aki (by simp only[KU];omega)) (ant (by simp only[KU];omega) (ant (by simp;omega) ?_));have hk:=h.kid hjl;have ih:=T.pJ hB hv p (by omega) hk;refine af5 (show Ev (λf=>G.pJ f (n.ajX.getD (KU (some j)).toNat default) ((s::p).drop 1) v) _ from ih) ?_;show Ev _ (o7 ((Ve (n.ajX.getD j default) p v).map (Jr n j)));cases hc:Ve (n.ajX.getD j default) p v with
     |none=>exact alW rfl (akk _)
     | some c=>refine alZ rfl ?_;exact af5 (T.o9 hB h (Tm hk hv hc) hjl) (akk _)
theorem Xi {s:dR}(h:PT s=true):s.length<=12:=by unfold PT at h;simp at h;exact h.2
theorem zQ : ∀{d:Nat} {n:ak},Shape d n=true->Fine 12 d n
 |0,_,h=>by cases h
 | d+1,n,h=>by
   have hp:=rG h;have hk:=vw h;have hl:=Ua hp;refine⟨?_,?_,?_,by omega,?_,λk hk'=>zQ (hk k hk')⟩
   ·by_cases h2:n.alC=2
    ·unfold Parts at hp;simp[h2]at hp;exact Xi hp.2.1
    ·have e2:(n.alC==2)=false:=(by simpa using h2);unfold Parts at hp;simp only[e2,Oz,ah]at hp;have:=hp.1.1.2;rw[akg]at this;rw[this];simp
   ·by_cases h4:n.alC=4
    ·have:=(Bh hp h4).2.2.2.1;omega
    ·by_cases h3:n.alC=3
     ·rw[(GZ hp h3).2.2.1];simp
     ·rw[(Qk hp h4 h3).1];simp
   ·intro s hs;by_cases h4:n.alC=4
    ·exact Xi (adZ (Bh hp h4).2.2.1 s hs)
    ·by_cases h3:n.alC=3
     ·rw[(GZ hp h3).2.2.1]at hs;cases hs
     ·rw[(Qk hp h4 h3).1]at hs;cases hs
   ·intro h4;have:=(Bh hp h4).2.2.2.2;omega
theorem CV {d:Nat}{n:ak}(h:Shape (d+1) n=true){j:Nat}(hj:j<n.ajX.length):Shape d (n.ajX.getD j default)=true:=by rw[gJ _ hj];exact vw h _ (dD _)
theorem Fe : 12<=lim:=by decide
theorem T.change {F:Nat->ak->List dR->Option (ak×Bool)}{C:Nat->ak->Option (ak×Bool)}{g:ak->Option ak}
 (hF:∀n a p,F (n+1) a p=cond ((p.length:Int)==0) (lG (C n a) λv1=>some (v1.1,v1.2))
  (chk (0<=0/\0<(p.length:Int)) (lG (G.fQ n a (p.getD 0 default)) λv2=>cond v2.2
   (chk (0<=v2.1/\v2.1<(a.ajX.length:Int)) (chk (0<=1/\1<=(p.length:Int)/\(p.length:Int)<=(p.length:Int))
    (lG (F n (a.ajX.getD v2.1.toNat default) (p.drop 1)) λv3=>cond v3.2 (lG (G.aV n a) λv4=>chk (0<=v2.1/\v2.1<(v4.ajX.length:Int)) (some ((ak.mk v4.alC v4.Num v4.amV v4.aiJ (v4.ajX.set v2.1.toNat v3.1)),true)))
     (some ((ak.mk 0 0 [] [] []),false))))) (some ((ak.mk 0 0 [] [] []),false)))))
 (hC:∀d m,Shape d m=true->Ev (λn=>C n m) (o7 (g m))) :
 ∀(p:List dR) {d:Nat} {n:ak},Shape d n=true->Ev (λk=>F k n p) (o7 (IC g n p))
 | [],d,n,h=>by refine ais ?_;simp only[hF];refine alZ rfl (af5 (hC d n h) (ake ?_));rw[IC]
 | s::p,d,n,h=>by
   cases d with
   |zero=>cases h
   |succ d=>
   obtain⟨v,b,gk,h1,h2⟩:=T.fQ s (rG h);refine ais ?_;simp only[hF];refine alW (by simp;omega) (ant (by simp) ?_);rw[zV];refine af5 gk ?_;rw[IC];cases hj:Gt n s with
   |none=>exact alW (h2 hj) (akk _)
   | some j=>
     have hjl:=Ag hj;obtain⟨rfl,rfl⟩:=h1 j hj;refine alZ rfl (alI (ant (by simp;omega) ?_));rw[aj];have ih:=T.change hF hC p (CV h hjl);refine af5 (show Ev (λk=>F k (n.ajX.getD j default) ((s::p).drop 1)) _ from ih) ?_;simp only;cases hc:IC g (n.ajX.getD j default) p with
     |none=>exact alW rfl (akk _)
     | some c=>refine alZ rfl (af5 (T.aV Fe (zQ h)) (alI (akk _)))
def insL {α:Type}(l:List α)(k:Nat)(v:α):List α:=(l.take k++[v])++l.drop k
def slt (n:ak)(s:dR):Nat:=((bu 0 n.ajX.length).find? λi=>bl s (n.aiJ.getD i default)).getD n.ajX.length
def addN (n:ak)(s:dR)(v:ak):Option ak:=
 match Gt n s with
 |some k=>if n.alC=4 then some (Jr n k v)else some (ak.mk n.alC 0 [] [] (insL n.ajX k v))
 | none=>if n.alC=3 then(if s=[45]\/s=IG n.ajX.length then some (ak.mk n.alC 0 [] [] (insL n.ajX n.ajX.length v))else none)
   else if n.alC=4 then some (ak.mk n.alC 0 [] (insL n.aiJ (slt n s) s) (insL n.ajX (slt n s) v))else none
theorem aej (n:ak)(s:dR):slt n s<=n.ajX.length:=by
 unfold slt;cases h:(bu 0 n.ajX.length).find? λi=>bl s (n.aiJ.getD i default)with
 |none=>simp
 |some j=>have:=(IU.1 h).2.1;simp only[jQ];omega
def UR (n:ak)(s:dR):Option (Nat×Bool):=
 match Gt n s with
 |some k=>some (k,n.alC==4)
 | none=>if n.alC=3 then(if s=[45]\/s=IG n.ajX.length then some (n.ajX.length,false)else none)
   else if n.alC=4 then some (slt n s,false)else none
def ajB : Option (Nat×Bool)->Int×Bool
 |some (k,b)=>((k:Int),b)
 |none=>(-1,false)
theorem T.lV.L1 {n:ak}(s:dR)(hk:n.alC≠4):Ev (λf=>G.lV.L1 f n s 0) (-1,false):=by refine ais ?_;simp only[G.lV.L1];exact alW (by simpa using hk) (akk _)
theorem T.lV.L2 {B D:Nat}{n:ak}(s:dR)(hB:B<=lim)(h:Fine B D n)(hk:n.alC=4) :
 ∀(k i:Nat),i+k=n.ajX.length->Ev (λf=>G.lV.L2 f n s i) (((((bu i k).find? λi=>bl s (n.aiJ.getD i default)).getD n.ajX.length:Nat):Int),false):=by
 have hl:=h.kids;have hm:=h.map hk;unfold lim at hB;intro k
 induction k with
 | zero=>intro i hi;refine ais ?_;simp only[G.lV.L2];refine alZ (by simpa using hk) (alZ (by simp;omega) (alZ (by simp;omega) (ake ?_)));show((i:Int),false)=((n.ajX.length:Int),false);rw[show i=n.ajX.length by omega]
 | succ k ih=>
   intro i hi;refine ais ?_;simp only[G.lV.L2];refine alZ (by simpa using hk) (alZ (by simp;omega) (alW (by simp;omega) (alI ?_)));rw[rM,xu,aj];refine alH (λe=>ake ?_) (λe=>?_)
   ·rw[show bl s (n.aiJ.getD i default)=true from e];rfl
   ·rw[dS (by omega),show bl s (n.aiJ.getD i default)=false from e];exact ih (i+1) (by omega)
theorem T.lV {B D:Nat}{n:ak}(s:dR)(hB:B<=lim)(h:Fine B D n)(hB':B<lim):Ev (λf=>G.lV f n s) (ajB (UR n s)):=by
 have hl:=h.kids;refine ais ?_;simp only[G.lV];refine af5 (T.jE s hB h) ?_;unfold UR;cases hj:Gt n s with
 |some j=>exact alZ (al6 (by simp only[KU];omega)) (akk _)
 | none=>
   refine alW (by rfl) ?_;simp only;by_cases h3:n.alC=3
   ·rw[ahl h3];refine alZ (by simpa using h3) ?_;refine alH (λe=>ake ?_) (λe=>?_)
    ·rw[ahl (.inl (by simpa using e))];rfl
    ·refine af5 (T.decimal (i:=n.ajX.length) (by omega)) (alH (λe2=>ake ?_) (λe2=>?_))
     ·rw[ahl (.inr (by simpa using e2))];rfl
     ·rw[ahk (by simp at e e2;simp[e,e2])];exact T.lV.L1 s (by omega)
   ·rw[ahk h3];refine alW (by simpa using h3) ?_;by_cases h4:n.alC=4
    ·rw[ahl h4];exact T.lV.L2 s hB h h4 n.ajX.length 0 (by omega)
    ·rw[ahk h4];refine ais ?_;simp only[G.lV.L2];exact alW (by simpa using h4) (akk _)
theorem Yl (n:ak)(s:dR)(v:ak):addN n s v=(UR n s).map λq=>if q.2 then Jr n q.1 v else if n.alC=3 then ak.mk n.alC 0 [] [] (insL n.ajX q.1 v)else ak.mk n.alC 0 [] (insL n.aiJ q.1 s) (insL n.ajX q.1 v):=by
 unfold addN UR;cases hj:Gt n s with
 | some j=>
   simp only[iR];by_cases h4:n.alC=4
   ·simp[h4]
   ·have h3:n.alC=3:=by
     by_cases h3:n.alC=3
     ·exact h3
     ·have:=OZ hj;rw[KL h4 h3]at this;cases this
    simp[h3]
 | none=>
   simp only;by_cases h3:n.alC=3
   ·simp only[h3,amB];by_cases hs:s=[45]\/s=IG n.ajX.length
    ·rw[ahl hs,ahl hs];simp
    ·rw[ahk hs,ahk hs];rfl
   ·rw[ahk h3,ahk h3];by_cases h4:n.alC=4
    ·rw[ahl h4,ahl h4];simp[h3]
    ·rw[ahk h4,ahk h4];rfl
theorem aff {n:ak}{s:dR}{q:Nat×Bool}(h:UR n s=some q):q.1<=n.ajX.length/\(q.2=true->q.1<n.ajX.length)/\(n.alC=3\/n.alC=4):=by
 unfold UR at h;cases hj:Gt n s with
 | some j=>
   rw[hj]at h;cases h;have:=Ag hj;refine⟨by omega,λ_=>this,?_⟩;by_cases h4:n.alC=4
   ·exact .inr h4
   ·by_cases h3:n.alC=3
    ·exact .inl h3
    ·have:=OZ hj;rw[KL h4 h3]at this;cases this
 | none=>
   rw[hj]at h;simp only at h;by_cases h3:n.alC=3
   ·rw[ahl h3]at h;split at h
    ·cases h;exact⟨aA _,λe=>(by cases e),.inl h3⟩
    ·cases h
   ·rw[ahk h3]at h;split at h
    ·rename_i h4;cases h;exact⟨aej n s,λe=>(by cases e),.inr h4⟩
    ·cases h
theorem T.ry {B D E:Nat}{n v:ak}(s:dR)(hB:B<lim)(h:Fine B D n)(hv:Fine B E v):Ev (λf=>G.ry f n s v) (o7 (addN n s v)):=by
 have hl:=h.kids;have hn:=h.names;have hB2:=hB;unfold lim at hB2;refine ais ?_;simp only[G.ry];refine af5 (T.lV s (by omega) h hB) ?_;rw[Yl];cases hq:UR n s with
 |none=>exact alZ rfl (akk _)
 | some q=>
   obtain⟨q1,q2⟩:=q;obtain⟨hq1,hq2,hk⟩:=aff hq;simp only at hq1 hq2;refine alW (aki (by simp only[ajB];omega)) ?_;refine alH (λe=>?_) (λe=>?_)
   ·have e:q2=true:=e;subst e;exact af5 (T.o9 (by omega) h hv (hq2 rfl)) (akk _)
   ·have e:q2=false:=e;subst e;simp only[ajB,aj];have ht:(n.ajX.take q1).length=q1:=(by rw[gW];omega);have hd:(n.ajX.drop q1).length=n.ajX.length-q1:=mG;refine af5 (T.bG (by omega) h) (alI (alI (af5 (T.bG (by omega) hv) (alI (alI (alI ?_))))));refine alH (λe3=>ake ?_) (λe3=>?_)
    ·have e3':n.alC=3:=(by simpa using e3);simp only[iR,ahl e3'];rfl
    ·have e3':¬n.alC=3:=(by simpa using e3);have h4:n.alC=4:=(by omega);have hm:=h.map h4;have ht2:(n.aiJ.take q1).length=q1:=(by rw[gW];omega);have hd2:(n.aiJ.drop q1).length=n.aiJ.length-q1:=mG;refine alI (alI (alI (alI (alI (ake ?_)))));simp only[iR,ahk e3'];rfl
theorem aa7 {B D E:Nat}{n v m:ak}{s:dR}(h:Fine B D n)(hv:Fine B E v)(hs:s.length<=B)(hm:addN n s v=some m):Fine (B+1) (D+E) m:=by
 rw[Yl]at hm;cases hq:UR n s with
 |none=>rw[hq]at hm;cases hm
 | some q=>
   obtain⟨q1,q2⟩:=q;obtain⟨hq1,hq2,hk⟩:=aff hq;simp only at hq1 hq2;rw[hq]at hm;cases D with
   |zero=>exact h.elim
   |succ D=>
   cases hm;have aog:∀k,k∈insL n.ajX q1 v->Fine (B+1) (D+E) k:=by
    intro k hk;unfold insL at hk;simp only[aY,rW]at hk;rcases hk with(hk|rfl)|hk
    ·exact(h.2.2.2.2.2 k (fD hk)).mono (by omega) (by omega)
    ·exact hv.mono (by omega) (by omega)
    ·exact(h.2.2.2.2.2 k (kN hk)).mono (by omega) (by omega)
   have hlen:(insL n.ajX q1 v).length=n.ajX.length+1:=(by unfold insL;simp;omega);have hl:=h.kids;have hn:=h.names;have hb:1<=B+1:=(by omega);cases q2 with
   |true=>exact(aa8 (j:=q1) h hv).mono (by omega) (by omega)
   | false=>
     simp only[Bool.false_eq_true,if_false];rw[show D+1+E=(D+E)+1 by omega];by_cases h3:n.alC=3
     ·rw[ahl h3];exact⟨by simp,by simp,by simp,by show(insL n.ajX q1 v).length<=_;omega,λh4=>by simp only at h4;omega,aog⟩
     ·rw[ahk h3];have h4:n.alC=4:=(by omega);have hm:=h.map h4;have hlen2:(insL n.aiJ q1 s).length=n.aiJ.length+1:=(by unfold insL;simp;omega);refine⟨by simp,by show(insL n.aiJ q1 s).length<=_;omega,λx hx=>?_,by show(insL n.ajX q1 v).length<=_;omega,λ_=>by show(insL n.ajX q1 v).length<=(insL n.aiJ q1 s).length;omega,aog⟩;have hx:x∈insL n.aiJ q1 s:=hx;unfold insL at hx;simp only[aY,rW]at hx;rcases hx with(hx|rfl)|hx
      ·have:=h.2.2.1 x (fD hx);omega
      ·omega
      ·have:=h.2.2.1 x (kN hx);omega
theorem ajC {n:ak}{s:dR}{p:Nat}(hA:Asc n.aiJ=true)(hl:n.ajX.length=n.aiJ.length)(h:LB n.aiJ s p)(hne:(decide (p<n.aiJ.length)&&n.aiJ.getD p default==s)=false):slt n s=p:=by
 have hhi:∀j,p<=j->j<n.aiJ.length->bl s (n.aiJ.getD j default)=true:=by
  intro j h1 h2;cases hb:bl s (n.aiJ.getD j default)with
  |true=>rfl
  | false=>
    have e:=Nz hb (h.hi j h1 h2);by_cases hp:p=j
    ·subst hp;have:decide (p<n.aiJ.length)=true:=(by simpa using h2);rw[this,<- e]at hne;simp at hne
    ·have:=H6 hA p j (by omega) h2;rw[<- e,h.hi p (by omega) (by omega)]at this;cases this
 unfold slt;cases hf:(bu 0 n.ajX.length).find? λi=>bl s (n.aiJ.getD i default)with
 | none=>
   have:=OM.1 hf;by_cases hp:p=n.ajX.length
   ·rw[hp];rfl
   ·have aoi:=h.le;have h2:=hhi p (by omega) (by omega);rw[this p (by omega) (by omega)]at h2;cases h2
 | some j=>
   obtain⟨h1,h2,h3,h4⟩:=IU.1 hf;show j=p;have a1:¬j<p:=λhlt=>by have:=QH (h.lo j hlt);rw[this]at h3;cases h3
   have a2:¬p<j:=λhlt=>by have:=h4 p (by omega) hlt;rw[hhi p (by omega) (by omega)]at this;cases this
   omega
theorem T.o6 {d:Nat}{n v:ak}(s:dR)(h:Shape (d+1) n=true)(hk:n.alC=4):∃m,addN n s v=some m/\Ev (λf=>G.o6 f n s v) m:=by
 have hp:=rG h;obtain⟨hnum,htext,hN,hl,hkl⟩:=Bh hp hk;obtain⟨p,g,hlb⟩:=T.slices_BinarySearch_string s (by unfold big;omega) (Qg hN);have hpl:=aac hk (Qg hN) hkl hlb;have aoi:=hlb.le;cases hc:decide (p<n.aiJ.length)&&n.aiJ.getD p default==s with
 | true=>rw[hc,ahl rfl]at hpl;refine⟨Jr n p v,by unfold addN;rw[hpl];simp[hk],ais ?_⟩;simp only[G.o6];have:=Ag hpl;refine af5 g (alZ hc (alI (ake ?_)));rw[aj];rfl
 | false=>
   rw[hc,ahk (by simp)]at hpl;have hsl:=ajC (Qg hN) hkl hlb hc;refine⟨ak.mk n.alC 0 [] (insL n.aiJ p s) (insL n.ajX p v),by unfold addN;rw[hpl,hsl];simp[hk],ais ?_⟩;simp only[G.o6];refine af5 g (alW hc ?_);have i1:Ev (λf=>G.l9 f n.aiJ (p:Int) [s]) (insL n.aiJ p s):=by refine ais ?_;simp only[G.l9];refine ant (by simp;omega) (ake ?_);rw[aj];rfl
   have i2:Ev (λf=>G.iV f n.ajX (p:Int) [v]) (insL n.ajX p v):=by refine ais ?_;simp only[G.iV];refine ant (by simp;omega) (ake ?_);rw[aj];rfl
   exact af5 i1 (af5 i2 (ake (by rw[hnum,htext])))
theorem T.lH.K1 {B E:Nat}{n v:ak}{k:Nat}(hB:B<=lim)(hv:Fine B E v)(hk:k<=n.ajX.length)(hl:n.ajX.length<=6):Ev (λf=>G.lH.K1 f v n (k:Int) true) (ak.mk n.alC n.Num n.amV n.aiJ (insL n.ajX k v),true):=by
 refine ais ?_;simp only[G.lH.K1];refine alZ rfl (af5 (T.aV hB hv) ?_);have i2:Ev (λf=>G.iV f n.ajX (k:Int) [v]) (insL n.ajX k v):=by refine ais ?_;simp only[G.iV];refine ant (by simp;omega) (ake ?_);rw[aj];rfl
 exact af5 i2 (akk _)
theorem T.lH {B E d:Nat}{n v:ak}(s:dR)(hB:B<=lim)(hv:Fine B E v)(h:Shape d n=true):Ev (λf=>G.lH f n s v) (o7 (addN n s v)):=by
 cases d with
 |zero=>cases h
 |succ d=>
 have hp:=rG h;refine ais ?_;simp only[G.lH];refine af5 (T.aV Fe (zQ h)) ?_;by_cases h4:n.alC=4
 ·refine alZ (by simpa using h4) (af5 (T.aV hB hv) ?_);obtain⟨m,hm,g⟩:=T.o6 (v:=v) s h h4;rw[hm];exact af5 g (akk _)
 refine alW (by simpa using h4) ?_;by_cases h3:n.alC=3
 ·obtain⟨hnum,htext,adD,hl⟩:=GZ hp h3;refine alZ (by simpa using h3) ?_;obtain⟨w,b,g,h1,h2⟩:=T.fQ s hp;refine af5 g ?_;unfold addN;cases hj:Gt n s with
  | some j=>obtain⟨rfl,rfl⟩:=h1 j hj;have:=Ag hj;refine alZ rfl ((T.lH.K1 (k:=j) hB hv (by omega) hl).eq ?_);simp only[ahk h4];rw[hnum,htext,adD];rfl
  | none=>
    have hb:=h2 hj;subst hb;simp only[ahl h3];refine alW rfl (alH (λe=>?_) (λe=>?_))
    ·refine(T.lH.K1 (k:=n.ajX.length) hB hv (by omega) hl).eq ?_;rw[ahl (.inl (by simpa using e)),hnum,htext,adD];rfl
    ·refine af5 (T.strconv_Itoa (i:=n.ajX.length) (by omega)) (alH (λe2=>?_) (λe2=>?_))
     ·refine(T.lH.K1 (k:=n.ajX.length) hB hv (by omega) hl).eq ?_;rw[ahl (.inr (by simpa using e2)),hnum,htext,adD];rfl
     ·rw[ahk (by simp at e e2;simp[e,e2])];refine ais ?_;simp only[G.lH.K1];exact alW rfl (akk _)
 ·refine alW (by simpa using h3) (ake ?_);have hn:Gt n s=none:=RG.2 (λq _=>KL h4 h3 s q);unfold addN;rw[hn];simp[h3,h4,o7,wU]
theorem T.lX (b:Bool):Ev (λf=>G.lX f b) (if b then 1 else 0):=by
 refine ais ?_;simp only[G.lX];cases b
 ·exact akk _
 ·exact akk _
theorem T.rV (a b:Int):∃r,Ev (λf=>G.rV f a b) r/\(r=0<->a=b):=by
 by_cases h:a<b
 ·refine⟨-1,ais ?_,by omega⟩;simp only[G.rV];rw[show decide (b<a)=false by simp;omega,show decide (a<b)=true by simpa using h];exact af5 (T.lX _) (af5 (T.lX _) (akk _))
 ·by_cases k:b<a
  ·refine⟨1,ais ?_,by omega⟩;simp only[G.rV];rw[show decide (a<b)=false by simp;omega,show decide (b<a)=true by simpa using k];exact af5 (T.lX _) (af5 (T.lX _) (akk _))
  ·refine⟨0,ais ?_,by omega⟩;simp only[G.rV];rw[show decide (a<b)=false by simp;omega,show decide (b<a)=false by simp;omega];exact af5 (T.lX _) (af5 (T.lX _) (akk _))
theorem T.oP (a b:dR)(hne:a≠b):∃r,Ev (λf=>G.oP f a b) r/\r≠0:=by
 cases h:bl a b with
 | true=>refine⟨-1,ais ?_,by omega⟩;simp only[G.oP];exact alZ h (af5 (T.lX _) (af5 (T.lX _) (akk _)))
 | false=>refine⟨1,ais ?_,by omega⟩;simp only[G.oP];exact alW h (alW (by simpa using hne) (af5 (T.lX _) (af5 (T.lX _) (akk _))))
def JU (a b:ak)(i:Nat):Prop:=a.ajX.drop i=b.ajX.drop i/\(a.alC=4->a.aiJ.drop i=b.aiJ.drop i)
theorem Wu {a b:ak}{i:Nat}(ha:i<a.ajX.length)(hb:i<b.ajX.length)(h4:a.alC=4->i<a.aiJ.length/\i<b.aiJ.length) :
 JU a b i<->((a.alC=4->a.aiJ.getD i default=b.aiJ.getD i default)/\a.ajX.getD i default=b.ajX.getD i default/\JU a b (i+1)):=by
 unfold JU;rw[dW (default:ak) ha,dW (default:ak) hb,xm];by_cases hk:a.alC=4
 ·obtain⟨n1,n2⟩:=h4 hk;rw[dW (default:dR) n1,dW (default:dR) n2,xm];simp only[hk,true_implies];constructor
  ·rintro⟨⟨x,y⟩,z,w⟩;exact⟨z,x,y,w⟩
  ·rintro⟨z,x,y,w⟩;exact⟨⟨x,y⟩,z,w⟩
 ·simp only[hk,false_implies,and_true,true_and]
theorem BH {d:Nat}{n:ak}(h:Shape d n=true)(hk:n.alC=4):n.aiJ.length=n.ajX.length:=by
 cases d with
 |zero=>cases h
 |succ d=>exact(Bh (rG h) hk).2.2.2.2.symm
theorem T.gZ.L1 {d e:Nat}{a b:ak}(ha:Shape (d+1) a=true)(hb:Shape (e+1) b=true)(hk:a.alC=b.alC)
 (hs:∀x y,x∈a.ajX->y∈b.ajX->∃r,Ev (λf=>G.gZ f x y) r/\(r=0<->x=y)) :
 ∀(k i:Nat),a.ajX.length<=i+k->i<=a.ajX.length->i<=b.ajX.length->∃r,Ev (λf=>G.gZ.L1 f a b i) r/\(r=0<->JU a b i):=by
 have la:=Fh ha;have lb:=Fh hb;have tail:∀i,i<=a.ajX.length->i<=b.ajX.length->(i=a.ajX.length\/i=b.ajX.length)->∃r,Ev (λf=>lG (G.rV f (a.ajX.length:Int) (b.ajX.length:Int)) λv=>some v) r/\(r=0<->JU a b i):=by
  intro i h1 h2 h3;obtain⟨r,g,hr⟩:=T.rV (a.ajX.length:Int) (b.ajX.length:Int);refine⟨r,af5 g (akk _),hr.trans ⟨λhl=>?_,λhE=>?_⟩⟩
  ·have hl:a.ajX.length=b.ajX.length:=(by omega);refine⟨by rw[au (by omega),au (by omega)],λh4=>?_⟩;have n1:=BH ha h4;have n2:=BH hb (hk▸h4);rw[au (by omega),au (by omega)]
  ·have:=anr yf hE.1;simp only[mG]at this;omega
 intro k
 induction k with
 | zero=>intro i h1 h2 h3;obtain⟨r,g,hr⟩:=tail i h2 h3 (by omega);refine⟨r,ais ?_,hr⟩;simp only[G.gZ.L1];exact alW (by simp;omega) g
 | succ k ih=>
   intro i h1 h2 h3;by_cases hia:i=a.ajX.length
   ·obtain⟨r,g,hr⟩:=tail i h2 h3 (by omega);refine⟨r,ais ?_,hr⟩;simp only[G.gZ.L1];exact alW (by simp;omega) g
   by_cases hib:i=b.ajX.length
   ·obtain⟨r,g,hr⟩:=tail i h2 h3 (by omega);refine⟨r,ais ?_,hr⟩;simp only[G.gZ.L1];exact alZ (by simp;omega) (alW (by simp;omega) g)
   have n4:a.alC=4->i<a.aiJ.length/\i<b.aiJ.length:=λh4=>by have n1:=BH ha h4;have n2:=BH hb (hk▸h4);omega
   have hE:=Wu (a:=a) (b:=b) (i:=i) (by omega) (by omega) n4;obtain⟨r2,g2,hr2⟩:=hs (a.ajX.getD i default) (b.ajX.getD i default) (by rw[gJ _ (by omega:i<a.ajX.length)];exact dD _) (by rw[gJ _ (by omega:i<b.ajX.length)];exact dD _);obtain⟨r3,g3,hr3⟩:=ih (i+1) (by omega) (by omega) (by omega);have rest:∃r,Ev (λf=>lG (G.gZ f (a.ajX.getD i default) (b.ajX.getD i default)) λv=>cond (v != 0) (some v) (G.gZ.L1 f a b ((i+1:Nat):Int))) r/\(r=0<->(a.ajX.getD i default=b.ajX.getD i default/\JU a b (i+1))):=by
    by_cases h0:r2=0
    ·refine⟨r3,af5 g2 (alW (by rw[h0];rfl) g3),?_⟩;rw[hr3];exact⟨λh=>⟨hr2.1 h0,h⟩,λh=>h.2⟩
    ·refine⟨r2,af5 g2 (alZ (by simpa using h0) (akk _)),?_⟩;exact⟨λh=>al7 h h0,λh=>hr2.2 h.1⟩
   obtain⟨r4,g4,hr4⟩:=rest;by_cases h4:a.alC=4
   ·obtain⟨m1,m2⟩:=n4 h4;by_cases hn:a.aiJ.getD i default=b.aiJ.getD i default
    ·refine⟨r4,ais ?_,?_⟩
     ·simp only[G.gZ.L1];rw[aj,dS (by omega)];exact alZ (by simp;omega) (alZ (by simp;omega) (alZ (by simpa using h4) (alI (alI (alZ (by simpa using hn) (alI (alI g4)))))))
     ·rw[hr4,hE];exact⟨λh=>⟨λ_=>hn,h⟩,λh=>h.2⟩
    ·obtain⟨r,g,hr⟩:=T.oP _ _ hn;refine⟨r,ais ?_,?_⟩
     ·simp only[G.gZ.L1];rw[aj,dS (by omega)];exact alZ (by simp;omega) (alZ (by simp;omega) (alZ (by simpa using h4) (alI (alI (alW (by simpa using hn) (alI (alI (af5 g (akk _)))))))))
     ·rw[hE];exact⟨λh=>al7 h hr,λh=>al7 (h.1 h4) hn⟩
   ·refine⟨r4,ais ?_,?_⟩
    ·simp only[G.gZ.L1];rw[aj,dS (by omega)];exact alZ (by simp;omega) (alZ (by simp;omega) (alW (by simpa using h4) (alI (alI g4))))
    ·rw[hr4,hE];exact⟨λh=>⟨λe=>al7 e h4,h⟩,λh=>h.2⟩
theorem YN {d:Nat}{n:ak}(h:Shape (d+1) n=true)(h4:n.alC≠4):n.aiJ=[]:=by
 by_cases h3:n.alC=3
 ·exact(GZ (rG h) h3).2.2.1
 ·exact(Qk (rG h) h4 h3).1
theorem eq_iff {d e:Nat}{a b:ak}(ha:Shape (d+1) a=true)(hb:Shape (e+1) b=true):a=b<->(a.alC=b.alC/\a.Num=b.Num/\a.amV=b.amV/\JU a b 0):=by
 constructor
 ·rintro rfl;exact⟨rfl,rfl,rfl,rfl,λ_=>rfl⟩
 ·rintro⟨h1,h2,h3,h4,h5⟩;simp only[bT]at h4 h5;have hn:a.aiJ=b.aiJ:=by
   by_cases h:a.alC=4
   ·exact h5 h
   ·rw[YN ha h,YN hb (h1▸h)]
  cases a;cases b;simp only at h1 h2 h3 h4 hn;subst h1 h2 h3 h4 hn;rfl
theorem T.gZ : ∀(d:Nat) {e:Nat} {a b:ak},Shape d a=true->Shape e b=true->∃r,Ev (λf=>G.gZ f a b) r/\(r=0<->a=b)
 |0,_,_,_,h,_=>by cases h
 |_+1,0,_,_,_,h=>by cases h
 | d+1,e+1,a,b,ha,hb=>by
   rw[eq_iff ha hb];by_cases h1:a.alC=b.alC
   ·by_cases h2:a.Num=b.Num
    ·by_cases h3:a.amV=b.amV
     ·obtain⟨r,g,hr⟩:=T.gZ.L1 ha hb h1 (λx y hx hy=>T.gZ d (vw ha x hx) (vw hb y hy)) a.ajX.length 0 (by omega) (by omega) (by omega);refine⟨r,ais ?_,hr.trans ⟨λh=>⟨h1,h2,h3,h⟩,λh=>h.2.2.2⟩⟩;simp only[G.gZ];exact alW (by simpa using h1) (alW (by simpa using h2) (alZ (by simpa using h3) g))
     ·obtain⟨r,g,hr⟩:=T.oP _ _ h3;refine⟨r,ais ?_,⟨λh=>al7 h hr,λh=>al7 h.2.2.1 h3⟩⟩;simp only[G.gZ];exact alW (by simpa using h1) (alW (by simpa using h2) (alW (by simpa using h3) (af5 g (akk _))))
    ·obtain⟨r,g,hr⟩:=T.rV a.Num b.Num;refine⟨r,ais ?_,hr.trans ⟨λh=>al7 h h2,λh=>h.2.1⟩⟩;simp only[G.gZ];exact alW (by simpa using h1) (alZ (by simpa using h2) (af5 g (akk _)))
   ·obtain⟨r,g,hr⟩:=T.rV a.alC b.alC;refine⟨r,ais ?_,hr.trans ⟨λh=>al7 h h1,λh=>h.1⟩⟩;simp only[G.gZ];exact alZ (by simpa using h1) (af5 g (akk _))
theorem T.yG {d e:Nat}{a b:ak}(ha:Shape d a=true)(hb:Shape e b=true):∃v,Ev (λf=>G.yG f a b) v/\(v=true<->a=b):=by obtain⟨r,g,hr⟩:=T.gZ d ha hb;refine⟨r==0,ais ?_,by rw[akg];exact hr⟩;simp only[G.yG];exact af5 g (akk _)
theorem T.cmp_Compare_int (a b:Int):∃r,Ev (λf=>G.cmp_Compare_int f a b) r/\(r=0<->a=b):=by
 have hn:∀x:Int,Ev (λf=>G.cmp_isNaN_int f x) false:=λx=>by refine ais ?_;simp only[G.cmp_isNaN_int];exact ake (by simp)
 by_cases h:a<b
 ·refine⟨-1,ais ?_,by omega⟩;simp only[G.cmp_Compare_int];exact af5 (hn a) (af5 (hn b) (alW rfl (alW rfl (alZ (by simpa using h) (akk _)))))
 ·by_cases k:b<a
  ·refine⟨1,ais ?_,by omega⟩;simp only[G.cmp_Compare_int];exact af5 (hn a) (af5 (hn b) (alW rfl (alW rfl (alW (by simpa using h) (alZ (by simpa using k) (akk _))))))
  ·refine⟨0,ais ?_,by omega⟩;simp only[G.cmp_Compare_int];exact af5 (hn a) (af5 (hn b) (alW rfl (alW rfl (alW (by simpa using h) (alW (by simpa using k) (akk _))))))
theorem T.strings_Compare (a b:dR):∃r,Ev (λf=>G.strings_Compare f a b) r/\(r=0<->a=b):=by
 refine⟨jO a b,ais ?_,Yv⟩;simp only[G.strings_Compare];have:Ev (λf=>G.gU f a b) (jO a b):=by refine ais ?_;simp only[G.gU];exact akk _
 exact af5 this (akk _)
theorem T.dw.L3 {d e:Nat}{a b:ak}(ha:Shape (d+1) a=true)(hb:Shape (e+1) b=true)(hk:a.alC=b.alC)
 (hs:∀x y,x∈a.ajX->y∈b.ajX->∃r,Ev (λf=>G.dw f x y) r/\(r=0<->x=y)) :
 ∀(k i:Nat),a.ajX.length<=i+k->i<=a.ajX.length->i<=b.ajX.length->∃r,Ev (λf=>G.dw.L3 f a b i) r/\(r=0<->JU a b i):=by
 have la:=Fh ha;have lb:=Fh hb;have tail:∀i,i<=a.ajX.length->i<=b.ajX.length->(i=a.ajX.length\/i=b.ajX.length)->∃r,Ev (λf=>lG (G.cmp_Compare_int f (a.ajX.length:Int) (b.ajX.length:Int)) λv=>some v) r/\(r=0<->JU a b i):=by
  intro i h1 h2 h3;obtain⟨r,g,hr⟩:=T.cmp_Compare_int (a.ajX.length:Int) (b.ajX.length:Int);refine⟨r,af5 g (akk _),hr.trans ⟨λhl=>?_,λhE=>?_⟩⟩
  ·have hl:a.ajX.length=b.ajX.length:=(by omega);refine⟨by rw[au (by omega),au (by omega)],λh4=>?_⟩;have n1:=BH ha h4;have n2:=BH hb (hk▸h4);rw[au (by omega),au (by omega)]
  ·have:=anr yf hE.1;simp only[mG]at this;omega
 intro k
 induction k with
 | zero=>intro i h1 h2 h3;obtain⟨r,g,hr⟩:=tail i h2 h3 (by omega);refine⟨r,ais ?_,hr⟩;simp only[G.dw.L3];exact alW (by simp;omega) g
 | succ k ih=>
   intro i h1 h2 h3;by_cases hia:i=a.ajX.length
   ·obtain⟨r,g,hr⟩:=tail i h2 h3 (by omega);refine⟨r,ais ?_,hr⟩;simp only[G.dw.L3];exact alW (by simp;omega) g
   by_cases hib:i=b.ajX.length
   ·obtain⟨r,g,hr⟩:=tail i h2 h3 (by omega);refine⟨r,ais ?_,hr⟩;simp only[G.dw.L3];exact alZ (by simp;omega) (alW (by simp;omega) g)
   have n4:a.alC=4->i<a.aiJ.length/\i<b.aiJ.length:=λh4=>by have n1:=BH ha h4;have n2:=BH hb (hk▸h4);omega
   have hE:=Wu (a:=a) (b:=b) (i:=i) (by omega) (by omega) n4;obtain⟨r2,g2,hr2⟩:=hs (a.ajX.getD i default) (b.ajX.getD i default) (by rw[gJ _ (by omega:i<a.ajX.length)];exact dD _) (by rw[gJ _ (by omega:i<b.ajX.length)];exact dD _);obtain⟨r3,g3,hr3⟩:=ih (i+1) (by omega) (by omega) (by omega);have rest:∃r,Ev (λf=>G.dw.K4 f a b (i:Int)) r/\(r=0<->(a.ajX.getD i default=b.ajX.getD i default/\JU a b (i+1))):=by
    by_cases h0:r2=0
    ·refine⟨r3,ais ?_,?_⟩
     ·simp only[G.dw.K4];rw[aj,dS (by omega)];exact alI (alI (af5 g2 (alW (by rw[h0];rfl) g3)))
     ·rw[hr3];exact⟨λh=>⟨hr2.1 h0,h⟩,λh=>h.2⟩
    ·refine⟨r2,ais ?_,?_⟩
     ·simp only[G.dw.K4];rw[aj,dS (by omega)];exact alI (alI (af5 g2 (alZ (by simpa using h0) (akk _))))
     ·exact⟨λh=>al7 h h0,λh=>hr2.2 h.1⟩
   obtain⟨r4,g4,hr4⟩:=rest;by_cases h4:a.alC=4
   ·obtain⟨m1,m2⟩:=n4 h4;obtain⟨r,g,hr⟩:=T.strings_Compare (a.aiJ.getD i default) (b.aiJ.getD i default);by_cases hn:a.aiJ.getD i default=b.aiJ.getD i default
    ·refine⟨r4,ais ?_,?_⟩
     ·simp only[G.dw.L3];rw[aj];exact alZ (by simp;omega) (alZ (by simp;omega) (alZ (by simpa using h4) (alI (alI (af5 g (alW (by rw[hr.2 hn];rfl) g4))))))
     ·rw[hr4,hE];exact⟨λh=>⟨λ_=>hn,h⟩,λh=>h.2⟩
    ·have hr0:r≠0:=λe=>hn (hr.1 e);refine⟨r,ais ?_,?_⟩
     ·simp only[G.dw.L3];rw[aj];exact alZ (by simp;omega) (alZ (by simp;omega) (alZ (by simpa using h4) (alI (alI (af5 g (alZ (by simpa using hr0) (akk _)))))))
     ·rw[hE];exact⟨λh=>al7 h hr0,λh=>al7 (h.1 h4) hn⟩
   ·refine⟨r4,ais ?_,?_⟩
    ·simp only[G.dw.L3];exact alZ (by simp;omega) (alZ (by simp;omega) (alW (by simpa using h4) g4))
    ·rw[hr4,hE];exact⟨λh=>⟨λe=>al7 e h4,h⟩,λh=>h.2⟩
theorem T.dw : ∀(d:Nat) {e:Nat} {a b:ak},Shape d a=true->Shape e b=true->∃r,Ev (λf=>G.dw f a b) r/\(r=0<->a=b)
 |0,_,_,_,h,_=>by cases h
 |_+1,0,_,_,_,h=>by cases h
 | d+1,e+1,a,b,ha,hb=>by
   rw[eq_iff ha hb];obtain⟨r1,g1,hr1⟩:=T.cmp_Compare_int a.alC b.alC;obtain⟨r2,g2,hr2⟩:=T.cmp_Compare_int a.Num b.Num;obtain⟨r3,g3,hr3⟩:=T.strings_Compare a.amV b.amV;by_cases h1:r1=0
   ·by_cases h2:r2=0
    ·by_cases h3:r3=0
     ·obtain⟨r,g,hr⟩:=T.dw.L3 ha hb (hr1.1 h1) (λx y hx hy=>T.dw d (vw ha x hx) (vw hb y hy)) a.ajX.length 0 (by omega) (by omega) (by omega);refine⟨r,ais ?_,hr.trans ⟨λh=>⟨hr1.1 h1,hr2.1 h2,hr3.1 h3,h⟩,λh=>h.2.2.2⟩⟩;simp only[G.dw];exact af5 g1 (alW (by rw[h1];rfl) (af5 g2 (alW (by rw[h2];rfl) (af5 g3 (alW (by rw[h3];rfl) g)))))
     ·refine⟨r3,ais ?_,⟨λh=>al7 h h3,λh=>hr3.2 h.2.2.1⟩⟩;simp only[G.dw];exact af5 g1 (alW (by rw[h1];rfl) (af5 g2 (alW (by rw[h2];rfl) (af5 g3 (alZ (by simpa using h3) (akk _))))))
    ·refine⟨r2,ais ?_,⟨λh=>al7 h h2,λh=>hr2.2 h.2.1⟩⟩;simp only[G.dw];exact af5 g1 (alW (by rw[h1];rfl) (af5 g2 (alZ (by simpa using h2) (akk _))))
   ·refine⟨r1,ais ?_,⟨λh=>al7 h h1,λh=>hr1.2 h.1⟩⟩;simp only[G.dw];exact af5 g1 (alZ (by simpa using h1) (akk _))
theorem T.uk {d e:Nat}{a b:ak}(ha:Shape d a=true)(hb:Shape e b=true):∃v,Ev (λf=>G.uk f a b) v/\(v=true<->a=b):=by obtain⟨r,g,hr⟩:=T.dw d ha hb;refine⟨r==0,ais ?_,by rw[akg];exact hr⟩;simp only[G.uk];exact af5 g (akk _)
theorem Qq : ∀{d e:Nat} {n:ak},d<=e->Shape d n=true->Shape e n=true
 |0,_,_,_,h=>by cases h
 |d+1,0,_,hd,_=>by omega
 | d+1,e+1,n,hd,h=>by unfold Shape;rw[rG h,bV,aP];exact λk hk=>Qq (by omega) (vw h k hk)
theorem PE {α:Type}{f g:α->Nat} : ∀{l:List α},(∀x,x∈l->f x=g x)->(l.map f).sum=(l.map g).sum
 |[],_=>rfl
 | x::l,h=>by simp only[aZ,sS];rw[h x (by simp),PE (λy hy=>h y (by simp[hy]))]
theorem cnt_mono : ∀{d e:Nat} {n:ak},d<=e->Shape d n=true->Cnt d n=Cnt e n
 |0,_,_,_,h=>by cases h
 |d+1,0,_,hd,_=>by omega
 | d+1,e+1,n,hd,h=>by unfold Cnt;rw[PE (f:=Cnt d) (g:=Cnt e) (λk hk=>cnt_mono (by omega) (vw h k hk))]
theorem aiK {α:Type}(f:α->Nat):∀{l:List α} {x:α},x∈l->f x<=(l.map f).sum
 | y::l,x,h=>by
   simp only[aZ,sS];rcases ay.1 h with rfl|h
   ·omega
   ·have:=aiK f h;omega
theorem ug {n:ak}(h:Val n=true):Shape 5 n=true:=by unfold Val at h;simp only[ah]at h;exact h.1
theorem afm {n:ak}(h:Val n=true):Cnt 5 n<=40:=by unfold Val at h;simp only[ah,ahm]at h;exact h.2
theorem nS {n:ak}(h:Val n=true):Fine 12 5 n:=zQ (ug h)
theorem ajO {d:Nat}{n:ak}(hd:d<=5)(h:Shape d n=true)(hc:Cnt d n<=40):Val n=true:=by unfold Val;rw[Qq hd h,bV,ahm,<- cnt_mono hd h];exact hc
theorem aaS : ∀(p:List dR) {d:Nat} {n m:ak},Shape d n=true->Ny n p=some m->Shape d m=true/\Cnt d m<=Cnt d n
 |[],d,n,m,h,e=>by cases e;exact⟨h,aA _⟩
 | s::p,d,n,m,h,e=>by
   rw[Ny]at e;cases hj:Gt n s with
   |none=>rw[hj]at e;cases e
   | some j=>
     rw[hj]at e;cases d with
     |zero=>cases h
     | succ d=>have hjl:=Ag hj;obtain⟨h1,h2⟩:=aaS p (CV h hjl) e;refine⟨Qq (by omega) h1,?_⟩;rw[<- cnt_mono (Nat.le_succ d) h1];have:=aiK (Cnt d) (l:=n.ajX) (x:=n.ajX.getD j default) (by rw[gJ _ hjl];exact dD _);show _<=1+(n.ajX.map (Cnt d)).sum;omega
theorem afi {α:Type}(f:α->Nat){c:α} : ∀{l:List α} {j:Nat} (d:α),f c<=f (l.getD j d)->((l.set j c).map f).sum<=(l.map f).sum
 |[],_,_,_=>by simp
 | x::l,0,d,h=>by rw[zV]at h;simp only[Jz,aZ,sS];omega
 | x::l,j+1,d,h=>by rw[kU]at h;have:=afi f (l:=l) (j:=j) d h;simp only[List.set_cons_succ,aZ,sS];omega
theorem agF {n c:ak}{j:Nat}(h:Parts n=true):Parts (Jr n j c)=true:=by unfold Parts Jr at *;simpa using h
theorem Yr {f:ak->Option ak}(hf:∀d k k',Shape d k=true->f k=some k'->Shape d k'=true/\Cnt d k'<=Cnt d k) :
 ∀(p:List dR) {d:Nat} {n m:ak},Shape d n=true->IC f n p=some m->Shape d m=true/\Cnt d m<=Cnt d n
 |[],d,n,m,h,e=>hf d n m h (by rw[IC]at e;exact e)
 | s::p,d,n,m,h,e=>by
   rw[IC]at e;cases hj:Gt n s with
   |none=>rw[hj]at e;cases e
   | some j=>
     rw[hj]at e;simp only at e;cases d with
     |zero=>cases h
     |succ d=>
     have hjl:=Ag hj;cases hc:IC f (n.ajX.getD j default) p with
     |none=>rw[hc]at e;cases e
     | some c=>
       rw[hc]at e;cases e;obtain⟨h1,h2⟩:=Yr hf p (CV h hjl) hc;constructor
       ·unfold Shape;rw[agF (rG h),bV,aP];intro k hk;rcases pq hk with hk|rfl
        ·exact vw h k hk
        ·exact h1
       ·show 1+((n.ajX.set j c).map (Cnt d)).sum<=1+(n.ajX.map (Cnt d)).sum;have:=afi (Cnt d) (l:=n.ajX) (j:=j) default h2;omega
def yF {α:Type}(l:List α)(k:Nat):List α:=l.take k++l.drop (k+1)
def F9 (n:ak)(s:dR):Option ak:=match Gt n s with
 |some k=>some (ak.mk n.alC 0 [] (if n.alC=4 then yF n.aiJ k else []) (yF n.ajX k))
 |none=>none
theorem BJ : ∀{l:List dR},Asc l=true<->l.Pairwise (λx y=>bl x y=true)
 |[]=>by simp[Asc]
 | x::l=>by
   rw[List.pairwise_cons,<- BJ (l:=l)];constructor
   ·intro h;exact⟨Kr h,I5 h⟩
   ·rintro⟨h1,h2⟩;cases l with
    |nil=>rfl
    |cons y r=>rw[Asc,h2,nD];exact h1 y (by simp)
theorem DW {α:Type}(l:List α)(k:Nat):(yF l k).Sublist l:=by
 unfold yF
 conv=>rhs;rw[<- CG k l]
 refine List.Sublist.append (List.Sublist.refl _) ?_;rw[<- List.drop_drop];exact List.drop_sublist 1 _
theorem GN {α:Type}{l:List α}{k:Nat}(h:k<l.length):(yF l k).length=l.length-1:=by unfold yF;simp;omega
theorem alu {α:Type}(f:α->Nat):∀{l m:List α},l.Sublist m->(l.map f).sum<=(m.map f).sum:=by
 intro l m h
 induction h with
 |slnil=>simp
 |cons a h ih=>simp only[aZ,sS];omega
 |cons_cons a h ih=>simp only[aZ,sS];omega
theorem agL (s:dR):∀d k k',Shape d k=true->F9 k s=some k'->Shape d k'=true/\Cnt d k'<=Cnt d k:=by
 intro d n m h e;unfold F9 at e;cases hj:Gt n s with
 |none=>rw[hj]at e;cases e
 | some j=>
   rw[hj]at e;cases e;have hjl:=Ag hj;cases d with
   |zero=>cases h
   |succ d=>
   have hp:=rG h;have hsub:=DW n.ajX j;have hlen:=GN hjl;have hl:=Ua hp;constructor
   ·unfold Shape;rw[ah,aP];refine⟨?_,λk hk=>vw h k (hsub.subset hk)⟩;by_cases h4:n.alC=4
    ·obtain⟨_,_,hN,hnl,hkl⟩:=Bh hp h4;have hNM:NM (yF n.aiJ j)=true:=by
      unfold NM;rw[ah];refine⟨aP.2 λx hx=>adZ hN x ((DW _ _).subset hx),BJ.2 ((BJ.1 (Qg hN)).sublist (DW _ _))⟩
     have hl2:=GN (l:=n.aiJ) (k:=j) (by omega);unfold Parts;simp[h4,hNM];omega
    ·by_cases h3:n.alC=3
     ·unfold Parts;simp[h3];omega
     ·have:=OZ hj;rw[KL h4 h3]at this;cases this
   ·show 1+((yF n.ajX j).map (Cnt d)).sum<=1+(n.ajX.map (Cnt d)).sum;have:=alu (Cnt d) hsub;omega
def JQ (p:List dR):dR:=p.getD (p.length-1) default
def Fb (p:List dR):List dR:=p.take (p.length-1)
def CY (n:ak)(p:List dR)(v:ak):Option ak:=if p=[]then some v else IC (λm=>addN m (JQ p) v) n (Fb p)
def D9 (n:ak)(p:List dR):Option ak:=if p=[]then none else IC (λm=>F9 m (JQ p)) n (Fb p)
theorem T.qh {B D:Nat}{o:Option ak}(hB:B<=lim)(h:∀m,o=some m->Fine B D m):Ev (λf=>G.qh f (o7 o).1 (o7 o).2) (o7 (o.filter Val)):=by
 refine ais ?_;simp only[G.qh];cases o with
 |none=>exact alW rfl (akk _)
 | some m=>
   refine alZ rfl (af5 (T.fZ hB (h m rfl)) (alH (λe=>ake ?_) (λe=>ake ?_)))
   ·have e:Val m=true:=e;simp[sV,e,o7]
   ·have e:Val m=false:=e;simp[sV,e,o7,wU]
theorem T.oZ {B D:Nat}{o:Option ak}(hB:B<=lim)(h:∀m,o=some m->Fine B D m):Ev (λf=>G.oZ f (o7 o).1 (o7 o).2) (o7 (o.filter Val)):=by
 refine ais ?_;simp only[G.oZ];cases o with
 |none=>exact alW rfl (akk _)
 | some m=>
   refine alZ rfl (af5 (T.bJ hB (h m rfl)) (alH (λe=>ake ?_) (λe=>ake ?_)))
   ·have e:Val m=true:=e;simp[sV,e,o7]
   ·have e:Val m=false:=e;simp[sV,e,o7,wU]
theorem NY {p:List dR}(hp:p≠[])(hl:p.length<big):af .i64 ((p.length:Int)-1)=((p.length-1:Nat):Int):=by have:0<p.length:=oQ.2 hp;unfold big at hl;exact wrapN (by omega) (by omega)
theorem WE {B D E:Nat}{n v m:ak}{p:List dR}(h:Fine B D n)(hv:Fine B E v)(hs:∀s,s∈p->s.length<=B)(hm:CY n p v=some m):Fine (B+1) (D+(D+E)) m:=by
 unfold CY at hm;split at hm
 ·cases hm;exact hv.mono (by omega) (by omega)
 ·rename_i hp;have hlast:(JQ p).length<=B:=by
   unfold JQ;have:0<p.length:=oQ.2 hp;rw[gJ _ (by omega:p.length-1<p.length)];exact hs _ (dD _)
  rw[Ze]at hm;cases ha:Ny n (Fb p)with
  |none=>rw[ha]at hm;cases hm
  | some inner=>
    rw[ha,jP]at hm;cases hn:addN inner (JQ p) v with
    |none=>rw[hn]at hm;cases hm
    | some next=>rw[hn,jP]at hm;have hi:=QX _ h ha;have hnx:=aa7 hi hv hlast hn;exact WG (B:=B+1) (E:=D+E) (Fb p) (f:=λ_=>some next) (D:=D) (n:=n) (m:=m) (λD' k k' _ e=>by cases e;exact hnx.mono (aA _) (by omega)) (h.mono (by omega) (aA _)) hm
theorem T.uQ {B D E:Nat}{n v:ak}(p:List dR)(hB:B+1<lim)(hp:p.length<big)(hs:∀s,s∈p->s.length<=B)(h:Fine B D n)(hv:Fine B E v):Ev (λf=>G.uQ f n p v) (o7 (CY n p v)):=by
 refine ais ?_;simp only[G.uQ];by_cases hp0:p=[]
 ·subst hp0;exact alZ rfl (af5 (T.bG (by omega) hv) (akk _))
 ·have hpos:0<p.length:=oQ.2 hp0;have hlast:(JQ p).length<=B:=by
   unfold JQ;rw[gJ _ (by omega:p.length-1<p.length)];exact hs _ (dD _)
  rw[NY hp0 hp,aj];unfold CY;rw[ahk hp0,Ze];have hil:(Fb p).length<big:=by unfold Fb;rw[gW];omega
  refine alW (by simpa using hp0) (alI (af5 (T.uB (Fb p) (by omega) hil h) ?_));cases ha:Ny n (Fb p)with
  |none=>exact alW rfl (akk _)
  | some inner=>
    have hi:=QX _ h ha;have hA:=T.ry (n:=inner) (JQ p) (by omega) hi hv;refine alZ rfl (alI (af5 hA ?_));rw[jP];cases hn:addN inner (JQ p) v with
    |none=>exact alW rfl (akk _)
    | some next=>have hnx:=aa7 hi hv hlast hn;refine alZ rfl (alI (af5 (T.pJ (by omega) hnx (Fb p) hil (h.mono (by omega) (aA _))) (akk _)))
theorem ah1 {B D:Nat}{n m:ak}{s:dR}(h:Fine B D n)(e:F9 n s=some m):Fine B D m:=by
 unfold F9 at e;cases hj:Gt n s with
 |none=>rw[hj]at e;cases e
 | some j=>
   rw[hj]at e;cases e;cases D with
   |zero=>exact h.elim
   |succ D=>
   have hjl:=Ag hj;have hk:=h.kids;have hn:=h.names;have h1:=GN hjl;refine⟨by simp,?_,λx hx=>?_,by show(yF n.ajX j).length<=B;omega,λh4=>?_,λk hk'=>h.2.2.2.2.2 k ((DW _ _).subset hk')⟩
   ·show(if n.alC=4 then yF n.aiJ j else []).length<=B;split
    ·have:=(DW n.aiJ j).length_le;omega
    ·simp
   ·have hx:x∈(if n.alC=4 then yF n.aiJ j else []):=hx;split at hx
    ·exact h.2.2.1 x ((DW _ _).subset hx)
    ·cases hx
   ·have h4:n.alC=4:=h4;have hm:=h.map h4;have h2:=GN (l:=n.aiJ) (k:=j) (by omega);show(yF n.ajX j).length<=(if n.alC=4 then yF n.aiJ j else []).length;rw[ahl h4];omega
theorem T.kG {B D:Nat}{n:ak}(p:List dR)(hB:B+1<lim)(hp:p.length<big)(h:Fine B D n):Ev (λf=>G.kG f n p) (o7 (D9 n p)):=by
 have hB2:=hB;unfold lim at hB2;refine ais ?_;simp only[G.kG];by_cases hp0:p=[]
 ·subst hp0;exact alZ (by rfl) (akk _)
 ·have hpos:0<p.length:=oQ.2 hp0;rw[NY hp0 hp,aj];unfold D9;rw[ahk hp0,Ze];have hil:(Fb p).length<big:=by unfold Fb;rw[gW];omega
  refine alW (by simp) (alI (af5 (T.uB (Fb p) (by omega) hil h) ?_));cases ha:Ny n (Fb p)with
  |none=>exact alW rfl (akk _)
  | some inner=>
    have hi:=QX _ h ha;have hk:=hi.kids;have hnm:=hi.names;have hP:=T.jE (n:=inner) (JQ p) (by omega) hi;refine alZ rfl (alI (af5 hP ?_));rw[jP];cases hj:Gt inner (JQ p)with
    | none=>unfold F9;rw[hj];exact alZ rfl (akk _)
    | some j=>
      have hjl:=Ag hj;simp only[KU,o7,aj,wrS j];have ht:(inner.ajX.take j).length=j:=(by rw[gW];omega);have hd:(inner.ajX.drop (j+1)).length=inner.ajX.length-(j+1):=mG;refine anm (alI (alI (alI (alI ?_))));have key:∀(b:Bool) (nm:List dR),F9 inner (JQ p)=some (ak.mk inner.alC 0 [] nm (yF inner.ajX j))->Ev (λf=>G.kG.K1 f n p (inner,b) (yF inner.ajX j) nm) (o7 ((F9 inner (JQ p)).bind λm'=>Ve n (Fb p) m')):=by intro b nm e;refine ais ?_;simp only[G.kG.K1];rw[NY hp0 hp,aj,e,jP];exact alI (af5 (T.pJ (by omega) (ah1 hi e) (Fb p) hil h) (akk _))
      refine alH (λe4=>?_) (λe4=>?_)
      ·have h4:inner.alC=4:=(by simpa using e4);have hm:=hi.map h4;have ht2:(inner.aiJ.take j).length=j:=(by rw[gW];omega);have hd2:(inner.aiJ.drop (j+1)).length=inner.aiJ.length-(j+1):=mG;refine alI (alI (alI (alI ?_)));exact key true (yF inner.aiJ j) (by unfold F9;rw[hj];simp[h4])
      ·have h4:¬inner.alC=4:=(by simpa using e4);exact key true [] (by unfold F9;rw[hj];simp[h4])
theorem ab4 {B:Nat}(hB:B<=lim){p:List dR}(hl:p.length<=B)(hs:∀s,s∈p->s.length<=B):Sm p:=by unfold lim at hB;exact⟨by unfold big;omega,λs h=>by have:=hs s h;unfold big;omega⟩
def FK (B:Nat)(p:List dR):Prop:=p.length<=B/\∀s,s∈p->s.length<=B
theorem FK.sm {B:Nat}(hB:B<=lim){p:List dR}(h:FK B p):Sm p:=ab4 hB h.1 h.2
theorem xO {p:List dR}(h:PP p=true):FK 12 p:=by unfold PP at h;simp only[ah,ahm]at h;exact⟨by omega,λs hs=>Xi (aP.1 h.1 s hs)⟩
def aaB (n:ak)(p:List dR)(v:ak):Option ak:=if Val n&&PP p&&Val v then(CY n p v).filter Val else none
def ahq (n:ak)(p:List dR):Option ak:=if Val n&&PP p then D9 n p else none
def akx (n:ak)(p:List dR)(v:ak):Option ak:=if Val n&&PP p&&Val v then(Ve n p v).filter Val else none
def AtM (n:ak)(p:List dR):Option ak:=if Val n&&PP p then Ny n p else none
theorem RP {n m:ak}{p:List dR}(h:Val n=true)(e:D9 n p=some m):Val m=true:=by
 unfold D9 at e;split at e
 ·cases e
 ·obtain⟨h1,h2⟩:=Yr (agL (JQ p)) (Fb p) (ug h) e;exact ajO (aA _) h1 (bH h2 (afm h))
theorem SN {n m:ak}{p:List dR}(h:Val n=true)(e:Ny n p=some m):Val m=true:=by obtain⟨h1,h2⟩:=aaS p (ug h) e;exact ajO (aA _) h1 (bH h2 (afm h))
theorem T.Q7 {B E:Nat}{v:ak}(p:List dR)(k:Nat)(hB:B<=lim)(hv:Fine B E v)(hk:k<p.length) :
 ∀(q:List dR) {d:Nat} {n:ak},Shape d n=true->Ev (λf=>G.jq f n q p (k:Int) v) (o7 (IC (λm=>addN m (p.getD k default) v) n q)):=by
 refine T.change (F:=λf a q=>G.jq f a q p (k:Int) v) (C:=λf a=>G.uK f a p (k:Int) v) (λn a q=>by simp only[G.jq]) (λd m hm=>?_);refine ais ?_;simp only[G.uK];refine alI (af5 (T.lH _ hB hv hm) (ake ?_));rw[aj]
theorem T.Q9 {B E:Nat}{v:ak}(hB:B<=lim)(hv:Fine B E v) :
 ∀(q:List dR) {d:Nat} {n:ak},Shape d n=true->Ev (λf=>G.jv f n q v) (o7 (Ve n q v)):=by
 refine T.change (F:=λf a q=>G.jv f a q v) (C:=λf a=>G.uM f a v) (λn a q=>by simp only[G.jv]) (λd m hm=>?_);refine ais ?_;simp only[G.uM];exact af5 (T.aV hB hv) (akk _)
theorem T.jd {d:Nat}{n:ak}(p:List dR)(k:Nat)(hk:k<p.length)(h:Shape d n=true):Ev (λf=>G.jd f n p (k:Int)) (o7 (F9 n (p.getD k default))):=by
 cases d with
 |zero=>cases h
 |succ d=>
 have hp:=rG h;have hl:=Ua hp;obtain⟨w,b,g,h1,h2⟩:=T.fQ (p.getD k default) hp;refine ais ?_;simp only[G.jd,aj];refine alI (af5 g ?_);unfold F9;cases hj:Gt n (p.getD k default)with
 |none=>exact alW (h2 hj) (akk _)
 | some j=>
   have hjl:=Ag hj;obtain⟨rfl,rfl⟩:=h1 j hj;have d1:Ev (λf=>G.jM f n.ajX (j:Int) ((j+1:Nat):Int)) (yF n.ajX j):=by refine ais ?_;simp only[G.jM,aj];exact alI (akk _)
   have hK:∀nm,n.Num=0->n.amV=[]->Ev (λf=>G.jd.K1 f ((j:Int),true) n nm) (ak.mk n.alC 0 [] nm (yF n.ajX j),true):=by intro nm e1 e2;refine ais ?_;simp only[G.jd.K1,wrS j];exact af5 d1 (ake (by rw[e1,e2]))
   refine alZ rfl (af5 (T.aV Fe (zQ h)) ?_);by_cases h4:n.alC=4
   ·obtain⟨e1,e2,_,hnl,hkl⟩:=Bh hp h4;have d2:Ev (λf=>G.slices_Delete_string f n.aiJ (j:Int) ((j+1:Nat):Int)) (yF n.aiJ j):=by
     refine ais ?_;simp only[G.slices_Delete_string,aj];exact alI (akk _)
    refine alZ (by simpa using h4) ?_;simp only[wrS j];refine af5 d2 ((hK _ e1 e2).eq ?_);simp[h4,o7]
   ·by_cases h3:n.alC=3
    ·obtain⟨e1,e2,e3,_⟩:=GZ hp h3;refine alW (by simpa using h4) ((hK _ e1 e2).eq ?_);simp[h4,o7,e3]
    ·have:=OZ hj;rw[KL h4 h3]at this;cases this
theorem T.Q8 (p:List dR)(k:Nat)(hk:k<p.length) :
 ∀(q:List dR) {d:Nat} {n:ak},Shape d n=true->Ev (λf=>G.iI f n q p (k:Int)) (o7 (IC (λm=>F9 m (p.getD k default)) n q)):=
 T.change (F:=λf a q=>G.iI f a q p (k:Int)) (C:=λf a=>G.jd f a p (k:Int)) (λn a q=>by simp only[G.iI]) (λd m hm=>T.jd p k hk hm)
theorem T.ou {B D E:Nat}{n v:ak}{p:List dR}(hB:B+2<lim)(h:Fine B D n)(hp:FK B p)(hv:Fine B E v):Ev (λf=>G.ou f n p v) (o7 (aaB n p v)):=by
 have hsm:=hp.sm (by omega);refine ais ?_;simp only[G.ou];unfold aaB;refine af5 (T.bJ (by omega) h) (alH (λe1=>?_) (λe1=>ake (by rw[e1];rfl)));refine af5 (T.iT p hsm) (alH (λe2=>?_) (λe2=>ake (by rw[e1,e2];rfl)));refine af5 (T.bJ (by omega) hv) (alH (λe3=>?_) (λe3=>ake (by rw[e1,e2,e3];rfl)));rw[e1,e2,e3,ahl (by rfl)];by_cases hp0:p=[]
 ·subst hp0;refine alZ rfl (af5 (T.aV (by omega) hv) (ake ?_));unfold CY;simp[sV,e3,o7]
 ·have hpos:0<p.length:=oQ.2 hp0;simp only[NY hp0 hsm.1,aj];refine alW (by simpa using hp0) (alI ?_);have hc:=T.Q7 p (p.length-1) (by omega) hv (by omega) (Fb p) (ug e1);refine af5 hc ?_;have hA:CY n p v=IC (λm=>addN m (p.getD (p.length-1) default) v) n (Fb p):=by unfold CY;rw[ahk hp0];rfl
  rw[<- hA];exact af5 (T.oZ (o:=CY n p v) (B:=B+1) (by omega) (λm hm=>WE h hv hp.2 hm)) (akk _)
theorem T.uU {B D E:Nat}{n v:ak}{p:List dR}(hB:B+2<lim)(h:Fine B D n)(hp:FK B p)(hv:Fine B E v):Ev (λf=>G.uU f n p v) (o7 (akx n p v)):=by have hsm:=hp.sm (by omega);refine ais ?_;simp only[G.uU];unfold akx;refine af5 (T.bJ (by omega) h) (alH (λe1=>?_) (λe1=>ake (by rw[e1];rfl)));refine af5 (T.iT p hsm) (alH (λe2=>?_) (λe2=>ake (by rw[e1,e2];rfl)));refine af5 (T.bJ (by omega) hv) (alH (λe3=>?_) (λe3=>ake (by rw[e1,e2,e3];rfl)));rw[e1,e2,e3,ahl (by rfl)];refine af5 (T.Q9 (by omega) hv p (ug e1)) ?_;exact af5 (T.oZ (B:=B) (by omega) (λm hm=>Tm h hv hm)) (akk _)
theorem T.lS {B D:Nat}{n:ak}{p:List dR}(hB:B+2<lim)(h:Fine B D n)(hp:FK B p):Ev (λf=>G.lS f n p) (o7 (ahq n p)):=by
 have hsm:=hp.sm (by omega);refine ais ?_;simp only[G.lS];unfold ahq;refine af5 (T.bJ (by omega) h) (alH (λe1=>?_) (λe1=>ake (by rw[e1];rfl)));refine af5 (T.iT p hsm) (alH (λe2=>?_) (λe2=>ake (by rw[e1,e2];rfl)));rw[e1,e2,ahl (by rfl)];by_cases hp0:p=[]
 ·subst hp0;exact alZ rfl (akk _)
 ·have hpos:0<p.length:=oQ.2 hp0;simp only[NY hp0 hsm.1,aj];refine alW (by simpa using hp0) (alI ?_);have hA:D9 n p=IC (λm=>F9 m (p.getD (p.length-1) default)) n (Fb p):=by unfold D9;rw[ahk hp0];rfl
  rw[hA];exact af5 (T.Q8 p (p.length-1) (by omega) (Fb p) (ug e1)) (akk _)
theorem T.um {B D:Nat}{n:ak}{p:List dR}(hB:B+2<lim)(h:Fine B D n)(hp:FK B p):Ev (λf=>G.um f n p) (o7 (AtM n p)):=by
 have hsm:=hp.sm (by omega);refine ais ?_;simp only[G.um];unfold AtM;refine af5 (T.bJ (by omega) h) (alH (λe1=>?_) (λe1=>ake (by rw[e1];rfl)));refine af5 (T.iT p hsm) (alH (λe2=>?_) (λe2=>ake (by rw[e1,e2];rfl)));rw[e1,e2,ahl (by rfl)];refine af5 (T.kz p hsm.1 (ug e1)) ?_;cases ha:Ny n p with
 |none=>exact alW rfl (akk _)
 |some m=>exact alZ rfl (af5 (T.aV (by omega) (QX p h ha)) (akk _))
theorem T.slices_Equal_string.L1 {a b:List dR}(hl:a.length=b.length)(hb:a.length<big):∀(k i:Nat),i+k=a.length->Ev (λf=>G.slices_Equal_string.L1 f a b i) (decide (a.drop i=b.drop i)):=by
 unfold big at hb;intro k
 induction k with
 | zero=>intro i hi;refine ais ?_;simp only[G.slices_Equal_string.L1];refine alW (by simp;omega) (ake ?_);rw[au (by omega),au (by omega)];rfl
 | succ k ih=>
   intro i hi;refine ais ?_;simp only[G.slices_Equal_string.L1,aj,wrS i];refine alZ (by simp;omega) (alI (alI ?_));rw[dW (default:dR) (by omega:i<a.length),dW (default:dR) (by omega:i<b.length)];refine alH (λe=>(ih (i+1) (by omega)).eq ?_) (λe=>ake ?_)
   ·rw[akg]at e;apply decide_eq_decide.2;rw[xm];exact⟨λh=>⟨e,h⟩,λh=>h.2⟩
   ·have e:a.getD i default≠b.getD i default:=by simpa using e
    symm
    apply aki;rw[xm];exact λh=>e h.1
theorem T.slices_Equal_string {a b:List dR}(hb:a.length<big):Ev (λf=>G.slices_Equal_string f a b) (decide (a=b)):=by
 refine ais ?_;simp only[G.slices_Equal_string];by_cases h:a.length=b.length
 ·exact alW (by simp;omega) (T.slices_Equal_string.L1 h hb a.length 0 (by omega))
 ·refine alZ (by simp;omega) (ake ?_)
  symm
  exact aki (λe=>h (by rw[e]))
def X8 (n:ak)(o p:List dR)(t:ak):Option ak:=if o <+: p then(if p.length=o.length then some n else none)else(D9 n o).bind λless=>CY less p t
theorem ab5 {o p:List dR}(h:o.length<=p.length):p.take o.length=o<->o <+: p:=by rw[List.prefix_iff_eq_take,eq_comm]
def akn (n:ak)(o p:List dR):Option ak:=if Val n&&PP o&&PP p then(Ny n o).bind λt=>(X8 n o p t).filter Val else none
theorem T.uj {n:ak}{o p:List dR}(h:Val n=true)(ho:PP o=true)(hp:PP p=true):Ev (λf=>G.uj f n o p) (o7 (akn n o p)):=by
 have hb:(12:Nat)+2<lim:=by decide
 have fo:=xO ho;have fp:=xO hp;have so:=fo.sm (by decide);have sp:=fp.sm (by decide);refine ais ?_;simp only[G.uj];unfold akn;rw[h,ho,hp,ahl (by rfl)];refine af5 (T.um hb (nS h) fo) ?_;unfold AtM;rw[h,ho,ahl (by rfl)];cases ha:Ny n o with
 |none=>exact alW rfl (akk _)
 | some t=>
   have hvt:=SN h ha;refine alZ rfl ?_;rw[jP];have mv:¬o <+: p->Ev (λf=>lG (G.lS f n o) λv5=>cond v5.2 (lG (G.ou f v5.1 p t) λv6=>some (v6.1,v6.2)) (some ((ak.mk 0 0 [] [] []),false))) (o7 ((X8 n o p t).filter Val)):=by
    intro hn;unfold X8;rw[ahk hn];refine af5 (T.lS hb (nS h) fo) ?_;unfold ahq;rw[h,ho,ahl (by rfl)];cases hr:D9 n o with
    |none=>exact alW rfl (akk _)
    | some less=>have hvl:=RP h hr;have hA:=T.ou (n:=less) hb (nS hvl) fp (nS hvt);have e:aaB less p t=(CY less p t).filter Val:=(by unfold aaB;rw[hvl,hp,hvt,ahl (by rfl)]);rw[e]at hA;exact alZ rfl (af5 hA (akk _))
   refine af5 (T.slices_Equal_string sp.1) (alH (λe=>?_) (λe=>?_))
   ·rw[ahm]at e;subst e;refine af5 (T.aV Fe (nS h)) (ake ?_);unfold X8;rw[ahl (List.prefix_refl _),ahl rfl];simp[sV,h,o7]
   ·have hne:p≠o:=(by simpa using e);refine alH (λe2=>?_) (λe2=>?_)
    ·have hlt:o.length<p.length:=(by simpa using e2);refine alI (af5 (T.slices_Equal_string (a:=p.take o.length) (by rw[gW];have:=sp.1;omega)) (alH (λe3=>ake ?_) (λe3=>?_)))
     ·rw[ahm,ab5 (by omega)]at e3;unfold X8;rw[ahl e3,ahk (by omega)];rfl
     ·rw[alR,ab5 (by omega)]at e3;exact mv e3
    ·have hge:¬o.length<p.length:=(by simpa using e2);refine mv λhpre=>?_;have h1:=hpre.length_le;exact hne (hpre.eq_of_length (by omega)).symm
theorem T.nC.L1 {p w:List dR}(hp:p.length<big)(hw:w.length<big):∀(k i:Nat),i+k=w.length->Ev (λf=>G.nC.L1 f p w i) (decide (w.drop i <+: p.drop i)):=by
 unfold big at hp hw;intro k
 induction k with
 | zero=>
   intro i hi;refine ais ?_;simp only[G.nC.L1];refine alW (by simp;omega) (ake ?_);rw[au (by omega:w.length<=i)]
   symm
   exact al6 (List.nil_prefix)
 | succ k ih=>
   intro i hi;refine ais ?_;simp only[G.nC.L1,aj,wrS i];refine alZ (by simp;omega) ?_;rw[dW (default:dR) (by omega:i<w.length)];by_cases hpi:p.length<=i
   ·refine alZ (by simpa using hpi) (ake ?_);rw[au hpi]
    symm
    exact aki (by simp)
   ·refine alW (by simpa using hpi) (alI (alI ?_));rw[dW (default:dR) (by omega:i<p.length)];refine alH (λe=>(ih (i+1) (by omega)).eq ?_) (λe=>ake ?_)
    ·rw[akg]at e;apply decide_eq_decide.2;rw[List.cons_prefix_cons];exact⟨λh=>⟨e.symm,h⟩,λh=>h.2⟩
    ·have e:p.getD i default≠w.getD i default:=by simpa using e
     symm
     apply aki;rw[List.cons_prefix_cons];exact λh=>e h.1.symm
theorem T.nC {p w:List dR}(hp:p.length<big)(hw:w.length<big):Ev (λf=>G.nC f p w) (decide (w <+: p)):=by refine ais ?_;simp only[G.nC];exact T.nC.L1 hp hw w.length 0 (by omega)
open Classical in
noncomputable def applyN (n:ak)(o:pW):Option ak:=
 if o.alC=1 then CY n o.anu o.Value else if o.alC=2 then D9 n o.anu else if o.alC=3 then Ve n o.anu o.Value
 else(Ny n (if o.alC=6 then o.anu else o.anw)).bind λt=>if o.alC=6 then(if t=o.Value then some n else none)else if o.alC=5 then CY n o.anu t else X8 n o.anw o.anu t
def XW (o:pW):Bool:=(decide (1<=o.alC)&&decide (o.alC<=6))&&PP o.anu&&PP o.anw&&Val o.Value
noncomputable def EL (n:ak)(o:pW):Option ak:=if Val n&&XW o then(applyN n o).filter Val else none
def Said (q:ak×Bool)(o:Option ak):Prop:=(q.2=true->o=some q.1)/\(q.2=false->o=none)
theorem KZ (o:Option ak):Said (o7 o) o:=by
 cases o with
 |none=>exact⟨λe=>(by cases e),λ_=>rfl⟩
 |some m=>exact⟨λ_=>rfl,λe=>(by cases e)⟩
structure Qy (o:pW):Prop where
 k1:1<=o.alC
 k6:o.alC<=6
 path:PP o.anu=true
 from_:PP o.anw=true
 val:Val o.Value=true
theorem GY {o:pW}(h:XW o=true):Qy o:=by unfold XW at h;simp only[ah,ahm]at h;exact⟨h.1.1.1.1,h.1.1.1.2,h.1.1.2,h.1.2,h.2⟩
theorem aid : (12:Nat)+1<lim:=by decide
theorem agd : (12:Nat)+2<lim:=by decide
theorem T.kY.K1 {n:ak}{o:pW}(h:Val n=true)(ho:Qy o)(fr:List dR)(hf:PP fr=true)(h6:fr=if o.alC=6 then o.anu else o.anw)(hk:o.alC≠1/\o.alC≠2/\o.alC≠3) :
 ∃q,Ev (λf=>G.kY.K1 f n o fr) q/\Said q (applyN n o):=by
 have sp:=(xO ho.path).sm (by decide);have sf:=(xO ho.from_).sm (by decide);have sr:=(xO hf).sm (by decide);have hn:=nS h;have hat:=T.uB fr (by decide) sr.1 hn;have hN:applyN n o=(Ny n fr).bind λt=>@ite _ (o.alC=6) _ (@ite _ (t=o.Value) (Classical.propDecidable _) (some n) none) (if o.alC=5 then CY n o.anu t else X8 n o.anw o.anu t):=by unfold applyN;rw[ahk hk.1,ahk hk.2.1,ahk hk.2.2,h6]
 rw[hN];cases ha:Ny n fr with
 | none=>
   rw[ha]at hat
   refine⟨(wU,false),ais ?_,⟨λe=>(by cases e),λ_=>rfl⟩⟩;simp only[G.kY.K1];exact af5 hat (alW rfl (akk _))
 | some t=>
   rw[ha]at hat
   have ht:=nS (SN h ha);rw[jP];by_cases k6:o.alC=6
   ·obtain⟨v,gs,hv⟩:=T.yG (ug (SN h ha)) (ug ho.val);refine⟨(n,v),ais ?_,?_⟩
    ·simp only[G.kY.K1];exact af5 hat (alZ rfl (alZ (by simpa using k6) (af5 gs (akk _))))
    ·rw[ahl k6];refine⟨λe=>ahl (hv.1 e),λe=>ahk λe2=>?_⟩;have:=hv.2 e2;rw[show v=false from e]at this;cases this
   ·rw[ahk k6];by_cases k5:o.alC=5
    ·rw[ahl k5];refine⟨_,ais ?_,KZ _⟩;simp only[G.kY.K1];exact af5 hat (alZ rfl (alW (by simpa using k6) (alZ (by simpa using k5) (af5 (T.uQ o.anu aid sp.1 (xO ho.path).2 hn ht) (akk _)))))
    ·rw[ahk k5];unfold X8;have hbg:=T.nC sp.1 sf.1;by_cases hpre:o.anw <+: o.anu
     ·rw[ahl hpre];refine⟨(n,(o.anu.length:Int)==(o.anw.length:Int)),ais ?_,?_⟩
      ·simp only[G.kY.K1];exact af5 hat (alZ rfl (alW (by simpa using k6) (alW (by simpa using k5) (af5 hbg (alZ (by simpa using hpre) (af5 (T.bG Fe hn) (akk _)))))))
      ·rw[ilen];refine⟨λe=>ahl (by simpa using e),λe=>ahk (by simpa using e)⟩
     ·rw[ahk hpre];have hr:=T.kG (n:=n) o.anw aid sf.1 hn;cases hre:D9 n o.anw with
      | none=>rw[hre]at hr;refine⟨(wU,false),ais ?_,⟨λe=>(by cases e),λ_=>rfl⟩⟩;simp only[G.kY.K1];exact af5 hat (alZ rfl (alW (by simpa using k6) (alW (by simpa using k5) (af5 hbg (alW (by simpa using hpre) (af5 hr (alW rfl (akk _))))))))
      | some less=>rw[hre]at hr;have hl:=nS (RP h hre);refine⟨_,ais ?_,KZ _⟩;simp only[G.kY.K1];exact af5 hat (alZ rfl (alW (by simpa using k6) (alW (by simpa using k5) (af5 hbg (alW (by simpa using hpre) (af5 hr (alZ rfl (af5 (T.uQ (n:=less) o.anu aid sp.1 (xO ho.path).2 hl ht) (akk _)))))))))
theorem T.kY {n:ak}{o:pW}(h:Val n=true)(ho:Qy o):∃q,Ev (λf=>G.kY f n o) q/\Said q (applyN n o):=by
 have sp:=(xO ho.path).sm (by decide);have hn:=nS h;by_cases k1:o.alC=1
 ·refine⟨_,ais ?_,KZ _⟩;simp only[G.kY];refine alZ (by simpa using k1) ?_;have:applyN n o=CY n o.anu o.Value:=by unfold applyN;rw[ahl k1]
  rw[this];exact af5 (T.uQ o.anu aid sp.1 (xO ho.path).2 hn (nS ho.val)) (akk _)
 by_cases k2:o.alC=2
 ·refine⟨_,ais ?_,KZ _⟩;simp only[G.kY];refine alW (by simpa using k1) (alZ (by simpa using k2) ?_);have:applyN n o=D9 n o.anu:=by unfold applyN;rw[ahk k1,ahl k2]
  rw[this];exact af5 (T.kG o.anu aid sp.1 hn) (akk _)
 by_cases k3:o.alC=3
 ·refine⟨_,ais ?_,KZ _⟩;simp only[G.kY];refine alW (by simpa using k1) (alW (by simpa using k2) (alZ (by simpa using k3) ?_));have:applyN n o=Ve n o.anu o.Value:=by unfold applyN;rw[ahk k1,ahk k2,ahl k3]
  rw[this];exact af5 (T.pJ (by decide) (nS ho.val) o.anu sp.1 hn) (akk _)
 by_cases k6:o.alC=6
 ·obtain⟨q,g,hq⟩:=T.kY.K1 h ho o.anu ho.path (by rw[ahl k6]) ⟨k1,k2,k3⟩;refine⟨q,ais ?_,hq⟩;simp only[G.kY];exact alW (by simpa using k1) (alW (by simpa using k2) (alW (by simpa using k3) (alZ (by simpa using k6) g)))
 ·obtain⟨q,g,hq⟩:=T.kY.K1 h ho o.anw ho.from_ (by rw[ahk k6]) ⟨k1,k2,k3⟩;refine⟨q,ais ?_,hq⟩;simp only[G.kY];exact alW (by simpa using k1) (alW (by simpa using k2) (alW (by simpa using k3) (alW (by simpa using k6) g)))
theorem Tj {n v m:ak}{p:List dR}(hn:Val n=true)(hv:Val v=true)(hp:PP p=true)(e:CY n p v=some m):Fine 13 15 m:=
 WE (nS hn) (nS hv) (xO hp).2 e
theorem adw {n m:ak}{o:pW}(h:Val n=true)(ho:Qy o)(e:applyN n o=some m):Fine 13 15 m:=by
 unfold applyN at e;by_cases k1:o.alC=1
 ·rw[ahl k1]at e;exact Tj h ho.val ho.path e
 rw[ahk k1]at e;by_cases k2:o.alC=2
 ·rw[ahl k2]at e;exact(nS (RP h e)).mono (by omega) (by omega)
 rw[ahk k2]at e;by_cases k3:o.alC=3
 ·rw[ahl k3]at e;exact(Tm (nS h) (nS ho.val) e).mono (by omega) (by omega)
 rw[ahk k3]at e;cases ha:Ny n (if o.alC=6 then o.anu else o.anw)with
 |none=>rw[ha]at e;cases e
 | some t=>
   have ht:=SN h ha;rw[ha,jP]at e;by_cases k6:o.alC=6
   ·rw[ahl k6]at e;split at e
    ·cases e;exact(nS h).mono (by omega) (by omega)
    ·cases e
   rw[ahk k6]at e;by_cases k5:o.alC=5
   ·rw[ahl k5]at e;exact Tj h ht ho.path e
   rw[ahk k5]at e;unfold X8 at e;split at e
   ·split at e
    ·cases e;exact(nS h).mono (by omega) (by omega)
    ·cases e
   ·cases hr:D9 n o.anw with
    |none=>rw[hr]at e;cases e
    |some less=>rw[hr,jP]at e;exact Tj (RP h hr) ht ho.path e
theorem T.XA {B D:Nat}{q:ak×Bool}{o:Option ak}(hB:B<=lim)(hq:Said q o)(h:∀m,o=some m->Fine B D m):Ev (λf=>G.qh f q.1 q.2) (o7 (o.filter Val)):=by
 obtain⟨m,b⟩:=q;cases b with
 | false=>rw[hq.2 rfl];refine ais ?_;simp only[G.qh];exact alW rfl (akk _)
 | true=>have e:=hq.1 rfl;subst e;exact T.qh (o:=some m) hB h
theorem T.qY {n:ak}{o:pW}(h:Val n=true)(ho:Qy o):Ev (λf=>G.qY f n o) (o7 ((applyN n o).filter Val)):=by
 obtain⟨q,g,hq⟩:=T.kY h ho;have hc:=T.XA (B:=13) (D:=15) (by decide) hq (λm hm=>adw h ho hm);refine ais ?_;simp only[G.qY];refine af5 g (af5 hc ?_);cases hm:(applyN n o).filter Val with
 |none=>exact alW rfl (akk _)
 | some m=>
   have hv:Val m=true:=by have:=xA.1 hm;exact this.2
   exact alZ rfl (af5 (T.bG Fe (nS hv)) (akk _))
structure VK (B D:Nat)(o:pW):Prop where
 path:FK B o.anu
 from_:FK B o.anw
 val:Fine B D o.Value
theorem T.rC {B D:Nat}{o:pW}(hB:B<=lim)(h:VK B D o):Ev (λf=>G.rC f o) (XW o):=by refine ais ?_;simp only[G.rC];unfold XW;refine af5 (T.gu _ _ _) (alH (λe1=>?_) (λe1=>ake (by rw[e1];rfl)));refine af5 (T.jk _ (h.path.sm hB)) (alH (λe2=>?_) (λe2=>ake (by rw[e1,e2];rfl)));refine af5 (T.jk _ (h.from_.sm hB)) (alH (λe3=>?_) (λe3=>ake (by rw[e1,e2,e3];rfl)));exact af5 (T.fZ hB h.val) (ake (by rw[e1,e2,e3];rfl))
theorem T.uy {B D:Nat}{o:pW}(hB:B<=lim)(h:VK B D o):Ev (λf=>G.uy f o) (XW o):=by refine ais ?_;simp only[G.uy];unfold XW;refine alH (λe0=>?_) (λe0=>ake (by rw[e0];rfl));refine alH (λe1=>?_) (λe1=>ake (by rw[e0,e1];rfl));refine af5 (T.iT _ (h.path.sm hB)) (alH (λe2=>?_) (λe2=>ake (by rw[e0,e1,e2];rfl)));refine af5 (T.iT _ (h.from_.sm hB)) (alH (λe3=>?_) (λe3=>ake (by rw[e0,e1,e2,e3];rfl)));exact af5 (T.bJ hB h.val) (ake (by rw[e0,e1,e2,e3];rfl))
theorem T.rP {n v:ak}{p:List dR}(h:Val n=true)(hp:PP p=true)(hv:Val v=true) :
 ∃o,Ev (λf=>G.rP f n p v) (o7 o)/\(∀t,Ny n p=some t->t=v->o=some n)/\(∀t,Ny n p=some t->t≠v->o=none)/\(Ny n p=none->o=none):=by
 have sp:=(xO hp).sm (by decide);have hf:=T.kz p sp.1 (ug h);cases ha:Ny n p with
 | none=>rw[ha]at hf;refine⟨none,ais ?_,(λt e=>by cases e),(λt e=>by cases e),λ_=>rfl⟩;simp only[G.rP];exact af5 hf (alW rfl (akk _))
 | some t=>
   rw[ha]at hf;obtain⟨b,gs,hb⟩:=T.uk (ug (SN h ha)) (ug hv);cases b with
   | true=>
     refine⟨some n,ais ?_,λt' _ _=>rfl,λt' e hne=>?_,(λe=>by cases e)⟩
     ·simp only[G.rP];exact af5 hf (alZ rfl (af5 gs (alZ rfl (af5 (T.aV Fe (nS h)) (akk _)))))
     ·cases e;exact al7 (hb.1 rfl) hne
   | false=>
     refine⟨none,ais ?_,λt' e he=>?_,λt' _ _=>rfl,(λe=>by cases e)⟩
     ·simp only[G.rP];exact af5 hf (alZ rfl (af5 gs (alW rfl (akk _))))
     ·cases e;have:=hb.2 he;cases this
theorem UE {n:ak}(h:Val n=true):(some n).filter Val=some n:=by simp[sV,h]
theorem T.ru {B D:Nat}{n:ak}{o:pW}(hB:B+2<lim)(h:Fine B D n)(ho:VK B D o):Ev (λf=>G.ru f n o) (o7 (EL n o)):=by
 refine ais ?_;simp only[G.ru];unfold EL;refine af5 (T.bJ (by omega) h) (alH (λe1=>?_) (λe1=>ake (by rw[e1];rfl)));refine af5 (T.uy (by omega) ho) (alH (λe2=>?_) (λe2=>ake (by rw[e1,e2];rfl)));rw[e1,e2,ahl (by rfl)];have fo:=GY e2;have hn:=nS e1;by_cases k1:o.alC=1
 ·refine alZ (by simpa using k1) ?_;have e:aaB n o.anu o.Value=(applyN n o).filter Val:=by unfold aaB applyN;rw[e1,fo.path,fo.val,ahl (by rfl),ahl k1]
  rw[<- e];exact af5 (T.ou agd hn (xO fo.path) (nS fo.val)) (akk _)
 refine alW (by simpa using k1) ?_;by_cases k2:o.alC=2
 ·refine alZ (by simpa using k2) ?_;have e:ahq n o.anu=(applyN n o).filter Val:=by
   unfold ahq applyN;rw[e1,fo.path,ahl (by rfl),ahk k1,ahl k2];cases hr:D9 n o.anu with
   |none=>rfl
   |some m=>exact(UE (RP e1 hr)).symm
  rw[<- e];exact af5 (T.lS agd hn (xO fo.path)) (akk _)
 refine alW (by simpa using k2) ?_;by_cases k3:o.alC=3
 ·refine alZ (by simpa using k3) ?_;have e:akx n o.anu o.Value=(applyN n o).filter Val:=by unfold akx applyN;rw[e1,fo.path,fo.val,ahl (by rfl),ahk k1,ahk k2,ahl k3]
  rw[<- e];exact af5 (T.uU agd hn (xO fo.path) (nS fo.val)) (akk _)
 refine alW (by simpa using k3) ?_;have hN:applyN n o=(Ny n (if o.alC=6 then o.anu else o.anw)).bind λt=>@ite _ (o.alC=6) _ (@ite _ (t=o.Value) (Classical.propDecidable _) (some n) none) (if o.alC=5 then CY n o.anu t else X8 n o.anw o.anu t):=by unfold applyN;rw[ahk k1,ahk k2,ahk k3]
 by_cases k4:o.alC=4
 ·refine alZ (by simpa using k4) ?_;have k6:¬o.alC=6:=by omega
  have k5:¬o.alC=5:=by omega
  have e:akn n o.anw o.anu=(applyN n o).filter Val:=by
   unfold akn;rw[e1,fo.path,fo.from_,ahl (by rfl),hN,ahk k6];cases ha:Ny n o.anw with
   |none=>rfl
   |some t=>simp only[jP,ahk k6,ahk k5]
  rw[<- e];exact af5 (T.uj e1 fo.from_ fo.path) (akk _)
 refine alW (by simpa using k4) ?_;by_cases k5:o.alC=5
 ·refine alZ (by simpa using k5) ?_;have k6:¬o.alC=6:=by omega
  refine af5 (T.um agd hn (xO fo.from_)) ?_;have eA:AtM n o.anw=Ny n o.anw:=by unfold AtM;rw[e1,fo.from_,ahl (by rfl)]
  rw[eA,hN,ahk k6];cases ha:Ny n o.anw with
  |none=>exact alW rfl (akk _)
  | some t=>have ht:=SN e1 ha;have hA:=T.ou (v:=t) agd hn (xO fo.path) (nS ht);have e:aaB n o.anu t=(CY n o.anu t).filter Val:=(by unfold aaB;rw[e1,fo.path,ht,ahl (by rfl)]);rw[e]at hA;simp only[jP,ahk k6,ahl k5];exact alZ rfl (af5 hA (akk _))
 refine alW (by simpa using k5) ?_;have k6:o.alC=6:=by have:=fo.k1;have:=fo.k6;omega
 obtain⟨q,g,h1,h2,h3⟩:=T.rP e1 fo.path fo.val;refine(show Ev _ (o7 q)from af5 g (akk _)).eq (anr o7 ?_);rw[hN,ahl k6];cases ha:Ny n o.anu with
 |none=>rw[h3 ha];rfl
 | some t=>
   simp only[jP,ahl k6];by_cases ht:t=o.Value
   ·rw[h1 t ha ht,ahl ht,UE e1]
   ·rw[h2 t ha ht,ahk ht];rfl
theorem Ld (a b:Nat):kP (a:Int) (b:Int)=((a%b:Nat):Int):=by rw[Int.tmod_eq_emod_of_nonneg (by omega)];exact(Int.natCast_emod a b).symm
theorem Si (a b:Nat):lU (a:Int) (b:Int)=((a/b:Nat):Int):=by rw[Af (by omega)];exact(Int.natCast_ediv a b).symm
section
def Tot {α:Type}(Q:α->Prop)(F:Nat->Option α):Prop:=∃x,Ev F x/\Q x
section
variable {α β:Type} {Q:α->Prop} {F F':Nat->Option α}
theorem Tot.up (h:Tot Q (λn=>F (n+1))):Tot Q F:=let ⟨x,g,q⟩:=h;⟨x,ais g,q⟩
theorem Tot.ret {x:α}(h:Q x):Tot Q (λ_=>some x):=⟨x,akk x,h⟩
theorem Tot.bind {P:β->Prop}{h:Nat->Option β}{k:Nat->β->Option α}(h1:Tot P h)(h2:∀x,P x->Tot Q (λn=>k n x)):Tot Q (λn=>lG (h n) (k n)):=by obtain⟨x,g,p⟩:=h1;obtain⟨y,g',q⟩:=h2 x p;exact⟨y,af5 g g',q⟩
theorem Tot.chk {p:Prop}[Decidable p](hp:p)(h:Tot Q F):Tot Q (λn=>Ab.chk p (F n)):=let ⟨x,g,q⟩:=h;⟨x,ant hp g,q⟩
theorem Tot.ite {c:Bool}(h:c=true->Tot Q F)(h':c=false->Tot Q F'):Tot Q (λn=>cond c (F n) (F' n)):=by
 cases c
 ·exact h' rfl
 ·exact h rfl
theorem Tot.mono {P:α->Prop}(h:Tot P F)(hq:∀x,P x->Q x):Tot Q F:=let ⟨x,g,q⟩:=h;⟨x,g,hq x q⟩
end
abbrev aaE (B:Nat)(n:ak):Prop:=∃D,Fine B D n
theorem yB : 60<=lim:=by decide
theorem Ul : Val wU=true:=by decide
end
abbrev amf (o:pW):Prop:=∃E,VK 60 E o
theorem FK.mono {B C:Nat}{p:List dR}(h:FK B p)(hB:B<=C):FK C p:=⟨bH h.1 hB,λs hs=>bH (h.2 s hs) hB⟩
structure NO (n:ak)(o:pW):Prop where
 node:∃E,Fine 60 E n
 op:∃E,VK 60 E o
theorem NO.fine {n:ak}{o:pW}(h:NO n o):∃E,Fine 60 E n/\VK 60 E o:=by obtain⟨⟨E,hn⟩,⟨F,ho⟩⟩:=h;exact⟨max E F,hn.mono (aA _) (Cc _ _),ho.path,ho.from_,ho.val.mono (aA _) (FB _ _)⟩
theorem Eh {n:ak}(h:Val n=true):Fine 60 5 n:=(nS h).mono (by omega) (aA _)
structure akm (n:ak)(o:pW)(m:ak):Prop where
 vn:Val n=true
 vo:XW o=true
 app:applyN n o=some m
 vm:Val m=true
theorem applied {n m:ak}{o:pW}(h:EL n o=some m):akm n o m:=by
 unfold EL at h;split at h
 ·rename_i hv;simp only[ah]at hv;obtain⟨h1,h2⟩:=xA.1 h;exact⟨hv.1,hv.2,h1,h2⟩
 ·cases h
theorem afL {n:ak}{o:pW}(hn:Val n=true)(ho:XW o=true):EL n o=(applyN n o).filter Val:=by unfold EL;rw[hn,ho];rfl
theorem evd {p:Prop}(x:p:=by
 repeat' first
 |assumption
 |exact akk _
 |refine alZ rfl ?_
 |refine alW rfl ?_
 |refine af5 (by assumption) ?_
 |refine alH (λ_=>?_) (λ_=>?_)):p:=x
theorem pW.eta (o:pW):pW.mk o.alC o.anu o.anw o.Value=o:=rfl
theorem aje {o:pW}(h:XW o=true):VK 12 5 o:=by have f:=GY h;exact⟨xO f.path,xO f.from_,nS f.val⟩
open Classical in
noncomputable def Ug : ak->List pW->Option ak
 |n,[]=>some n
 | n,o::r=>match EL n o with
   |some m=>Ug m r
   |none=>none
noncomputable def QV : ak->List pW->Nat
 |_,[]=>0
 | n,o::r=>match EL n o with
   |some m=>QV m r+1
   |none=>0
def PU (l:List pW):Bool:=l.all XW&&decide (l.length<=12)
noncomputable def Nk (n:ak)(l:List pW):Option ak:=if Val n&&PU l then Ug n l else none
theorem aju {l:List pW} : ∀{n m:ak},Val n=true->Ug n l=some m->Val m=true:=by
 induction l with
 |nil=>intro n m hn h;cases h;exact hn
 | cons o r ih=>
   intro n m hn h;rw[Ug]at h;cases ha:EL n o with
   |none=>rw[ha]at h;cases h
   |some k=>rw[ha]at h;exact ih (applied ha).vm h
theorem af6 {l:List pW} : ∀{n:ak},QV n l=l.length<->(Ug n l).isSome=true:=by
 induction l with
 |nil=>intro n;simp[QV,Ug]
 | cons o l ih=>
   intro n;rw[QV,Ug];cases EL n o with
   |none=>simp
   |some k=>simp only[iC,Nat.add_right_cancel_iff];exact ih
theorem Xg {l:List pW}(h:PU l=true):(∀o,o∈l->XW o=true)/\l.length<=12:=by unfold PU at h;simp only[ah,ahm,aP]at h;exact h
def Ur (l:List pW):Prop:=l.length<=1000/\∀o,o∈l->amf o
theorem af7 {l:List pW}(h:PU l=true):Ur l:=by obtain⟨h1,h2⟩:=Xg h;exact⟨by omega,λo ho=>⟨5,(xO (GY (h1 o ho)).path).mono (by omega),(xO (GY (h1 o ho)).from_).mono (by omega),(nS (GY (h1 o ho)).val).mono (by omega) (aA _)⟩⟩
theorem getD_mem {α:Type}{l:List α}{i:Nat}(d:α)(h:i<l.length):l.getD i d∈l:=by rw[gJ d h];exact dD h
theorem T.eX.L1 {l:List pW}(h:Ur l):∀(k i:Nat),i+k=l.length->Ev (λf=>G.eX.L1 f l i) ((l.drop i).all XW):=by
 obtain⟨hl,ho⟩:=h;intro k
 induction k with
 | zero=>intro i hi;refine ais ?_;simp only[G.eX.L1];refine alW (by simp;omega) (ake ?_);rw[au (by omega)];rfl
 | succ k ih=>
   intro i hi;have hlt:i<l.length:=(by omega);refine ais ?_;simp only[G.eX.L1,aj,pW.eta,wrS i];obtain⟨E,hf⟩:=ho _ (getD_mem default hlt);refine alZ (by simpa using hlt) (alI (af5 (T.uy yB hf) ?_));rw[dW (default:pW) hlt,dH];refine alH (λe=>?_) (λe=>?_)
   ·rw[e,bV];exact ih (i+1) (by omega)
   ·rw[e,wu];exact akk _
theorem T.eX {l:List pW}(h:Ur l):Ev (λf=>G.eX f l) (PU l):=by
 refine ais ?_;simp only[G.eX];have hL:=T.eX.L1 h l.length 0 (by omega);unfold PU;refine alH (λe=>ake ?_) (λe=>?_)
 ·have:¬l.length<=12:=by simp at e;omega
  simp[this]
 ·have:l.length<=12:=by simp at e;omega
  simp only[this,decide_true,nD];exact hL
theorem T.fE.L1 {l:List pW}(h:Ur l):∀(k i:Nat),i+k=l.length->Ev (λf=>G.fE.L1 f l i) ((l.drop i).all XW&&decide (l.length<=12)):=by
 obtain⟨hl,ho⟩:=h;intro k
 induction k with
 | zero=>intro i hi;refine ais ?_;simp only[G.fE.L1];refine alW (by simp;omega) (ake ?_);rw[au (by omega),vS,bV];simp;omega
 | succ k ih=>
   intro i hi;have hlt:i<l.length:=(by omega);refine ais ?_;simp only[G.fE.L1,aj,pW.eta,wrS i];obtain⟨E,hf⟩:=ho _ (getD_mem default hlt);refine alZ (by simpa using hlt) (alI (af5 (T.rC yB hf) ?_));rw[dW (default:pW) hlt,dH];refine alH (λe=>?_) (λe=>?_)
   ·rw[e,bV];exact ih (i+1) (by omega)
   ·rw[e,wu];exact akk _
theorem T.fE {l:List pW}(h:Ur l):Ev (λf=>G.fE f l) (PU l):=by refine ais ?_;simp only[G.fE];exact T.fE.L1 h l.length 0 (by omega)
noncomputable def ajv (N i:Nat)(n:ak)(l:List pW):ak×Int:=
 match Ug n l with
 |some m=>(m,(N:Int))
 |none=>(wU,((i+QV n l:Nat):Int))
theorem T.kV.L1 {l:List pW}(h:PU l=true):∀(k i:Nat) (n:ak),i+k=l.length->Val n=true ->
 Ev (λf=>G.kV.L1 f l i n.alC n.Num n.amV n.aiJ n.ajX) (ajv l.length i n (l.drop i)):=by
 obtain⟨ho,hl⟩:=Xg h;intro k
 induction k with
 | zero=>intro i n hi hn;refine ais ?_;simp only[G.kV.L1,ak.eta];refine alW (by simp;omega) (ake ?_);rw[au (by omega)];rfl
 | succ k ih=>
   intro i n hi hn;have hlt:i<l.length:=(by omega);refine ais ?_;simp only[G.kV.L1,aj,pW.eta,ak.eta,wrS i];have hv:=ho _ (getD_mem default hlt);have hA:=T.ru agd (nS hn) (aje hv);refine alZ (by simpa using hlt) (alI (af5 hA ?_));rw[dW (default:pW) hlt];unfold ajv;rw[Ug,QV];cases ha:EL n (l.getD i default)with
   |none=>exact alW rfl (ake rfl)
   | some m=>
     refine alZ rfl ((ih (i+1) m (by omega) (applied ha).vm).eq ?_);unfold ajv;simp only;cases Ug m (l.drop (i+1))with
     |some k=>rfl
     | none=>refine anr (Prod.mk wU) ?_;show((i+1+QV m (l.drop (i+1)):Nat):Int)=((i+(QV m (l.drop (i+1))+1):Nat):Int);omega
theorem T.kV {n:ak}{l:List pW}(hn:Val n=true)(h:PU l=true):Ev (λf=>G.kV f n l) (ajv l.length 0 n l):=by refine ais ?_;simp only[G.kV];exact af5 (T.aV Fe (nS hn)) (T.kV.L1 h l.length 0 n (by omega) hn)
theorem T.qJ {B E:Nat}{n:ak}{l:List pW}(hB:B<=lim)(hn:Fine B E n)(hl:Ur l):Ev (λf=>G.qJ f n l) (o7 (Nk n l)):=by
 refine ais ?_;simp only[G.qJ];unfold Nk;refine af5 (T.bJ hB hn) (alH (λe1=>?_) (λe1=>ake (by rw[e1];rfl)));refine af5 (T.eX hl) (alH (λe2=>?_) (λe2=>ake (by rw[e1,e2];rfl)));refine af5 (T.kV e1 e2) (ake ?_);rw[e1,e2,ahl (by rfl)];unfold ajv;cases hr:Ug n l with
 |some m=>simp[o7]
 | none=>have h1:¬QV n l=l.length:=λe=>(by have:=af6.1 e;rw[hr]at this;cases this);simp only[Nat.zero_add,o7];rw[ilen];simp[h1]
theorem ac8 {n:ak}{o:pW}(hn:Val n=true)(ho:XW o=true):Ev (λf=>G.qY f n o) (o7 (EL n o)):=by rw[afL hn ho];exact T.qY hn (GY ho)
theorem T.jy.L1 {l:List pW}(h:PU l=true):∀(k i:Nat) (n:ak),i+k=l.length->Val n=true ->
 Ev (λf=>G.jy.L1 f l i n.alC n.Num n.amV n.aiJ n.ajX) (o7 (Ug n (l.drop i))):=by
 obtain⟨ho,hl⟩:=Xg h;intro k
 induction k with
 | zero=>intro i n hi hn;refine ais ?_;simp only[G.jy.L1,ak.eta];refine alW (by simp;omega) (ake ?_);rw[au (by omega)];rfl
 | succ k ih=>
   intro i n hi hn;have hlt:i<l.length:=(by omega);refine ais ?_;simp only[G.jy.L1,aj,pW.eta,ak.eta,wrS i];have hv:=ho _ (getD_mem default hlt);refine alZ (by simpa using hlt) (alI (af5 (ac8 hn hv) ?_));rw[dW (default:pW) hlt,Ug];cases ha:EL n (l.getD i default)with
   |none=>exact alW rfl (ake rfl)
   |some m=>exact alZ rfl (ih (i+1) m (by omega) (applied ha).vm)
theorem T.jy {B E:Nat}{n:ak}{l:List pW}(hB:B<=lim)(hn:Fine B E n)(hl:Ur l):Ev (λf=>G.jy f n l) (o7 (Nk n l)):=by refine ais ?_;simp only[G.jy];unfold Nk;refine af5 (T.fZ hB hn) (alH (λe1=>?_) (λe1=>ake (by rw[e1];rfl)));refine af5 (T.fE hl) (alH (λe2=>?_) (λe2=>ake (by rw[e1,e2];rfl)));rw[e1,e2,ahl (by rfl)];exact af5 (T.bG Fe (nS e1)) (T.jy.L1 e2 l.length 0 n (by omega) e1)
theorem FD : 1048576<=lim:=by decide
def ahn (l:List pW):Prop:=l.length<=1048576/\∀o,o∈l->∃D,GL 1048576 D o
theorem T0.rC {B D:Nat}{o:pW}(hB:B<=lim)(h:GL B D o):Ev (λf=>G.rC f o) (XW o):=by refine ais ?_;simp only[G.rC];unfold XW;refine af5 (T.gu _ _ _) (alH (λe1=>?_) (λe1=>ake (by rw[e1];rfl)));refine af5 (T.jk _ (ab4 hB h.path.1 h.path.2)) (alH (λe2=>?_) (λe2=>ake (by rw[e1,e2];rfl)));refine af5 (T.jk _ (ab4 hB h.from_.1 h.from_.2)) (alH (λe3=>?_) (λe3=>ake (by rw[e1,e2,e3];rfl)));exact af5 (T0.fZ hB h.val) (ake (by rw[e1,e2,e3];rfl))
theorem T0.uy {B D:Nat}{o:pW}(hB:B<=lim)(h:GL B D o):Ev (λf=>G.uy f o) (XW o):=by refine ais ?_;simp only[G.uy];unfold XW;refine alH (λe0=>?_) (λe0=>ake (by rw[e0];rfl));refine alH (λe1=>?_) (λe1=>ake (by rw[e0,e1];rfl));refine af5 (T.iT _ (ab4 hB h.path.1 h.path.2)) (alH (λe2=>?_) (λe2=>ake (by rw[e0,e1,e2];rfl)));refine af5 (T.iT _ (ab4 hB h.from_.1 h.from_.2)) (alH (λe3=>?_) (λe3=>ake (by rw[e0,e1,e2,e3];rfl)));exact af5 (T0.bJ hB h.val) (ake (by rw[e0,e1,e2,e3];rfl))
theorem T0.eX.L1 {l:List pW}(h:ahn l):∀(k i:Nat),i+k=l.length->Ev (λf=>G.eX.L1 f l i) ((l.drop i).all XW):=by
 obtain⟨hl,ho⟩:=h;intro k
 induction k with
 | zero=>intro i hi;refine ais ?_;simp only[G.eX.L1];refine alW (by simp;omega) (ake ?_);rw[au (by omega)];rfl
 | succ k ih=>
   intro i hi;have hlt:i<l.length:=(by omega);refine ais ?_;simp only[G.eX.L1,aj,pW.eta,wrS i];obtain⟨E,hf⟩:=ho _ (getD_mem default hlt);refine alZ (by simpa using hlt) (alI (af5 (T0.uy FD hf) ?_));rw[dW (default:pW) hlt,dH];refine alH (λe=>?_) (λe=>?_)
   ·rw[e,bV];exact ih (i+1) (by omega)
   ·rw[e,wu];exact akk _
theorem T0.eX {l:List pW}(h:ahn l):Ev (λf=>G.eX f l) (PU l):=by
 refine ais ?_;simp only[G.eX];have hL:=T0.eX.L1 h l.length 0 (by omega);unfold PU;refine alH (λe=>ake ?_) (λe=>?_)
 ·have:¬l.length<=12:=by simp at e;omega
  simp[this]
 ·have:l.length<=12:=by simp at e;omega
  simp only[this,decide_true,nD];exact hL
theorem T0.fE.L1 {l:List pW}(h:ahn l):∀(k i:Nat),i+k=l.length->Ev (λf=>G.fE.L1 f l i) ((l.drop i).all XW&&decide (l.length<=12)):=by
 obtain⟨hl,ho⟩:=h;intro k
 induction k with
 | zero=>intro i hi;refine ais ?_;simp only[G.fE.L1];refine alW (by simp;omega) (ake ?_);rw[au (by omega),vS,bV];simp;omega
 | succ k ih=>
   intro i hi;have hlt:i<l.length:=(by omega);refine ais ?_;simp only[G.fE.L1,aj,pW.eta,wrS i];obtain⟨E,hf⟩:=ho _ (getD_mem default hlt);refine alZ (by simpa using hlt) (alI (af5 (T0.rC FD hf) ?_));rw[dW (default:pW) hlt,dH];refine alH (λe=>?_) (λe=>?_)
   ·rw[e,bV];exact ih (i+1) (by omega)
   ·rw[e,wu];exact akk _
theorem T0.fE {l:List pW}(h:ahn l):Ev (λf=>G.fE f l) (PU l):=by refine ais ?_;simp only[G.fE];exact T0.fE.L1 h l.length 0 (by omega)
section
theorem ae4 : ∀(m:Nat) (k:Int) (out:dR),k.toNat<=m->0<=k->k<4611686018427387904->out.length+k.toNat<9223372036854775806->∃s,Ev (λf=>G.iE.L1 f k out) s/\s.length<=9223372036854775807
 | m,k,out,hm,h0,h1,hl=>by
   by_cases hk:0<k
   ·have e1:lU k 10=k/10:=(by rw[Af h0]);have w1:af .i64 (lU k 10)=k/10:=by rw[e1];exact Cj (by omega) (by omega)
    match m with
    |0=>omega
    | m+1=>obtain⟨s,hs,hl2⟩:=ae4 m (k/10) ([fB (af .u8 ((af .i64 (48+(kP k 10))))).toNat]++out) (by omega) (by omega) (by omega) (by simp;omega);refine⟨s,ais ?_,hl2⟩;simp only[G.iE.L1,w1];exact alZ (al6 hk) (ant (by decide) (ant (by simp only[maxLen];omega) hs))
   ·refine⟨[109]++out,ais ?_,by simp;omega⟩;simp only[G.iE.L1];exact alW (aki hk) (ant (by simp only[maxLen];omega) (akk _))
theorem aoG {k:Int}(h0:0<=k)(h1:k<4611686018427387904):∃s,Ev (λf=>G.iE f k) s:=by
 by_cases hk:k<=0
 ·refine⟨[109,48],ais ?_⟩;simp only[G.iE];exact alZ (al6 hk) (akk _)
 ·obtain⟨s,hs,_⟩:=ae4 k.toNat k [] (aA _) h0 h1 (by simp;omega);refine⟨s,ais ?_⟩;simp only[G.iE];exact alW (aki hk) hs
noncomputable def tx (k:Int):dR:=open Classical in if h:∃s,Ev (λf=>G.iE f k) s then h.choose else []
theorem Sj {k:Int}(h:inR k):Ev (λf=>G.iE f k) (tx k):=by have hx:=aoG h.1 h.2;unfold tx;rw[dif_pos hx];exact hx.choose_spec
noncomputable def J7 : List dR->Int->List dR
 |[],_=>[]
 |_::r,k=>tx k::J7 r (k+1)
mutual
noncomputable def Pm : ak->Int->ak×Int
 |ak.mk _ _ _ ns ks,k=>(ak.mk k (k+1) (tx (k+2)) (J7 ns (k+3)) (BG ks (k+3+ns.length)).1,(BG ks (k+3+ns.length)).2)
noncomputable def BG : List ak->Int->List ak×Int
 |[],k=>([],k)
 |n::r,k=>((Pm n k).1::(BG r (Pm n k).2).1,(BG r (Pm n k).2).2)
end
theorem W9 : ∀(l:List dR) (k:Int),(J7 l k).length=l.length
 |[],_=>rfl
 |_::r,k=>by simp[J7,W9 r]
mutual
theorem ZQ : ∀(n:ak) (k:Int),(Pm n k).2=k+UK n
 |ak.mk _ _ _ ns ks,k=>by simp only[Pm,UK,LU ks];omega
theorem LU : ∀(l:List ak) (k:Int),(BG l k).2=k+xG l
 |[],k=>by simp[BG,xG]
 |n::r,k=>by simp only[BG,xG,LU r,ZQ n];omega
end
theorem TR : ∀(l:List ak) (k:Int),(BG l k).1.length=l.length
 |[],_=>rfl
 |_::r,k=>by simp[BG,TR r]
structure MT (mt:D6)(fS fN tS tN:Nat):Prop where
 s:mt fS=some (tS,1,[.str 0])
 n:mt fN=some (tN,5,[.int 0,.int 1,.str 2,.sub 3 fS,.sub 4 fN])
section
variable {mt:D6} {fS fN tS tN:Nat}
theorem ae1 (M:MT mt fS fN tS tN):∀(l:List dR) {k:Int},0<=k->k+l.length<4611686018427387904->BB mt tx (.L [.str 0] (l.map cS) k ((J7 l k).map cS) (k+l.length))
 |[],k,_,_=>by simpa[J7]using BB.l0
 | s::r,k,h0,h1=>by
   have h2:=ae1 M r (k:=k+1) (by omega) (by simp at h1;omega);simp only[aZ,J7];refine .l1 (k1:=k+1) (.es ⟨h0,by simp at h1;omega⟩ ⟨by omega,by simp at h1;omega⟩ (by simp[cS]) ?_) ?_
   ·simpa[cS]using BB.e0
   ·have e:k+1+(r.length:Int)=k+((s::r).length:Nat):=(by simp;omega);rw[e]at h2;exact h2
theorem EI (M:MT mt fS fN tS tN)(l:List dR){k:Int}(h0:0<=k)(h1:k+l.length<4611686018427387904):BB mt tx (.C fS (.sl 1 (l.map cS)) k (.sl 1 ((J7 l k).map cS)) (k+l.length)):=
 .c M.s ⟨h0,by omega⟩ (ae1 M l h0 h1)
mutual
theorem ak9 (M:MT mt fS fN tS tN):∀(n:ak) {k:Int},0<=k->k+UK n<4611686018427387904->BB mt tx (.E [.int 0,.int 1,.str 2,.sub 3 fS,.sub 4 fN] n.cells k (Pm n k).1.cells (Pm n k).2)
 | ak.mk a b c ns ks,k,h0,h1=>by simp only[UK]at h1;have h2:=Rw M ks (k:=k+3+ns.length) (by omega) (by omega);have h3:=EI M ns (k:=k+3) (by omega) (by omega);rw[ak.gy,ak.gy];simp only[Pm];refine .ei ⟨h0,by omega⟩ ⟨by omega,by omega⟩ (by simp) (.ei ⟨by omega,by omega⟩ ⟨by omega,by omega⟩ (by simp) (.es ⟨by omega,by omega⟩ ⟨by omega,by omega⟩ (by simp) ?_));rw[show k+1+1=k+2 by omega,show k+2+1=k+3 by omega];refine .ef (c:=.sl 1 (ns.map cS)) (by simp) h3 (.ef (c:=.sl 5 (ks.map ak.cells)) (by simp) (.c M.n ⟨by omega,by omega⟩ h2) ?_);simpa using BB.e0
theorem Rw (M:MT mt fS fN tS tN):∀(l:List ak) {k:Int},0<=k->k+xG l<4611686018427387904->BB mt tx (.L [.int 0,.int 1,.str 2,.sub 3 fS,.sub 4 fN] (l.map ak.cells) k ((BG l k).1.map ak.cells) (BG l k).2)
 |[],k,_,_=>by simpa[BG]using BB.l0
 | n::r,k,h0,h1=>by simp only[xG]at h1;have h2:=ak9 M n (k:=k) h0 (by omega);have h3:=Rw M r (k:=(Pm n k).2) (by rw[ZQ];omega) (by rw[ZQ];omega);simp only[aZ,BG];exact .l1 h2 h3
end
theorem Ru (M:MT mt fS fN tS tN)(l:List ak){k:Int}(h0:0<=k)(h1:k+xG l<4611686018427387904):BB mt tx (.C fN (.sl 5 (l.map ak.cells)) k (.sl 5 ((BG l k).1.map ak.cells)) (BG l k).2):=
 .c M.n ⟨h0,by omega⟩ (Rw M l h0 h1)
end
section
variable {P:Program} {tS tN:Nat}
theorem Gh (h1:wz P tS=1)(l:List dR):OD P tS (.sl 1 (l.map cS)):=
 have hx:∀(i j sz':Nat) (es':List (List Cell)),¬((l.map cS).getD i [])[j]? = some (.sl sz' es'):=λi j sz' es' h=>by
  simp only[bf,bP]at h;cases hl:l[i]? with
  |none=>rw[hl]at h;simp at h
  |some s=>rw[hl]at h;cases j<;>simp[cS]at h
 .sl _ _ _ (λ_=>0) h1 (λi j sz' es' h=>al7 h (hx i j sz' es')) (λi j sz' es' h=>al7 h (hx i j sz' es'))
mutual
theorem ajN (h1:wz P tS=1)(h2:wz P tN=5)(h3:lZ P tN=[(3,tS),(4,tN)]):∀(n:ak) (j sz':Nat) (es':List (List Cell)),n.cells[j]? = some (.sl sz' es')->(j,if j=3 then tS else tN)∈lZ P tN/\OD P (if j=3 then tS else tN) (.sl sz' es')
 | ak.mk a b c ns ks,j,sz',es',h=>by
   have h4:=IZ h1 h2 h3 ks;rw[ak.gy]at h
   match j,h with
   |0,h=>simp at h
   |1,h=>simp at h
   |2,h=>simp at h
   | 3,h=>simp only[dM,dN,aC,Cell.sl.injEq]at h;obtain⟨rfl,rfl⟩:=h;exact⟨by simp[h3],by simpa using Gh h1 ns⟩
   | 4,h=>simp only[dM,dN,aC,Cell.sl.injEq]at h;obtain⟨rfl,rfl⟩:=h;exact⟨by simp[h3],by simpa using h4⟩
   |j+5,h=>simp at h
theorem IZ (h1:wz P tS=1)(h2:wz P tN=5)(h3:lZ P tN=[(3,tS),(4,tN)]):∀(l:List ak),OD P tN (.sl 5 (l.map ak.cells))
 | []=>have hx:∀(i j sz':Nat) (es':List (List Cell)),¬(([]:List (List Cell)).getD i [])[j]? = some (.sl sz' es'):=λi j sz' es' h=>by simp at h
   .sl _ _ _ (λ_=>0) h2 (λi j sz' es' h=>al7 h (hx i j sz' es')) (λi j sz' es' h=>al7 h (hx i j sz' es'))
 | n::r=>by
   have a:=ajN h1 h2 h3 n;have b:=IZ h1 h2 h3 r;cases b with
   |sl _ _ _ t hs b1 b2=>
   have key:∀(i j sz':Nat) (es':List (List Cell)),(((n::r).map ak.cells).getD i [])[j]? = some (.sl sz' es')->(j,if j=3 then tS else tN)∈lZ P tN/\OD P (if j=3 then tS else tN) (.sl sz' es'):=by
    intro i j sz' es' h;cases i with
    |zero=>exact a j sz' es' (by simpa using h)
    | succ i=>
      have h':((r.map ak.cells).getD i [])[j]? = some (.sl sz' es'):=(by simpa using h);have c1:=b1 i j sz' es' h';have c2:=b2 i j sz' es' h';rw[h3]at c1;simp only[ay,bI,dn,or_false]at c1;rcases c1 with⟨rfl,e⟩|⟨rfl,e⟩
      ·rw[e]at c2;exact⟨by simp[h3],by simpa using c2⟩
      ·rw[e]at c2;exact⟨by simp[h3],by simpa using c2⟩
   exact .sl _ _ _ (λj=>if j=3 then tS else tN) h2 (λi j sz' es' h=>(key i j sz' es' h).1) (λi j sz' es' h=>(key i j sz' es' h).2)
end
end
end
theorem abH : ∀(l:List dR) (k:Int) {i:Nat},i<l.length->(J7 l k).getD i default=tx (k+i)
 |[],_,i,h=>by simp at h
 |s::r,k,0,_=>by simp[J7]
 | s::r,k,i+1,h=>by
   have:=abH r (k+1) (i:=i) (by simpa using h);simp only[J7,kU,this]
   congr 1
   omega
theorem YK : ∀(l:List ak) (k:Int) {i:Nat},i<l.length->(BG l k).1.getD i default=(Pm (l.getD i default) (k+xG (l.take i))).1
 |[],_,i,h=>by simp at h
 |n::r,k,0,_=>by simp[BG,xG]
 | n::r,k,i+1,h=>by
   have:=YK r (Pm n k).2 (i:=i) (by simpa using h);simp only[BG,kU,this,mZ,xG]
   congr 2
   rw[ZQ];omega
theorem YL : ∀(l:List ak) {i:Nat},i<l.length->xG (l.take (i+1))=xG (l.take i)+UK (l.getD i default)
 |[],i,h=>by simp at h
 |n::r,0,_=>by simp[xG]
 | n::r,i+1,h=>by have:=YL r (i:=i) (by simpa using h);simp only[mZ,xG,this,kU];omega
theorem ae2 : ∀(l:List ak) (i:Nat),xG (l.take i)<=xG l
 |[],i=>by simp[xG]
 |n::r,0=>by simp[xG]
 |n::r,i+1=>by have:=ae2 r i;simp only[mZ,xG];omega
theorem LQ (n:ak)(k:Int):(Pm n k).1=ak.mk k (k+1) (tx (k+2)) (J7 n.aiJ (k+3)) (BG n.ajX (k+3+n.aiJ.length)).1:=by cases n;rfl
theorem T.QY {l:List dR}{k:Int}(h0:0<=k)(h1:k+l.length<4611686018427387904):Ev (λf=>G.iG f (J7 l k) k) (k+l.length):=by
 have L:∀(m i:Nat),i+m=l.length->Ev (λf=>G.iG.L1 f (J7 l k) (k+i) i) (k+l.length):=by
  intro m
  induction m with
  | zero=>intro i hi;refine ais ?_;simp only[G.iG.L1,W9];exact anm (ake (by omega))
  | succ m ih=>intro i hi;have w1:af .i64 (k+i+1)=k+((i+1:Nat):Int):=(by rw[Cj (by omega) (by omega)];omega);refine ais ?_;simp only[G.iG.L1,W9,aj,w1,wrS i,abH l k (show i<l.length by omega)];exact ani (alI (af5 (Sj ⟨by omega,by omega⟩) (alZ (by simp) (ih (i+1) (by omega)))))
 refine ais ?_;simp only[G.iG];have:=L l.length 0 (by omega);simpa using this
def aey (n:ak):Prop:=∀k:Int,0<=k->k+xG n.ajX<4611686018427387904->Ev (λf=>G.jf f (BG n.ajX k).1 k) (k+xG n.ajX)
theorem T.WN {l:List ak}(hl:∀n,n∈l->aey n){k:Int}(h0:0<=k)(h1:k+xG l<4611686018427387904)(hlen:l.length<4611686018427387904):Ev (λf=>G.jf f (BG l k).1 k) (k+xG l):=by
 have L:∀(m i:Nat),i+m=l.length->Ev (λf=>G.jf.L1 f (BG l k).1 (k+xG (l.take i)) i) (k+xG l):=by
  intro m
  induction m with
  | zero=>intro i hi;refine ais ?_;simp only[G.jf.L1,TR];exact anm (ake (by rw[aT (by omega)]))
  | succ m ih=>intro i hi;have hil:i<l.length:=(by omega);have hs:=YL l hil;have hle:=ae2 l (i+1);have hme:aey (l.getD i default):=hl _ (EP default hil);have ht:=FX (l.getD i default);generalize hq:l.getD i default=q at hs hme ht;have w1:af .i64 (k+xG (l.take i)+1)=k+xG (l.take i)+1:=Cj (by omega) (by omega);have w2:af .i64 (k+xG (l.take i)+1+1)=k+xG (l.take i)+2:=(by rw[Cj (by omega) (by omega)];omega);have w3:af .i64 (k+xG (l.take i)+2+1)=k+xG (l.take i)+3:=(by rw[Cj (by omega) (by omega)];omega);have e1:=T.QY (l:=q.aiJ) (k:=k+xG (l.take i)+3) (by omega) (by omega);have e2:=hme (k+xG (l.take i)+3+q.aiJ.length) (by omega) (by omega);have e3:=ih (i+1) (by omega);have e4:k+((xG (l.take (i+1)):Nat):Int)=k+xG (l.take i)+3+q.aiJ.length+xG q.ajX:=(by omega);rw[e4]at e3;refine ais ?_;simp only[G.jf.L1,TR,aj,YK l k hil,hq,LQ,w1,w2,w3,wrS i];refine ani (alI (alW (by simp) (alI (alW (by simp) (alI (af5 (Sj ⟨by omega,by omega⟩) (alZ (by simp) (alI (af5 e1 (anm (alI (af5 e2 (anm e3)))))))))))))
 refine ais ?_;simp only[G.jf];have:=L l.length 0 (by omega);simpa[xG]using this
theorem Xa : ∀(l:List ak),l.length<=xG l
 |[]=>by simp
 |n::r=>by have:=Xa r;simp only[xG,FX n,iC];omega
mutual
theorem aod : ∀(n:ak),aey n
 |ak.mk _ _ _ _ ks=>λk h0 h1=>T.WN (adC ks) h0 h1 (by have:=Xa ks;have h2:k+(xG ks:Int)<4611686018427387904:=h1;omega)
theorem adC : ∀(l:List ak),∀n,n∈l->aey n
 |[],n,h=>by cases h
 | m::r,n,h=>by
   rcases ay.1 h with e|e
   ·rw[e];exact aod m
   ·exact adC r n e
end
theorem T.Tz (l:List ak){k:Int}(h0:0<=k)(h1:k+xG l<4611686018427387904):Ev (λf=>G.jf f (BG l k).1 k) (k+xG l):=
 T.WN (adC l) h0 h1 (by have:=Xa l;omega)
noncomputable def mkRoot (n:ak)(k:Int):ak:=ak.mk n.alC n.Num n.amV (J7 n.aiJ k) (BG n.ajX (k+n.aiJ.length)).1
def Uf (n:ak):Nat:=n.aiJ.length+xG n.ajX
theorem T.aie (n:ak){k:Int}(h0:0<=k)(h1:k+Uf n<4611686018427387904):Ev (λf=>G.vI f (mkRoot n k) k) (k+Uf n):=by unfold Uf at *;have e1:=T.QY (l:=n.aiJ) (k:=k) h0 (by omega);have e2:=T.Tz n.ajX (k:=k+n.aiJ.length) (by omega) (by omega);refine ais ?_;simp only[G.vI,mkRoot];exact af5 e1 (anm (af5 e2 (anm (ake (by omega)))))
theorem ab1 {n:ak}(h:Parts n=true):n.aiJ.length<=6:=by
 unfold Parts at h;simp only[ah,gV,akg]at h;obtain⟨⟨_,h1⟩,h2⟩:=h;rcases h1 with h1|h1
 ·rw[h1]at h2;simp at h2;omega
 ·omega
theorem abJ : ∀(l:List ak) (f:ak->Nat),(∀n,n∈l->UK n<=9*f n)->xG l<=9*(l.map f).sum
 |[],f,_=>by simp[xG]
 | n::r,f,h=>by have h1:=abJ r f (λn hn=>h n (dY _ hn));have h2:=h n (aW ..);simp only[xG,aZ,sS];omega
theorem YV : ∀(d:Nat) (n:ak),Shape d n=true->UK n<=9*Cnt d n
 |0,n,h=>by simp[Shape]at h
 | d+1,n,h=>by have h1:=ab1 (rG h);have h2:=abJ n.ajX (Cnt d) (λk hk=>YV d k (vw h k hk));rw[FX];simp only[Cnt];omega
theorem afn {n:ak}(h:Val n=true):Uf n<=400:=by unfold Val at h;simp only[ah,ahm]at h;have:=YV 5 n h.1;rw[FX]at this;unfold Uf;omega
section
abbrev ai8 (n:ak):List Cell:=[.lit (.int .i64 n.alC),.lit (.int .i64 n.Num),.str n.amV,.sl 1 (n.aiJ.map cS),.sl 5 (n.ajX.map ak.cells)]
abbrev opL (o:pW):List Cell:=[.lit (.int .i64 o.alC),.sl 1 (o.anu.map cS),.sl 1 (o.anw.map cS),.lit (.int .i64 o.Value.alC),.lit (.int .i64 o.Value.Num),.str o.Value.amV,.sl 1 (o.Value.aiJ.map cS),.sl 5 (o.Value.ajX.map ak.cells)]
section
variable {mt:D6} {sb:Y5} {fS fN tS tN fM:Nat} {ty:Nat->Nat}
theorem afh (M:MT mt fS fN tS tN)(h3:ty 3=tS)(h4:ty 4=tN)(n:ak){k:Int}(h0:0<=k)(h1:k+Uf n<4611686018427387904):SR mt sb tx ty [.sl 3 fS,.sl 4 fN] (ai8 n) k (ai8 (mkRoot n k)) (k+Uf n):=by
 unfold Uf at *;have e1:=EI M n.aiJ (k:=k) h0 (by omega);have e2:=Ru M n.ajX (k:=k+n.aiJ.length) (by omega) (by omega);refine .sl (c:=.sl 1 (n.aiJ.map cS)) rfl ⟨_,_,by rw[h3];exact M.s⟩ e1 (.sl (c:=.sl 5 (n.ajX.map ak.cells)) rfl ⟨_,_,by rw[h4];exact M.n⟩ e2 ?_);have e:k+((n.aiJ.length+xG n.ajX:Nat):Int)=(BG n.ajX (k+n.aiJ.length)).2:=by rw[LU];omega
 rw[e];simpa[ai8,mkRoot]using SR.nil
end
section
variable {P:Program} {tS tN:Nat}
theorem amu (h1:wz P tS=1)(h2:wz P tN=5)(h3:lZ P tN=[(3,tS),(4,tN)])(o:pW)(a b c d:Nat)(j sz:Nat)(es:List (List Cell))(h:(opL o)[j]? = some (.sl sz es)):∃r,r∈[(1,tS,a),(2,tS,b),(6,tS,c),(7,tN,d)]/\r.1=j/\OD P r.2.1 (.sl sz es):=by
 match j,h with
 | 1,h=>simp only[opL,dM,dN,aC,Cell.sl.injEq]at h;obtain⟨rfl,rfl⟩:=h;exact⟨(1,tS,a),by simp,rfl,Gh h1 _⟩
 | 2,h=>simp only[opL,dM,dN,aC,Cell.sl.injEq]at h;obtain⟨rfl,rfl⟩:=h;exact⟨(2,tS,b),by simp,rfl,Gh h1 _⟩
 | 6,h=>simp only[opL,dM,dN,aC,Cell.sl.injEq]at h;obtain⟨rfl,rfl⟩:=h;exact⟨(6,tS,c),by simp,rfl,Gh h1 _⟩
 | 7,h=>simp only[opL,dM,dN,aC,Cell.sl.injEq]at h;obtain⟨rfl,rfl⟩:=h;exact⟨(7,tN,d),by simp,rfl,IZ h1 h2 h3 _⟩
 |0,h=>simp[opL]at h
 |3,h=>simp[opL]at h
 |4,h=>simp[opL]at h
 |5,h=>simp[opL]at h
 |j+8,h=>simp[opL]at h
end
end
theorem T0.ru {B D E:Nat}{n:ak}{o:pW}(hB:B<=lim)(h:zJ B D n)(ho:GL B E o):Ev (λf=>G.ru f n o) (o7 (EL n o)):=by
 by_cases hv:(Val n&&XW o)=true
 ·have hv':=hv;simp only[ah]at hv';have fo:=GY hv'.2;exact T.ru (B:=12) (D:=5) (by decide) (nS hv'.1) ⟨xO fo.path,xO fo.from_,nS fo.val⟩
 refine ais ?_;simp only[G.ru];unfold EL;rw[ahk hv];refine af5 (T0.bJ hB h) (alH (λe1=>?_) (λe1=>ake rfl));refine af5 (T0.uy hB ho) (alH (λe2=>?_) (λe2=>ake rfl));exact al7 (by rw[e1,e2];rfl) hv
theorem alo (n:ak):Uf n<=UK n:=by rw[FX];unfold Uf;omega
section
noncomputable def am5 (o:pW)(k:Int):pW:=pW.mk k (J7 o.anu (k+1)) (J7 o.anw (k+1+o.anu.length)) (Pm o.Value (k+1+o.anu.length+o.anw.length)).1
noncomputable def WY : List pW->Int->List pW
 |[],_=>[]
 |o::r,k=>am5 o k::WY r (k+(mkO o+1:Nat))
section
variable {mt:D6} {fS fN tS tN fP tP:Nat}
abbrev Qj (fS fN:Nat):List MA:=[.int 0,.sub 1 fS,.sub 2 fS,.int 3,.int 4,.str 5,.sub 6 fS,.sub 7 fN]
theorem aoE (M:MT mt fS fN tS tN)(o:pW){k:Int}(h0:0<=k)(h1:k+(mkO o+1:Nat)<4611686018427387904):BB mt tx (.E (Qj fS fN) o.cells k (am5 o k).cells (k+(mkO o+1:Nat))):=by
 have hm:=FX o.Value;unfold mkO at *;have e1:=EI M o.anu (k:=k+1) (by omega) (by omega);have e2:=EI M o.anw (k:=k+1+o.anu.length) (by omega) (by omega);have e3:=EI M o.Value.aiJ (k:=k+1+o.anu.length+o.anw.length+3) (by omega) (by omega);have e4:=Rw M o.Value.ajX (k:=k+1+o.anu.length+o.anw.length+3+o.Value.aiJ.length) (by omega) (by omega);have e5:(BG o.Value.ajX (k+1+o.anu.length+o.anw.length+3+o.Value.aiJ.length)).2=k+((o.anu.length+o.anw.length+UK o.Value+1:Nat):Int):=by rw[LU];omega
 rw[pW.gy,pW.gy];unfold am5;rw[LQ];simp only;refine .ei ⟨h0,by omega⟩ ⟨by omega,by omega⟩ (by simp) ?_;refine .ef (c:=.sl 1 (o.anu.map cS)) (by simp) e1 (.ef (c:=.sl 1 (o.anw.map cS)) (by simp) e2 ?_);refine .ei ⟨by omega,by omega⟩ ⟨by omega,by omega⟩ (by simp) (.ei ⟨by omega,by omega⟩ ⟨by omega,by omega⟩ (by simp) (.es ⟨by omega,by omega⟩ ⟨by omega,by omega⟩ (by simp) ?_));rw[show k+1+o.anu.length+o.anw.length+1+1=k+1+o.anu.length+o.anw.length+2 by omega,show k+1+o.anu.length+o.anw.length+2+1=k+1+o.anu.length+o.anw.length+3 by omega];refine .ef (c:=.sl 1 (o.Value.aiJ.map cS)) (by simp) e3 (.ef (c:=.sl 5 (o.Value.ajX.map ak.cells)) (by simp) (.c M.n ⟨by omega,by omega⟩ e4) ?_);rw[e5];simpa using BB.e0
theorem ai3 (M:MT mt fS fN tS tN):∀(l:List pW) {k:Int},0<=k->k+Jy l<4611686018427387904->BB mt tx (.L (Qj fS fN) (l.map pW.cells) k ((WY l k).map pW.cells) (k+Jy l))
 |[],k,_,_=>by simpa[WY,Jy]using BB.l0
 | o::r,k,h0,h1=>by simp only[Jy]at h1;have h2:=aoE M o (k:=k) h0 (by omega);have h3:=ai3 M r (k:=k+(mkO o+1:Nat)) (by omega) (by omega);simp only[aZ,WY,Jy];have e:k+((mkO o+1:Nat):Int)+(Jy r:Int)=k+((mkO o+1+Jy r:Nat):Int):=(by omega);rw[e]at h3;exact .l1 h2 h3
theorem ai2 (M:MT mt fS fN tS tN)(hP:mt fP=some (tP,8,Qj fS fN))(l:List pW){k:Int}(h0:0<=k)(h1:k+Jy l<4611686018427387904):BB mt tx (.C fP (.sl 8 (l.map pW.cells)) k (.sl 8 ((WY l k).map pW.cells)) (k+Jy l)):=
 .c hP ⟨h0,by omega⟩ (ai3 M l h0 h1)
end
section
variable {P:Program} {tS tN tP:Nat}
theorem alB (h1:wz P tS=1)(h2:wz P tN=5)(h3:lZ P tN=[(3,tS),(4,tN)])(h4:wz P tP=8)(h5:lZ P tP=[(1,tS),(2,tS),(6,tS),(7,tN)])(l:List pW):OD P tP (.sl 8 (l.map pW.cells)):=by
 have key:∀(i j sz':Nat) (es':List (List Cell)),((l.map pW.cells).getD i [])[j]? = some (.sl sz' es')->(j,if j=7 then tN else tS)∈lZ P tP/\OD P (if j=7 then tN else tS) (.sl sz' es'):=by
  intro i j sz' es' h;simp only[bf,bP]at h;cases hl:l[i]? with
  |none=>rw[hl]at h;simp at h
  | some o=>
    rw[hl]at h;simp only[iR,jQ]at h;obtain⟨r,hr,rfl,ht⟩:=amu h1 h2 h3 o 0 0 0 0 j sz' es' h;simp only[ay,dn,or_false]at hr;rcases hr with rfl|rfl|rfl|rfl
    ·exact⟨by simp[h5],by simpa using ht⟩
    ·exact⟨by simp[h5],by simpa using ht⟩
    ·exact⟨by simp[h5],by simpa using ht⟩
    ·exact⟨by simp[h5],by simpa using ht⟩
 exact .sl _ _ _ (λj=>if j=7 then tN else tS) h4 (λi j sz' es' h=>(key i j sz' es' h).1) (λi j sz' es' h=>(key i j sz' es' h).2)
end
end
section
theorem BB.ei' {mt:D6}{o:Nat}{r:List MA}{e e':List Cell}{k k1 k':Int}(hk:inR k)(hk':inR k1)(h1:k1=k+1)(ho:o<e.length)(h:BB mt tx (.E r (e.set o (.lit (.int .i64 k))) k1 e' k')):BB mt tx (.E (.int o::r) e k e' k'):=by subst h1;exact .ei hk hk' ho h
theorem BB.es' {mt:D6}{o:Nat}{r:List MA}{e e':List Cell}{k k1 k':Int}(hk:inR k)(hk':inR k1)(h1:k1=k+1)(ho:o<e.length)(h:BB mt tx (.E r (e.set o (.str (tx k))) k1 e' k')):BB mt tx (.E (.str o::r) e k e' k'):=by subst h1;exact .es hk hk' ho h
theorem BB.to {mt:D6}{f:Nat}{c c':Cell}{k k1 k2:Int}(h:BB mt tx (.C f c k c' k1))(e:k1=k2):BB mt tx (.C f c k c' k2):=by subst e;exact h
structure TyH (P:Program)(tS tN tP:Nat):Prop where
 s:wz P tS=1
 n:wz P tN=5
 rn:lZ P tN=[(3,tS),(4,tN)]
 p:wz P tP=8
 rp:lZ P tP=[(1,tS),(2,tS),(6,tS),(7,tN)]
def Ia (x:bg):Nat:=1+1+UK x.am4
noncomputable def mkItem (x:bg)(k:Int):bg:=bg.mk (tx (k+((0:Nat):Int))) (k+((1:Nat):Int)) (Pm x.am4 (k+((1+1:Nat):Int))).1
noncomputable def DY : List bg->Int->List bg
 |[],_=>[]
 |o::r,k=>mkItem o k::DY r (k+(Ia o:Nat))
def iY : List bg->Nat
 |[]=>0
 |o::r=>Ia o+iY r
theorem Oc : ∀(l:List bg) (k:Int),(DY l k).length=l.length
 |[],_=>rfl
 |_::r,k=>by simp[DY,Oc r]
theorem UI : ∀(l:List bg) (k:Int) {i:Nat},i<l.length->(DY l k).getD i default=mkItem (l.getD i default) (k+iY (l.take i))
 |[],_,i,h=>by simp at h
 |o::r,k,0,_=>by simp[DY,iY]
 | o::r,k,i+1,h=>by
   have:=UI r (k+(Ia o:Nat)) (i:=i) (by simpa using h);simp only[DY,kU,this,mZ,iY]
   congr 1
   omega
theorem Rn : ∀(l:List bg) {i:Nat},i<l.length->iY (l.take (i+1))=iY (l.take i)+Ia (l.getD i default)
 |[],i,h=>by simp at h
 |n::r,0,_=>by simp[iY]
 | n::r,i+1,h=>by have:=Rn r (i:=i) (by simpa using h);simp only[mZ,iY,this,kU];omega
theorem WW : ∀(l:List bg) (i:Nat),iY (l.take i)<=iY l
 |[],i=>by simp[iY]
 |n::r,0=>by simp[iY]
 |n::r,i+1=>by have:=WW r i;simp only[mZ,iY];omega
abbrev I8 (fS fN:Nat):List MA:=[.str 0,.int 1,.int 2,.int 3,.str 4,.sub 5 fS,.sub 6 fN]
theorem ai1 {mt:D6}{fS fN tS tN:Nat}(M:MT mt fS fN tS tN)(x:bg){k:Int}(h0:0<=k)(h1:k+(Ia x:Nat)<4611686018427387904):BB mt tx (.E (I8 fS fN) x.cells k (mkItem x k).cells (k+(Ia x:Nat))):=by
 unfold Ia at *;have aoC:=FX x.am4;obtain⟨K1,e1⟩:∃z:Int,z=k+((1:Nat):Int):=⟨_,rfl⟩;obtain⟨K2,e2⟩:∃z:Int,z=K1+((1:Nat):Int):=⟨_,rfl⟩;obtain⟨K3,e3⟩:∃z:Int,z=K2+((1:Nat):Int):=⟨_,rfl⟩;obtain⟨K4,e4⟩:∃z:Int,z=K3+((1:Nat):Int):=⟨_,rfl⟩;obtain⟨K5,e5⟩:∃z:Int,z=K4+((1:Nat):Int):=⟨_,rfl⟩;obtain⟨K6,e6⟩:∃z:Int,z=K5+(x.am4.aiJ.length:Int):=⟨_,rfl⟩;obtain⟨K7,e7⟩:∃z:Int,z=K6+((xG x.am4.ajX:Nat):Int):=⟨_,rfl⟩;have eL:k+((1+1+UK x.am4:Nat):Int)=K7:=by omega
 have o0:k+((0:Nat):Int)=k:=by omega
 have o1:k+((1:Nat):Int)=K1:=by omega
 have o2:k+((1+1:Nat):Int)=K2:=by omega
 rw[eL];rw[bg.gy,bg.gy];unfold mkItem;simp only[LQ,o0,o1,o2];have i0:K2+1=K3:=by omega
 have i1:K2+2=K4:=by omega
 have i2:K5+(x.am4.aiJ.length:Int)=K6:=by omega
 have i3:K2+3=K5:=by omega
 simp only[i0,i1,i2,i3];refine BB.es' (k1:=K1) ⟨by omega,by omega⟩ ⟨by omega,by omega⟩ (by omega) (by simp) ?_;refine BB.ei' (k1:=K2) ⟨by omega,by omega⟩ ⟨by omega,by omega⟩ (by omega) (by simp) ?_;refine BB.ei' (k1:=K3) ⟨by omega,by omega⟩ ⟨by omega,by omega⟩ (by omega) (by simp) ?_;refine BB.ei' (k1:=K4) ⟨by omega,by omega⟩ ⟨by omega,by omega⟩ (by omega) (by simp) ?_;refine BB.es' (k1:=K5) ⟨by omega,by omega⟩ ⟨by omega,by omega⟩ (by omega) (by simp) ?_;refine BB.ef (k1:=K6) (c:=.sl 1 (x.am4.aiJ.map cS)) (by simp) ((EI M x.am4.aiJ (by omega) (by omega)).to (by omega)) ?_;refine BB.ef (k1:=K7) (c:=.sl 5 (x.am4.ajX.map ak.cells)) (by simp) ((Ru M x.am4.ajX (by omega) (by omega)).to (by rw[LU];omega)) ?_;simpa using BB.e0
theorem YJ {mt:D6}{fS fN tS tN:Nat}(M:MT mt fS fN tS tN):∀(l:List bg) {k:Int},0<=k->k+(iY l:Nat)<4611686018427387904->BB mt tx (.L (I8 fS fN) (l.map bg.cells) k ((DY l k).map bg.cells) (k+(iY l:Nat)))
 |[],k,_,_=>by simpa[DY,iY]using BB.l0
 | o::r,k,h0,h1=>by simp only[iY]at h1;have h2:=ai1 M o (k:=k) h0 (by omega);have h3:=YJ M r (k:=k+(Ia o:Nat)) (by omega) (by omega);simp only[aZ,DY,iY];have e:k+((Ia o:Nat):Int)+((iY r:Nat):Int)=k+((Ia o+iY r:Nat):Int):=(by omega);rw[e]at h3;exact .l1 h2 h3
theorem ak8 {mt:D6}{fS fN tS tN tX fX:Nat}(M:MT mt fS fN tS tN)(hX:mt fX=some (tX,7,I8 fS fN))(l:List bg){k:Int}(h0:0<=k)(h1:k+(iY l:Nat)<4611686018427387904):BB mt tx (.C fX (.sl 7 (l.map bg.cells)) k (.sl 7 ((DY l k).map bg.cells)) (k+(iY l:Nat))):=
 .c hX ⟨h0,by omega⟩ (YJ M l h0 h1)
theorem akN {P:Program}{tS tN tP:Nat}(H:TyH P tS tN tP)(x:bg)(a b:Nat)(j sz:Nat)(es:List (List Cell))(h:x.cells[j]? = some (.sl sz es)):∃r,r∈[(5,tS,a),(6,tN,b)]/\r.1=j/\OD P r.2.1 (.sl sz es):=by
 rw[bg.gy]at h
 match j,h with
 | 5,h=>simp only[dM,dN,aC,Cell.sl.injEq]at h;obtain⟨rfl,rfl⟩:=h;exact⟨(5,tS,a),by simp,rfl,Gh H.s _⟩
 | 6,h=>simp only[dM,dN,aC,Cell.sl.injEq]at h;obtain⟨rfl,rfl⟩:=h;exact⟨(6,tN,b),by simp,rfl,IZ H.s H.n H.rn _⟩
 |0,h=>simp at h
 |1,h=>simp at h
 |2,h=>simp at h
 |3,h=>simp at h
 |4,h=>simp at h
 |j+7,h=>simp at h
theorem ag5 {P:Program}{tS tN tP tX:Nat}(H:TyH P tS tN tP)(h4:wz P tX=7)(h5:lZ P tX=[(5,tS),(6,tN)])(l:List bg):OD P tX (.sl 7 (l.map bg.cells)):=by
 have key:∀(i j sz':Nat) (es':List (List Cell)),((l.map bg.cells).getD i [])[j]? = some (.sl sz' es')->(j,(if j=6 then tN else tS))∈lZ P tX/\OD P (if j=6 then tN else tS) (.sl sz' es'):=by
  intro i j sz' es' h;simp only[bf,bP]at h;cases hl:l[i]? with
  |none=>rw[hl]at h;simp at h
  | some o=>rw[hl]at h;simp only[iR,jQ]at h;obtain⟨r,hr,rfl,ht⟩:=akN H o 0 0 j sz' es' h;simp only[ay,dn,or_false]at hr;rcases hr with rfl|rfl<;>exact⟨by simp[h5],by simpa using ht⟩
 exact .sl _ _ _ (λj=>(if j=6 then tN else tS)) h4 (λi j sz' es' h=>(key i j sz' es' h).1) (λi j sz' es' h=>(key i j sz' es' h).2)
theorem T.agf (l:List bg){k:Int}(h0:0<=k)(h1:k+(iY l:Nat)<4611686018427387904)(hlen:l.length<4611686018427387904):Ev (λf=>G.lM f (DY l k) k) (k+(iY l:Nat)):=by
 have L:∀(m i:Nat),i+m=l.length->Ev (λf=>G.lM.L1 f (DY l k) (k+(iY (l.take i):Nat)) i) (k+(iY l:Nat)):=by
  intro m
  induction m with
  | zero=>intro i hi;refine ais ?_;simp only[G.lM.L1,Oc];exact anm (ake (by rw[aT (by omega)]))
  | succ m ih=>
    intro i hi;have hil:i<l.length:=(by omega);have hs:=Rn l hil;have hle:=WW l (i+1);have hg:=UI l k hil;generalize hq:l.getD i default=q at hs hg;unfold Ia at hs;obtain⟨K0,e0⟩:∃z:Int,z=k+(iY (l.take i):Nat):=⟨_,rfl⟩;rw[<- e0]at hg;have aoC:=FX q.am4;obtain⟨K1,e1⟩:∃z:Int,z=K0+((1:Nat):Int):=⟨_,rfl⟩;obtain⟨K2,e2⟩:∃z:Int,z=K1+((1:Nat):Int):=⟨_,rfl⟩;obtain⟨K3,e3⟩:∃z:Int,z=K2+((1:Nat):Int):=⟨_,rfl⟩;obtain⟨K4,e4⟩:∃z:Int,z=K3+((1:Nat):Int):=⟨_,rfl⟩;obtain⟨K5,e5⟩:∃z:Int,z=K4+((1:Nat):Int):=⟨_,rfl⟩;obtain⟨K6,e6⟩:∃z:Int,z=K5+(q.am4.aiJ.length:Int):=⟨_,rfl⟩;obtain⟨K7,e7⟩:∃z:Int,z=K6+((xG q.am4.ajX:Nat):Int):=⟨_,rfl⟩;have o0:K0+((0:Nat):Int)=K0:=(by omega);have o1:K0+((1:Nat):Int)=K1:=(by omega);have o2:K0+((1+1:Nat):Int)=K2:=(by omega);have i0:K2+1=K3:=(by omega);have i1:K2+2=K4:=(by omega);have i2:K5+(q.am4.aiJ.length:Int)=K6:=(by omega);have i3:K2+3=K5:=(by omega);unfold mkItem at hg;simp only[LQ,o0,o1,o2]at hg;simp only[i0,i1,i2,i3]at hg;have w0:af .i64 (K0+1)=K1:=(by rw[Cj (by omega) (by omega)];omega);have w1:af .i64 (K1+1)=K2:=(by rw[Cj (by omega) (by omega)];omega);have w2:af .i64 (K2+1)=K3:=(by rw[Cj (by omega) (by omega)];omega);have w3:af .i64 (K3+1)=K4:=(by rw[Cj (by omega) (by omega)];omega);have w4:af .i64 (K4+1)=K5:=(by rw[Cj (by omega) (by omega)];omega);have g5:=(T.QY (l:=q.am4.aiJ) (k:=K5) (by omega) (by omega)).eq (show _=K6 by omega);have g6:=(T.Tz q.am4.ajX (k:=K6) (by omega) (by omega)).eq (show _=K7 by omega);have e9:=ih (i+1) (by omega);have e8:k+((iY (l.take (i+1)):Nat):Int)=K7:=(by omega);rw[e8]at e9;rw[<- e0];refine ais ?_;simp only[G.lM.L1,Oc,aj,hg,wrS i];refine ani ?_;refine alI (af5 (Sj ⟨by omega,by omega⟩) (alZ (by simp) ?_))
    try simp only[w0]
    refine alI (alW (by simp) ?_)
    try simp only[w1]
    refine alI (alW (by simp) ?_)
    try simp only[w2]
    refine alI (alW (by simp) ?_)
    try simp only[w3]
    refine alI (af5 (Sj ⟨by omega,by omega⟩) (alZ (by simp) ?_))
    try simp only[w4]
    refine alI (af5 g5 (anm ?_));refine alI (af5 g6 (anm ?_));exact e9
 refine ais ?_;simp only[G.lM];have:=L l.length 0 (by omega);simpa[iY]using this
theorem Wl {P:Program}{tS tN tP:Nat}(H:TyH P tS tN tP)(x:akh)(a b c d e:Nat)(j sz:Nat)(es:List (List Cell))(h:x.cells[j]? = some (.sl sz es)):∃r,r∈[(2,tS,a),(3,tS,b),(7,tS,c),(8,tN,d),(9,tP,e)]/\r.1=j/\OD P r.2.1 (.sl sz es):=by
 rw[akh.gy]at h
 match j,h with
 | 2,h=>simp only[dM,dN,aC,Cell.sl.injEq]at h;obtain⟨rfl,rfl⟩:=h;exact⟨(2,tS,a),by simp,rfl,Gh H.s _⟩
 | 3,h=>simp only[dM,dN,aC,Cell.sl.injEq]at h;obtain⟨rfl,rfl⟩:=h;exact⟨(3,tS,b),by simp,rfl,Gh H.s _⟩
 | 7,h=>simp only[dM,dN,aC,Cell.sl.injEq]at h;obtain⟨rfl,rfl⟩:=h;exact⟨(7,tS,c),by simp,rfl,Gh H.s _⟩
 | 8,h=>simp only[dM,dN,aC,Cell.sl.injEq]at h;obtain⟨rfl,rfl⟩:=h;exact⟨(8,tN,d),by simp,rfl,IZ H.s H.n H.rn _⟩
 | 9,h=>simp only[dM,dN,aC,Cell.sl.injEq]at h;obtain⟨rfl,rfl⟩:=h;exact⟨(9,tP,e),by simp,rfl,alB H.s H.n H.rn H.p H.rp _⟩
 |0,h=>simp at h
 |1,h=>simp at h
 |4,h=>simp at h
 |5,h=>simp at h
 |6,h=>simp at h
 |j+10,h=>simp at h
def yT (x:aI):Nat:=1+1+1+UK x.Body
def iL : List aI->Nat
 |[]=>0
 |o::r=>yT o+iL r
theorem UA {P:Program}{tS tN tP:Nat}(H:TyH P tS tN tP)(x:aI)(a b:Nat)(j sz:Nat)(es:List (List Cell))(h:x.cells[j]? = some (.sl sz es)):∃r,r∈[(6,tS,a),(7,tN,b)]/\r.1=j/\OD P r.2.1 (.sl sz es):=by
 rw[aI.gy]at h
 match j,h with
 | 6,h=>simp only[dM,dN,aC,Cell.sl.injEq]at h;obtain⟨rfl,rfl⟩:=h;exact⟨(6,tS,a),by simp,rfl,Gh H.s _⟩
 | 7,h=>simp only[dM,dN,aC,Cell.sl.injEq]at h;obtain⟨rfl,rfl⟩:=h;exact⟨(7,tN,b),by simp,rfl,IZ H.s H.n H.rn _⟩
 |0,h=>simp at h
 |1,h=>simp at h
 |2,h=>simp at h
 |3,h=>simp at h
 |4,h=>simp at h
 |5,h=>simp at h
 |j+8,h=>simp at h
section
variable {mt:D6} {sb:Y5} {fS fN tS tN fP tP fI tI fM:Nat} {ty:Nat->Nat}
noncomputable def TU (s:alG)(k:Int):alG:=alG.mk (DY s.akj k) s.amJ
theorem La (M:MT mt fS fN tS tN)(hI:mt fI=some (tI,7,I8 fS fN))(h0':ty 0=tI)(s:alG){k:Int}(h0:0<=k)(h1:k+(iY s.akj:Nat)<4611686018427387904):SR mt sb tx ty [.sl 0 fI] s.cells k (TU s k).cells (k+(iY s.akj:Nat)):=by have e1:=ak8 M hI s.akj h0 h1;rw[alG.gy,alG.gy];refine .sl (c:=.sl 7 (s.akj.map bg.cells)) rfl ⟨_,_,by rw[h0'];exact hI⟩ e1 ?_;simpa[TU]using SR.nil
def rqc (q:akh):Nat:=q.anx.length+q.lY.length+Uf q.Body+Jy q.Ops
noncomputable def aoD (q:akh)(k:Int):akh:=akh.mk q.amI q.al9 (J7 q.anx k) (J7 q.lY (k+q.anx.length)) (mkRoot q.Body (k+q.anx.length+q.lY.length)) (WY q.Ops (k+q.anx.length+q.lY.length+Uf q.Body))
theorem ael (M:MT mt fS fN tS tN)(hP:mt fP=some (tP,8,Qj fS fN))(hs:sb fM=some (5,[.sl 3 fS,.sl 4 fN]))(h2:ty 2=tS)(h3:ty 3=tS)(h7:ty 7=tS)(h8:ty 8=tN)(h9:ty 9=tP)(q:akh){k:Int}(h0:0<=k)(h1:k+(rqc q:Nat)<4611686018427387904):SR mt sb tx ty [.sl 2 fS,.sl 3 fS,.st 4 5 fM,.sl 9 fP] q.cells k (aoD q k).cells (k+(rqc q:Nat)):=by
 unfold rqc at *;have e1:=EI M q.anx (k:=k) h0 (by omega);have e2:=EI M q.lY (k:=k+q.anx.length) (by omega) (by omega);have e3:=afh (sb:=sb) (ty:=λj=>ty (4+j)) M (by simpa using h7) (by simpa using h8) q.Body (k:=k+q.anx.length+q.lY.length) (by omega) (by omega);have e4:=ai2 M hP q.Ops (k:=k+q.anx.length+q.lY.length+Uf q.Body) (by omega) (by omega);have e:k+((q.anx.length+q.lY.length+Uf q.Body+Jy q.Ops:Nat):Int)=k+q.anx.length+q.lY.length+Uf q.Body+Jy q.Ops:=by omega
 rw[e,akh.gy,akh.gy];refine .sl (c:=.sl 1 (q.anx.map cS)) rfl ⟨_,_,by rw[h2];exact M.s⟩ e1 (.sl (c:=.sl 1 (q.lY.map cS)) rfl ⟨_,_,by rw[h3];exact M.s⟩ e2 (.st hs (by simp) e3 rfl (.sl (c:=.sl 8 (q.Ops.map pW.cells)) rfl ⟨_,_,by rw[h9];exact hP⟩ e4 ?_)));simpa[aoD,mkRoot]using SR.nil
noncomputable def adT (r:aI)(k:Int):aI:=aI.mk r.anA r.Tag r.amX (mkRoot r.Body k)
theorem ack (M:MT mt fS fN tS tN)(hs:sb fM=some (5,[.sl 3 fS,.sl 4 fN]))(h6:ty 6=tS)(h7:ty 7=tN)(r:aI){k:Int}(h0:0<=k)(h1:k+Uf r.Body<4611686018427387904):SR mt sb tx ty [.st 3 5 fM] r.cells k (adT r k).cells (k+Uf r.Body):=by have e3:=afh (sb:=sb) (ty:=λj=>ty (3+j)) M (by simpa using h6) (by simpa using h7) r.Body (k:=k) h0 h1;rw[aI.gy,aI.gy];refine .st hs (by simp) e3 rfl ?_;simpa[adT,mkRoot]using SR.nil
end
theorem KH {P:Program}{tS tN tP tI:Nat}(H:TyH P tS tN tP)(h4:wz P tI=7)(h5:lZ P tI=[(5,tS),(6,tN)])(x:alG)(a:Nat)(j sz:Nat)(es:List (List Cell))(h:x.cells[j]? = some (.sl sz es)):∃r,r∈[(0,tI,a)]/\r.1=j/\OD P r.2.1 (.sl sz es):=by
 rw[alG.gy]at h
 match j,h with
 | 0,h=>simp only[dN,aC,Cell.sl.injEq]at h;obtain⟨rfl,rfl⟩:=h;exact⟨(0,tI,a),by simp,rfl,ag5 H h4 h5 _⟩
 |1,h=>simp at h
 |j+2,h=>simp at h
theorem T.TA (s:alG){k:Int}(h0:0<=k)(h1:k+(iY s.akj:Nat)<4611686018427387904)(hl:s.akj.length<4611686018427387904):Ev (λf=>G.pU f (TU s k) k) (k+(iY s.akj:Nat)):=by refine ais ?_;simp only[G.pU,TU];exact af5 (T.agf s.akj h0 h1 hl) (anm (akk _))
theorem T.ZJ (r:aI){k:Int}(h0:0<=k)(h1:k+Uf r.Body<4611686018427387904):Ev (λf=>G.qR f (adT r k) k) (k+Uf r.Body):=by refine ais ?_;simp only[G.qR,adT,ak.eta];exact af5 (T.aie r.Body h0 h1) (anm (akk _))
end
section
def okN (b:UInt8):Bool:=(decide (97<=b.toNat)&&decide (b.toNat<=122))||(decide (48<=b.toNat)&&decide (b.toNat<=57))
def NmV (s:dR):Bool:=s.all okN&&(decide (1<=s.length)&&decide (s.length<=8))
def SC (c:Int)(it:bg):Bool:=NmV it.al9&&(Val it.am4&&(decide (1<=it.amX)&&decide (it.amX<=c)))
def A7 (l:List bg):List dR:=l.map λit=>it.al9
def H7 (s:alG):Bool:=(s.akj.all (SC s.amJ)&&Asc (A7 s.akj))&&(decide (s.akj.length<=10)&&(decide (0<=s.amJ)&&decide (s.amJ<=999)))
structure JE (B:Nat)(s:alG):Prop where
 len:s.akj.length<=B
 U5:∀it,it∈s.akj->it.al9.length<=B
 ZX:∀it,it∈s.akj->aaE B it.am4
theorem zh {l:List bg} : (A7 l).length=l.length:=by unfold A7;rw[List.length_map]
theorem F6 {l:List bg}{i:Nat}(h:i<l.length):(A7 l).getD i default=(l.getD i default).al9:=by rw[gJ _ (by rw[zh];exact h),gJ _ h];unfold A7;rw[List.getElem_map]
theorem QG {l:List dR}{i:Nat}(h0:0<i)(h:i<l.length):Asc (l.drop (i-1))=(bl (l.getD (i-1) default) (l.getD i default)&&Asc (l.drop i)):=by rw[drop_pred h0 h,Asc,dW (default:dR) h]
theorem Vo {l:List dR}{i:Nat}(h:l.length<=i):Asc (l.drop (i-1))=true:=by
 by_cases h0:l.length<=i-1
 ·rw[au h0];rfl
 ·rw[dW (default:dR) (by omega:i-1<l.length),au (by omega)];rfl
theorem T.iO.L1 (s:dR)(hs:s.length<big):∀(k i:Nat),i+k=s.length->Ev (λf=>G.iO.L1 f s i) ((s.drop i).all okN&&(decide (1<=s.length)&&decide (s.length<=8))):=by
 unfold big at hs;intro k
 induction k with
 | zero=>
   intro i hi;refine ais ?_;simp only[G.iO.L1];refine anm (af5 (T.gu _ _ _) (ake ?_));rw[au (by omega),vS,bV]
   congr 1<;>(apply decide_eq_decide.2;omega)
 | succ k ih=>
   intro i hi;refine ais ?_;simp only[G.iO.L1,aj,KD,wrS i];rw[dW (0:UInt8) (by omega:i<s.length),dH];have e1:(decide ((97:Int)<=((s.getD i 0).toNat:Int))&&decide (((s.getD i 0).toNat:Int)<=122))=(decide (97<=(s.getD i 0).toNat)&&decide ((s.getD i 0).toNat<=122)):=(by congr 1<;>(apply decide_eq_decide.2;omega));have e2:(decide ((48:Int)<=((s.getD i 0).toNat:Int))&&decide (((s.getD i 0).toNat:Int)<=57))=(decide (48<=(s.getD i 0).toNat)&&decide ((s.getD i 0).toNat<=57)):=(by congr 1<;>(apply decide_eq_decide.2;omega));refine ani (alI (af5 (T.gu _ _ _) ?_));rw[e1];refine alH (λh=>?_) (λh=>?_)
   ·refine(ih (i+1) (by omega)).eq ?_;unfold okN;rw[show(decide (97<=(s.getD i 0).toNat)&&decide ((s.getD i 0).toNat<=122))=true from h,yX,bV]
   ·refine alI (af5 (T.gu _ _ _) ?_);rw[e2];refine alH (λh2=>?_) (λh2=>ake ?_)
    ·refine(ih (i+1) (by omega)).eq ?_;unfold okN;rw[show(decide (48<=(s.getD i 0).toNat)&&decide ((s.getD i 0).toNat<=57))=true from h2,xC,bV]
    ·unfold okN;rw[show(decide (97<=(s.getD i 0).toNat)&&decide ((s.getD i 0).toNat<=122))=false from h,show(decide (48<=(s.getD i 0).toNat)&&decide ((s.getD i 0).toNat<=57))=false from h2];rfl
theorem T.iO (s:dR)(hs:s.length<big):Ev (λf=>G.iO f s) (NmV s):=by refine ais ?_;simp only[G.iO];exact T.iO.L1 s hs s.length 0 (by omega)
theorem T.jR.L1 (s:dR)(hs:s.length<big):∀(k i:Nat),i+k=s.length->Ev (λf=>G.jR.L1 f s i) ((s.drop i).all okN):=by
 unfold big at hs;intro k
 induction k with
 | zero=>intro i hi;refine ais ?_;simp only[G.jR.L1];refine anm (ake ?_);rw[au (by omega)];rfl
 | succ k ih=>
   intro i hi;refine ais ?_;simp only[G.jR.L1,aj,wrS i];rw[dW (0:UInt8) (by omega:i<s.length),dH];have yes:okN (s.getD i 0)=true->Ev (λf=>G.jR.L1 f s ((i+1:Nat):Int)) (okN (s.getD i 0)&&(s.drop (i+1)).all okN):=λh=>(ih (i+1) (by omega)).eq (by rw[h];rfl);have no:okN (s.getD i 0)=false->Ev (λ_=>some false) (okN (s.getD i 0)&&(s.drop (i+1)).all okN):=λh=>ake (by rw[h];rfl);have ok:okN (s.getD i 0)=decide ((97<=(s.getD i 0).toNat/\(s.getD i 0).toNat<=122)\/(48<=(s.getD i 0).toNat/\(s.getD i 0).toNat<=57)):=(by unfold okN;simp);refine ani (alI ?_);refine alH (λh=>?_) (λh=>?_)
   ·simp only[ahm]at h;refine alI (alH (λh2=>?_) (λh2=>?_))
    ·simp only[ahm]at h2;exact no (by rw[ok];exact aki (by omega))
    ·simp only[alR]at h2;refine alI (alH (λh3=>?_) (λh3=>?_))
     ·simp only[ahm]at h3;exact no (by rw[ok];exact aki (by omega))
     ·simp only[alR]at h3;exact yes (by rw[ok];exact al6 (by omega))
   ·simp only[alR]at h;refine alI (alH (λh2=>?_) (λh2=>?_))
    ·simp only[ahm]at h2;refine alI (anm (alI (ani ?_)));exact no (by rw[ok];exact aki (by omega))
    ·simp only[alR]at h2;exact yes (by rw[ok];exact al6 (by omega))
theorem T.jR (s:dR)(hs:s.length<big):Ev (λf=>G.jR f s) (NmV s):=by
 refine ais ?_;simp only[G.jR];unfold NmV;refine alH (λh=>ake ?_) (λh=>alH (λh2=>ake ?_) (λh2=>?_))
 ·have:s=[]:=by simpa using h
  subst this;rfl
 ·simp only[ahm]at h2;rw[aki (show ¬s.length<=8 by omega),nT,nT]
 ·simp only[alR]at h2;have hne:s≠[]:=by simpa using h
  have hl:1<=s.length:=by cases s with
   |nil=>exact al7 rfl hne
   |cons _ _=>simp
  refine(T.jR.L1 s hs s.length 0 (by omega)).eq ?_;rw[al6 hl,al6 (show s.length<=8 by omega),bT];simp
def ame (B:Nat)(n:ak):Prop:=∃D,zJ B D n
structure XZ (B:Nat)(s:alG):Prop where
 len:s.akj.length<=B
 U5:∀it,it∈s.akj->it.al9.length<=B
 ZX:∀it,it∈s.akj->ame B it.am4
theorem XZ.at_ {B:Nat}{s:alG}(h:XZ B s){i:Nat}(hi:i<s.akj.length):(s.akj.getD i default).al9.length<=B/\ame B (s.akj.getD i default).am4:=
 ⟨h.U5 _ (getD_mem default hi),h.ZX _ (getD_mem default hi)⟩
section
variable {B:Nat} {s:alG} (hB:B<=lim) (h:XZ B s)
include hB h
theorem T0.dF.L1 : ∀(k i:Nat),i+k=s.akj.length->Ev (λf=>G.dF.L1 f s i) (((s.akj.drop i).all (SC s.amJ)&&Asc ((A7 s.akj).drop (i-1)))&&(decide (s.akj.length<=10)&&(decide (0<=s.amJ)&&decide (s.amJ<=999)))):=by
 have hl:=h.len;unfold lim at hB;intro k
 induction k with
 | zero=>
   intro i hi;refine ais ?_;simp only[G.dF.L1];rw[au (by omega),Vo (by rw[zh];omega)];refine anm (alH (λe=>?_) (λe=>ake ?_))
   ·refine af5 (T.gu _ _ _) (ake ?_);rw[al6 (show s.akj.length<=10 by simp only[ahm]at e;omega)];simp
   ·rw[aki (show ¬s.akj.length<=10 by simp only[alR]at e;omega)];simp
 | succ k ih=>
   intro i hi;have hil:i<s.akj.length:=(by omega);obtain⟨hn,⟨D,hd⟩⟩:=h.at_ hil;refine ais ?_;simp only[G.dF.L1,aj,wrS i];rw[dW (default:bg) hil,dH];refine ani (alI ?_);unfold SC;refine af5 (T.iO _ (by unfold big;omega)) (alH (λe1=>?_) (λe1=>ake (by rw[e1];simp)));refine af5 (T0.fZ (by unfold lim;omega) hd) (alH (λe2=>?_) (λe2=>ake (by rw[e2];simp)));refine af5 (T.gu _ _ _) (alH (λe3=>?_) (λe3=>ake (by rw[e3];simp)));rw[e1,e2,e3];have ih':=ih (i+1) (by omega);unfold SC at ih';rw[iH]at ih';by_cases h0:0<i
   ·have e:af .i64 ((i:Int)-1)=((i-1:Nat):Int):=wrapN (by omega) (by omega);rw[e,aj];rw[QG h0 (by rw[zh];exact hil),F6 hil,F6 (by omega:i-1<s.akj.length)];refine ani (alI (alH (λh1=>ake ?_) (λh1=>alH (λh2=>ake ?_) (λh2=>?_))))
    ·rw[show bl (s.akj.getD (i-1) default).al9 (s.akj.getD i default).al9=false from QH h1];simp
    ·rw[akg]at h2;rw[show bl (s.akj.getD (i-1) default).al9 (s.akj.getD i default).al9=false by rw[h2];exact P8 _];simp
    ·have hb:bl (s.akj.getD (i-1) default).al9 (s.akj.getD i default).al9=true:=by
      cases hb:bl (s.akj.getD (i-1) default).al9 (s.akj.getD i default).al9 with
      |true=>rfl
      |false=>rw[Nz h1 hb]at h2;simp at h2
     rw[hb];exact ih'.eq (by simp)
   ·have:i=0:=(by omega);subst this;exact alW (by decide) (ih'.eq (by simp))
theorem T0.dF : Ev (λf=>G.dF f s) (H7 s):=by refine ais ?_;simp only[G.dF];exact T0.dF.L1 hB h s.akj.length 0 (by omega)
theorem T0.bM.L1 : ∀(k i:Nat),i+k=s.akj.length->Ev (λf=>G.bM.L1 f s i) ((s.akj.drop i).all (SC s.amJ)&&Asc ((A7 s.akj).drop (i-1))):=by
 have hl:=h.len;unfold lim at hB;intro k
 induction k with
 | zero=>intro i hi;refine ais ?_;simp only[G.bM.L1];rw[au (by omega),Vo (by rw[zh];omega)];exact anm (akk _)
 | succ k ih=>
   intro i hi;have hil:i<s.akj.length:=(by omega);obtain⟨hn,⟨D,hd⟩⟩:=h.at_ hil;refine ais ?_;simp only[G.bM.L1,aj,wrS i];rw[dW (default:bg) hil,dH];have ih':=ih (i+1) (by omega);rw[iH]at ih';refine ani (alI ?_);refine af5 (T.jR _ (by unfold big;omega)) (alH (λe1=>?_) (λe1=>ake (by unfold SC;rw[e1];simp)));have tail:∀q:Bool,(q=true->Asc ((A7 s.akj).drop (i-1))=Asc ((A7 s.akj).drop i))->q=true->Ev (λf=>cond (decide ((s.akj.getD i default).amX<1)) (some false) (cond (decide (s.amJ<(s.akj.getD i default).amX)) (some false)
    (lG (G.bJ f (s.akj.getD i default).am4) λv=>cond v (G.bM.L1 f s ((i+1:Nat):Int)) (some false)))) (SC s.amJ (s.akj.getD i default)&&(s.akj.drop (i+1)).all (SC s.amJ)&&Asc ((A7 s.akj).drop (i-1))):=λq hq hq'=>by
    rw[hq hq'];refine alH (λv1=>ake ?_) (λv1=>alH (λv2=>ake ?_) (λv2=>?_))
    ·simp only[ahm]at v1;unfold SC;rw[aki (show ¬ 1<=(s.akj.getD i default).amX by omega)];simp
    ·simp only[ahm]at v2;unfold SC;rw[aki (show ¬(s.akj.getD i default).amX<=s.amJ by omega)];simp
    ·simp only[alR]at v1 v2;refine af5 (T0.bJ (by unfold lim;omega) hd) (alH (λe2=>?_) (λe2=>ake (by unfold SC;rw[e2];simp)));refine ih'.eq ?_;have:SC s.amJ (s.akj.getD i default)=true:=by
      unfold SC;rw[e1,e2,al6 (show 1<=(s.akj.getD i default).amX by omega),al6 (show(s.akj.getD i default).amX<=s.amJ by omega)];rfl
     rw[this];rfl
   by_cases h0:0<i
   ·have e:af .i64 ((i:Int)-1)=((i-1:Nat):Int):=wrapN (by omega) (by omega);rw[e,aj];have hst:=QG h0 (l:=A7 s.akj) (by rw[zh];exact hil);rw[F6 hil,F6 (by omega:i-1<s.akj.length)]at hst;refine ani (alI (alH (λh1=>?_) (λh1=>ake ?_)))
    ·exact tail true (λ_=>by rw[hst,show bl (s.akj.getD (i-1) default).al9 (s.akj.getD i default).al9=true from h1];rfl) rfl
    ·rw[hst,show bl (s.akj.getD (i-1) default).al9 (s.akj.getD i default).al9=false from h1];simp
   ·have:i=0:=(by omega);subst this;exact alW (by decide) (tail true (λ_=>rfl) rfl)
theorem T0.bM : Ev (λf=>G.bM f s) (H7 s):=by
 refine ais ?_;simp only[G.bM];unfold H7;refine alH (λe=>ake ?_) (λe=>alH (λe2=>ake ?_) (λe2=>alH (λe3=>ake ?_) (λe3=>?_)))
 ·rw[aki (show ¬s.akj.length<=10 by simp only[ahm]at e;omega)];simp
 ·rw[aki (show ¬ 0<=s.amJ by simp only[ahm]at e2;omega)];simp
 ·rw[aki (show ¬s.amJ<=999 by simp only[ahm]at e3;omega)];simp
 ·simp only[alR]at e e2 e3;refine(T0.bM.L1 hB h s.akj.length 0 (by omega)).eq ?_;rw[al6 (show s.akj.length<=10 by omega),al6 (show 0<=s.amJ by omega),al6 (show s.amJ<=999 by omega),bT];simp
end
theorem JE.at_ {B:Nat}{s:alG}(h:JE B s){i:Nat}(hi:i<s.akj.length):(s.akj.getD i default).al9.length<=B/\aaE B (s.akj.getD i default).am4:=
 ⟨h.U5 _ (getD_mem default hi),h.ZX _ (getD_mem default hi)⟩
theorem JE.fin {B:Nat}{s:alG}(h:JE B s):XZ B s:=⟨h.len,h.U5,λit hi=>let ⟨D,hd⟩:=h.ZX it hi;⟨D,hd.fin0⟩⟩
section
variable {B:Nat} {s:alG} (hB:B<=lim) (h:JE B s)
include hB h
theorem T.dF : Ev (λf=>G.dF f s) (H7 s):=T0.dF hB h.fin
theorem T.bM : Ev (λf=>G.bM f s) (H7 s):=T0.bM hB h.fin
theorem T.dU : Ev (λf=>G.dU f s) s:=by
 have hl:=h.len;unfold lim at hB;have L:∀(k i:Nat),i+k=s.akj.length->Ev (λf=>G.dU.L1 f s i (s.akj.take i)) s:=by
  intro k
  induction k with
  | zero=>intro i hi;refine ais ?_;simp only[G.dU.L1];refine anm (ake ?_);rw[aT (by omega)]
  | succ k ih=>intro i hi;have hil:i<s.akj.length:=(by omega);obtain⟨hn,⟨D,hd⟩⟩:=h.at_ hil;refine ais ?_;simp only[G.dU.L1,aj,wrS i];refine ani (alI (alI (alI (af5 (T.bG (by unfold lim;omega) hd) (ant (by simp;omega) ?_)))));have:=ih (i+1) (by omega);rw[jS hil,<- gJ (default:bg) hil]at this;exact this
 refine ais ?_;simp only[G.dU];exact L s.akj.length 0 (by omega)
theorem T.dG : Ev (λf=>G.dG f s) s:=by
 have hl:=h.len;unfold lim at hB;have L:∀(k i:Nat),i+k=s.akj.length->Ev (λf=>G.dG.L1 f s i (s.akj.take i++bC (s.akj.length-i) (bg.mk [] 0 (ak.mk 0 0 [] [] [])))) s:=by
  intro k
  induction k with
  | zero=>intro i hi;refine ais ?_;simp only[G.dG.L1];refine anm (ake ?_);rw[aT (by omega),show s.akj.length-i=0 by omega,List.replicate_zero,iQ]
  | succ k ih=>
    intro i hi;have hil:i<s.akj.length:=(by omega);obtain⟨hn,⟨D,hd⟩⟩:=h.at_ hil;have hc:Ev (λf=>G.rO f (s.akj.getD i default)) (s.akj.getD i default):=by refine ais ?_;simp only[G.rO];exact af5 (T.aV (by unfold lim;omega) hd) (akk _)
    refine ais ?_;simp only[G.dG.L1,aj,wrS i];refine ani (alI (af5 hc (ant (by simp;omega) ?_)));have hset:(s.akj.take i++bC (s.akj.length-i) (bg.mk [] 0 (ak.mk 0 0 [] [] []))).set i (s.akj.getD i default)=s.akj.take (i+1)++bC (s.akj.length-(i+1)) (bg.mk [] 0 (ak.mk 0 0 [] [] [])):=by obtain⟨q,hq⟩:∃q,s.akj.length-i=q+1:=⟨s.akj.length-i-1,by omega⟩;have e1:(s.akj.take i).length=i:=(by simp;omega);rw[hq,List.replicate_succ,List.set_append_right _ _ (by omega),e1,Nat.sub_self,Jz,show s.akj.length-(i+1)=q by omega,jS hil,gJ _ hil,gX];rfl
    rw[hset];exact ih (i+1) (by omega)
 refine ais ?_;simp only[G.dG];refine alH (λe=>?_) (λe=>ake ?_)
 ·refine alI ?_;have:=L s.akj.length 0 (by omega);rw[List.take_zero,jI,Nat.sub_zero]at this;exact this
 ·have:s.akj=[]:=fO (by simp only[alR]at e;omega);cases s;simp only at this;subst this;rfl
end
structure StF (s:alG):Prop where
 itm:∀it,it∈s.akj->SC s.amJ it=true
 QE:Asc (A7 s.akj)=true
 len:s.akj.length<=10
 lo:0<=s.amJ
 hi:s.amJ<=999
theorem Ai {s:alG} : H7 s=true<->StF s:=by unfold H7;simp only[ah,ahm,aP];exact⟨λ⟨⟨h1,h2⟩,h3,h4,h5⟩=>⟨h1,h2,h3,h4,h5⟩,λh=>⟨⟨h.itm,h.QE⟩,h.len,h.lo,h.hi⟩⟩
structure ItF (c:Int)(it:bg):Prop where
 U5:NmV it.al9=true
 ZX:Val it.am4=true
 lo:1<=it.amX
 hi:it.amX<=c
theorem TI {c:Int}{it:bg} : SC c it=true<->ItF c it:=by unfold SC;simp only[ah,ahm];exact⟨λ⟨h1,h2,h3,h4⟩=>⟨h1,h2,h3,h4⟩,λh=>⟨h.U5,h.ZX,h.lo,h.hi⟩⟩
theorem Xc {s:dR}(h:NmV s=true):1<=s.length/\s.length<=8:=by unfold NmV at h;simp only[ah,ahm]at h;exact h.2
theorem StF.it {s:alG}(h:StF s){i:Nat}(hi:i<s.akj.length):ItF s.amJ (s.akj.getD i default):=TI.1 (h.itm _ (getD_mem default hi))
theorem StF.fine {s:alG}(h:StF s):JE 60 s:=
 ⟨by have:=h.len;omega,λit hi=>by have:=(Xc (TI.1 (h.itm it hi)).U5).2;omega,λit hi=>⟨5,Eh (TI.1 (h.itm it hi)).ZX⟩⟩
def ad1 : alG:=alG.mk [] 0
theorem T.ah0.L1 {l:List bg}(t:dR)(hl:l.length<big)(hA:∀i j,i<j->j<(A7 l).length->bl ((A7 l).getD i default) ((A7 l).getD j default)=true) :
 ∀ (k i j:Nat),j-i<=k->i<=j->j<=l.length->(∀q,q<i->bl ((A7 l).getD q default) t=true)->(∀q,j<=q->q<(A7 l).length->bl ((A7 l).getD q default) t=false) ->
   ∃p:Nat,Ev (λf=>G.aO.L1 f l t i j) ((p:Int),decide (p<l.length)&&(l.getD p default).al9==t)/\LB (A7 l) t p:=by
 unfold big at hl;have cmp:∀i,Ev (λf=>G.rY f (l.getD i default) t) (jO (l.getD i default).al9 t):=λi=>by
  refine ais ?_;simp only[G.rY];have h1:Ev (λf=>G.strings_Compare f (l.getD i default).al9 t) (jO (l.getD i default).al9 t):=by
   refine ais ?_;simp only[G.strings_Compare];have:Ev (λf=>G.gU f (l.getD i default).al9 t) (jO (l.getD i default).al9 t):=by refine ais ?_;simp only[G.gU];exact akk _
   exact af5 this (akk _)
  exact af5 h1 (akk _)
 have neg:∀x y:dR,decide (jO x y<0)=bl x y:=λx y=>by
  rw[ams];cases h:bl x y with
  |true=>rw[ahl rfl];rfl
  |false=>rw[ahk (by simp)];by_cases e:x=y<;>simp[e]
 have eqz:∀x y:dR,(jO x y==0)=(x==y):=λx y=>by rw[sN,akg,akg];exact Yv
 intro k
 induction k with
 | zero=>
   intro i j hk hij hj hlo hhi;have:i=j:=(by omega);subst this;refine⟨i,ais ?_,by rw[zh];exact hj,hlo,hhi⟩;simp only[G.aO.L1,aj];refine alW (by simp) (alH (λe=>?_) (λe=>ake ?_))
   ·have e':i<l.length:=(by simpa using e);refine alI (af5 (cmp i) (ake ?_));rw[eqz,al6 e',bV]
   ·have d1:decide (i<l.length)=false:=(by simpa using e);rw[d1];rfl
 | succ k ih=>
   intro i j hk hij hj hlo hhi;by_cases he:i=j
   ·exact ih i j (by omega) hij hj hlo hhi
   have h1:(i+j)/2<j:=(by omega);have h2:i<=(i+j)/2:=(by omega);have hat:=F6 (l:=l) (i:=(i+j)/2) (by omega);cases hc:bl ((A7 l).getD ((i+j)/2) default) t with
   | true=>
     obtain⟨p,g,hp⟩:=ih ((i+j)/2+1) j (by omega) (by omega) hj (λq hq=>by
      by_cases hq2:q=(i+j)/2
      ·rw[hq2];exact hc
      ·exact Dt (hA q ((i+j)/2) (by omega) (by rw[zh];omega)) hc) hhi
     refine⟨p,ais ?_,hp⟩;simp only[G.aO.L1];refine alZ (by simp;omega) ?_;rw[half i j (by omega),aj];refine alI (af5 (cmp _) (alZ (by rw[neg,<- hat];exact hc) ?_));rw[dS (by omega)];exact g
   | false=>
     obtain⟨p,g,hp⟩:=ih i ((i+j)/2) (by omega) h2 (by omega) hlo (λq hq hq2=>by
      by_cases hq3:q=(i+j)/2
      ·rw[hq3];exact hc
      ·cases hb:bl ((A7 l).getD q default) t with
       |false=>rfl
       |true=>rw[Dt (hA ((i+j)/2) q (by omega) hq2) hb]at hc;cases hc)
     refine⟨p,ais ?_,hp⟩;simp only[G.aO.L1];refine alZ (by simp;omega) ?_;rw[half i j (by omega),aj];refine alI (af5 (cmp _) (alW (by rw[neg,<- hat];exact hc) ?_));exact g
theorem T.nM {l:List bg}(t:dR)(hl:l.length<big)(hA:Asc (A7 l)=true) :
 ∃p:Nat,Ev (λf=>G.nM f l t) ((p:Int),decide (p<l.length)&&(l.getD p default).al9==t)/\LB (A7 l) t p:=by
 obtain⟨p,g,hp⟩:=T.ah0.L1 t hl (H6 hA) l.length 0 l.length (by omega) (by omega) (by omega) (λq hq=>by omega) (λq h1 h2=>by rw[zh]at h2;omega);refine⟨p,ais ?_,hp⟩;simp only[G.nM];have g':Ev (λf=>G.aO f l t) ((p:Int),decide (p<l.length)&&(l.getD p default).al9==t):=by refine ais ?_;simp only[G.aO];exact g
 exact af5 g' (akk _)
end
section
def okH (b:UInt8):Bool:=(decide (48<=b.toNat)&&decide (b.toNat<=57))||(decide (97<=b.toNat)&&decide (b.toNat<=102))
def X3 (s:dR):Bool:=s.all okH&&decide (s.length=4)
def aaH (s:dR):Bool:=s==[42]||X3 s
def Kv (l:List dR):Bool:=l.all aaH&&decide (l.length<=4)
def hexD : dR:=[48,49,50,51,52,53,54,55,56,57,97,98,99,100,101,102]
theorem ak1 : ∀n:Nat,n<256->decide (wO hexD (fB n)<0) = !okH (fB n):=by decide +kernel
theorem amN (b:UInt8):decide (wO hexD b<0) = !okH b:=by
 have:=ak1 b.toNat b.toNat_lt
 rwa[EF]at this
theorem T.lu (s:dR)(hs:s.length<big):Ev (λf=>G.lu f s) (X3 s):=by
 unfold big at hs;have L:∀(k i:Nat),i+k=s.length->Ev (λf=>G.lu.L1 f s i) ((s.drop i).all okH&&decide (s.length=4)):=by
  intro k
  induction k with
  | zero=>intro i hi;refine ais ?_;simp only[G.lu.L1];refine anm (ake ?_);rw[au (by omega),vS,bV,sN,akg,ahm];omega
  | succ k ih=>
    intro i hi;refine ais ?_;simp only[G.lu.L1,aj,KD,wrS i];rw[dW (0:UInt8) (by omega:i<s.length),dH];have e1:(decide ((48:Int)<=((s.getD i 0).toNat:Int))&&decide (((s.getD i 0).toNat:Int)<=57))=(decide (48<=(s.getD i 0).toNat)&&decide ((s.getD i 0).toNat<=57)):=(by congr 1<;>(apply decide_eq_decide.2;omega));have e2:(decide ((97:Int)<=((s.getD i 0).toNat:Int))&&decide (((s.getD i 0).toNat:Int)<=102))=(decide (97<=(s.getD i 0).toNat)&&decide ((s.getD i 0).toNat<=102)):=(by congr 1<;>(apply decide_eq_decide.2;omega));refine ani (alI (af5 (T.gu _ _ _) ?_));rw[e1];refine alH (λh=>?_) (λh=>?_)
    ·refine(ih (i+1) (by omega)).eq ?_;unfold okH;rw[show(decide (48<=(s.getD i 0).toNat)&&decide ((s.getD i 0).toNat<=57))=true from h,yX,bV]
    ·refine alI (af5 (T.gu _ _ _) ?_);rw[e2];refine alH (λh2=>?_) (λh2=>ake ?_)
     ·refine(ih (i+1) (by omega)).eq ?_;unfold okH;rw[show(decide (97<=(s.getD i 0).toNat)&&decide ((s.getD i 0).toNat<=102))=true from h2,xC,bV]
     ·unfold okH;rw[show(decide (48<=(s.getD i 0).toNat)&&decide ((s.getD i 0).toNat<=57))=false from h,show(decide (97<=(s.getD i 0).toNat)&&decide ((s.getD i 0).toNat<=102))=false from h2];rfl
 refine ais ?_;simp only[G.lu];exact L s.length 0 (by omega)
theorem T.oM (s:dR)(hs:s.length<big):Ev (λf=>G.oM f s) (X3 s):=by
 unfold big at hs;have hI:∀b:UInt8,Ev (λf=>G.strings_IndexByte f [48,49,50,51,52,53,54,55,56,57,97,98,99,100,101,102] (b.toNat:Int)) (wO hexD b):=λb=>by refine ais ?_;simp only[G.strings_IndexByte];refine af5 (ais ?_) (akk _);simp only[G.jJ];refine ake ?_;rw[aj,show b.toNat.toUInt8=b from EF];rfl
 have L:∀(k i:Nat),i+k=s.length->Ev (λf=>G.oM.L1 f s i) ((s.drop i).all okH):=by
  intro k
  induction k with
  | zero=>intro i hi;refine ais ?_;simp only[G.oM.L1];refine anm (ake ?_);rw[au (by omega)];rfl
  | succ k ih=>
    intro i hi;refine ais ?_;simp only[G.oM.L1,aj,wrS i];rw[dW (0:UInt8) (by omega:i<s.length),dH];refine ani (alI (af5 (hI _) ?_));rw[amN];refine alH (λh=>ake ?_) (λh=>(ih (i+1) (by omega)).eq ?_)
    ·have:okH (s.getD i 0)=false:=(by simpa using h);rw[this];rfl
    ·have:okH (s.getD i 0)=true:=(by simpa using h);rw[this];rfl
 refine ais ?_;simp only[G.oM];unfold X3;refine alH (λe=>ake ?_) (λe=>?_)
 ·have:¬s.length=4:=by
   have:(s.length:Int)≠4:=(by simpa using e);omega
  rw[aki this,nT]
 ·have:s.length=4:=by
   have:(s.length:Int)=4:=(by simpa using e);omega
  exact(L s.length 0 (by omega)).eq (by rw[al6 this,nD,bT])
theorem T.jA {l:List dR}(h:Sm l):Ev (λf=>G.jA f l) (Kv l):=by
 have hl:=h.1;unfold big at hl;have L:∀(k i:Nat),i+k=l.length->Ev (λf=>G.jA.L1 f l i) ((l.drop i).all aaH&&decide (l.length<=4)):=by
  intro k
  induction k with
  | zero=>intro i hi;refine ais ?_;simp only[G.jA.L1];refine anm (ake ?_);rw[au (by omega),vS,bV];apply decide_eq_decide.2;omega
  | succ k ih=>intro i hi;refine ais ?_;simp only[G.jA.L1,aj,wrS i];rw[dW (default:dR) (by omega:i<l.length),dH];unfold aaH;refine ani (alI (alH (λe=>(ih (i+1) (by omega)).eq (by rw[e];rfl)) (λe=>alI (af5 (T.lu _ (h.get (by omega))) ?_))));exact alH (λe2=>(ih (i+1) (by omega)).eq (by rw[e,e2];rfl)) (λe2=>ake (by rw[e,e2];rfl))
 refine ais ?_;simp only[G.jA];exact L l.length 0 (by omega)
theorem T.jG {l:List dR}(h:Sm l):Ev (λf=>G.jG f l) (Kv l):=by
 have hl:=h.1;unfold big at hl;have L:∀(k i:Nat),i+k=l.length->Ev (λf=>G.jG.L1 f l i) ((l.drop i).all aaH):=by
  intro k
  induction k with
  | zero=>intro i hi;refine ais ?_;simp only[G.jG.L1];refine anm (ake ?_);rw[au (by omega)];rfl
  | succ k ih=>intro i hi;refine ais ?_;simp only[G.jG.L1,aj,wrS i];rw[dW (default:dR) (by omega:i<l.length),dH];unfold aaH;refine ani (alI (alH (λe=>(ih (i+1) (by omega)).eq (by rw[e];rfl)) (λe=>af5 (T.oM _ (h.get (by omega))) ?_)));exact alH (λe2=>(ih (i+1) (by omega)).eq (by rw[e,e2];rfl)) (λe2=>ake (by rw[e,e2];rfl))
 refine ais ?_;simp only[G.jG];unfold Kv;refine alH (λe=>ake ?_) (λe=>(L l.length 0 (by omega)).eq ?_)
 ·rw[aki (show ¬l.length<=4 by simp only[ahm]at e;omega),nT]
 ·rw[al6 (show l.length<=4 by simp only[alR]at e;omega),nD,bT]
structure Us (B:Nat)(q:akh):Prop where
 U5:q.al9.length<=B
 want:FK B q.anx
 avoid:FK B q.lY
 body:aaE B q.Body
 ops:Ur q.Ops
def Vl (q:akh):Bool:=(decide (1<=q.amI)&&decide (q.amI<=5))&&(NmV q.al9&&(Kv q.anx&&(Kv q.lY&&(Val q.Body&&PU q.Ops))))
structure Y2 (B:Nat)(q:akh):Prop where
 U5:q.al9.length<=B
 want:FK B q.anx
 avoid:FK B q.lY
 body:ame B q.Body
 ops:ahn q.Ops
section
variable {B:Nat} {q:akh} (hB:B<=lim) (h:Y2 B q)
include hB h
theorem T0.jB : Ev (λf=>G.jB f q) (Vl q):=by obtain⟨E,hb⟩:=h.body;have hn:=h.U5;unfold lim at hB;refine ais ?_;simp only[G.jB];unfold Vl;refine af5 (T.gu _ _ _) (alH (λe1=>?_) (λe1=>ake (by rw[e1];rfl)));refine af5 (T.iO _ (by unfold big;omega)) (alH (λe2=>?_) (λe2=>ake (by rw[e1,e2];rfl)));refine af5 (T.jA (h.want.sm (by unfold lim;omega))) (alH (λe3=>?_) (λe3=>ake (by rw[e1,e2,e3];rfl)));refine af5 (T.jA (h.avoid.sm (by unfold lim;omega))) (alH (λe4=>?_) (λe4=>ake (by rw[e1,e2,e3,e4];rfl)));refine af5 (T0.fZ (by unfold lim;omega) hb) (alH (λe5=>?_) (λe5=>ake (by rw[e1,e2,e3,e4,e5];rfl)));exact af5 (T0.fE h.ops) (ake (by rw[e1,e2,e3,e4,e5];rfl))
theorem T0.lq : Ev (λf=>G.lq f q) (Vl q):=by obtain⟨E,hb⟩:=h.body;have hn:=h.U5;unfold lim at hB;refine ais ?_;simp only[G.lq];unfold Vl;refine alH (λe0=>?_) (λe0=>ake (by rw[e0];rfl));refine alH (λe1=>?_) (λe1=>ake (by rw[e0,e1];rfl));refine af5 (T.jR _ (by unfold big;omega)) (alH (λe2=>?_) (λe2=>ake (by rw[e0,e1,e2];rfl)));refine af5 (T.jG (h.want.sm (by unfold lim;omega))) (alH (λe3=>?_) (λe3=>ake (by rw[e0,e1,e2,e3];rfl)));refine af5 (T.jG (h.avoid.sm (by unfold lim;omega))) (alH (λe4=>?_) (λe4=>ake (by rw[e0,e1,e2,e3,e4];rfl)));refine af5 (T0.bJ (by unfold lim;omega) hb) (alH (λe5=>?_) (λe5=>ake (by rw[e0,e1,e2,e3,e4,e5];rfl)));exact af5 (T0.eX h.ops) (ake (by rw[e0,e1,e2,e3,e4,e5];rfl))
end
theorem Ur.fin {l:List pW}(h:Ur l):ahn l:=⟨by have:=h.1;omega,λo ho=>by obtain⟨D,h1,h2,h3⟩:=h.2 o ho;exact⟨D,⟨by have:=h1.1;omega,λs hs=>by have:=h1.2 s hs;omega⟩,⟨by have:=h2.1;omega,λs hs=>by have:=h2.2 s hs;omega⟩,h3.fin0.mono (by omega) (aA _)⟩⟩
theorem Us.fin {B:Nat}{q:akh}(h:Us B q):Y2 B q:=⟨h.U5,h.want,h.avoid,let ⟨D,hd⟩:=h.body;⟨D,hd.fin0⟩,h.ops.fin⟩
section
variable {B:Nat} {q:akh} (hB:B<=lim) (h:Us B q)
include hB h
theorem T.jB : Ev (λf=>G.jB f q) (Vl q):=T0.jB hB h.fin
theorem T.lq : Ev (λf=>G.lq f q) (Vl q):=T0.lq hB h.fin
end
structure Yj (l:List akh):Prop where
 len:l.length<=1000
 req:∀q,q∈l->Us 60 q
theorem Yj.at_ {l:List akh}(h:Yj l){i:Nat}(hi:i<l.length):Us 60 (l.getD i default):=h.req _ (getD_mem default hi)
structure aaC (l:List akh):Prop where
 len:l.length<=1048576
 req:∀q,q∈l->Y2 1048576 q
theorem aaC.at_ {l:List akh}(h:aaC l){i:Nat}(hi:i<l.length):Y2 1048576 (l.getD i default):=h.req _ (getD_mem default hi)
theorem Y2.mono {B C:Nat}{q:akh}(h:Y2 B q)(hB:B<=C):Y2 C q:=⟨bH h.U5 hB,⟨bH h.want.1 hB,λs hs=>bH (h.want.2 s hs) hB⟩,⟨bH h.avoid.1 hB,λs hs=>bH (h.avoid.2 s hs) hB⟩,let ⟨D,hd⟩:=h.body;⟨D,hd.mono hB (aA _)⟩,h.ops⟩
theorem Yj.fin {l:List akh}(h:Yj l):aaC l:=⟨by have:=h.len;omega,λq hq=>(h.req q hq).fin.mono (by omega)⟩
end
theorem VG {x:dR}{l:List dR}(h:Asc l=true)(hx:∀y,y∈l->bl x y=true):Asc (x::l)=true:=by
 cases l with
 |nil=>rfl
 |cons y l=>rw[Asc,h,nD];exact hx y (by simp)
section
def LW (x:bg):List bg->List bg
 |[]=>[x]
 |y::r=>if bl y.al9 x.al9 then y::LW x r else if y.al9=x.al9 then x::r else x::y::r
def Xk (s:alG)(t:dR)(n:ak):alG:=alG.mk (LW (bg.mk t (s.amJ+1) n) s.akj) (s.amJ+1)
def Qz (s:alG)(t:dR)(n:ak):Option alG:=if H7 s&&NmV t&&Val n then(some (Xk s t n)).filter H7 else none
def abY : Option alG->alG×Bool
 |some s=>(s,true)
 |none=>(ad1,false)
theorem Z7 {s:alG} : abY ((some s).filter H7)=if H7 s then(s,true)else(ad1,false):=by cases h:H7 s<;>simp[sV,h,abY]
theorem Rz {y:bg}{r:List bg} : A7 (y::r)=y.al9::A7 r:=rfl
theorem ae9 {x:bg} : ∀{l:List bg} {p:Nat},LB (A7 l) x.al9 p->LW x l=if decide (p<l.length)&&(l.getD p default).al9==x.al9 then l.set p x else l.take p++[x]++l.drop p
 | [],p,h=>by have:p=0:=(by have:=h.le;simpa[A7]using this);subst this;rfl
 | y::r,0,h=>by
   have hb:bl y.al9 x.al9=false:=h.hi 0 (by omega) (by rw[zh];simp);rw[LW,hb,ahk (by simp)];by_cases e:y.al9=x.al9
   ·rw[ahl e,ahl (by simp[e])];rfl
   ·rw[ahk e,ahk (by simp[e])];rfl
 | y::r,p+1,h=>by
   have hb:bl y.al9 x.al9=true:=h.lo 0 (by omega);have hr:LB (A7 r) x.al9 p:=⟨by have:=h.le;rw[zh]at this⊢;simp at this;omega,λj hj=>by
    have:=h.lo (j+1) (by omega)
    rwa[Rz,kU]at this,λj h1 h2=>by
    have:=h.hi (j+1) (by omega) (by rw[Rz];simp;omega)
    rwa[Rz,kU]at this⟩
   rw[LW,ahl hb,ae9 hr];have e1:(decide (p+1<(y::r).length)&&((y::r).getD (p+1) default).al9==x.al9)=(decide (p<r.length)&&(r.getD p default).al9==x.al9):=(by simp);rw[e1];by_cases c:(decide (p<r.length)&&(r.getD p default).al9==x.al9)=true
   ·rw[ahl c,ahl c];rfl
   ·rw[ahk c,ahk c];rfl
theorem aaQ {y:bg}{r:List bg}(h:Asc (A7 (y::r))=true):Asc (A7 r)=true/\∀z,z∈r->bl y.al9 z.al9=true:=by rw[Rz]at h;exact⟨I5 h,λz hz=>Kr h _ (List.mem_map.2 ⟨z,hz,rfl⟩)⟩
theorem Jn {x:bg} : ∀{l:List bg} {it:bg},Asc (A7 l)=true->(it∈LW x l<->it=x\/(it∈l/\it.al9≠x.al9))
 |[],it,_=>by simp[LW]
 | y::r,it,h=>by
   obtain⟨h1,h2⟩:=aaQ h;rw[LW];cases hb:bl y.al9 x.al9 with
   | true=>
     have hne:=JH hb;rw[ahl rfl,ay,Jn h1,ay];constructor
     ·rintro(e|e|⟨e,e2⟩)
      ·exact .inr ⟨.inl e,e▸hne⟩
      ·exact .inl e
      ·exact .inr ⟨.inr e,e2⟩
     ·rintro(e|⟨e|e,e2⟩)
      ·exact .inr (.inl e)
      ·exact .inl e
      ·exact .inr (.inr ⟨e,e2⟩)
   | false=>
     rw[ahk (by simp)];by_cases e:y.al9=x.al9
     ·rw[ahl e,ay,ay];constructor
      ·rintro(q|q)
       ·exact .inl q
       ·exact .inr ⟨.inr q,λw=>by have:=JH (h2 it q);rw[e,w]at this;exact this rfl⟩
      ·rintro(q|⟨q|q,w⟩)
       ·exact .inl q
       ·exact al7 (q▸e) w
       ·exact .inr q
     ·rw[ahk e,ay,ay];have hx:bl x.al9 y.al9=true:=by
       cases k:bl x.al9 y.al9 with
       |true=>rfl
       |false=>exact al7 (Nz hb k) e
      constructor
      ·rintro(q|q|q)
       ·exact .inl q
       ·exact .inr ⟨.inl q,q▸e⟩
       ·exact .inr ⟨.inr q,λw=>by have:=JH (Dt hx (h2 it q));rw[w]at this;exact this rfl⟩
      ·rintro(q|⟨q,_⟩)
       ·exact .inl q
       ·exact .inr q
theorem Xj {x:bg} : ∀{l:List bg},(LW x l).length<=l.length+1
 |[]=>by simp[LW]
 | y::r=>by
   have:=Xj (x:=x) (l:=r);rw[LW];split
   ·simp only[iC];omega
   ·split<;>simp
theorem T.xh {l:List bg}{x:bg}(hl:l.length<=1000)(hA:Asc (A7 l)=true):Ev (λf=>G.xh f l x) (LW x l):=by
 obtain⟨p,g,hp⟩:=T.nM x.al9 (by unfold big;omega) hA;have hle:=hp.le;rw[zh]at hle;rw[ae9 hp];refine ais ?_;simp only[G.xh];refine af5 g ?_;cases hc:decide (p<l.length)&&(l.getD p default).al9==x.al9 with
 | true=>rw[ahl rfl];simp only[ah,ahm]at hc;exact alZ rfl (alI (ake (by rw[aj])))
 | false=>rw[ahk (by simp)];refine alW rfl (af5 (ais ?_) (akk _));simp only[G.nO];exact ant (by simp;omega) (ake (by rw[aj]))
section
variable {B D:Nat} {s:alG} {t:dR} {n:ak} (hB:B<=lim) (h:JE B s) (ht:t.length<=B) (hn:Fine B D n)
include hB h ht hn
theorem T.uT : Ev (λf=>G.uT f s t n) (abY (Qz s t n)):=by
 refine ais ?_;simp only[G.uT];unfold Qz;refine af5 (T.bM hB h) (alH (λe1=>?_) (λe1=>ake (by rw[e1];rfl)));refine af5 (T.jR _ (by unfold big;unfold lim at hB;omega)) (alH (λe2=>?_) (λe2=>ake (by rw[e1,e2];rfl)));refine af5 (T.bJ hB hn) (alH (λe3=>?_) (λe3=>ake (by rw[e1,e2,e3];rfl)));have hs:=Ai.1 e1;have hl:=hs.len;have hlo:=hs.lo;have hhi:=hs.hi;have w:af .i64 (s.amJ+1)=s.amJ+1:=by rw[Hl (by omega) (by omega)]
 rw[e1,e2,e3];refine af5 (T.dG hB h) (af5 (T.aV hB hn) ?_);rw[w];refine af5 (T.xh (by omega) hs.QE) ?_;have hf:JE 60 (Xk s t n):=by
  have:=Xj (x:=bg.mk t (s.amJ+1) n) (l:=s.akj);refine⟨by show(LW _ _).length<=_;omega,λit hi=>?_,λit hi=>?_⟩
  ·rcases(Jn hs.QE).1 hi with e|⟨e,_⟩
   ·rw[e];show t.length<=60;have:=(Xc e2).2;omega
   ·exact hs.fine.U5 it e
  ·rcases(Jn hs.QE).1 hi with e|⟨e,_⟩
   ·rw[e];exact⟨5,Eh e3⟩
   ·exact hs.fine.ZX it e
 refine af5 (T.bM yB hf) ?_;show Ev _ (abY ((some (Xk s t n)).filter H7));rw[Z7];cases hv:H7 (Xk s t n)with
 |true=>exact alZ hv (akk _)
 |false=>exact alW hv (akk _)
end
section
variable {s:alG} {t:dR} {n:ak}
theorem T.lW.done (hl:s.akj.length<=1000):∀(k i:Nat) (z:List bg),i+k=s.akj.length->z.length<=i+1->(∀it,it∈s.akj.drop i->it.al9≠t) ->
 Ev (λf=>G.lW.L3 f s t n s true i z) (alG.mk (z++s.akj.drop i) (af .i64 (s.amJ+1))):=by
 intro k
 induction k with
 | zero=>intro i z hi hz _;refine ais ?_;simp only[G.lW.L3];refine anm (alZ rfl (ake ?_));rw[au (by omega),iQ]
 | succ k ih=>intro i z hi hz hne;have hil:i<s.akj.length:=(by omega);have hd:=dW (default:bg) hil;rw[hd]at hne;have h1:=hne (s.akj.getD i default) (by simp);refine ais ?_;simp only[G.lW.L3];refine ani (alZ rfl (ais ?_));simp only[G.lW.K4,aj,wrS i];refine alI (alW (by simpa using h1) (alI (alI ?_)));refine(ih (i+1) _ (by omega) (by simp;omega) (λit hit=>hne it (by simp[hit]))).eq ?_;rw[hd];simp
theorem T.lW.more (hl:s.akj.length<=1000)(hA:Asc (A7 s.akj)=true):∀(k i:Nat) (z:List bg),i+k=s.akj.length->z.length<=i ->
 Ev (λf=>G.lW.L3 f s t n s false i z) (alG.mk (z++LW (bg.mk t (af .i64 (s.amJ+1)) n) (s.akj.drop i)) (af .i64 (s.amJ+1))):=by
 intro k
 induction k with
 | zero=>intro i z hi hz;refine ais ?_;simp only[G.lW.L3];refine anm (alW rfl (alI (ake ?_)));rw[au (by omega)];rfl
 | succ k ih=>
   intro i z hi hz;have hil:i<s.akj.length:=(by omega);have hd:=dW (default:bg) hil;have later:∀it,it∈s.akj.drop (i+1)->bl (s.akj.getD i default).al9 it.al9=true:=λit hit=>by obtain⟨j,hj,e⟩:=List.mem_drop_iff_getElem.1 hit;have hj':i+1+j<s.akj.length:=(by omega);have:=H6 hA i (i+1+j) (by omega) (by rw[zh];exact hj');rw[F6 hil,F6 hj',gJ _ hj',e]at this;exact this
   refine ais ?_;simp only[G.lW.L3,aj];rw[hd,LW];refine ani (alW rfl (alI ?_));refine alH (λe=>?_) (λe=>?_)
   ·have e:bl (s.akj.getD i default).al9 t=true:=e;rw[ahl e];refine ais ?_;simp only[G.lW.K4,aj,wrS i];refine alI (alW (by simpa using JH e) (alI (alI ?_)));refine(ih (i+1) _ (by omega) (by simp;omega)).eq ?_;simp
   ·have e:bl (s.akj.getD i default).al9 t=false:=e;rw[ahk (by simp only[e];simp)];refine alI (ais ?_);simp only[G.lW.K4,aj,wrS i];refine alI (alH (λe2=>?_) (λe2=>?_))
    ·have e2:(s.akj.getD i default).al9=t:=(by simpa using e2);rw[ahl e2];refine(T.lW.done hl k (i+1) _ (by omega) (by simp;omega) (λit hit w=>by have:=JH (later it hit);rw[e2,w]at this;exact this rfl)).eq ?_;simp
    ·have e2:(s.akj.getD i default).al9≠t:=(by simpa using e2);rw[ahk e2];have hx:bl t (s.akj.getD i default).al9=true:=by
      cases q:bl t (s.akj.getD i default).al9 with
      |true=>rfl
      |false=>exact al7 (Nz e q) e2
     refine alI (ant (by simp;omega) ?_);refine(T.lW.done hl k (i+1) _ (by omega) (by simp;omega) (λit hit w=>by have:=JH (Dt hx (later it hit));rw[w]at this;exact this rfl)).eq ?_;simp
end
section
variable {B D:Nat} {s:alG} {t:dR} {n:ak} (hB:B<=lim) (h:JE B s)
include hB h
theorem T.lW (hn:Fine B D n)(hs:StF s):Ev (λf=>G.lW f s t n) (Xk s t n):=by have hl:=hs.len;have hlo:=hs.lo;have hhi:=hs.hi;refine ais ?_;simp only[G.lW];refine af5 (T.bG hB hn) (af5 (T.dU hB h) ?_);refine(T.lW.more (by omega) hs.QE s.akj.length 0 [] (by omega) (by simp)).eq ?_;rw[Hl (by omega) (by omega)];rfl
theorem ajn (hs:StF s)(ht:NmV t=true)(hn:Val n=true):JE 60 (Xk s t n):=by
 have:=Xj (x:=bg.mk t (s.amJ+1) n) (l:=s.akj);have:=hs.len;refine⟨by show(LW _ _).length<=_;omega,λit hi=>?_,λit hi=>?_⟩
 ·rcases(Jn hs.QE).1 hi with e|⟨e,_⟩
  ·rw[e];show t.length<=60;have:=(Xc ht).2;omega
  ·exact hs.fine.U5 it e
 ·rcases(Jn hs.QE).1 hi with e|⟨e,_⟩
  ·rw[e];exact⟨5,Eh hn⟩
  ·exact hs.fine.ZX it e
end
theorem ab6 {s m:alG}{t:dR}{n:ak}(h:Qz s t n=some m):H7 s=true/\NmV t=true/\Val n=true/\m=Xk s t n/\H7 m=true:=by
 unfold Qz at h;split at h
 ·rename_i c;obtain⟨⟨c1,c2⟩,c3⟩:(H7 s=true/\NmV t=true)/\Val n=true:=by simpa using c
  obtain⟨h1,h2⟩:=xA.1 h;cases h1;exact⟨c1,c2,c3,rfl,h2⟩
 ·cases h
def XX (l:List bg)(t:dR):Option Nat:=(bu 0 l.length).find? λi=>(l.getD i default).al9==t
theorem KJ {l:List bg}{t:dR}{j:Nat} : XX l t=some j<->(j<l.length/\(l.getD j default).al9=t/\∀q,q<j->(l.getD q default).al9≠t):=by
 unfold XX;rw[IU];constructor
 ·rintro⟨_,h2,h3,h4⟩;exact⟨by omega,by simpa using h3,λq hq=>by simpa using h4 q (by omega) hq⟩
 ·rintro⟨h2,h3,h4⟩;exact⟨by omega,by omega,by simpa using h3,λq _ hq=>by simpa using h4 q hq⟩
theorem abb {l:List bg}{t:dR} : XX l t=none<->∀it,it∈l->it.al9≠t:=by
 unfold XX;rw[OM];constructor
 ·intro h it hit;obtain⟨i,hi,e⟩:=jW.1 hit;have:=h i (by omega) (by omega);rw[gJ _ hi,e]at this;simpa using this
 ·intro h q _ hq;have:=h _ (getD_mem default (show q<l.length by omega));simpa using this
theorem T.o8 {s:alG}(t:dR)(hl:s.akj.length<=lim):Ev (λf=>G.o8 f s t) (KU (XX s.akj t)):=by
 unfold lim at hl;have L:∀(k i:Nat),i+k=s.akj.length->Ev (λf=>G.o8.L1 f s t i) (KU ((bu i k).find? λi=>(s.akj.getD i default).al9==t)):=by
  intro k
  induction k with
  | zero=>intro i hi;refine ais ?_;simp only[G.o8.L1];exact anm (akk _)
  | succ k ih=>
    intro i hi;refine ais ?_;simp only[G.o8.L1,aj,wrS i];rw[rM,xu];refine ani (alI (alH (λe=>ake ?_) (λe=>?_)))
    ·simp only[show((s.akj.getD i default).al9==t)=true from e];rfl
    ·simp only[show((s.akj.getD i default).al9==t)=false from e];exact ih (i+1) (by omega)
 refine ais ?_;simp only[G.o8];exact L s.akj.length 0 (by omega)
def ahS (s:alG)(t:dR):alG:=alG.mk (s.akj.filter λit=> !(it.al9==t)) (s.amJ+1)
def Qw (s:alG)(t:dR):Option alG:=if H7 s&&(XX s.akj t).isSome && !(s.amJ==999)then some (ahS s t)else none
theorem T.rZ {B:Nat}{s:alG}{t:dR}(hB:B<=lim)(h:JE B s)(hs:StF s):Ev (λf=>G.rZ f s t) (ahS s t):=by
 have hl:=hs.len;have hlo:=hs.lo;have hhi:=hs.hi;have L:∀(k i:Nat) (z:List bg),i+k=s.akj.length->z.length<=i->Ev (λf=>G.rZ.L1 f s t s i z) (alG.mk (z++(s.akj.drop i).filter λit=> !(it.al9==t)) (af .i64 (s.amJ+1))):=by
  intro k
  induction k with
  | zero=>intro i z hi hz;refine ais ?_;simp only[G.rZ.L1];refine anm (ake ?_);rw[au (by omega)];simp
  | succ k ih=>
    intro i z hi hz;have hil:i<s.akj.length:=(by omega);refine ais ?_;simp only[G.rZ.L1,aj,wrS i];rw[dW (default:bg) hil,List.filter_cons];refine ani (alI (alH (λe=>?_) (λe=>?_)))
    ·rw[show((s.akj.getD i default).al9==t)=true from e];exact(ih (i+1) z (by omega) (by omega)).eq (by simp)
    ·rw[show((s.akj.getD i default).al9==t)=false from e];refine alI (alI ?_);exact(ih (i+1) _ (by omega) (by simp;omega)).eq (by simp)
 refine ais ?_;simp only[G.rZ];refine af5 (T.dU hB h) ((L s.akj.length 0 [] (by omega) (by simp)).eq ?_);rw[Hl (by omega) (by omega)];rfl
theorem akD {l m:List dR}(h:l.Sublist m)(hm:Asc m=true):Asc l=true:=BJ.2 ((BJ.1 hm).sublist h)
theorem ahU {s m:alG}{t:dR}(h:Qw s t=some m):H7 s=true/\(XX s.akj t).isSome=true/\s.amJ≠999/\m=ahS s t/\H7 m=true:=by
 unfold Qw at h;split at h
 ·rename_i c;obtain⟨⟨c1,c2⟩,c3⟩:(H7 s=true/\(XX s.akj t).isSome=true)/\s.amJ≠999:=by simpa using c
  cases h;have hs:=Ai.1 c1;refine⟨c1,c2,c3,rfl,Ai.2 ⟨λit hit=>?_,?_,?_,?_,?_⟩⟩
  ·have:=TI.1 (hs.itm it (List.mem_filter.1 hit).1);have hhi:=this.hi;exact TI.2 ⟨this.U5,this.ZX,this.lo,by show it.amX<=s.amJ+1;omega⟩
  ·exact akD (List.Sublist.map _ List.filter_sublist) hs.QE
  ·show(s.akj.filter _).length<=10;exact bH (List.length_filter_le _ _) hs.len
  ·show 0<=s.amJ+1;have:=hs.lo;omega
  ·show s.amJ+1<=999;have:=hs.hi;omega
 ·cases h
end
theorem aen : H7 ad1=true:=by decide
def lk (n:ak)(s:dR):Option ak:=(Gt n s).map λj=>n.ajX.getD j default
structure JV (n:ak):Prop where
 kind:n.alC=4
 QE:Asc n.aiJ=true
 len:n.ajX.length=n.aiJ.length
theorem Rl {n:ak}(h:Parts n=true)(hk:n.alC=4):JV n/\n.aiJ.length<=6/\∀s,s∈n.aiJ->s.length<=12:=by obtain⟨_,_,hN,hl,hkl⟩:=Bh h hk;exact⟨⟨hk,Qg hN,hkl⟩,hl,λs hs=>Xi (adZ hN s hs)⟩
theorem aiM {n:ak}(h:JV n){s:dR} : (lk n s).isSome=true<->s∈n.aiJ:=by
 unfold lk;rw[Option.isSome_map];constructor
 ·intro hs;obtain⟨j,hj⟩:=iW.1 hs;obtain⟨h1,h2,_⟩:=Og.1 hj;rw[G8 h.kind,akg]at h2;rw[<- h2];exact getD_mem default (by rw[<- h.len];exact h1)
 ·intro hs;cases hp:Gt n s with
  |some j=>rfl
  | none=>obtain⟨i,hi,e⟩:=jW.1 hs;have:=RG.1 hp i (by rw[h.len];exact hi);rw[G8 h.kind,gJ default hi,e]at this;simp at this
theorem adP {n x:ak}{s:dR}(h:lk n s=some x):x∈n.ajX:=by unfold lk at h;obtain⟨j,hj,rfl⟩:=bW.1 h;exact getD_mem default (Ag hj)
theorem Rk {n:ak}(h:JV n){s:dR} : lk n s=none<->s ∉ n.aiJ:=by rw[<- aiM h];cases lk n s<;>simp
structure Acc (n:ak)(m:Nat):Prop where
 map:JV n
 num:n.Num=0
 text:n.amV=[]
 len:n.aiJ.length<=m
 small:∀s,s∈n.aiJ->s.length<=12
theorem Acc.eq {n:ak}{m:Nat}(h:Acc n m):n=ak.mk 4 0 [] n.aiJ n.ajX:=by obtain⟨⟨h1,_,_⟩,h2,h3,_,_⟩:=h;cases n;simp only at h1 h2 h3;subst h1;subst h2;subst h3;rfl
theorem aaP : ∀{l:List dR} (i:Nat),Asc l=true->Asc (l.drop i)=true
 |l,0,h=>by simpa using h
 |[],i+1,_=>rfl
 |x::l,i+1,h=>aaP (l:=l) i (I5 h)
open Classical in
noncomputable def mn (F:ak->ak->ak->Option ak)(o a b:ak)(s:dR):Option (Option ak):=
 match lk a s,lk b s,lk o s with
 |some x,some y,some z=>(F z x y).map some
 |some x,some y,none=>if x=y then some (some x)else none
 |some x,none,none=>some (some x)
 |none,some y,none=>some (some y)
 |some x,none,some z=>if x=z then some none else none
 |none,some y,some z=>if y=z then some none else none
 |none,none,_=>some none
def an4 : ak:=ak.mk 4 0 [] [] []
def Zv (z:Int):dR:=if z<0 then 45::IG (-z).toNat else IG z.toNat
def RI (b:UInt8):dR:=if b=34\/b=92 then [92,b]else [b]
def U7 (s:dR):dR:=34::(s.flatMap RI++[34])
def FU (F:ak->dR)(n:ak)(i:Nat):dR:=((if 0<i then [44]else [])++(if n.alC=4 then U7 (n.aiJ.getD i default)++[58]else []))++F (n.ajX.getD i default)
def Bf : Nat->ak->dR
 |0,_=>[]
 | d+1,n=>if n.alC=1 then Zv n.Num else if n.alC=2 then U7 n.amV else if n.alC=0 then [110,117,108,108]else
   if n.alC=4 then([123]++(bu 0 n.ajX.length).flatMap (FU (Bf d) n))++[125]else([91]++(bu 0 n.ajX.length).flatMap (FU (Bf d) n))++[93]
theorem Tn {d:Nat}{n:ak} : Bf (d+1) n=if n.alC=1 then Zv n.Num else if n.alC=2 then U7 n.amV else if n.alC=0 then [110,117,108,108]else
 if n.alC=4 then([123]++(bu 0 n.ajX.length).flatMap (FU (Bf d) n))++[125]else([91]++(bu 0 n.ajX.length).flatMap (FU (Bf d) n))++[93]:=by rw[Bf]
theorem maxL : 4000000000<=maxLen:=by decide
theorem aaf (s:dR):(U7 s).length<=2*s.length+2:=by
 have:(s.flatMap RI).length<=2*s.length:=by
  induction s with
  |nil=>simp
  | cons b s ih=>rw[jU,bD,iC];have:(RI b).length<=2:=(by unfold RI;split<;>simp);omega
 unfold U7;simp only[iC,bD,iy];omega
theorem Yg {s:dR}{i:Nat}(h:i<s.length):(s.take (i+1)).drop i=[s.getD i 0]:=by rw[jS h,List.drop_append_of_le_length (by simp;omega),au (by rw[gW];omega),jI,gJ _ h]
theorem T.nK (s:dR)(hs:s.length<=1000000):Ev (λf=>G.nK f s) (U7 s):=by
 have hM:=maxL;have L:∀(k i:Nat) (z:dR),i+k=s.length->z.length<=2*i+1->Ev (λf=>G.nK.L1 f s z i) (z++((s.drop i).flatMap RI++[34])):=by
  intro k
  induction k with
  | zero=>intro i z hi hz;refine ais ?_;simp only[G.nK.L1];refine anm (alI (ake ?_));rw[au (by omega)];rfl
  | succ k ih=>
    intro i z hi hz;have hil:i<s.length:=(by omega);have e1:=Yg hil;have two:s.getD i 0=34\/s.getD i 0=92->Ev (λf=>G.nK.L1 f s ((z++[92])++[s.getD i 0]) ((i+1:Nat):Int)) (z++((s.drop i).flatMap RI++[34])):=λhq=>by refine(ih (i+1) _ (by omega) (by simp;omega)).eq ?_;rw[dW (0:UInt8) hil,jU];have:RI (s.getD i 0)=[92,s.getD i 0]:=ahl hq;rw[this];simp
    have byt:∀c:UInt8,(((s.getD i 0).toNat:Int)==(c.toNat:Int))=(s.getD i 0==c):=λc=>by rw[sN,akg,akg];exact⟨λh=>zB.1 (by omega),λh=>by rw[h]⟩
    refine ais ?_;simp only[G.nK.L1,aj,wrS i,e1];refine ani (alI (alH (λh=>?_) (λh=>?_)))
    ·have h:s.getD i 0=34:=(by rw[show((34:Int))=((34:UInt8).toNat:Int)from rfl,byt]at h;simpa using h);exact alI (alI (ant (by simp only[nI];omega) (two (.inl h))))
    ·have h:s.getD i 0≠34:=(by rw[show((34:Int))=((34:UInt8).toNat:Int)from rfl,byt]at h;simpa using h);refine alI (alH (λh2=>?_) (λh2=>?_))
     ·have h2:s.getD i 0=92:=(by rw[show((92:Int))=((92:UInt8).toNat:Int)from rfl,byt]at h2;simpa using h2);exact alI (alI (ant (by simp only[nI];omega) (two (.inr h2))))
     ·have h2:s.getD i 0≠92:=(by rw[show((92:Int))=((92:UInt8).toNat:Int)from rfl,byt]at h2;simpa using h2);refine alI (ant (by simp only[nI];omega) ?_);refine(ih (i+1) _ (by omega) (by simp;omega)).eq ?_;rw[dW (0:UInt8) hil,jU];have:RI (s.getD i 0)=[s.getD i 0]:=ahk (λq=>q.elim h h2);rw[this];simp
 refine ais ?_;simp only[G.nK];exact(L s.length 0 [34] (by omega) (by simp)).eq (by rw[bT];rfl)
theorem NJ : ∀{i:Nat},i<=999999->(IG i).length<=6:=by
 have step:∀{i m:Nat},(IG (i/10)).length<=m->(IG i).length<=m+1:=λ{i m} h=>by
  rw[IG];split
  ·simp
  ·simp;omega
 intro i h;have h1:(IG (i/10/10/10/10/10)).length<=1:=by rw[Lu (by omega)];simp
 exact step (step (step (step (step h1))))
theorem ahQ {z:Int}(h1 : -999999<=z)(h2:z<=999999):(Zv z).length<=7:=by
 unfold Zv;split
 ·have:=NJ (i:=(-z).toNat) (by omega);simp;omega
 ·have:=NJ (i:=z.toNat) (by omega);omega
theorem T.agX {z:Int}(h1 : -999999<=z)(h2:z<=999999):Ev (λf=>G.lJ f z) (Zv z):=by
 have hM:=maxL;unfold Zv;by_cases h:z<0
 ·rw[ahl h];have w:af .i64 (0-z)=((-z).toNat:Int):=wrapN (by omega) (by omega);have hl:=NJ (i:=(-z).toNat) (by omega);refine ais ?_;simp only[G.lJ,w];exact alZ (al6 h) (alW (by simp only[beq_eq_false_iff_ne];omega) (af5 (T.decimal (by unfold lim;omega)) (alI (ake rfl))))
 ·rw[ahk h];obtain⟨k,rfl⟩:∃k:Nat,z=k:=⟨z.toNat,by omega⟩;rw[aj];exact T.decimal (by unfold lim;omega)
theorem Ub {n:ak}(h:Parts n=true)(hk:n.alC=1) : -999999<=n.Num/\n.Num<=999999:=by unfold Parts at h;simp[hk]at h;omega
theorem Ql {n:ak}(h:Parts n=true):n.amV.length<=12:=by
 by_cases hk:n.alC=2
 ·unfold Parts at h;simp[hk]at h;exact Xi h.2.1
 ·unfold Parts at h;simp only[ah,gV,akg]at h;have:=h.1.1.2.resolve_left hk;rw[this];simp
theorem akT {α:Type}{g:Nat->List α}{m:Nat} : ∀(k i:Nat),(∀j,i<=j->j<i+k->(g j).length<=m)->((bu i k).flatMap g).length<=k*m:=by
 intro k
 induction k with
 |zero=>intro i _;simp
 | succ k ih=>intro i h;have h1:=h i (by omega) (by omega);have h2:=ih (i+1) (λj h1 h2=>h j (by omega) (by omega));rw[rM,jU,bD,Nat.add_mul];omega
theorem Zz : ∀(d:Nat) {n:ak},Shape d n=true->(Bf d n).length<=200*7^d
 |0,_,h=>by cases h
 | d+1,n,h=>by
   have hp:=rG h;have h6:=Fh h;have aoj:1<=7^d:=Nat.one_le_pow _ _ (by omega);rw[Tn,Iz];have hb:((bu 0 n.ajX.length).flatMap (FU (Bf d) n)).length<=6*(28+200*7^d):=by
    refine bH (akT (m:=28+200*7^d) _ _ (λj _ hj=>?_)) (aQ _ h6);have hj':j<n.ajX.length:=(by omega);have hk:=Zz d (CV h hj');unfold FU;rw[bD,bD];have a1:(if 0<j then([44]:dR)else []).length<=1:=(by split<;>simp);have a2:(if n.alC=4 then U7 (n.aiJ.getD j default)++[58]else []).length<=27:=by
     split
     ·rename_i h4;obtain⟨mn,_,hn⟩:=Rl hp h4;have:=hn _ (getD_mem default (show j<n.aiJ.length by rw[<- mn.len];exact hj'));have:=aaf (n.aiJ.getD j default);simp only[bD,nI];omega
     ·simp
    omega
   split
   ·rename_i h1;obtain⟨b1,b2⟩:=Ub hp h1;have:=ahQ b1 b2;omega
   ·split
    ·have:=Ql hp;have:=aaf n.amV;omega
    ·split
     ·simp only[iC,iy];omega
     ·split
      ·simp only[bD,nI];omega
      ·simp only[bD,nI];omega
theorem T.gz : ∀(d:Nat) {n:ak},d<=5->Shape d n=true->Ev (λf=>G.gz f n) (Bf d n)
 |0,_,_,h=>by cases h
 | d+1,n,hd,h=>by
   have hM:=maxL;have hp:=rG h;have h6:=Fh h;have aoj:=aae hd;rw[Iz]at aoj;have L:∀(k i:Nat) (z:dR),i+k=n.ajX.length->z.length<=i*1000000->Ev (λf=>G.gz.L5 f n z i)
    (if n.alC=4 then([123]++(z++(bu i k).flatMap (FU (Bf d) n)))++[125]else([91]++(z++(bu i k).flatMap (FU (Bf d) n)))++[93]):=by
    intro k
    induction k with
    | zero=>
      intro i z hi hz;refine ais ?_;simp only[G.gz.L5];refine anm (alH (λe=>alI (alI (ake ?_))) (λe=>alI (alI (ake ?_))))
      ·rw[ahl (by simpa using e)];simp
      ·rw[ahk (by simpa using e)];simp
    | succ k ih=>
      intro i z hi hz;have hil:i<n.ajX.length:=(by omega);have hk:=CV h hil;have hkl:=Zz d hk;have K7:∀z':dR,z'.length<=i*1000000+28->z'++Bf d (n.ajX.getD i default)=z++FU (Bf d) n i->Ev (λf=>G.gz.K7 f n (i:Int) z')
       (if n.alC=4 then([123]++(z++(bu i (k+1)).flatMap (FU (Bf d) n)))++[125]else([91]++(z++(bu i (k+1)).flatMap (FU (Bf d) n)))++[93]):=λz' hz' he=>by
       refine ais ?_;simp only[G.gz.K7,aj,wrS i];refine alI (af5 (T.gz d (by omega) hk) (alI ?_));refine(ih (i+1) _ (by omega) (by rw[bD];omega)).eq ?_;rw[rM,jU,<- gX z,<- he]
      have K6:∀z':dR,z'=z++(if 0<i then [44]else [])->Ev (λf=>G.gz.K6 f n (i:Int) z')
       (if n.alC=4 then([123]++(z++(bu i (k+1)).flatMap (FU (Bf d) n)))++[125]else([91]++(z++(bu i (k+1)).flatMap (FU (Bf d) n)))++[93]):=λz' he=>by
       have hz':z'.length<=i*1000000+1:=by rw[he,bD];have:(if 0<i then([44]:dR)else []).length<=1:=(by split<;>simp);omega
       refine ais ?_;simp only[G.gz.K6,aj];by_cases h4:n.alC=4
       ·obtain⟨mn,_,hn⟩:=Rl hp h4;have hin:i<n.aiJ.length:=(by rw[<- mn.len];exact hil);have h12:=hn _ (getD_mem default hin);have hq:=aaf (n.aiJ.getD i default);refine alZ (by simpa using h4) (alI (af5 (T.nK _ (by omega)) (alI (alI (K7 _ (by simp only[bD,nI];omega) ?_)))));rw[he];unfold FU;rw[ahl h4];simp
       ·refine alW (by simpa using h4) (K7 z' (bH hz' (Nat.add_le_add_left (by decide) _)) ?_);rw[he];unfold FU;rw[ahk h4];simp
      refine ais ?_;simp only[G.gz.L5];refine ani ?_;by_cases h0:0<i
      ·exact ani (alI (K6 _ (by rw[ahl h0])))
      ·exact anm (K6 _ (by rw[ahk h0,iQ]))
   refine ais ?_;simp only[G.gz];rw[Tn];refine alH (λe=>?_) (λe1=>?_)
   ·have e:n.alC=1:=(by simpa using e);rw[ahl e];obtain⟨b1,b2⟩:=Ub hp e;exact af5 (T.agX b1 b2) (akk _)
   rw[ahk (by simpa using e1)];refine alH (λe=>?_) (λe2=>?_)
   ·rw[ahl (by simpa using e)];have:=Ql hp;exact af5 (T.nK _ (by omega)) (akk _)
   rw[ahk (by simpa using e2)];refine alH (λe=>?_) (λe3=>?_)
   ·rw[ahl (by simpa using e)];exact akk _
   rw[ahk (by simpa using e3)];exact(L n.ajX.length 0 [] (by omega) (by simp)).eq (by simp)
def ag2 (s:dR):Nat:=s.foldl (λn b=>(131*n+b.toNat)%65521) 17
def agh (k:Nat):UInt8:=hexD.getD k 0
def X6 (n:Nat):dR:=[agh (n/4096),agh (n/256%16),agh (n/16%16),agh (n%16)]
def Hq (n:ak):dR:=if Val n then X6 (ag2 (Bf 5 n))else []
theorem T.rf (s:dR)(hs:s.length<big):Ev (λf=>G.rf f s) ((ag2 s:Nat):Int):=by
 unfold big at hs;have L:∀(k i m:Nat),i+k=s.length->m<65521->Ev (λf=>G.rf.L1 f s (m:Int) i) (((s.drop i).foldl (λn b=>(131*n+b.toNat)%65521) m:Nat):Int):=by
  intro k
  induction k with
  | zero=>intro i m hi _;refine ais ?_;simp only[G.rf.L1];refine anm (ake ?_);rw[au (by omega)];rfl
  | succ k ih=>intro i m hi hm;have hb:=(s.getD i 0).toNat_lt;refine ais ?_;simp only[G.rf.L1,aj,KD,wrS i,wrapN (x:=131*(m:Int)) (m:=131*m) (by omega) (by omega)];rw[wrapN (x:=((131*m:Nat):Int)+((s.getD i 0).toNat:Int)) (m:=131*m+(s.getD i 0).toNat) (by omega) (by omega),show(65521:Int)=((65521:Nat):Int)from rfl,Ld];rw[dW (0:UInt8) (by omega:i<s.length),vK];exact ani (alI (ih (i+1) _ (by omega) (wo _ (by omega))))
 refine ais ?_;simp only[G.rf];exact L s.length 0 17 (by omega) (by omega)
theorem sum_lt (s:dR):ag2 s<65521:=by
 unfold ag2;have:∀(s:dR) (m:Nat),m<65521->s.foldl (λn b=>(131*n+b.toNat)%65521) m<65521:=by
  intro s
  induction s with
  |nil=>intro m hm;exact hm
  |cons b s ih=>intro m hm;exact ih _ (wo _ (by omega))
 exact this s 17 (by omega)
theorem T.AB {n:Nat}(h:n<65536):Ev (λf=>G.AB f (n:Int)) (X6 n):=by
 have hM:=maxL;have w1:af .i64 (lU (n:Int) 4096)=((n/4096:Nat):Int):=by rw[show(4096:Int)=((4096:Nat):Int)from rfl,Si];exact wrapN rfl (by omega)
 have w2:af .i64 (lU (n:Int) 256)=((n/256:Nat):Int):=by rw[show(256:Int)=((256:Nat):Int)from rfl,Si];exact wrapN rfl (by omega)
 have w3:af .i64 (lU (n:Int) 16)=((n/16:Nat):Int):=by rw[show(16:Int)=((16:Nat):Int)from rfl,Si];exact wrapN rfl (by omega)
 have t2:kP ((n/256:Nat):Int) 16=((n/256%16:Nat):Int):=by rw[show(16:Int)=((16:Nat):Int)from rfl,Ld]
 have t3:kP ((n/16:Nat):Int) 16=((n/16%16:Nat):Int):=by rw[show(16:Int)=((16:Nat):Int)from rfl,Ld]
 have t4:kP (n:Int) 16=((n%16:Nat):Int):=by rw[show(16:Int)=((16:Nat):Int)from rfl,Ld]
 refine ais ?_;simp only[G.AB,w1,w2,w3,t2,t3,t4,aj,EF];exact alI (alI (alI (alI (alI (ake rfl)))))
theorem alz (n:ak):(Hq n).length<=4:=by
 unfold Hq;split
 ·simp[X6]
 ·simp
def apQ : bg:=bg.mk [] 0 wU
def aoN : Option bg->bg×Bool
 |some it=>(it,true)
 |none=>(apQ,false)
def Qx (s:alG)(t:dR):Option bg:=if H7 s then(XX s.akj t).map λj=>s.akj.getD j default else none
theorem YA {s:alG}{t:dR}{it:bg}(h:Qx s t=some it):StF s/\it∈s.akj/\it.al9=t/\Val it.am4=true:=by
 unfold Qx at h;split at h
 ·rename_i hs;obtain⟨j,hj,rfl⟩:=bW.1 h;obtain⟨h1,h2,_⟩:=KJ.1 hj;have:=Ai.1 hs;exact⟨this,getD_mem default h1,h2,(this.it h1).ZX⟩
 ·cases h
theorem T.wb {b:jF}{c:Int}(hc:0<=c/\c<256)(hl:b.buf.length+1<=140737488355328):Ev (λf=>G.bY f b c) ((),jF.mk (b.buf++[fB c.toNat])):=by refine ais ?_;simp only[G.bY];exact ant ⟨hc,hl⟩ (akk _)
theorem T.ws {b:jF}{s:dR}(hl:b.buf.length+s.length<=140737488355328):Ev (λf=>G.mM f b s) ((s.length:Int),(),jF.mk (b.buf++s)):=by refine ais ?_;simp only[G.mM];exact ant hl (akk _)
theorem T.bs' {b:jF}(hl:b.buf.length<=140737488355328):Ev (λf=>G.uC f b) b.buf:=by refine ais ?_;simp only[G.uC];exact ant hl (akk _)
theorem afl (b:UInt8):fB (b.toNat:Int).toNat=b:=by simp
theorem T.gK {s z:dR}(h:z.length+2*s.length+2<=4000000000):Ev (λf=>G.gK f (jF.mk z) s) (jF.mk (z++U7 s)):=by
 have Ll:∀(z:dR) (b:UInt8),z.length<5000000000->Ev (λf=>G.bY f (jF.mk z) (b.toNat:Int)) ((),jF.mk (z++[b])):=λz b hz=>by
  have:=T.wb (b:=jF.mk z) (c:=(b.toNat:Int)) (by have:=b.toNat_lt;omega) (by show z.length+1<=_;omega)
  rwa[afl]at this
 have L:∀(k i:Nat) (z:dR),i+k=s.length->z.length+2*k+1<=4000000001->Ev (λf=>G.gK.L3 f s (i:Int) z) (jF.mk (z++((s.drop i).flatMap RI++[34]))):=by
  intro k
  induction k with
  | zero=>intro i z hi hz;rw[List.drop_eq_nil_of_le (by omega)];refine ais ?_;simp only[G.gK.L3];exact anm (af5 (Ll z 34 (by omega)) (ake rfl))
  | succ k ih=>
    intro i z hi hz;have hlt:i<s.length:=(by omega);have hd:s.drop i=s.getD i 0::s.drop (i+1):=(by rw[List.drop_eq_getElem_cons hlt];simp[bZ,hlt]);have hK:∀z:dR,z.length+2*k+2<=4000000001->Ev (λf=>G.gK.K4 f s (i:Int) z) (jF.mk (z++(s.getD i 0::((s.drop (i+1)).flatMap RI++[34])))):=λz hz=>by refine ais ?_;simp only[G.gK.K4];rw[aj];refine alI (af5 (Ll z (s.getD i 0) (by omega)) ?_);rw[dS (by omega)];have:=ih (i+1) (z++[s.getD i 0]) (by omega) (by simp;omega);simpa using this
    rw[hd];refine ais ?_;simp only[G.gK.L3];rw[aj];refine ani (alI (alH (λe=>?_) (λe=>alI (alH (λe2=>?_) (λe2=>?_)))))
    ·have hb:s.getD i 0=34:=zB.1 (by have:=beq_iff_eq.1 e;show(s.getD i 0).toNat=34;omega);refine af5 (Ll z 92 (by omega)) ?_;have:=hK (z++[92]) (by simp;omega);rw[hb]at this⊢;simpa[RI]using this
    ·have hb:s.getD i 0=92:=zB.1 (by have:=beq_iff_eq.1 e2;show(s.getD i 0).toNat=92;omega);refine af5 (Ll z 92 (by omega)) ?_;have:=hK (z++[92]) (by simp;omega);rw[hb]at this⊢;simpa[RI]using this
    ·have:=hK z (by omega);have hq:RI (s.getD i 0)=[s.getD i 0]:=by
      unfold RI;rw[ahk];rintro(h|h)
      ·rw[h]at e;simp at e
      ·rw[h]at e2;simp at e2
     rw[jU,hq];simpa using this
 refine ais ?_;simp only[G.gK];refine af5 (Ll z 34 (by omega)) ?_;have:=L s.length 0 (z++[34]) (by omega) (by simp;omega);simpa[U7]using this
theorem aiz (z:Int):vF z=Zv z:=by
 unfold vF Zv;split
 ·rw[ado (z.natAbs+1) z.natAbs (by omega),show z.natAbs=(-z).toNat from by omega]
 ·rw[ado (z.toNat+1) z.toNat (by omega)]
theorem T.itoa {z:Int}(h : -900000000000000<=z/\z<=900000000000000):Ev (λf=>G.strconv_Itoa f z) (Zv z):=by rw[<- aiz];exact T.Itoa h
theorem ad5 {n:ak}(h:Parts n=true):n.alC=0\/n.alC=1\/n.alC=2\/n.alC=3\/n.alC=4:=by
 by_cases h0:n.alC=0\/n.alC=1\/n.alC=2\/n.alC=3\/n.alC=4
 ·exact h0
 ·simp only[not_or]at h0;obtain⟨a,b,c,d,e⟩:=h0;unfold Parts at h;rw[ahk a,ahk b,ahk c,ahk d,ahk e]at h;simp at h
theorem Ll {z:dR}(b:UInt8)(hz:z.length<5000000000):Ev (λf=>G.bY f (jF.mk z) (b.toNat:Int)) ((),jF.mk (z++[b])):=by
 have:=T.wb (b:=jF.mk z) (c:=(b.toNat:Int)) (by have:=b.toNat_lt;omega) (by show z.length+1<=_;omega)
 rwa[afl]at this
theorem aba (F:ak->dR)(n:ak)(i:Nat):FU F n i=(if 0<i then [44]else [])++((if n.alC=4 then U7 (n.aiJ.getD i default)++[58]else [])++F (n.ajX.getD i default)):=by unfold FU;rw[gX]
theorem T.di : ∀(d:Nat) {n:ak} {z:dR},Shape d n=true->z.length+(Bf d n).length<=2000000000->Ev (λf=>G.di f (jF.mk z) n) (jF.mk (z++Bf d n))
 |0,_,_,h,_=>by cases h
 | d+1,n,z,h,hz=>by
   have hp:=rG h;have h6:=Fh h;rw[Tn]at hz⊢;have L3:n.alC=3->∀(k i:Nat) (z:dR),i+k=n.ajX.length->z.length+((bu i k).flatMap (FU (Bf d) n)++[93]).length<=2000000000 ->
    Ev (λf=>G.di.L3 f n (i:Int) z) (jF.mk (z++((bu i k).flatMap (FU (Bf d) n)++[93]))):=by
    intro hk3 k
    induction k with
    | zero=>intro i z hi hz;refine ais ?_;simp only[G.di.L3];refine anm (af5 (Ll 93 (by omega)) (ake ?_));simp
    | succ k ih=>
      intro i z hi hz;have hil:i<n.ajX.length:=(by omega);rw[rM,jU]at hz⊢;simp only[bD]at hz;have ez:FU (Bf d) n i=(if 0<i then [44]else [])++Bf d (n.ajX.getD i default):=(by rw[aba,ahk (by omega:¬n.alC=4),jI]);have hK:∀z':dR,z'=z++(if 0<i then [44]else [])->Ev (λf=>G.di.K4 f n (i:Int) z') (jF.mk (z++((FU (Bf d) n i++(bu (i+1) k).flatMap (FU (Bf d) n))++[93]))):=λz' he=>by have e2:z'++Bf d (n.ajX.getD i default)=z++FU (Bf d) n i:=(by rw[he,ez,gX]);have e3:=anr yf e2;simp only[bD]at e3;refine ais ?_;simp only[G.di.K4,aj,wrS i];refine af5 (T.di d (CV h hil) (by omega)) ?_;refine(ih (i+1) _ (by omega) (by simp only[bD];omega)).eq ?_;rw[e2];simp only[gX]
      refine ais ?_;simp only[G.di.L3];refine ani (alI ?_);by_cases h0:0<i
      ·exact ani (af5 (Ll 44 (by omega)) (hK _ (by rw[ahl h0])))
      ·exact anm (hK _ (by rw[ahk h0,iQ]))
   have L7:n.alC=4->∀(k i:Nat) (z:dR),i+k=n.ajX.length->z.length+((bu i k).flatMap (FU (Bf d) n)++[125]).length<=2000000000 ->
    Ev (λf=>G.di.L7 f n (i:Int) z) (jF.mk (z++((bu i k).flatMap (FU (Bf d) n)++[125]))):=by
    intro hk4 k;obtain⟨mn,_,hn⟩:=Rl hp hk4
    induction k with
    | zero=>intro i z hi hz;refine ais ?_;simp only[G.di.L7];refine anm (af5 (Ll 125 (by omega)) (ake ?_));simp
    | succ k ih=>
      intro i z hi hz;have hil:i<n.ajX.length:=(by omega);have hin:i<n.aiJ.length:=(by rw[<- mn.len];exact hil);have h12:=hn _ (getD_mem default hin);rw[rM,jU]at hz⊢;simp only[bD]at hz;have ez:FU (Bf d) n i=(if 0<i then [44]else [])++((U7 (n.aiJ.getD i default)++[58])++Bf d (n.ajX.getD i default)):=(by rw[aba,ahl hk4]);have hK:∀z':dR,z'=z++(if 0<i then [44]else [])->Ev (λf=>G.di.K8 f n (i:Int) z') (jF.mk (z++((FU (Bf d) n i++(bu (i+1) k).flatMap (FU (Bf d) n))++[125]))):=λz' he=>by have e2:((z'++U7 (n.aiJ.getD i default))++[58])++Bf d (n.ajX.getD i default)=z++FU (Bf d) n i:=(by rw[he,ez];simp only[gX]);have e3:=anr yf e2;simp only[bD]at e3;refine ais ?_;simp only[G.di.K8,aj,wrS i];refine alI (af5 (T.gK (by omega)) (af5 (Ll 58 (by simp only[bD];omega)) ?_));refine af5 (T.di d (CV h hil) (by simp only[bD];omega)) ?_;refine(ih (i+1) _ (by omega) (by simp only[bD];omega)).eq ?_;rw[e2];simp only[gX]
      refine ais ?_;simp only[G.di.L7];refine ani (alI ?_);by_cases h0:0<i
      ·exact ani (af5 (Ll 44 (by omega)) (hK _ (by rw[ahl h0])))
      ·exact anm (hK _ (by rw[ahk h0,iQ]))
   refine ais ?_;simp only[G.di];rcases ad5 hp with e|e|e|e|e<;>simp only[e,reduceIte,Int.reduceEq]at hz⊢
   ·exact alZ rfl (af5 (T.ws (by simp only[iC,iy]at hz⊢;omega)) (akk _))
   ·obtain⟨b1,b2⟩:=Ub hp e;exact alW rfl (alZ rfl (af5 (T.itoa (by omega)) (af5 (T.ws (by show z.length+_<=_;omega)) (akk _))))
   ·have:=Ql hp;exact alW rfl (alW rfl (alZ rfl (af5 (T.gK (by omega)) (akk _))))
   ·refine alW rfl (alW rfl (alW rfl (alZ rfl (af5 (Ll 91 (by omega)) ?_))));refine(L3 e n.ajX.length 0 (z++[91]) (by omega) (by simp only[bD,iC,iy]at hz⊢;omega)).eq ?_;simp only[gX]
   ·refine alW rfl (alW rfl (alW rfl (alW rfl (alZ rfl (af5 (Ll 123 (by omega)) ?_)))));refine(L7 e n.ajX.length 0 (z++[123]) (by omega) (by simp only[bD,iC,iy]at hz⊢;omega)).eq ?_;simp only[gX]
theorem fmt5 {n:ak}(h:Val n=true):(Bf 5 n).length<=4000000:=by have:=Zz 5 (ug h);have:=aae (aA 5);omega
def amg (n:ak):dR:=if Val n then Bf 5 n else []
theorem T.qK {B D:Nat}{n:ak}(hB:B<=lim)(h:Fine B D n):Ev (λf=>G.qK f n) (amg n):=by refine ais ?_;simp only[G.qK];unfold amg;refine af5 (T.bJ hB h) (alH (λe=>?_) (λe=>ake (by rw[e];rfl)));have hl:=fmt5 e;rw[e];exact af5 (T.di 5 (ug e) (by simp only[iy];omega)) (af5 (T.bs' (by show(_:dR).length<=_;simp only[jI];omega)) (akk _))
theorem T.je (s:dR)(hs:s.length<big):Ev (λf=>G.je f s) (X6 (ag2 s)):=by
 unfold big at hs;have hM:=maxL;have L2:∀m:Nat,m<65521->Ev (λf=>G.je.L2 f (m:Int) 3 (bC 4 0)) (X6 m):=λm hm=>by
  have st:∀m:Nat,m<65521->af .i64 (lU (m:Int) 16)=((m/16:Nat):Int):=λm hm=>by rw[show(16:Int)=((16:Nat):Int)from rfl,Si];exact wrapN rfl (by omega)
  have tm:∀m:Nat,kP (m:Int) 16=((m%16:Nat):Int):=λm=>by rw[show(16:Int)=((16:Nat):Int)from rfl,Ld]
  refine ais ?_;simp only[G.je.L2,tm,st m hm,aj];refine alZ rfl (alI (ant (by simp) (alI ?_)));refine ais ?_;simp only[G.je.L2,tm,st (m/16) (by omega),aj];refine alZ rfl (alI (ant (by simp;decide) (ant (by decide) ?_)));refine ais ?_;simp only[G.je.L2,tm,st (m/16/16) (by omega),aj];refine alZ rfl (alI (ant (by simp;decide) (ant (by decide) ?_)));refine ais ?_;simp only[G.je.L2,tm,st (m/16/16/16) (by omega),aj];refine alZ rfl (alI (ant (by simp;decide) (ant (by decide) ?_)));refine ais ?_;simp only[G.je.L2];refine alW rfl (ant (by simp) (ant (by simp;omega) (ake ?_)));unfold X6 agh;rw[show m/4096=m/16/16/16%16 by omega,show m/256%16=m/16/16%16 by omega];show I9 [((hexD.getD (m/16/16/16%16) 0).toNat:Int),((hexD.getD (m/16/16%16) 0).toNat:Int),((hexD.getD (m/16%16) 0).toNat:Int),((hexD.getD (m%16) 0).toNat:Int)]=_;simp[I9]
 have L:∀(k i m:Nat),i+k=s.length->m<65521->Ev (λf=>G.je.L1 f s (m:Int) i) (X6 ((s.drop i).foldl (λn b=>(131*n+b.toNat)%65521) m)):=by
  intro k
  induction k with
  | zero=>intro i m hi hm;refine ais ?_;simp only[G.je.L1];rw[au (by omega)];exact anm (L2 m hm)
  | succ k ih=>intro i m hi hm;have hb:=(s.getD i 0).toNat_lt;refine ais ?_;simp only[G.je.L1,aj,KD,wrS i,wrapN (x:=131*(m:Int)) (m:=131*m) (by omega) (by omega)];rw[wrapN (x:=((131*m:Nat):Int)+((s.getD i 0).toNat:Int)) (m:=131*m+(s.getD i 0).toNat) (by omega) (by omega),show(65521:Int)=((65521:Nat):Int)from rfl,Ld];rw[dW (0:UInt8) (by omega:i<s.length),vK];exact ani (alI (ih (i+1) _ (by omega) (wo _ (by omega))))
 refine ais ?_;simp only[G.je];exact L s.length 0 17 (by omega) (by omega)
theorem T.vk {B D:Nat}{n:ak}(hB:B<=lim)(h:Fine B D n):Ev (λf=>G.vk f n) (Hq n):=by refine ais ?_;simp only[G.vk];unfold Hq;refine af5 (T.bJ hB h) (alH (λe=>?_) (λe=>ake (by rw[e];rfl)));have hl:=fmt5 e;have hf:=T.qK hB h;unfold amg at hf;rw[e]at hf⊢;exact af5 hf (af5 (T.je _ (by show(Bf 5 n).length<_;unfold big;omega)) (akk _))
theorem ajl {n c:ak}{j:Nat}(s:dR):Gt (Jr n j c) s=Gt n s:=by
 unfold Gt;have e:(Jr n j c).ajX.length=n.ajX.length:=by simp[Jr]
 rw[e];rfl
theorem aiH {n c:ak}{j:Nat}(h:j<n.ajX.length):(Jr n j c).ajX.getD j default=c:=by simp[Jr,bZ,h]
abbrev N2 (x:ak×ak):Prop:=aaE 60 x.1/\aaE 60 x.2
theorem KP {n:ak}(h:JV n){r:dR}{k:ak} : lk n r=some k<->(r,k)∈n.aiJ.zip n.ajX:=by
 have at_:∀j,j<n.aiJ.length->(n.aiJ.getD j default,n.ajX.getD j default)∈n.aiJ.zip n.ajX:=λj hj=>by
  have hk:j<n.ajX.length:=by rw[h.len];exact hj
  rw[gJ _ hj,gJ _ hk];exact jW.2 ⟨j,by simp;omega,by simp⟩
 constructor
 ·intro e;unfold lk at e;obtain⟨j,hj,rfl⟩:=bW.1 e;obtain⟨h1,h2,_⟩:=Og.1 hj;rw[G8 h.kind,akg]at h2;rw[<- h2];exact at_ j (by rw[<- h.len];exact h1)
 ·intro e;obtain⟨j,hj,e⟩:=jW.1 e;have hj1:j<n.aiJ.length:=by simp at hj;omega
  have hj2:j<n.ajX.length:=by simp at hj;omega
  simp only[Fz,bI]at e;obtain⟨e1,e2⟩:=e;have hp:Gt n r=some j:=by rw[Og];refine⟨hj2,by rw[G8 h.kind,gJ _ hj1,e1];simp,λq hq=>?_⟩;rw[G8 h.kind];have:=JH (H6 h.QE q j hq hj1);rw[gJ _ hj1,e1]at this;simpa using this
  unfold lk;rw[hp,iR,gJ _ hj2,e2]
theorem alF {α β:Type}{a:List α}{b:List β}{p:Nat}{x:α}{y:β}(h:a.length=b.length):(insL a p x).zip (insL b p y)=insL (a.zip b) p (x,y):=by
 unfold insL;rw[Gn (by simp[h]),Gn (by simp[h])];have e1:(a.zip b).take p=(a.take p).zip (b.take p):=by rw[Ig,List.take_zipWith]
 have e2:(a.zip b).drop p=(a.drop p).zip (b.drop p):=by rw[Ig,List.drop_zipWith]
 rw[e1,e2];rfl
theorem ZM {α:Type}{l:List α}{p:Nat}{x y:α} : y∈insL l p x<->y=x\/y∈l:=by
 unfold insL;rw[aY,aY,rW];have:=CG p l;constructor
 ·rintro((h|h)|h)
  ·exact .inr (fD h)
  ·exact .inl h
  ·exact .inr (kN h)
 ·rintro(h|h)
  ·exact .inl (.inr h)
  ·rw[<- this,aY]at h;rcases h with h|h
   ·exact .inl (.inl h)
   ·exact .inr h
theorem ahv {n v:ak}{s:dR}(h:JV n)(hs:s ∉ n.aiJ):∃m,addN n s v=some m/\m.alC=4/\m.Num=0/\m.amV=[]/\m.ajX.length=m.aiJ.length/\∀r k,(r,k)∈m.aiJ.zip m.ajX<->(r,k)=(s,v)\/(r,k)∈n.aiJ.zip n.ajX:=by
 have hp:Gt n s=none:=by have:=(Rk h).2 hs;unfold lk at this;simpa using this
 have hk:=h.kind;refine⟨ak.mk 4 0 [] (insL n.aiJ (slt n s) s) (insL n.ajX (slt n s) v),?_,rfl,rfl,rfl,?_,λr k=>?_⟩
 ·unfold addN;rw[hp];simp only[hk,amB,show ¬((4:Int)=3) by decide,if_false]
 ·show(insL n.ajX _ v).length=(insL n.aiJ _ s).length;have:=h.len;unfold insL;simp;omega
 ·show(r,k)∈(insL n.aiJ (slt n s) s).zip (insL n.ajX (slt n s) v)<->_;rw[alF h.len.symm,ZM]
theorem aaR : ∀{l:List dR} (i:Nat),Asc l=true->Asc (l.take i)=true
 |_,0,_=>by simp[Asc]
 |[],i+1,_=>rfl
 | x::l,i+1,h=>by rw[mZ];exact VG (aaR i (I5 h)) (λy hy=>Kr h y (fD hy))
theorem ak4 {n m v:ak}{s:dR}(h:JV n)(hs:s ∉ n.aiJ)(hm:addN n s v=some m):Asc m.aiJ=true:=by
 have hp:Gt n s=none:=by have:=(Rk h).2 hs;unfold lk at this;simpa using this
 have hk:=h.kind;unfold addN at hm;rw[hp]at hm;simp only[hk,amB,show ¬((4:Int)=3) by decide,if_false,aC]at hm;subst hm;show Asc (insL n.aiJ (slt n s) s)=true;have hle:=aej n s;have hl:=h.len;have before:∀i,i<slt n s->bl (n.aiJ.getD i default) s=true:=λi hi=>by
  have h1:bl s (n.aiJ.getD i default)=false:=by
   unfold slt at hi;cases hf:(bu 0 n.ajX.length).find? λi=>bl s (n.aiJ.getD i default)with
   | none=>rw[hf]at hi;exact OM.1 hf i (by omega) (by simpa using hi)
   | some j=>rw[hf]at hi;exact(IU.1 hf).2.2.2 i (by omega) hi
  cases h2:bl (n.aiJ.getD i default) s with
  |true=>rfl
  |false=>exact al7 (getD_mem default (by omega:i<n.aiJ.length)) (by rw[Nz h2 h1];exact hs)
 have behind:∀i,slt n s<=i->i<n.aiJ.length->bl s (n.aiJ.getD i default)=true:=λi h1 h2=>by
  have h3:slt n s<n.ajX.length:=by omega
  have h4:bl s (n.aiJ.getD (slt n s) default)=true:=by
   unfold slt at h3⊢;cases hf:(bu 0 n.ajX.length).find? λi=>bl s (n.aiJ.getD i default)with
   |none=>rw[hf]at h3;simp at h3
   |some j=>exact(IU.1 hf).2.2.1
  by_cases e:slt n s=i
  ·rw[<- e];exact h4
  ·exact Dt h4 (H6 h.QE (slt n s) i (by omega) h2)
 generalize slt n s=p at *;unfold insL;have key:∀(A S:List dR),Asc A=true->Asc S=true->(∀x,x∈A->bl x s=true)->(∀y,y∈S->bl s y=true)->Asc ((A++[s])++S)=true:=by
  intro A
  induction A with
  |nil=>intro S _ hS _ h2;exact VG hS h2
  | cons a A ih=>
    intro S hA hS h1 h2;rw[yN,yN];refine VG (ih S (I5 hA) hS (λx hx=>h1 x (by simp[hx])) h2) (λy hy=>?_);rcases aY.1 hy with hy|hy
    ·rcases aY.1 hy with hy|hy
     ·exact Kr hA y hy
     ·rw[rW]at hy;subst hy;exact h1 a (by simp)
    ·exact Dt (h1 a (by simp)) (h2 y hy)
 refine key _ _ (aaR p h.QE) (aaP p h.QE) (λx hx=>?_) (λy hy=>?_)
 ·obtain⟨i,hi,e⟩:=jW.1 hx;have hi2:i<p/\i<n.aiJ.length:=by simp at hi;omega
  have:=before i hi2.1;rw[gJ _ hi2.2]at this;rw[<- e];simpa using this
 ·obtain⟨i,hi,e⟩:=jW.1 hy;have hi2:p+i<n.aiJ.length:=by simp at hi;omega
  have:=behind (p+i) (by omega) hi2;rw[gJ _ hi2]at this;rw[<- e];simpa using this
structure Mp (m:ak):Prop where
 map:JV m
 num:m.Num=0
 text:m.amV=[]
theorem aoF {n:ak}(h:Parts n=true)(hk:n.alC=4):Mp n:=⟨(Rl h hk).1,(Bh h hk).1,(Bh h hk).2.1⟩
theorem amZ {m x:ak}{s:dR}(h:lk m s=some x):∃j,Gt m s=some j/\m.ajX.getD j default=x:=by unfold lk at h;exact bW.1 h
theorem aoA {m:ak}(h:JV m){i:Nat}(hi:i<m.ajX.length):lk m (m.aiJ.getD i default)=some (m.ajX.getD i default):=by
 have hi':i<m.aiJ.length:=by rw[<- h.len];exact hi
 rw[KP h,gJ _ hi,gJ _ hi'];exact jW.2 ⟨i,by simp;omega,by simp⟩
theorem abN {m:ak}(h:JV m){i j:Nat}(hi:i<m.aiJ.length)(hj:j<m.aiJ.length)(e:m.aiJ.getD i default=m.aiJ.getD j default):i=j:=by
 rcases Nat.lt_trichotomy i j with k|k|k
 ·exact al7 e (JH (H6 h.QE i j k hj))
 ·exact k
 ·exact al7 e.symm (JH (H6 h.QE j i k hi))
theorem ak7 {m y:ak}{s:dR}{j:Nat}(h:JV m)(hj:Gt m s=some j)(r:dR):lk (Jr m j y) r=if r=s then some y else lk m r:=by
 unfold lk;rw[ajl];by_cases e:r=s
 ·subst e;rw[ahl rfl,hj,iR,aiH (Ag hj)]
 ·rw[ahk e];cases hr:Gt m r with
  |none=>rfl
  | some i=>
    have hne:j≠i:=λe2=>by subst e2;have a:=OZ hj;have b:=OZ hr;rw[G8 h.kind,akg]at a b;exact e (b.symm.trans a)
    simp[Jr,bZ,List.getElem?_set,hne]
theorem ala {m y:ak}{j:Nat}(h:Mp m):Mp (Jr m j y):=⟨⟨h.map.kind,h.map.QE,by show(m.ajX.set j y).length=m.aiJ.length;rw[qp];exact h.map.len⟩,h.num,h.text⟩
theorem agC {α:Type}{l:List α}{k:Nat}{y:α} : y∈yF l k<->∃i,∃h:i<l.length,i≠k/\l[i]=y:=by
 unfold yF;rw[aY,List.mem_take_iff_getElem,List.mem_drop_iff_getElem];constructor
 ·rintro(⟨i,h,e⟩|⟨i,h,e⟩)
  ·exact⟨i,by omega,by omega,e⟩
  ·exact⟨k+1+i,by omega,by omega,e⟩
 ·rintro⟨i,h,hk,e⟩;by_cases c:i<k
  ·exact .inl ⟨i,by omega,e⟩
  ·refine .inr ⟨i-(k+1),by omega,?_⟩;have:k+1+(i-(k+1))=i:=(by omega);simp only[this];exact e
theorem ahg {α β:Type}{a:List α}{b:List β}{k:Nat}(h:a.length=b.length):(yF a k).zip (yF b k)=yF (a.zip b) k:=by
 unfold yF;rw[Gn (by simp[h])];have e1:(a.zip b).take k=(a.take k).zip (b.take k):=by rw[Ig,List.take_zipWith]
 have e2:(a.zip b).drop (k+1)=(a.drop (k+1)).zip (b.drop (k+1)):=by rw[Ig,List.drop_zipWith]
 rw[e1,e2]
theorem ang {m:ak}{s:dR}(h:JV m)(hs:s∈m.aiJ):∃m',F9 m s=some m'/\Mp m'/\∀r,lk m' r=if r=s then none else lk m r:=by
 obtain⟨x,hx⟩:=iW.1 ((aiM h).2 hs);obtain⟨j,hj,_⟩:=amZ hx;obtain⟨hjl,hjh,_⟩:=Og.1 hj;rw[G8 h.kind,akg]at hjh;have hjn:j<m.aiJ.length:=by rw[<- h.len];exact hjl
 have hM:JV (ak.mk 4 0 [] (yF m.aiJ j) (yF m.ajX j)):=by refine⟨rfl,BJ.2 ((BJ.1 h.QE).sublist (DW _ _)),?_⟩;show(yF m.ajX j).length=(yF m.aiJ j).length;rw[GN hjl,GN hjn,h.len]
 refine⟨_,?_,⟨hM,rfl,rfl⟩,λr=>?_⟩
 ·unfold F9;rw[hj];simp only[h.kind,amB]
 ·apply Option.ext;intro x;rw[KP hM];show(r,x)∈(yF m.aiJ j).zip (yF m.ajX j)<->_;rw[ahg h.len.symm,agC];by_cases e:r=s
  ·rw[ahl e];constructor
   ·rintro⟨i,hi,hne,e2⟩;have l1:i<m.aiJ.length:=(by simp at hi;omega);rw[Fz,bI]at e2;refine al7 (abN h l1 hjn ?_) hne;rw[gJ _ l1,e2.1,hjh,e]
   ·intro e2;cases e2
  ·rw[ahk e,KP h,jW];constructor
   ·rintro⟨i,hi,_,e2⟩;exact⟨i,hi,e2⟩
   ·rintro⟨i,hi,e2⟩;refine⟨i,hi,λc=>?_,e2⟩;subst c;rw[Fz,bI]at e2;rw[gJ _ hjn,e2.1]at hjh;exact e hjh
theorem amn {m v:ak}{s:dR}(h:JV m)(hs:s ∉ m.aiJ):∃m',addN m s v=some m'/\Mp m'/\∀r,lk m' r=if r=s then some v else lk m r:=by
 obtain⟨m',e,k1,k2,k3,k4,k5⟩:=ahv (v:=v) h hs;have hM:JV m':=⟨k1,ak4 h hs e,k4⟩;refine⟨m',e,⟨hM,k2,k3⟩,λr=>?_⟩;apply Option.ext;intro x;rw[KP hM,k5];by_cases c:r=s
 ·rw[ahl c];constructor
  ·rintro(q|q)
   ·rw[bI]at q;rw[q.2]
   ·have:=(Rk h).2 hs;rw[<- KP h,c,this]at q;cases q
  ·intro q;cases q;exact .inl (by rw[c])
 ·rw[ahk c,KP h];constructor
  ·rintro(q|q)
   ·rw[bI]at q;exact al7 q.1 c
   ·exact q
  ·exact .inr
theorem J6 {l:List dR}{i:Nat}(h:i<l.length){r:dR} : r∈l.take (i+1)<->r∈l.take i\/r=l.getD i default:=by rw[jS h,aY,rW,gJ _ h]
theorem aja {m:ak}(h:JV m){i:Nat}(hi:i<m.aiJ.length):m.aiJ.getD i default ∉ m.aiJ.take i:=by
 intro c;obtain⟨j,hj,e⟩:=List.mem_take_iff_getElem.1 c;have hj':j<m.aiJ.length:=by omega
 have:=abN h hj' hi (by rw[gJ _ hj'];exact e);omega
def upn (p:List dR)(o:pW):pW:=pW.mk o.alC (p++o.anu) [] o.Value
theorem T.bs {n:ak}(s:dR)(h:JV n)(hl:n.aiJ.length<=1000):∃p:Nat,Ev (λf=>G.slices_BinarySearch_string f n.aiJ s) ((p:Int),(Gt n s).isSome)/\∀j,Gt n s=some j->p=j:=by
 obtain⟨p,g,hp⟩:=T.slices_BinarySearch_string s (by unfold big;omega) h.QE;have hpl:=aac h.kind h.QE h.len hp;cases hc:decide (p<n.aiJ.length)&&n.aiJ.getD p default==s with
 | true=>rw[hc]at g hpl;rw[ahl rfl]at hpl;refine⟨p,by rw[hpl];exact g,λj hj=>?_⟩;rw[hpl]at hj;exact Option.some.inj hj
 | false=>rw[hc]at g hpl;rw[ahk (by simp)]at hpl;refine⟨p,by rw[hpl];exact g,λj hj=>?_⟩;rw[hpl]at hj;cases hj
theorem FK.big {B:Nat}{p:List dR}(hB:B<=1000)(h:FK B p):p.length<Ab.big:=by have:=h.1;unfold Ab.big;omega
theorem N2.fine {x:ak×ak}(h:N2 x):∃D E,Fine 60 D x.1/\Fine 60 E x.2:=by obtain⟨⟨D,h1⟩,⟨E,h2⟩⟩:=h;exact⟨D,E,h1,h2⟩
structure MF (D c:Nat)(m:ak):Prop where
 mp:Mp m
 cnt:m.aiJ.length<=c
 sh:∀s,s∈m.aiJ->s.length<=12
 kid:∀k,k∈m.ajX->Fine 12 D k
theorem MF.fine {D c:Nat}{m:ak}(h:MF D c m)(hc:c<=12):Fine 12 (D+1) m:=by have h1:=h.cnt;have h2:=h.mp.map.len;exact⟨by rw[h.mp.text];simp,by omega,h.sh,by omega,λ_=>by omega,h.kid⟩
theorem adJ {α:Type}{l:List α}{k:Nat}{v:α}(h:k<=l.length):(insL l k v).length=l.length+1:=by unfold insL;simp;omega
theorem Y7 {m v:ak}{s:dR}{j:Nat}(h:JV m)(hj:Gt m s=some j):addN m s v=some (Jr m j v):=by unfold addN;rw[hj];simp[h.kind]
theorem aaJ {m v:ak}{s:dR}(h:JV m)(hj:Gt m s=none):addN m s v=some (ak.mk 4 0 [] (insL m.aiJ (slt m s) s) (insL m.ajX (slt m s) v)):=by unfold addN;rw[hj];simp[h.kind]
theorem aad {m:ak}{s:dR}(h:JV m):Gt m s=none<->s ∉ m.aiJ:=by rw[<- Rk h];unfold lk;simp
theorem am2 {D c:Nat}{m v:ak}{s:dR}(h:MF D c m)(hs:s.length<=12)(hv:Fine 12 D v) :
 ∃m',addN m s v=some m'/\MF D (c+1) m'/\∀r,lk m' r=if r=s then some v else lk m r:=by
 cases hj:Gt m s with
 | some j=>
   refine⟨Jr m j v,Y7 h.mp.map hj,⟨ala h.mp,Nat.le_succ_of_le h.cnt,h.sh,λk hk=>?_⟩,ak7 h.mp.map hj⟩;rcases pq hk with q|q
   ·exact h.kid k q
   ·exact q▸hv
 | none=>
   obtain⟨m',e,g1,g2⟩:=amn (v:=v) h.mp.map ((aad h.mp.map).1 hj);refine⟨m',e,?_,g2⟩;rw[aaJ h.mp.map hj,aC]at e;subst e;have hsl:=aej m s;have hl:=h.mp.map.len;refine⟨g1,?_,λt ht=>?_,λk hk=>?_⟩
   ·show(insL m.aiJ (slt m s) s).length<=_;rw[adJ (by omega)];have:=h.cnt;omega
   ·rcases ZM.1 ht with q|q
    ·exact q▸hs
    ·exact h.sh t q
   ·rcases ZM.1 hk with q|q
    ·exact q▸hv
    ·exact h.kid k q
theorem am3 {D c:Nat}{m:ak}{s:dR}(h:MF D c m):MF D c ((F9 m s).getD m)/\∀r,lk ((F9 m s).getD m) r=if r=s then none else lk m r:=by
 cases hj:Gt m s with
 | none=>
   have:F9 m s=none:=(by unfold F9;rw[hj]);rw[this];refine⟨h,λr=>?_⟩;by_cases c:r=s
   ·rw[ahl c,c];exact(Rk h.mp.map).2 ((aad h.mp.map).1 hj)
   ·rw[ahk c];rfl
 | some j=>
   have hs:s∈m.aiJ:=by apply Classical.byContradiction;intro q;rw[(aad h.mp.map).2 q]at hj;cases hj
   obtain⟨m',e,g1,g2⟩:=ang h.mp.map hs;rw[e];refine⟨?_,g2⟩;unfold F9 at e;rw[hj]at e;simp only[h.mp.map.kind,amB,aC]at e;subst e;have hjl:=Ag hj;refine⟨g1,?_,λt ht=>h.sh t ((DW _ _).subset ht),λk hk=>h.kid k ((DW _ _).subset hk)⟩;show(yF m.aiJ j).length<=c;have:=h.mp.map.len;rw[GN (by omega)];have:=h.cnt;omega
theorem T.ad8 {n v:ak}(s:dR)(h:Mp n)(hn:n.aiJ.length<=1000):∃m,addN n s v=some m/\Ev (λf=>G.o6 f n s v) m:=by
 have hk:=h.map.kind;have hkl:=h.map.len;obtain⟨p,g,hlb⟩:=T.slices_BinarySearch_string s (by unfold big;omega) h.map.QE;have hpl:=aac hk h.map.QE hkl hlb;have aoi:=hlb.le;cases hc:decide (p<n.aiJ.length)&&n.aiJ.getD p default==s with
 | true=>rw[hc,ahl rfl]at hpl;refine⟨Jr n p v,Y7 h.map hpl,ais ?_⟩;simp only[G.o6];have:=Ag hpl;refine af5 g (alZ hc (alI (ake ?_)));rw[aj];rfl
 | false=>
   rw[hc,ahk (by simp)]at hpl;have hsl:=ajC h.map.QE hkl hlb hc;refine⟨ak.mk 4 0 [] (insL n.aiJ p s) (insL n.ajX p v),by rw[aaJ h.map hpl,hsl],ais ?_⟩;simp only[G.o6];refine af5 g (alW hc ?_);have i1:Ev (λf=>G.l9 f n.aiJ (p:Int) [s]) (insL n.aiJ p s):=by refine ais ?_;simp only[G.l9];refine ant (by simp;omega) (ake ?_);rw[aj];rfl
   have i2:Ev (λf=>G.iV f n.ajX (p:Int) [v]) (insL n.ajX p v):=by refine ais ?_;simp only[G.iV];refine ant (by simp;omega) (ake ?_);rw[aj];rfl
   exact af5 i1 (af5 i2 (ake (by rw[h.num,h.text,hk])))
theorem T.ahT {n:ak}(s:dR)(h:Mp n)(hn:n.aiJ.length<=1000):Ev (λf=>G.vH f n s) ((F9 n s).getD n):=by
 have hkl:=h.map.len;obtain⟨p,g,hp⟩:=T.bs s h.map hn;refine ais ?_;simp only[G.vH];refine af5 g ?_;unfold F9;cases hj:Gt n s with
 |none=>exact alW rfl (akk _)
 | some j=>
   have e:=hp j hj;subst e;have hpl:=Ag hj;simp only[wrS p];have d1:Ev (λf=>G.jM f n.ajX (p:Int) ((p+1:Nat):Int)) (yF n.ajX p):=by refine ais ?_;simp only[G.jM,aj];exact alI (akk _)
   have d2:Ev (λf=>G.slices_Delete_string f n.aiJ (p:Int) ((p+1:Nat):Int)) (yF n.aiJ p):=by refine ais ?_;simp only[G.slices_Delete_string,aj];exact alI (akk _)
   refine alZ rfl (af5 d2 (af5 d1 (ake ?_)));simp[h.map.kind,h.num,h.text]
def ab7 (m:ak)(s:dR)(v:ak):ak:=(addN m s v).getD m
theorem am1 {D:Nat} : MF D 0 an4:=⟨⟨⟨rfl,rfl,rfl⟩,rfl,rfl⟩,aA _,(λs hs=>by cases hs),(λk hk=>by cases hk)⟩
structure MS (d:Nat)(a:ak):Prop where
 mp:Mp a
 sh:Shape (d+1) a=true
 len:a.aiJ.length<=6
 txt:∀s,s∈a.aiJ->s.length<=12
theorem ae3 {d:Nat}{a:ak}(h:Shape (d+1) a=true)(hk:a.alC=4):MS d a:=by obtain⟨_,h2,h3⟩:=Rl (rG h) hk;exact⟨aoF (rG h) hk,h,h2,h3⟩
theorem MS.name {d:Nat}{a:ak}(h:MS d a){i:Nat}(hi:i<a.ajX.length):(a.aiJ.getD i default).length<=12:=h.txt _ (getD_mem default (by rw[<- h.mp.map.len];exact hi))
theorem MS.mf {d:Nat}{a:ak}(h:MS d a):MF d 6 a:=⟨h.mp,h.len,h.txt,λk hk=>zQ (vw h.sh k hk)⟩
theorem Ro {D E c e:Nat}{m:ak}(h:MF D c m)(hD:D<=E)(hc:c<=e):MF E e m:=⟨h.mp,bH h.cnt hc,h.sh,λk hk=>(h.kid k hk).mono (aA _) hD⟩
theorem ad9 {D c:Nat}{m v:ak}{s:dR}(h:MF D c m)(hs:s.length<=12)(hv:Fine 12 D v):addN m s v=some (ab7 m s v)/\MF D (c+1) (ab7 m s v)/\∀r,lk (ab7 m s v) r=if r=s then some v else lk m r:=by
 obtain⟨m',e,h1,h2⟩:=am2 h hs hv;have:ab7 m s v=m':=by unfold ab7;rw[e];rfl
 rw[this];exact⟨e,h1,h2⟩
theorem LX (k:Nat):bu 0 (k+1)=bu 0 k++[k]:=by rw[List.range'_concat];simp
theorem TZ {a:ak}(h:JV a){i:Nat}(hi:i<a.ajX.length):a.aiJ.getD i default ∉ a.aiJ.take i:=aja h (by rw[<- h.len];exact hi)
def U4 (F:ak->ak->ak)(p m:ak)(i:Nat):ak:=
 if(p.ajX.getD i default).alC=0 then(F9 m (p.aiJ.getD i default)).getD m else ab7 m (p.aiJ.getD i default) (F ((lk m (p.aiJ.getD i default)).getD wU) (p.ajX.getD i default))
def SQ (n:ak):ak:=if n.alC=4 then n else an4
def OU : Nat->ak->ak->ak
 |0,_,p=>p
 |d+1,n,p=>if p.alC=4 then(bu 0 p.ajX.length).foldl (U4 (OU d) p) (SQ n)else p
theorem WX {d:Nat}{n p:ak} : OU (d+1) n p=if p.alC=4 then(bu 0 p.ajX.length).foldl (U4 (OU d) p) (SQ n)else p:=by rw[OU]
def mgV (F:ak->ak->ak)(n0 p:ak)(r:dR):Option ak:=match lk p r with
 |none=>lk n0 r
 |some q=>if q.alC=0 then none else some (F ((lk n0 r).getD wU) q)
theorem TQ {d D c:Nat}{n0 p:ak}{F:ak->ak->ak}(mp:MS d p)(h0:MF D c n0){Q:ak->Prop}(hQ:Q wU)(hq:∀k,k∈n0.ajX->Q k)(hF:∀o q,Q o->Shape d q=true->Fine 12 D (F o q)) :
 ∀i,i<=p.ajX.length->MF D (c+i) ((bu 0 i).foldl (U4 F p) n0)/\∀r,lk ((bu 0 i).foldl (U4 F p) n0) r=if r∈p.aiJ.take i then mgV F n0 p r else lk n0 r:=by
 intro i
 induction i with
 |zero=>intro _;exact⟨h0,λr=>by simp⟩
 | succ i ih=>
   intro hi;obtain⟨h1,h2⟩:=ih (by omega);have hi':i<p.ajX.length:=(by omega);have hin:i<p.aiJ.length:=(by rw[<- mp.mp.map.len];exact hi');have hx:=aoA mp.mp.map hi';have hnt:=TZ mp.mp.map hi';rw[LX,EE,vK,GI];generalize (bu 0 i).foldl (U4 F p) n0=m at h1 h2⊢;have hms:lk m (p.aiJ.getD i default)=lk n0 (p.aiJ.getD i default):=(by rw[h2,ahk hnt]);have fin:∀(m':ak),(∀r,lk m' r=if r=p.aiJ.getD i default then mgV F n0 p (p.aiJ.getD i default)else lk m r)->∀r,lk m' r=if r∈p.aiJ.take (i+1)then mgV F n0 p r else lk n0 r:=λm' g r=>by
    rw[g];by_cases c:r=p.aiJ.getD i default
    ·rw[ahl c,ahl ((J6 hin).2 (.inr c)),c]
    ·rw[ahk c,h2];by_cases q:r∈p.aiJ.take i
     ·rw[ahl q,ahl ((J6 hin).2 (.inl q))]
     ·rw[ahk q,ahk (λz=>((J6 hin).1 z).elim q c)]
   unfold U4;by_cases c:(p.ajX.getD i default).alC=0
   ·rw[ahl c];obtain⟨g1,g2⟩:=am3 (s:=p.aiJ.getD i default) h1;refine⟨Ro g1 (aA _) (by omega),fin _ (λr=>?_)⟩;rw[g2];have:mgV F n0 p (p.aiJ.getD i default)=none:=(by unfold mgV;rw[hx];simp only[ahl c]);rw[this]
   ·rw[ahk c,hms];have hold:Q ((lk n0 (p.aiJ.getD i default)).getD wU):=by
     cases hl:lk n0 (p.aiJ.getD i default)with
     |none=>exact hQ
     |some x=>exact hq _ (adP hl)
    obtain⟨_,g1,g2⟩:=ad9 h1 (mp.name hi') (hF _ _ hold (CV mp.sh hi'));refine⟨g1,fin _ (λr=>?_)⟩;rw[g2];have:mgV F n0 p (p.aiJ.getD i default)=some (F ((lk n0 (p.aiJ.getD i default)).getD wU) (p.ajX.getD i default)):=(by unfold mgV;rw[hx];simp only[ahk c]);rw[this]
abbrev ShN (E:Nat)(n:ak):Prop:=Shape E n=true\/n=wU
theorem acY {E:Nat}{n:ak}(h:ShN E n):∃e,(e+1=E\/e=0)/\MF e 6 (SQ n)/\∀k,k∈(SQ n).ajX->ShN e k:=by
 unfold SQ;by_cases hk:n.alC=4
 ·rw[ahl hk];rcases h with h|h
  ·cases E with
   |zero=>cases h
   |succ e=>exact⟨e,.inl rfl,(ae3 h hk).mf,λk hk'=>.inl (vw h k hk')⟩
  ·rw[h]at hk;cases hk
 ·rw[ahk hk];exact⟨0,.inr rfl,Ro am1 (aA _) (by omega),λk hk'=>by cases hk'⟩
theorem Rq : ∀(d:Nat) {E:Nat} {n p:ak},Shape d p=true->ShN E n->Fine 12 (d+E+1) (OU d n p)
 |0,_,_,_,h,_=>by cases h
 | d+1,E,n,p,hp,hn=>by
   rw[WX];by_cases h4:p.alC=4
   ·rw[ahl h4];have mp:=ae3 hp h4;obtain⟨e,he,hb,hk⟩:=acY hn;have h:=(TQ (F:=OU d) (D:=d+e+1) mp (Ro hb (by omega) (aA _)) (Q:=ShN e) (.inr rfl) hk (λo q ho hq=>Rq d hq ho) p.ajX.length (aA _)).1;have:=mp.len;have:=mp.mp.map.len;exact(h.fine (by omega)).mono (aA _) (by omega)
   ·rw[ahk h4];exact(zQ hp).mono (aA _) (by omega)
section
section
variable {d e:Nat} {n0 p:ak} (mp:MS d p) (h0:MF (d+e+1) 6 n0) (hq:∀k,k∈n0.ajX->ShN e k) (hd:d<=5)
include mp h0 hq hd
theorem T.LP.L4 (hs:∀o q,ShN e o->Shape d q=true->Ev (λf=>G.dP f o q) (OU d o q)):∀(t i:Nat),i+t=p.ajX.length ->
 Ev (λf=>G.dP.L4 f p (i:Int) ((bu 0 i).foldl (U4 (OU d) p) n0).alC ((bu 0 i).foldl (U4 (OU d) p) n0).Num ((bu 0 i).foldl (U4 (OU d) p) n0).amV ((bu 0 i).foldl (U4 (OU d) p) n0).aiJ ((bu 0 i).foldl (U4 (OU d) p) n0).ajX) ((bu 0 p.ajX.length).foldl (U4 (OU d) p) n0):=by
 have hl:=mp.len;have hk:=mp.mp.map.len;intro t
 induction t with
 | zero=>intro i hi;have:i=p.ajX.length:=(by omega);subst this;refine ais ?_;simp only[G.dP.L4];exact anm (ake (ak.eta _))
 | succ t ih=>
   intro i hi;have hn:=ih (i+1) (by omega);rw[LX,EE,vK,GI]at hn;have hF:=λ(o q:ak) (ho:ShN e o) (hq:Shape d q=true)=>Rq d hq ho;obtain⟨h1,h2⟩:=TQ mp h0 (Q:=ShN e) (.inr rfl) hq hF i (by omega);generalize (bu 0 i).foldl (U4 (OU d) p) n0=m at h1 h2 hn⊢;have hi':i<p.ajX.length:=(by omega);have hx:=CV mp.sh hi';have hc:=h1.cnt;have hms:lk m (p.aiJ.getD i default)=lk n0 (p.aiJ.getD i default):=(by rw[h2,ahk (TZ mp.mp.map hi')]);obtain⟨q,gq,hqj⟩:=T.bs (p.aiJ.getD i default) h1.mp.map (by omega);refine ais ?_;simp only[G.dP.L4,aj,wrS i,ak.eta];unfold U4 at hn;refine ani (alI (alI ?_));by_cases c:(p.ajX.getD i default).alC=0
   ·rw[ahl c]at hn;exact alZ (by simpa using c) (af5 (T.ahT _ h1.mp (by omega)) hn)
   ·rw[ahk c]at hn;have fin:∀o,o=(lk m (p.aiJ.getD i default)).getD wU->Ev (λf=>G.dP.K5 f p (i:Int) m.alC m.Num m.amV m.aiJ m.ajX o.alC o.Num o.amV o.aiJ o.ajX) ((bu 0 p.ajX.length).foldl (U4 (OU d) p) n0):=λo ho=>by
     have hso:ShN e o:=by
      rw[ho,hms];cases hl':lk n0 (p.aiJ.getD i default)with
      |none=>exact .inr rfl
      |some x=>exact hq x (adP hl')
     have hf:=hF _ _ hso hx;obtain⟨g1,_⟩:=ad9 h1 (mp.name hi') hf;obtain⟨m',g2,g3⟩:=T.ad8 (v:=OU d o (p.ajX.getD i default)) (p.aiJ.getD i default) h1.mp (by omega);rw[g1]at g2;cases g2;rw[<- ho]at hn;refine ais ?_;simp only[G.dP.K5,aj,wrS i,ak.eta];exact alI (af5 (hs _ _ hso hx) (af5 g3 hn))
    refine alW (by simpa using c) (af5 gq ?_);cases hj:Gt m (p.aiJ.getD i default)with
    |none=>exact alW rfl (fin wU (by unfold lk;rw[hj];rfl))
    | some j=>have ej:=hqj j hj;subst ej;have hjl:=Ag hj;simp only[aj];exact alZ rfl (alI (fin (m.ajX.getD q default) (by unfold lk;rw[hj];rfl)))
end
theorem T.LP : ∀(d:Nat) {E:Nat} {n p:ak},d<=5->Shape d p=true->ShN E n->Ev (λf=>G.dP f n p) (OU d n p)
 |0,_,_,_,_,h,_=>by cases h
 | d+1,E,n,p,hd,hp,hn=>by
   refine ais ?_;simp only[G.dP];rw[WX];refine alH (λc=>?_) (λc=>?_)
   ·have:¬p.alC=4:=(by simpa using c);rw[ahk this];exact af5 (T.aV Fe (zQ hp)) (akk _)
   ·have kp:p.alC=4:=(by simpa using c);rw[ahl kp];have mp:=ae3 hp kp;obtain⟨e,he,hb,hq⟩:=acY hn;have L:=T.LP.L4 mp (Ro hb (by omega:e<=d+e+1) (aA _)) hq (by omega) (λo q ho hq=>T.LP d (by omega) hq ho) p.ajX.length 0 (by omega);have L':Ev (λf=>G.dP.K1 f p (SQ n).alC (SQ n).Num (SQ n).amV (SQ n).aiJ (SQ n).ajX) ((bu 0 p.ajX.length).foldl (U4 (OU d) p) (SQ n)):=by
     refine ais ?_;simp only[G.dP.K1];exact L
    unfold SQ at L'⊢;refine alH (λc=>?_) (λc=>?_)
    ·have kn:n.alC=4:=(by simpa using c);rw[ahl kn]at L'⊢;have hf:Fine 12 E n:=by
      rcases hn with h|h
      ·exact zQ h
      ·rw[h]at kn;cases kn
     exact af5 (T.aV Fe hf) L'
    ·have kn:¬n.alC=4:=(by simpa using c);rw[ahk kn]at L'⊢;exact L'
theorem T.sD {D E:Nat}{n p:ak}(hn:Fine 60 D n)(hp:Fine 60 E p):Ev (λf=>G.sD f n p) (o7 (if Val n&&Val p then(some (OU 5 n p)).filter Val else none)):=by refine ais ?_;simp only[G.sD];refine af5 (T.bJ yB hn) (alH (λe1=>?_) (λe1=>ake (by rw[e1];rfl)));refine af5 (T.bJ yB hp) (alH (λe2=>?_) (λe2=>ake (by rw[e1,e2];rfl)));have gp:=T.LP 5 (by omega) (ug e2) (.inl (ug e1));have gc:=T.oZ (o:=some (OU 5 n p)) Fe (λm hm=>by cases hm;exact Rq 5 (ug e2) (.inl (ug e1)));rw[e1,e2];exact af5 gp (af5 gc (akk _))
end
theorem agK {n:ak}{s:dR} : D9 n [s]=F9 n s:=by unfold D9 IC;rfl
theorem T.jD : ∀(d:Nat) {E:Nat} {n p:ak},d<=5->Shape d p=true->ShN E n->Ev (λf=>G.jD f n p) (OU d n p)
 |0,_,_,_,_,h,_=>by cases h
 | d+1,E,n,p,hd,hp,hn=>by
   refine ais ?_;simp only[G.jD];rw[WX];refine alH (λc=>?_) (λc=>?_)
   ·have:¬p.alC=4:=(by simpa using c);rw[ahk this];exact af5 (T.bG Fe (zQ hp)) (akk _)
   ·have kp:p.alC=4:=(by simpa using c);rw[ahl kp];have mp:=ae3 hp kp;obtain⟨e,he,hb,hq⟩:=acY hn;have hl:=mp.len;have hk:=mp.mp.map.len;have hF:=λ(o q:ak) (ho:ShN e o) (hq:Shape d q=true)=>Rq d hq ho;have facts:=λi hi=>TQ (F:=OU d) mp (Ro hb (by omega:e<=d+e+1) (aA _)) (Q:=ShN e) (.inr rfl) hq hF i hi;have L:∀(t i:Nat),i+t=p.ajX.length->Ev (λf=>G.jD.L2 f p (i:Int) ((bu 0 i).foldl (U4 (OU d) p) (SQ n)).alC ((bu 0 i).foldl (U4 (OU d) p) (SQ n)).Num ((bu 0 i).foldl (U4 (OU d) p) (SQ n)).amV ((bu 0 i).foldl (U4 (OU d) p) (SQ n)).aiJ ((bu 0 i).foldl (U4 (OU d) p) (SQ n)).ajX) ((bu 0 p.ajX.length).foldl (U4 (OU d) p) (SQ n)):=by
     intro t
     induction t with
     | zero=>intro i hi;have:i=p.ajX.length:=(by omega);subst this;refine ais ?_;simp only[G.jD.L2];exact anm (ake (ak.eta _))
     | succ t ih=>
       intro i hi;have hnx:=ih (i+1) (by omega);rw[LX,EE,vK,GI]at hnx;obtain⟨h1,h2⟩:=facts i (by omega);generalize (bu 0 i).foldl (U4 (OU d) p) (SQ n)=m at h1 h2 hnx⊢;have hi':i<p.ajX.length:=(by omega);have hx:=CV mp.sh hi';have hc:=h1.cnt;have hms:lk m (p.aiJ.getD i default)=lk (SQ n) (p.aiJ.getD i default):=(by rw[h2,ahk (TZ mp.mp.map hi')]);have hfm:=h1.fine (by omega);refine ais ?_;simp only[G.jD.L2,aj,wrS i,ak.eta];unfold U4 at hnx;refine ani (alI (af5 (T.jE _ Fe hfm) (alI ?_)));cases hpl:Gt m (p.aiJ.getD i default)with
       | none=>
         have neg:decide (0<=KU none)=false:=(by decide);have hlk:lk m (p.aiJ.getD i default)=none:=(by unfold lk;rw[hpl];rfl);by_cases c:(p.ajX.getD i default).alC=0
         ·rw[ahl c]at hnx;have:(F9 m (p.aiJ.getD i default)).getD m=m:=(by unfold F9;rw[hpl];rfl);rw[this]at hnx;exact alZ (by simpa using c) (alW neg (alI (alW (by simpa using c) (alI hnx))))
         ·rw[ahk c,hlk]at hnx;have hf:=hF wU _ (.inr rfl) hx;obtain⟨g1,_⟩:=ad9 h1 (mp.name hi') hf;have g3:=T.ry (p.aiJ.getD i default) (show 12<lim by decide) hfm hf;rw[g1]at g3;exact alW (by simpa using c) (alI (alZ (by simpa using c) (alW neg (alI (alI (af5 (T.jD d (by omega) hx (.inr rfl:ShN 0 wU)) (af5 g3 hnx)))))))
       | some j=>
         have pos:decide (0<=KU (some j))=true:=al6 (by show(0:Int)<=(j:Int);omega);have hjl:=Ag hpl;have hlk:lk m (p.aiJ.getD i default)=some (m.ajX.getD j default):=(by unfold lk;rw[hpl];rfl);by_cases c:(p.ajX.getD i default).alC=0
         ·rw[ahl c]at hnx;have g3:=T.kG [p.aiJ.getD i default] (show 12+1<lim by decide) (by unfold big;simp) hfm;rw[agK]at g3;obtain⟨m',hm'⟩:∃m',F9 m (p.aiJ.getD i default)=some m':=(by unfold F9;rw[hpl];exact⟨_,rfl⟩);rw[hm']at g3 hnx;exact alZ (by simpa using c) (alZ pos (af5 g3 hnx))
         ·rw[ahk c,hlk]at hnx;have hso:ShN e (m.ajX.getD j default):=by
           rw[hms]at hlk;exact hq _ (adP hlk)
          have hf:=hF _ _ hso hx;have e1:ab7 m (p.aiJ.getD i default) (OU d (m.ajX.getD j default) (p.ajX.getD i default))=Jr m j (OU d (m.ajX.getD j default) (p.ajX.getD i default)):=(by unfold ab7;rw[Y7 h1.mp.map hpl];rfl);rw[jQ,e1]at hnx;refine alW (by simpa using c) (alI (alZ (by simpa using c) (alZ pos ?_)));show Ev (λf=>Ab.chk _ _) _;simp only[KU,aj];exact alI (alI (af5 (T.jD d (by omega) hx hso) (af5 (T.o9 Fe hfm hf hjl) hnx)))
    have L':Ev (λf=>G.jD.K1 f p (SQ n).alC (SQ n).Num (SQ n).amV (SQ n).aiJ (SQ n).ajX) ((bu 0 p.ajX.length).foldl (U4 (OU d) p) (SQ n)):=by refine ais ?_;simp only[G.jD.K1];exact L p.ajX.length 0 (by omega)
    unfold SQ at L'⊢;refine alH (λc=>?_) (λc=>?_)
    ·have kn:n.alC=4:=(by simpa using c);rw[ahl kn]at L'⊢;have hf:Fine 12 E n:=by
      rcases hn with h|h
      ·exact zQ h
      ·rw[h]at kn;cases kn
     exact af5 (T.bG Fe hf) L'
    ·have kn:¬n.alC=4:=(by simpa using c);rw[ahk kn]at L'⊢;exact L'
def afv (n p:ak):Option ak:=if Val n&&Val p then(some (OU 5 n p)).filter Val else none
theorem T.qW {D E:Nat}{n p:ak}(hn:Fine 60 D n)(hp:Fine 60 E p):Ev (λf=>G.qW f n p) (o7 (afv n p)):=by refine ais ?_;simp only[G.qW];unfold afv;refine af5 (T.fZ yB hn) (alH (λe1=>?_) (λe1=>ake (by rw[e1];rfl)));refine af5 (T.fZ yB hp) (alH (λe2=>?_) (λe2=>ake (by rw[e1,e2];rfl)));have gp:=T.jD 5 (by omega) (ug e2) (.inl (ug e1));have gc:=T.qh (o:=some (OU 5 n p)) Fe (λm hm=>by cases hm;exact Rq 5 (ug e2) (.inl (ug e1)));rw[e1,e2];exact af5 gp (af5 gc (akk _))
def NmT (l:List dR)(t:dR):Bool:=decide (t∈l)||decide (([42]:dR)∈l)
theorem T.mQ {l:List dR}{t:dR}(hl:l.length<=1000):Ev (λf=>G.mQ f l t) (NmT l t):=by
 have L:∀(k i:Nat),i+k=l.length->Ev (λf=>G.mQ.L1 f l t i) (NmT (l.drop i) t):=by
  intro k
  induction k with
  | zero=>intro i hi;refine ais ?_;simp only[G.mQ.L1];refine anm (ake ?_);rw[au (by omega)];rfl
  | succ k ih=>
    intro i hi;have e:NmT (l.drop i) t=(l.getD i default==t||(l.getD i default==[42]||NmT (l.drop (i+1)) t)):=by
     rw[dW default (by omega:i<l.length)];unfold NmT;rw[sN];simp only[gV,ahm,ay,akg];constructor
     ·rintro((h|h)|(h|h))
      ·exact .inl h.symm
      ·exact .inr (.inr (.inl h))
      ·exact .inr (.inl h.symm)
      ·exact .inr (.inr (.inr h))
     ·rintro(h|h|h|h)
      ·exact .inl (.inl h.symm)
      ·exact .inr (.inl h.symm)
      ·exact .inl (.inr h)
      ·exact .inr (.inr h)
    refine ais ?_;simp only[G.mQ.L1,aj,wrS i];rw[e];refine ani (alI (alH (λe1=>ake (by rw[e1];rfl)) (λe1=>alI (alH (λe2=>ake (by rw[e1,e2];rfl)) (λe2=>?_)))));rw[e1,e2];exact ih (i+1) (by omega)
 refine ais ?_;simp only[G.mQ];exact L l.length 0 (by omega)
theorem T.Contains {l:List dR}{t:dR}(hl:l.length<=1000):Ev (λf=>G.slices_Contains_string f l t) (decide (t∈l)):=by
 have L:∀(k i:Nat),i+k=l.length->∃r:Int,Ev (λf=>G.slices_Index_string.L1 f l t i) r/\decide (0<=r)=decide (t∈l.drop i):=by
  intro k
  induction k with
  | zero=>intro i hi;refine⟨-1,ais ?_,by rw[au (by omega)];simp⟩;simp only[G.slices_Index_string.L1];exact anm (akk _)
  | succ k ih=>
    intro i hi;rw[dW default (by omega:i<l.length)];by_cases c:t=l.getD i default
    ·refine⟨i,ais ?_,by rw[<- c];simp⟩;simp only[G.slices_Index_string.L1,aj];exact ani (alI (alZ (beq_iff_eq.2 c) (akk _)))
    ·obtain⟨r,h1,h2⟩:=ih (i+1) (by omega);refine⟨r,ais ?_,by rw[h2];simp only[ay,c,false_or]⟩;simp only[G.slices_Index_string.L1,aj,wrS i];exact ani (alI (alW (beq_eq_false_iff_ne.2 c) h1))
 obtain⟨r,h1,h2⟩:=L l.length 0 (by omega);rw[bT]at h2;refine ais ?_;simp only[G.slices_Contains_string];refine af5 (a:=r) (ais ?_) (ake h2);simp only[G.slices_Index_string];exact h1
theorem T.qx {l:List dR}{t:dR}(hl:l.length<=1000):Ev (λf=>G.qx f l t) (NmT l t):=by refine ais ?_;simp only[G.qx];unfold NmT;exact af5 (T.Contains hl) (alH (λe=>ake (by rw[e];rfl)) (λe=>af5 (T.Contains hl) (ake (by rw[e];rfl))))
def Kt (w a:List dR)(t:dR)(rd:Bool):Int:=
 if !w.isEmpty&&(t==[] || !NmT w t)then 412 else if !a.isEmpty&&(!(t==[])&&NmT a t)then(if rd then 304 else 412)else 200
theorem aeV {α:Type}(l:List α):decide ((0:Int)<(l.length:Int)) = !l.isEmpty:=by cases l<;>simp
theorem T.vP {w a:List dR}{t:dR}{rd:Bool}(hw:w.length<=1000)(ha:a.length<=1000):Ev (λf=>G.vP f w a t rd) (Kt w a t rd):=by refine ais ?_;simp only[G.vP,aeV];unfold Kt;have A:=T.mQ (t:=t) ha;have W:=T.mQ (t:=t) hw;generalize NmT a t=na at *;generalize NmT w t=nw at *;generalize w.isEmpty=ew;generalize a.isEmpty=ea;generalize (t==[])=et;cases ew<;>cases ea<;>cases et<;>cases na<;>cases nw<;>cases rd<;>exact evd
theorem T.kK {w a:List dR}{t:dR}{rd:Bool}(hw:Kv w=true)(ha:Kv a=true)(sw:Sm w)(sa:Sm a)(ht:t=[]\/(X3 t=true/\t.length<big))(lw:w.length<=1000)(la:a.length<=1000):Ev (λf=>G.kK f w a t rd) (Kt w a t rd):=by
 have K:Ev (λf=>G.kK.K1 f w a t rd) (Kt w a t rd):=by refine ais ?_;simp only[G.kK.K1,aeV];unfold Kt;have A:=T.qx (t:=t) la;have W:=T.qx (t:=t) lw;clear ht;generalize NmT a t=na at *;generalize NmT w t=nw at *;generalize w.isEmpty=ew;generalize a.isEmpty=ea;generalize (t==[])=et;cases ew<;>cases ea<;>cases et<;>cases na<;>cases nw<;>cases rd<;>exact evd
 refine ais ?_;simp only[G.kK];have h1:=T.jG sw;have h2:=T.jG sa;rw[hw]at h1;rw[ha]at h2;refine af5 h1 (alZ rfl (af5 h2 (alZ rfl (alH (λ_=>K) (λe=>?_)))));rcases ht with h|⟨h,hl⟩
 ·rw[h]at e;cases e
 ·have h3:=T.oM t hl;rw[h]at h3;exact af5 h3 (alZ rfl K)
section
theorem aa6 {l:List bg}{t:dR}{p:Nat}(hA:Asc (A7 l)=true)(hp:LB (A7 l) t p):XX l t=if decide (p<l.length)&&(l.getD p default).al9==t then some p else none:=by
 have at_:∀q,q<l.length->(A7 l).getD q default=(l.getD q default).al9:=λq h=>F6 h
 by_cases c:p<l.length/\(l.getD p default).al9=t
 ·rw[ahl (by simpa using c)];refine KJ.2 ⟨c.1,c.2,λq hq=>?_⟩;have:=hp.lo q hq;rw[at_ q (by omega)]at this;exact JH this
 ·rw[ahk (by simpa using c)];refine abb.2 λit hit e=>?_;obtain⟨q,hq,rfl⟩:=jW.1 hit;have e:(l.getD q default).al9=t:=by rw[gJ _ hq];exact e
  by_cases h1:q<p
  ·have:=hp.lo q h1;rw[at_ q hq,e,P8]at this;cases this
  ·by_cases h2:q=p
   ·subst h2;exact c ⟨hq,e⟩
   ·have h3:=H6 hA p q (by omega) (by rw[zh];exact hq);have h4:=hp.hi p (aA _) (by rw[zh];omega);rw[at_ q hq,e]at h3;rw[h3]at h4;cases h4
theorem aa5 {l:List bg}{t:dR}{j:Nat}(hA:Asc (A7 l)=true)(h:XX l t=some j):(l.filter λit=> !(it.al9==t))=l.take j++l.drop (j+1):=by
 obtain⟨h1,h2,h3⟩:=KJ.1 h;have e:l=l.take j++l.getD j default::l.drop (j+1):=by rw[<- dW default h1,CG]
 have a1:(l.take j).filter (λit=> !(it.al9==t))=l.take j:=xq.2 λit hit=>by obtain⟨q,hq,rfl⟩:=jW.1 hit;rw[gW]at hq;have:=h3 q (by omega);rw[gJ _ (by omega)]at this;rw[List.getElem_take];simpa using this
 have a2:(l.drop (j+1)).filter (λit=> !(it.al9==t))=l.drop (j+1):=xq.2 λit hit=>by obtain⟨q,hq,rfl⟩:=jW.1 hit;rw[mG]at hq;have:=H6 hA j (j+1+q) (by omega) (by rw[zh];omega);rw[F6 h1,F6 (by omega),h2]at this;have:=JH this;rw[gJ _ (by omega)]at this;rw[List.getElem_drop];simpa using λe=>this e.symm
 conv=>lhs;rw[e]
 rw[List.filter_append,List.filter_cons,a1,a2,h2];simp
section
variable {B:Nat} {s:alG} (t:dR) (hB:B<=lim) (h:JE B s)
include hB h
theorem T.uS : Ev (λf=>G.uS f s t) (aoN (Qx s t)):=by
 have hl:=h.len;unfold lim at hB;refine ais ?_;simp only[G.uS];unfold Qx;refine af5 (T.bM hB h) (alH (λe=>?_) (λe=>ake (by rw[e];rfl)));have hs:=Ai.1 e;obtain⟨p,g,hp⟩:=T.nM t (by unfold big;omega) hs.QE;rw[ahl e,aa6 hs.QE hp];refine af5 g (alH (λc=>?_) (λc=>?_))
 ·have c:decide (p<s.akj.length)&&(s.akj.getD p default).al9==t:=c;rw[ahl c];have c1:p<s.akj.length:=by simp only[ah,ahm]at c;exact c.1
  obtain⟨D,hD⟩:=(h.at_ c1).2;refine ant (by show(0:Int)<=(p:Int)/\(p:Int)<_;omega) (af5 (ais ?_) (akk _));simp only[G.rO,aj];exact af5 (T.aV hB hD) (akk _)
 ·have c:(decide (p<s.akj.length)&&(s.akj.getD p default).al9==t)=false:=c;rw[ahk (by rw[c];simp)];exact akk _
theorem T.uh : Ev (λf=>G.uh f s t) (abY (Qw s t)):=by
 have hl:=h.len;unfold lim at hB;refine ais ?_;simp only[G.uh];unfold Qw;refine af5 (T.bM hB h) (alH (λe=>?_) (λe=>ake (by rw[e];rfl)));have hs:=Ai.1 e;have hsl:=hs.len;have hlo:=hs.lo;have hhi:=hs.hi;obtain⟨p,g,hp⟩:=T.nM t (by unfold big;omega) hs.QE;have hf:=aa6 hs.QE hp;refine alH (λe2=>ake (by rw[e2];simp;rfl)) (λe2=>?_);refine af5 g (alH (λc=>?_) (λc=>?_))
 ·have c:(decide (p<s.akj.length)&&(s.akj.getD p default).al9==t)=true:=c;rw[ahl c]at hf;have c1:p<s.akj.length:=by simp only[ah,ahm]at c;exact c.1
  have w:af .i64 (s.amJ+1)=s.amJ+1:=by rw[Hl (by omega) (by omega)]
  refine af5 (T.dG hB h) (af5 (a:=s.akj.take p++s.akj.drop (p+1)) (ais ?_) (ake ?_))
  ·simp only[G.nN,wrS p,aj];exact alI (akk _)
  ·rw[w,<- aa5 hs.QE hf,e,e2,hf];rfl
 ·have c:(decide (p<s.akj.length)&&(s.akj.getD p default).al9==t)=false:=c;rw[ahk (by rw[c];simp)]at hf;exact ake (by rw[e,e2,hf];rfl)
end
structure RqF (q:akh):Prop where
 lo:1<=q.amI
 hi:q.amI<=5
 U5:NmV q.al9=true
 want:Kv q.anx=true
 avoid:Kv q.lY=true
 body:Val q.Body=true
 ops:PU q.Ops=true
theorem Jq {q:akh} : Vl q=true<->RqF q:=by unfold Vl;simp only[ah,ahm];exact⟨λ⟨⟨a,b⟩,c,d,e,f,g⟩=>⟨a,b,c,d,e,f,g⟩,λ⟨a,b,c,d,e,f,g⟩=>⟨⟨a,b⟩,c,d,e,f,g⟩⟩
theorem ajE {t:dR}(h:X3 t=true):t.length=4:=by unfold X3 at h;simp only[ah,ahm]at h;exact h.2
theorem acr {t:dR}(h:aaH t=true):t.length<=4:=by
 unfold aaH at h;simp only[gV,akg]at h;rcases h with h|h
 ·rw[h];simp
 ·rw[ajE h];exact aA _
theorem Lc {l:List dR}(h:Kv l=true):l.length<=4/\∀t,t∈l->aaH t=true:=by unfold Kv at h;simp only[ah,ahm,aP]at h;exact⟨h.2,h.1⟩
theorem VC {l:List dR}(h:Kv l=true):Sm l:=by obtain⟨h1,h2⟩:=Lc h;refine⟨by unfold big;omega,λt ht=>?_⟩;have:=acr (h2 t ht);unfold big;omega
theorem Vx : ∀k:Nat,k<16->okH (agh k)=true:=by decide
theorem aif {n:Nat}(h:n<65521):X3 (X6 n)=true:=by unfold X3 X6;simp only[dH,vS,nD,ah,iC,iy,decide_true];exact⟨Vx _ (by omega),Vx _ (by omega),Vx _ (by omega),Vx _ (by omega)⟩
theorem ajJ {n:ak}(h:Val n=true):X3 (Hq n)=true:=by unfold Hq;rw[ahl h];exact aif (sum_lt _)
def ans (c:Int):aI:=aI.mk c [] 0 wU
def Vh (s:alG)(t:dR)(n:ak)(c:Int):alG×aI:=match Qz s t n with
 |some m=>(m,aI.mk c (Hq n) m.amJ wU)
 |none=>(s,ans 422)
noncomputable def TV (old:ak)(q:akh):Option ak:=if q.amI=4 then Nk old q.Ops else if q.amI=5 then afv old q.Body else some q.Body
noncomputable def aib (s:alG)(q:akh)(it:bg):alG×aI:=
 if q.amI=1 then(s,aI.mk 200 (Hq it.am4) it.amX it.am4)else if q.amI=3 then(match Qw s q.al9 with
  |some m=>(m,aI.mk 200 [] m.amJ wU)
  |none=>(s,ans 422))else match TV it.am4 q with
  |some n=>Vh s q.al9 n 200
  |none=>(s,ans 422)
noncomputable def abm (s:alG)(q:akh):alG×aI:=match Qx s q.al9 with
 |none=>if q.amI=2 then(if Kt q.anx q.lY [] false=200 then Vh s q.al9 q.Body 201 else(s,ans (Kt q.anx q.lY [] false)))else(s,ans 404)
 |some it=>if Kt q.anx q.lY (Hq it.am4) (q.amI==1)=200 then aib s q it else(s,ans (Kt q.anx q.lY (Hq it.am4) (q.amI==1)))
noncomputable def yz (s:alG)(q:akh):alG×aI:=if H7 s&&Vl q then abm s q else(ad1,ans 400)
theorem aeo {j:Nat} : decide (KU (some j)<0)=false:=aki (by show ¬(j:Int)<0;omega)
theorem akW {s:alG}{t:dR}(hs:H7 s=true):Qx s t=(XX s.akj t).map λj=>s.akj.getD j default:=by unfold Qx;rw[ahl hs]
theorem ab2 {n m:ak}{l:List pW}(h:Nk n l=some m):Val m=true:=by
 unfold Nk at h;split at h
 ·rename_i c;exact aju (by simp at c;exact c.1) h
 ·cases h
theorem abK {n p m:ak}(h:afv n p=some m):Val m=true:=by
 unfold afv at h;split at h
 ·exact(xA.1 h).2
 ·cases h
theorem ai7 {q:akh}{old n:ak}(hr:Vl q=true)(h:TV old q=some n):Val n=true:=by
 unfold TV at h;split at h
 ·exact ab2 h
 ·split at h
  ·exact abK h
  ·cases h;exact(Jq.1 hr).body
theorem T.uV {q:akh}{old:ak}(hq:Us 60 q)(ho:Val old=true):Ev (λf=>G.uV f old q) (o7 (TV old q)):=by
 refine ais ?_;simp only[G.uV];unfold TV;have hp:=T.qJ yB (Eh ho) hq.ops;obtain⟨D,hD⟩:=hq.body;have hm:=T.sD (Eh ho) hD;refine alH (λe=>?_) (λe=>alH (λe2=>?_) (λe2=>?_))
 ·rw[ahl (by simpa using e)];exact af5 hp (akk _)
 ·rw[ahk (by simpa using e),ahl (by simpa using e2)];exact af5 hm (akk _)
 ·rw[ahk (by simpa using e),ahk (by simpa using e2)];exact akk _
section
variable {s:alG} {q:akh} (hs:StF s) (hq:Us 60 q)
theorem T.lI (c:Int):Ev (λf=>G.lI f c) (ans c):=by refine ais ?_;simp only[G.lI];exact akk _
theorem copyS (s:alG)(hs:StF s):Ev (λf=>G.dG f s) s/\Ev (λf=>G.dU f s) s:=⟨T.dG yB hs.fine,T.dU yB hs.fine⟩
include hs hq
theorem T.ni {old:ak}{b:Bool}(hr:RqF q)(ho:Val old=true):Ev (λf=>G.ni f s q old b) (match TV old q with
 |some n=>Vh s q.al9 n (if b then 200 else 201)
 |none=>(s,ans 422)):=by
 obtain⟨c1,_⟩:=copyS s hs;refine ais ?_;simp only[G.ni];refine af5 (T.uV hq ho) ?_;cases hn:TV old q with
 |none=>exact alW rfl (af5 c1 (akk _))
 | some n=>
   have hv:=ai7 (Jq.2 hr) hn;refine alZ rfl (af5 (T.uT yB hs.fine hq.U5 (Eh hv)) ?_);show Ev _ (Vh s q.al9 n (if b then 200 else 201));unfold Vh;simp only[o7];cases Qz s q.al9 n with
   |none=>exact alW rfl (af5 c1 (akk _))
   | some m=>refine alZ rfl (af5 (T.vk Fe (nS hv)) ?_);cases b<;>exact evd
theorem T.dB : Ev (λf=>G.dB f s q) (yz s q):=by
 obtain⟨c1,_⟩:=copyS s hs;have hsv:=Ai.2 hs;refine ais ?_;simp only[G.dB];unfold yz;refine af5 (T.bM yB hs.fine) (alH (λ_=>?_) (λe=>by rw[hsv]at e;cases e));refine af5 (T.lq yB hq) (alH (λe=>?_) (λe=>ake (by rw[e,nT];rfl)));have hr:=Jq.1 e;have hw:=Lc hr.want;have ha:=Lc hr.avoid;rw[hsv,e];show Ev _ (abm s q);unfold abm;refine af5 (T.uS q.al9 yB hs.fine) ?_;cases hg:Qx s q.al9 with
 | none=>
   refine alW rfl (alH (λe2=>?_) (λe2=>?_))
   ·exact af5 c1 (ake (by show _=if q.amI=2 then _ else _;rw[ahk (by simpa using e2)];rfl))
   have e2:q.amI=2:=(by simpa using e2);show Ev _ (if q.amI=2 then _ else _);rw[ahl e2];refine ais ?_;simp only[G.dB.K2,e2];refine af5 (T.kK hr.want hr.avoid (VC hr.want) (VC hr.avoid) (.inl rfl) (by omega) (by omega)) (alH (λe3=>?_) (λe3=>?_))
   ·exact af5 c1 (ake (by rw[ahk (by simpa using e3)];rfl))
   ·have e3:Kt q.anx q.lY [] false=200:=(by simpa using e3);rw[ahl e3];have:=T.ni (old:=wU) (b:=false) hs hq hr Ul;have hn:TV wU q=some q.Body:=(by unfold TV;rw[ahk (by omega),ahk (by omega)]);rw[hn]at this;exact alW rfl (alW rfl (af5 this (akk _)))
 | some it=>
   obtain⟨_,_,_,hv⟩:=YA hg;have hct:=T.kK (t:=Hq it.am4) (rd:=q.amI==1) hr.want hr.avoid (VC hr.want) (VC hr.avoid) (.inr ⟨ajJ hv,by have:=alz it.am4;unfold big;omega⟩) (by omega) (by omega);refine alZ rfl (af5 (T.vk Fe (nS hv)) (ais ?_));simp only[G.dB.K1];refine af5 hct (alH (λe3=>?_) (λe3=>?_))
   ·exact af5 c1 (ake (by show _=if _=_ then _ else _;rw[ahk (by simpa using e3)];rfl))
   show Ev _ (if _=_ then _ else _);rw[ahl (by simpa using e3)];unfold aib;refine alH (λe4=>?_) (λe4=>?_)
   ·rw[ahl (by simpa using e4)];exact af5 c1 (akk _)
   rw[ahk (by simpa using e4)];refine alH (λe5=>?_) (λe5=>?_)
   ·rw[ahl (by simpa using e5)];refine af5 (ais ?_) (akk _);simp only[G.qM];refine af5 (T.uh q.al9 yB hs.fine) ?_;cases Qw s q.al9 with
    |none=>exact alW rfl (af5 c1 (akk _))
    |some m=>exact alZ rfl (akk _)
   ·rw[ahk (by simpa using e5)];exact af5 (T.ni hs hq hr hv) (akk _)
omit hq
theorem T.uf (t:dR):Ev (λf=>G.uf f s t) (match XX s.akj t with
 |some j=>Hq (s.akj.getD j default).am4
 |none=>[]):=by
 have hl:=hs.len;refine ais ?_;simp only[G.uf];refine af5 (T.o8 t (by unfold lim;omega)) ?_;cases hj:XX s.akj t with
 |none=>exact alZ (by decide) (akk _)
 | some j=>have hjl:=(KJ.1 hj).1;have hv:=(hs.it hjl).ZX;have h5:=fmt5 hv;have:=sum_lt (Bf 5 (s.akj.getD j default).am4);have e:Hq (s.akj.getD j default).am4=X6 (ag2 (Bf 5 (s.akj.getD j default).am4)):=(by unfold Hq;rw[ahl hv]);refine alW aeo (ant (by show(0:Int)<=(j:Int)/\(j:Int)<_;omega) ?_);rw[show(KU (some j)).toNat=j from aj j];show Ev _ (Hq _);rw[e];exact af5 (T.gz 5 (by omega) (ug hv)) (af5 (T.rf _ (by unfold big;omega)) (af5 (T.AB (by omega)) (akk _)))
theorem ajm {x:bg} : ∃j,XX (LW x s.akj) x.al9=some j/\(LW x s.akj).getD j default=x:=by
 cases hj:XX (LW x s.akj) x.al9 with
 |none=>exact al7 rfl (abb.1 hj x ((Jn hs.QE).2 (.inl rfl)))
 | some j=>
   obtain⟨h1,h2,_⟩:=KJ.1 hj;refine⟨j,rfl,?_⟩;rcases(Jn hs.QE).1 (getD_mem default h1)with e|⟨_,e⟩
   ·exact e
   ·exact al7 h2 e
theorem T.lT {t:dR}{n:ak}(ht:NmV t=true)(hn:Val n=true):Ev (λf=>G.lT f s t n) (Vh s t n (if(XX s.akj t).isSome then 200 else 201)):=by
 obtain⟨_,c2⟩:=copyS s hs;have hl:=hs.len;have K:∀c:Int,Ev (λf=>G.lT.K1 f s t n c) (Vh s t n c):=λc=>by
  have e:Qz s t n=(some (Xk s t n)).filter H7:=by unfold Qz;rw[Ai.2 hs,ht,hn];rfl
  refine ais ?_;simp only[G.lT.K1];unfold Vh;rw[e];refine af5 (T.lW yB hs.fine (Eh hn) hs) (af5 (T.dF yB (ajn yB hs.fine hs ht hn)) (alH (λe1=>?_) (λe1=>?_)))
  ·obtain⟨j,hj,hx⟩:=ajm (x:=bg.mk t (s.amJ+1) n) hs;have ht:=T.uf (s:=Xk s t n) (Ai.1 e1) t;have hj:XX (Xk s t n).akj t=some j:=hj;have hx:(Xk s t n).akj.getD j default=bg.mk t (s.amJ+1) n:=hx;rw[hj]at ht;simp only[hx]at ht;refine af5 ht (ake ?_);simp[sV,e1];rfl
  ·refine af5 c2 (af5 (T.lI 422) (ake ?_));simp[sV,e1]
 refine ais ?_;simp only[G.lT];refine af5 (T.o8 t (by unfold lim;omega)) ?_;cases XX s.akj t with
 |none=>exact alZ (by decide) (K _)
 |some j=>exact alW aeo (K _)
include hq
theorem T.ja (hr:RqF q):Ev (λf=>G.ja f s q) (abm s q):=by
 obtain⟨_,c2⟩:=copyS s hs;have hl:=hs.len;have hf:=T.o8 (s:=s) q.al9 (by unfold lim;omega);have htag:=T.uf hs q.al9;have hw:=Lc hr.want;have ha:=Lc hr.avoid;have chk:∀t,Ev (λf=>G.vP f q.anx q.lY t (q.amI==1)) (Kt q.anx q.lY t (q.amI==1)):=λt=>T.vP (by omega) (by omega);have an:=T.lI;obtain⟨D,hD⟩:=hq.body;have hwr:=λ{n:ak} (hn:Val n=true)=>T.lT hs hr.U5 hn;have K:∀(o:Option ak),(∀n,o=some n->Val n=true)->Ev (λf=>G.ja.K1 f s q (o7 o).2 (o7 o).1.alC (o7 o).1.Num (o7 o).1.amV (o7 o).1.aiJ (o7 o).1.ajX) (match o with
  |some n=>Vh s q.al9 n (if(XX s.akj q.al9).isSome then 200 else 201)
  |none=>(s,ans 422))/\Ev (λf=>G.ja.K2 f s q (o7 o).2 (o7 o).1.alC (o7 o).1.Num (o7 o).1.amV (o7 o).1.aiJ (o7 o).1.ajX) (match o with
  |some n=>Vh s q.al9 n (if(XX s.akj q.al9).isSome then 200 else 201)
  |none=>(s,ans 422)):=λo ho=>by
  cases o with
  | none=>
    constructor<;>refine ais ?_
    ·simp only[G.ja.K1];exact alW rfl (af5 c2 (af5 (an _) (akk _)))
    ·simp only[G.ja.K2];exact alW rfl (af5 c2 (af5 (an _) (akk _)))
  | some n=>
    constructor<;>refine ais ?_
    ·simp only[G.ja.K1,ak.eta];exact alZ rfl (af5 (hwr (ho n rfl)) (akk _))
    ·simp only[G.ja.K2,ak.eta];exact alZ rfl (af5 (hwr (ho n rfl)) (akk _))
 refine ais ?_;simp only[G.ja];unfold abm;rw[akW (Ai.2 hs)];refine af5 hf ?_;cases hj:XX s.akj q.al9 with
 | none=>
   rw[hj]at htag hwr;refine alZ (by decide) (alH (λe=>?_) (λe=>?_))
   ·refine af5 c2 (af5 (an _) (ake ?_));show _=if q.amI=2 then _ else _
    rw[ahk (by simpa using e)]
   have e:q.amI=2:=(by simpa using e);show Ev _ (if q.amI=2 then _ else _);rw[ahl e];have hc:=chk [];simp only[e]at hc⊢;refine af5 htag (af5 hc (alH (λe3=>?_) (λe3=>?_)))
   ·exact af5 c2 (af5 (an _) (ake (by rw[ahk (by simpa using e3)];rfl)))
   ·rw[ahl (by simpa using e3)];exact alW rfl (alZ rfl (af5 (hwr hr.body) (akk _)))
 | some j=>
   rw[hj]at htag hwr K;have hjl:=(KJ.1 hj).1;have hit:=hs.it hjl;have hv:=hit.ZX;have jn:(KU (some j)).toNat=j:=aj j;have jr:0<=KU (some j)/\KU (some j)<(s.akj.length:Int):=(by show(0:Int)<=(j:Int)/\(j:Int)<_;omega);have hap:=T.jy yB (Eh hv) hq.ops;have hmg:=T.qW (Eh hv) hD;have k1:=K (Nk (s.akj.getD j default).am4 q.Ops) (λn h=>ab2 h);have k2:=K (afv (s.akj.getD j default).am4 q.Body) (λn h=>abK h);refine alW aeo (af5 htag (af5 (chk _) (alH (λe3=>?_) (λe3=>?_))))
   ·refine af5 c2 (af5 (an _) (ake ?_));show _=if _=_ then _ else _
    rw[ahk (by simpa using e3)]
   have e3:Kt q.anx q.lY (Hq (s.akj.getD j default).am4) (q.amI==1)=200:=(by simpa using e3);show Ev _ (if _=_ then _ else _);rw[ahl e3];unfold aib;simp only[jn,e3];refine alH (λe4=>?_) (λe4=>?_)
   ·rw[ahl (by simpa using e4)];exact af5 c2 (af5 htag (ant jr (ant jr (af5 (T.bG Fe (nS hv)) (akk _)))))
   have e4:¬q.amI=1:=(by simpa using e4);rw[ahk e4];refine alH (λe5=>?_) (λe5=>?_)
   ·have e5:q.amI=2:=(by simpa using e5);rw[ahk (by omega)];unfold TV;rw[ahk (by omega),ahk (by omega)];exact af5 (hwr hr.body) (akk _)
   refine alH (λe6=>?_) (λe6=>?_)
   ·rw[ahl (by simpa using e6)];unfold Qw;rw[Ai.2 hs,hj];refine alH (λe7=>?_) (λe7=>?_)
    ·exact af5 c2 (af5 (an _) (ake (by rw[e7];rfl)))
    ·have hlo:=hs.lo;have hhi:=hs.hi;have w:af .i64 (s.amJ+1)=s.amJ+1:=(by rw[Hl (by omega) (by omega)]);rw[w,e7];exact af5 (T.rZ yB hs.fine hs) (akk _)
   rw[ahk (by simpa using e6)];unfold TV;refine ant jr (af5 hap (alH (λe7=>?_) (λe7=>?_)))
   ·have e7:q.amI=5:=(by simpa using e7);rw[ahk (by omega),ahl e7];refine ant jr (af5 hmg ?_)
    first|exact k2.1|exact k2.2
   ·have e7:¬q.amI=5:=(by simpa using e7);have e5:¬q.amI=2:=(by simpa using e5);have e6:¬q.amI=3:=(by simpa using e6);have:=hr.lo;have:=hr.hi;rw[ahl (by omega)]
    first|exact k1.1|exact k1.2
theorem T.jY : Ev (λf=>G.jY f s q) (yz s q):=by have hsv:=Ai.2 hs;refine ais ?_;simp only[G.jY];unfold yz;refine af5 (T.dF yB hs.fine) (alH (λ_=>?_) (λe=>by rw[hsv]at e;cases e));refine af5 (T.jB yB hq) (alH (λe=>?_) (λe=>af5 (T.lI 400) (ake (by rw[e,nT];rfl))));rw[hsv,e];exact af5 (T.ja hs hq (Jq.1 e)) (akk _)
end
end
end Go.Ab
