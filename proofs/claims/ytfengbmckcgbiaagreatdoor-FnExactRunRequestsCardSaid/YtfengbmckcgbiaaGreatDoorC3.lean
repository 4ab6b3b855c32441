/- What the functions of the program compute (part 3). No conditions. -/
import Derived.Test.YtfengbmckcgbiaaGreatDoorC2
set_option linter.unusedVariables false
set_option linter.unusedSimpArgs false
set_option maxRecDepth 100000
set_option maxHeartbeats 4000000
set_option linter.defProp false
set_option linter.unusedSectionVars false
open Bool renaming and_eq_true_iff->DI
open Go.DataW renaming trod->ny
open Go.IntKind renaming wrap->af,i64->yJ
open Go.Lib renaming pow10Tab->xY
open Int renaming toNat_natCast->ai
open List renaming getElem?_eq_getElem->aB,mem_cons->aK,getElem?_eq_some_iff->aS,map->ax,drop_of_length_le->ay,mem_cons_self->bD,length_append->bZ,take_of_length_le->bz,getElem?_append_left->cu,getElem?_map->dG,drop_zero->dM,getElem?_append_right->dU,getElem?_cons_zero->eY,mem_cons_of_mem->fJ,length_cons->iV,append_assoc->ji,mem_iff_getElem->kG,nil_append->lu,append_nil->mM,range->tV,length_map->vg
open Nat renaming le_refl->aF,le_trans->bJ,strongRecOn->iw,zero_le->oN
open Option renaming map_eq_some_iff->dD
open Option.some renaming injEq->aH
namespace Go.Ab
open Go
section
section
variable {s:bU} {q:bn} (hs:Ht 60 s) (hq:OD 60 q)
include hs hq
theorem T.ain : Ev (λf=>G.fF f s q) (Gj s q):=by
 cases hv:JO s with
 |true=>exact T.fF (Ci.1 hv) hq
 | false=>refine aN ?_;simp only[G.fF];exact ak (T.dY DV hs) (dB hv (aT (by unfold Gj;rw[hv];rfl)))
end
theorem XA (w a:List fC)(t:fC)(b:Bool):JQ w a t b=200\/JQ w a t b=304\/JQ w a t b=412:=by
 unfold JQ;split
 ·exact .inr (.inr rfl)
 ·split
  ·split
   ·exact .inr (.inl rfl)
   ·exact .inr (.inr rfl)
  ·exact .inl rfl
inductive Han (s:bU)(q:bn):bU×bP->Prop
 |no (c:Int) (h1:c≠200) (h2:c≠201) (h3:c≠400) (h4:c=404<->(PU s q.iC=none/\q.kP≠2)):Han s q (s,ans c)
 |get (it:fA) (h1:q.kP=1) (h2:PU s q.iC=some it) (h3:JQ q.yK q.uM (G6 it.pO) true=200):Han s q (s,bP.mk 200 (G6 it.pO) it.mW it.pO)
 |drop (it:fA) (m:bU) (h1:q.kP=3) (h2:PU s q.iC=some it) (h3:PR s q.iC=some m):Han s q (m,bP.mk 200 [] m.kY xJ)
 |made (m:bU) (h1:q.kP=2) (h2:PU s q.iC=none) (h3:PX s q.iC q.Body=some m):Han s q (m,bP.mk 201 (G6 q.Body) m.kY xJ)
 |put (it:fA) (n:aj) (m:bU) (h1:q.kP=2\/q.kP=4\/q.kP=5) (h2:PU s q.iC=some it) (h3:SE it.pO q=some n) (h4:PX s q.iC n=some m) (h5:JQ q.yK q.uM (G6 it.pO) false=200):Han s q (m,bP.mk 200 (G6 n) m.kY xJ)
theorem afT {s:bU}{q:bn}(hr:RqF q):Han s q (aaG s q):=by
 have h1:=hr.lo;have h5:=hr.hi;unfold aaG;cases hg:PU s q.iC with
 | none=>
   show Han s q (if q.kP=2 then _ else _);split
   ·rename_i e;rcases XA q.yK q.uM [] false with h|h|h
    ·rw[aA h];unfold Uw;cases hp:PX s q.iC q.Body with
     |none=>exact .no _ xM xM xM ⟨λh=>by omega,λh=>eF e h.2⟩
     |some m=>exact .made m e hg hp
    ·rw[au aI,h];exact .no _ xM xM xM ⟨λh=>by omega,λh=>eF e h.2⟩
    ·rw[au aI,h];exact .no _ xM xM xM ⟨λh=>by omega,λh=>eF e h.2⟩
   ·rename_i e;exact .no _ xM xM xM ⟨λ_=>⟨hg,e⟩,λ_=>rfl⟩
 | some it=>
   have no:∀c:Int,c≠200->c≠201->c≠400->c≠404->Han s q (s,ans c):=λc a b d e=>.no c a b d ⟨λh=>eF h e,λh=>by rw[hg]at h;cases h.1⟩;show Han s q (if JQ q.yK q.uM (G6 it.pO) (q.kP==1)=200 then ah8 s q it else(s,ans (JQ q.yK q.uM (G6 it.pO) (q.kP==1))));rcases XA q.yK q.uM (G6 it.pO) (q.kP==1)with h|h|h
   ·rw[aA h];unfold ah8;split
    ·rename_i e;rw[show(q.kP==1)=true by simpa using e]at h;exact .get it e hg h
    ·split
     ·rename_i e;cases hd:PR s q.iC with
      |none=>exact no _ xM xM xM xM
      |some m=>exact .drop it m e hg hd
     ·rename_i e1 e3;rw[show(q.kP==1)=false by simpa using e1]at h;cases hn:SE it.pO q with
      |none=>exact no _ xM xM xM xM
      | some n=>
        unfold Uw;cases hp:PX s q.iC n with
        | none=>
          show Han s q (match PX s q.iC n with
           |some m=>(m,bP.mk 200 (G6 n) m.kY xJ)
           |none=>(s,ans 422))
          rw[hp];exact no _ xM xM xM xM
        | some m=>
          show Han s q (match PX s q.iC n with
           |some m=>(m,bP.mk 200 (G6 n) m.kY xJ)
           |none=>(s,ans 422))
          rw[hp];exact .put it n m aI hg hn hp h
   ·rw[au aI,h];exact no _ xM xM xM xM
   ·rw[au aI,h];exact no _ xM xM xM xM
theorem amy {s:bU}{q:bn} : (Gj s q=(agp,ans 400)/\(JO s&&ZM q)=false)\/(StF s/\RqF q/\Han s q (Gj s q)):=by
 unfold Gj;cases h:JO s&&ZM q with
 |false=>exact .inl ⟨rfl,rfl⟩
 | true=>obtain⟨h1,h2⟩:=DI.1 h;exact .inr ⟨Ci.1 h1,Nz.1 h2,afT (Nz.1 h2)⟩
theorem akL {s:bU}{q:bn}{p:bU×bP}(hs:StF s)(h:Han s q p):JO p.1=true/\Val p.2.Body=true:=by
 cases h with
 |no c=>exact⟨Ci.2 hs,Tm⟩
 |get it h1 h2=>exact⟨Ci.2 hs,(XF h2).2.2.2⟩
 |drop it m h1 h2 h3=>exact⟨(ahQ h3).2.2.2.2,Tm⟩
 |made m h1 h2 h3=>exact⟨(abj h3).2.2.2.2,Tm⟩
 |put it n m h1 h2 h3 h4=>exact⟨(abj h4).2.2.2.2,Tm⟩
theorem VD (s:bU)(q:bn):JO (Gj s q).1=true/\Val (Gj s q).2.Body=true:=by
 rcases amy (s:=s) (q:=q)with⟨h,_⟩|⟨hs,hr,h⟩
 ·rw[h];exact⟨ajt,Tm⟩
 ·exact akL hs h
theorem ZC {s:bU}(h:JO s=true):Ht 60 s:=(Ci.1 h).fine
end
theorem Nv : ∀(l:List fA),yU l=mkI l
 |[]=>rfl
 |it::r=>by have:=Nv r;simp only[yU,JH,Dp,mkI]at *;omega
theorem XQ {K:Nat} : ∀{l:List fA},(∀it,it∈l->TJ it.pO+2<=K)->mkI l<=K*l.length
 |[],_=>by simp[mkI]
 | o::r,h=>by have h1:=h o (bD ..);have h2:=XQ (l:=r) λx hx=>h x (fJ _ hx);simp only[mkI,iV,Nat.mul_succ];omega
structure anK (s:bU):Prop where
 f:WU 1048576 s
 l:s.bH.length<=1048576
 k:mkI s.bH<=900000000
theorem aeT {s:bU}(h:JO s=true):anK s:=by
 have hf:=Ci.1 h;have hl:=hf.len;have hn:∀it,it∈s.bH->ItF s.kY it:=λit hi=>Sl.1 (hf.itm it hi);have hb:=XQ (K:=500) (l:=s.bH) λit hi=>by have:=ae1 (hn it hi).XZ;have:=Gz it.pO;unfold rtc at *;omega
 exact⟨⟨aI,λit hi=>by have:=VR (hn it hi).TL;omega,λit hi=>⟨5,(oG (hn it hi).XZ).fin0.mono aI (aF _)⟩⟩,aI,aI⟩
structure akf (r:bP):Prop where
 f:Aq 12 5 r.Body
 k:rtc r.Body<=400
theorem ajF {r:bP}(h:Val r.Body=true):akf r:=⟨(oG h).fin0,ae1 h⟩
theorem T.acM {r:bP}(h:akf r):Ev (λf=>G.uA f r r) true:=by refine aN ?_;simp only[G.uA,aj.eta];exact dB mD (dR mD (dB mD (ak (T.Vr xM h.f) (dR rfl (bK _)))))
def good (c:Int):Bool:=c==200||c==201
noncomputable def runM : bU->List bn->bU×List bP
 |s,[]=>(s,[])
 |s,q::l=>((runM (Gj s q).1 l).1,(Gj s q).2::(runM (Gj s q).1 l).2)
noncomputable def Ot (s:bU)(l:List bn):bU×List bP:=if JO s&&TY l then runM s l else(agp,[])
theorem abt : ∀{l:List bn} {s:bU},JO s=true->JO (runM s l).1=true/\(∀r,r∈(runM s l).2->Val r.Body=true)/\(runM s l).2.length=l.length
 |[],s,h=>⟨h,(λr hr=>by cases hr),rfl⟩
 | q::l,s,h=>by
   obtain⟨v1,v2⟩:=VD s q;obtain⟨h1,h2,h3⟩:=abt (l:=l) v1;refine⟨h1,λr hr=>?_,by show(_::_).length=_;simp[h3]⟩;rcases aK.1 hr with e|e
   ·rw[e];exact v2
   ·exact h2 r e
theorem Ru {l:List bn}(h:TY l=true):(∀q,q∈l->ZM q=true)/\l.length<=8:=by unfold TY at h;simp only[Bool.and_eq_true,aC,List.all_eq_true]at h;exact h
section
theorem akK {s:bU}{q:bn}(hs:JO s=true)(hq:ZM q=true):Gj s q=aaG s q:=by unfold Gj;rw[hs,hq];rfl
theorem amd {l:List bn}(h:TY l=true){i:Nat}(hi:i<l.length):ZM (l.getD i default)=true:=(Ru h).1 _ (getD_mem default hi)
theorem bU.eta (s:bU):bU.mk s.bH s.kY=s:=rfl
section
variable {s:bU} {l:List bn} (hs:Ht 60 s) (hl:Tu l)
include hs hl
theorem T.lF : Ev (λf=>G.lF f s l) (Ot s l):=by
 have hll:=hl.len;have L:∀(k i:Nat) (t:bU) (z:List bP),i+k=l.length->z.length<=i->JO t=true ->
  Ev (λf=>G.fO.L1 f l i t.bH t.kY z) ((runM t (l.drop i)).1,z++(runM t (l.drop i)).2):=by
  intro k
  induction k with
  | zero=>intro i t z hi hz ht;refine aN ?_;simp only[G.fO.L1];rw[ay aI];exact sH (aT (by show(t,z)=(t,z++[]);rw[mM]))
  | succ k ih=>
    intro i t z hi hz ht;have hil:i<l.length:=(by omega);have v1:=(VD t (l.getD i default)).1;have hH:=T.ain (ZC ht) (hl.at_ hil);have hn:=ih (i+1) (Gj t (l.getD i default)).1 (z++[(Gj t (l.getD i default)).2]) aI (by simp;omega) v1;have h1:Ev (λf=>G.qh f (Gj t (l.getD i default)).2.Jy) true:=by refine aN ?_;simp only[G.qh];exact bK _
    rw[gu default hil];refine aN ?_;simp only[G.fO.L1,ai,FC i];refine sG (dA (ak hH (dA (ak h1 (dR rfl (hn.eq ?_))))));show _=((runM (Gj t (l.getD i default)).1 (l.drop (i+1))).1,z++((Gj t (l.getD i default)).2::(runM (Gj t (l.getD i default)).1 (l.drop (i+1))).2));rw[ji];rfl
 refine aN ?_;simp only[G.lF];unfold Ot;refine ak (T.dY DV hs) (dh (λe1=>?_) (λe1=>aT (by rw[e1];rfl)));refine ak (T.ja hl) (dh (λe2=>?_) (λe2=>aT (by rw[e1,e2];rfl)));rw[e1,e2];refine ak (aN ?_) (bK _);simp only[G.fO];exact ak (T.fG DV hs) ((L l.length 0 s [] aI mD e1).eq (by rw[dM,lu]))
theorem T.iQ : Ev (λf=>G.iQ f s l) (Ot s l):=by
 have hll:=hl.len;refine aN ?_;simp only[G.iQ];unfold Ot;refine ak (T.gX DV hs) (dh (λe1=>?_) (λe1=>aT (by rw[e1];rfl)));refine ak (T.jo hl) (dh (λe2=>?_) (λe2=>aT (by rw[e1,e2];rfl)));have L:∀(k i:Nat) (t:bU) (z:List bP),i+k=l.length->z.length<=i->JO t=true ->
  Ev (λf=>G.iQ.L1 f l i z t.bH t.kY) ((runM t (l.drop i)).1,z++(runM t (l.drop i)).2):=by
  intro k
  induction k with
  | zero=>intro i t z hi hz ht;refine aN ?_;simp only[G.iQ.L1];rw[ay aI];exact sH (aT (by show(t,z)=(t,z++[]);rw[mM]))
  | succ k ih=>intro i t z hi hz ht;have hil:i<l.length:=(by omega);have v1:=(VD t (l.getD i default)).1;have hq:=amd e2 hil;have hH:=T.kR (Ci.1 ht) (hl.at_ hil) (Nz.1 hq);rw[<- akK ht hq]at hH;have hn:=ih (i+1) (Gj t (l.getD i default)).1 (z++[(Gj t (l.getD i default)).2]) aI (by simp;omega) v1;rw[gu default hil];refine aN ?_;simp only[G.iQ.L1,ai,FC i];refine sG (dA (ak hH (dA (hn.eq ?_))));show _=((runM (Gj t (l.getD i default)).1 (l.drop (i+1))).1,z++((Gj t (l.getD i default)).2::(runM (Gj t (l.getD i default)).1 (l.drop (i+1))).2));rw[ji];rfl
 rw[e1,e2];exact ak (T.fZ DV hs) ((L l.length 0 s [] aI mD e1).eq (by rw[dM,lu];rfl))
end
end
section
theorem Xu {l:List bn}(h:TY l=true):Tu l:=by obtain⟨h1,h2⟩:=Ru h;exact⟨aI,λq hq=>abr (Nz.1 (h1 q hq))⟩
theorem T.abD {l:List bn}{left:Int}(h1:l.length<=mx)(hO:∀o,o∈l->∃D,ae8 D o)(h0:0<=left)(hl:left<=1048576) :
 ∃r,Ev (λf=>G.jQ f l left) r/\r<=left/\(0<=r->Yk l/\(DW l:Int)<=9*(left-r)):=by
 unfold mx at h1;have w0:af .i64 (left-(l.length:Int))=left-(l.length:Int):=CV aI aI;by_cases c:left-(l.length:Int)<0
 ·refine⟨-1,aN ?_,aI,λh=>by omega⟩;simp only[G.jQ,w0];exact dR (dW c) (bK _)
 ·have L:∀(k i:Nat) (a:Int),i+k=l.length->0<=a->a<=1048576->∃r,Ev (λf=>G.jQ.L1 f l a i) r/\r<=a/\(0<=r->(∀o,o∈l.drop i->TZ 1048576 o)/\(DW (l.drop i):Int)<=4*(a-r)+5*k):=by
   intro k
   induction k with
   | zero=>
     intro i a hi ha ha2;refine⟨a,aN ?_,aI,λ_=>⟨λs hs=>?_,by rw[ay aI];simp[DW,JH]⟩⟩
     ·simp only[G.jQ.L1];exact sH (bK _)
     ·rw[ay aI]at hs;cases hs
   | succ k ih=>
     intro i a hi ha ha2;have hil:i<l.length:=(by omega);obtain⟨D,hD⟩:=hO _ (ET default hil);obtain⟨q,gq,q1,q2⟩:=T.adO hD ha ha2;by_cases c1:q<0
     ·refine⟨-1,aN ?_,aI,λh=>by omega⟩;simp only[G.jQ.L1,ai];exact sG (dA (ak gq (dR (dW c1) (bK _))))
     ·obtain⟨r,g,g1,g2⟩:=ih (i+1) q aI aI aI;refine⟨r,aN ?_,aI,λh=>⟨λs hs=>?_,?_⟩⟩
      ·simp only[G.jQ.L1,ai,FC i];exact sG (dA (ak gq (dB (bg c1) g)))
      ·rw[gu default hil]at hs;rcases aK.1 hs with e|e
       ·rw[e];exact(q2 aI).1
       ·exact(g2 h).1 s e
      ·have h1:=(q2 aI).2;have h2:=(g2 h).2;rw[gu default hil];simp only[DW,JH,IB]at h2⊢;omega
  obtain⟨r,g,g1,g2⟩:=L l.length 0 (left-(l.length:Int)) aI aI aI;refine⟨r,aN ?_,aI,λh=>⟨⟨aI,λs hs=>(g2 h).1 s (by rw[dM];exact hs)⟩,by have:=(g2 h).2;rw[dM]at this;omega⟩⟩;simp only[G.jQ,w0];exact dB (bg c) g
theorem T.adP {l:List bn}(h:Yk l):Ev (λf=>G.kS f l) l:=by
 have hl:=h.len;have L:∀(k i:Nat) (z:List bn),i+k=l.length->z.length=l.length->z.take i=l.take i->Ev (λf=>G.kS.L1 f l i z) l:=by
  intro k
  induction k with
  | zero=>intro i z hi hz ht;refine aN ?_;simp only[G.kS.L1];rw[bz aI,bz aI]at ht;exact sH (aT ht)
  | succ k ih=>intro i z hi hz ht;have hil:i<l.length:=(by omega);refine aN ?_;simp only[G.kS.L1,ai,FC i];refine sG (dA (ak (T.agP (h.req _ (ET default hil))) (dA (ih (i+1) _ aI (by rw[List.length_set];exact hz) ?_))));rw[iD _ hil];exact NC hil hz ht
 refine aN ?_;simp only[G.kS];exact dA (L l.length 0 _ aI mD rfl)
theorem T.acL {l:List bn}(h:Yk l):Ev (λf=>G.lH f l l) true:=by
 have hl:=h.len;have L:∀(k i:Nat),i+k=l.length->Ev (λf=>G.lH.L1 f l l i) true:=by
  intro k
  induction k with
  | zero=>intro i hi;refine aN ?_;simp only[G.lH.L1];exact sH (bK _)
  | succ k ih=>intro i hi;refine aN ?_;simp only[G.lH.L1,ai,FC i];exact sG (dA (dA (ak (T.afL (h.req _ (ET default aI))) (dR rfl (ih (i+1) aI)))))
 refine aN ?_;simp only[G.lH];exact dB mD (L l.length 0 aI)
structure ZR (l:List bP):Prop where
 len:l.length<=1000
 r:∀r,r∈l->akf r
theorem ZR.k : ∀{l:List bP},(∀r,r∈l->akf r)->Aj l<=500*l.length
 |[],_=>by simp[Aj,JH]
 | o::r,h=>by have h1:=(h o (bD ..)).k;have h2:=ZR.k (l:=r) λx hx=>h x (fJ _ hx);have h3:=Gz o.Body;unfold rtc at h1;simp only[Aj,JH,uX,iV,Nat.mul_succ]at h2⊢;omega
theorem T.aap {l:List bP}(h:ZR l):Ev (λf=>G.jS f l l) true:=by
 have hl:=h.len;have L:∀(k i:Nat),i+k=l.length->Ev (λf=>G.jS.L1 f l l i) true:=by
  intro k
  induction k with
  | zero=>intro i hi;refine aN ?_;simp only[G.jS.L1];exact sH (bK _)
  | succ k ih=>intro i hi;refine aN ?_;simp only[G.jS.L1,ai,FC i];exact sG (dA (dA (ak (T.acM (h.r _ (ET default aI))) (dR rfl (ih (i+1) aI)))))
 refine aN ?_;simp only[G.jS];exact dB mD (L l.length 0 aI)
section
variable {s:bU} {l:List bn} (hs:WU 1048576 s) (hl:Yk l)
include hs hl
theorem T0.lF : Ev (λf=>G.lF f s l) (Ot s l):=by
 cases h1:JO s with
 | true=>
   cases h2:TY l with
   |true=>exact T.lF (ZC h1) (Xu h2)
   | false=>refine aN ?_;simp only[G.lF];unfold Ot;rw[h1,h2];exact ak (T0.dY IX hs) (dR h1 (ak (T0.ja hl) (dB h2 (bK _))))
 | false=>refine aN ?_;simp only[G.lF];unfold Ot;rw[h1];exact ak (T0.dY IX hs) (dB h1 (bK _))
theorem T0.iQ : Ev (λf=>G.iQ f s l) (Ot s l):=by
 cases h1:JO s with
 | true=>
   cases h2:TY l with
   |true=>exact T.iQ (ZC h1) (Xu h2)
   | false=>refine aN ?_;simp only[G.iQ];unfold Ot;rw[h1,h2];exact ak (T0.gX IX hs) (dR h1 (ak (T0.jo hl) (dB h2 (bK _))))
 | false=>refine aN ?_;simp only[G.iQ];unfold Ot;rw[h1];exact ak (T0.gX IX hs) (dB h1 (bK _))
end
theorem ajh (s:bU)(l:List bn):anK (Ot s l).1/\ZR (Ot s l).2:=by
 unfold Ot;split
 ·rename_i c;obtain⟨c1,c2⟩:=DI.1 c;obtain⟨h1,h2,h3⟩:=abt (l:=l) (s:=s) c1;have:=(Ru c2).2;exact⟨aeT h1,aI,λr hr=>ajF (h2 r hr)⟩
 ·exact⟨aeT ajt,mD,λr hr=>by cases hr⟩
end
theorem F.cmp_isNaN_int {n:Nat} : ∀{vw r},G.cmp_isNaN_int n vw=some r->fE pZ 226 [oI vw] (oB r):=by intro vw r h;refine bI K.cmp_isNaN_int (ug ?_);unfold C.cmp_isNaN_int;rcases n with _|n<;>simp only[G.cmp_isNaN_int,reduceCtorEq]at h;have z:=Dk;exact uH
theorem F.cmp_Compare_int {n:Nat} : ∀{vw O0 r},G.cmp_Compare_int n vw O0=some r->fE pZ 223 [oI vw,oI O0] (oI r):=by intro vw O0 r h;refine bI K.cmp_Compare_int (ug ?_);unfold C.cmp_Compare_int;cases n;cases h;simp only[G.cmp_Compare_int]at h;have z:=iY (pp @F.cmp_isNaN_int ());exact uH
theorem F.cmp_isNaN_string {n:Nat} : ∀{vw r},G.cmp_isNaN_string n vw=some r->fE pZ 206 [oS vw] (oB r):=by intro vw r h;refine bI K.cmp_isNaN_string (ug ?_);unfold C.cmp_isNaN_string;rcases n with _|n<;>simp only[G.cmp_isNaN_string,reduceCtorEq]at h;have z:=Dk;exact uH
theorem F.cmp_Less_string {n:Nat} : ∀{vw O0 r},G.cmp_Less_string n vw O0=some r->fE pZ 186 [oS vw,oS O0] (oB r):=by intro vw O0 r h;refine bI K.cmp_Less_string (ug ?_);unfold C.cmp_Less_string;cases n;cases h;simp only[G.cmp_Less_string]at h;have z:=iY (pp @F.cmp_isNaN_string ());exact uH
theorem F.Ug : ∀(n:Nat),∀{aG r},G.bC n aG=some r->fE pZ 124 [.agg (wN aG)] (.agg (wN r)):=by
 intro n
 induction n using iw with|_ n ih=>
 intro aG r h;refine bI K.bC (ug ?_);unfold C.bC;rcases n with _|n<;>simp only[G.bC,reduceCtorEq]at h;have z:=Oq (pp ih ()) (pp (@uQ (List fC×Int×List aj) _ (λn x=>G.bC.L2 n aG x.1 x.2.1 x.2.2) r (λx=>gZ.of [eP 2 113,eP 3 114,(37,.v true (.one (wK aG.aP))),eI 38 (aG.aP.length:Int),eI 39 x.2.1] [(113,.var zN),(114,.var [wI aG.bM,wI aG.wJ,wS aG.lI,.own 115 x.1.length 1,.own 116 x.2.2.length 5]),(115,.dat 1 (ax cS x.1)),(116,.dat 5 (ax aj.cells x.2.2))])) ()) (pp (@Ii (List fC) _ (λn x=>G.bC.K1 n aG x) r (λx=>gZ.of [eP 1 101,eP 2 102,eP 3 103] [(101,.var (wN aG)),(102,.var zN),(103,.var [wI aG.bM,wI aG.wJ,wS aG.lI,.own 104 x.length 1,.og 5]),(104,.dat 1 (ax cS x))])) ()) (pp (bY @G.bC.K1.eq_1 <|bY @G.bC.K1.eq_2 <|bY @G.bC.L2.eq_1 <|@G.bC.L2.eq_2) ()) (pp (@gK [] [(101,10),(102,11),(103,12),(104,13)] []) <|pp (@gK [] [(101,10),(102,11),(103,12)] [104]) <|pp (@gK [] [(113,102),(114,103),(115,104),(116,14)] []) <|pp (@gK [] [(113,113),(114,114),(115,115),(116,116)] []) ());exact uH
theorem F.bC {n:Nat} : ∀{aG:aj} {r:aj},G.bC n aG=some r->fE pZ 124 [.agg (wN aG)] (.agg (wN r)):=F.Ug n
theorem F.xq {n:Nat} : ∀{aG r},G.bC n aG=some r->pM pZ 124 [.agg (wN aG)] [] (λr1 b1=>r1 = .agg [wI r.bM,wI r.wJ,wS r.lI,.own 0 r.aO.length 1,.own 1 r.aP.length 5]/\b1=[.dat 1 (ax cS r.aO),.dat 5 (ax aj.cells r.aP)]):=by intro aG r h;refine yL K.bC (ug ?_);unfold C.bC;rcases n with _|n<;>simp only[G.bC,reduceCtorEq]at h;have z:=ag6 (pp @F.bC ()) (pp (@uQ (List fC×Int×List aj) _ (λn x=>G.bC.L2 n aG x.1 x.2.1 x.2.2) r (λx=>gZ.of [eP 2 113,eP 3 114,(37,.v true (.one (wK aG.aP))),eI 38 (aG.aP.length:Int),eI 39 x.2.1] [(113,.var zN),(114,.var [wI aG.bM,wI aG.wJ,wS aG.lI,.own 115 x.1.length 1,.own 116 x.2.2.length 5]),(115,.dat 1 (ax cS x.1)),(116,.dat 5 (ax aj.cells x.2.2))])) ()) (pp (@Ii (List fC) _ (λn x=>G.bC.K1 n aG x) r (λx=>gZ.of [eP 1 101,eP 2 102,eP 3 103] [(101,.var (wN aG)),(102,.var zN),(103,.var [wI aG.bM,wI aG.wJ,wS aG.lI,.own 104 x.length 1,.og 5]),(104,.dat 1 (ax cS x))])) ()) (pp (bY @G.bC.K1.eq_1 <|bY @G.bC.K1.eq_2 <|bY @G.bC.L2.eq_1 <|@G.bC.L2.eq_2) ()) (pp (@gK [] [(101,10),(102,11),(103,12),(104,13)] []) <|pp (@gK [] [(101,10),(102,11),(103,12)] [104]) <|pp (@gK [] [(113,102),(114,103),(115,104),(116,14)] []) <|pp (@gK [] [(113,113),(114,114),(115,115),(116,116)] []) ()) (pp (@Ew [] [(0,115),(1,116)] []) <|pp (@Ew [] [(0,104)] [1]) ());exact uH
theorem F.slices_isNaN_string {n:Nat} : ∀{vw r},G.slices_isNaN_string n vw=some r->fE pZ 187 [oS vw] (oB r):=by intro vw r h;refine bI K.slices_isNaN_string (ug ?_);unfold C.slices_isNaN_string;rcases n with _|n<;>simp only[G.slices_isNaN_string,reduceCtorEq]at h;have z:=Dk;exact uH
theorem F.slices_BinarySearch_string {n:Nat} : ∀{vw rU r},G.slices_BinarySearch_string n vw rU=some r->fE pZ 171 [oT vw,oS rU] (.AA [(false,[wI r.1]),(false,[wB r.2])]):=by intro vw rU r h;refine bI K.slices_BinarySearch_string (ug ?_);unfold C.slices_BinarySearch_string;rcases n with _|n<;>simp only[G.slices_BinarySearch_string,reduceCtorEq]at h;have z:=jk (pp @F.cmp_Less_string <|pp @F.slices_isNaN_string ()) (pp (@uQ (Int×Int) _ (λn x=>G.slices_BinarySearch_string.L1 n vw rU x.1 x.2) r (λx=>gZ.of [eT 0 vw,eS 1 rU,eI 6 (vw.length:Int),eI 7 x.1,eI 8 x.2] [])) ()) (pp (bY @G.slices_BinarySearch_string.L1.eq_1 <|@G.slices_BinarySearch_string.L1.eq_2) ()) (pp (@gK [] [] []) ());exact uH
def B.ren : Go.Shelf.Ren:=⟨λn=>match n with|217=>151|266=>168|129=>214|166=>147|167=>150|169=>126|171=>148|240=>166|243=>167|246=>177|276=>176|283=>193|284=>194|285=>195|286=>196|317=>213|318=>215|319=>216|320=>217|337=>221|338=>222|_=>0,λn=>match n with|21=>21|0=>0|2=>2|3=>3|4=>4|5=>5|9=>9|20=>20|31=>25|37=>138|46=>165|51=>209|53=>196|70=>153|72=>155|75=>167|76=>168|80=>157|127=>172|164=>185|171=>195|173=>199|212=>208|213=>210|232=>215|233=>216|_=>0,λn=>match n with|1=>0|17=>1|18=>2|19=>3|_=>0⟩
theorem B.x72 : Go.Proofs.Builder.X72 pZ B.ren:=by constructor<;>kernel_rfl
theorem B.x : Go.Proofs.Builder.Extra pZ B.ren:=by constructor<;>first|exact B.x72|kernel_rfl|(intro w;kernel_rfl)|decide
theorem B.lays171 : Go.Proofs.Lays.n171 pZ B.ren:=by constructor<;>first|kernel_rfl|(intro w;kernel_rfl)
theorem B.laysM171 : Go.Proofs.LaysM.n171 pZ B.ren:=by constructor<;>first|exact B.lays171|kernel_rfl|(intro w;kernel_rfl)
theorem F.strconv_Itoa {n:Nat} : ∀{JU:Int} {r:fC},G.strconv_Itoa n JU=some r->fE pZ 148 [oI JU] (oS r):=by intro i r h;rcases n with _|n<;>simp only[G.strconv_Itoa,reduceCtorEq]at h;obtain⟨⟨h0,hl⟩,h⟩:=En.1 h;exact aki B.laysM171 h0 (bJ hl xM) (by cases h;rfl)
theorem F.gQ {n:Nat} : ∀{aG kJ r},G.gQ n aG kJ=some r->fE pZ 201 [.agg (wN aG),oS kJ] (.AA [(false,[wI r.1]),(false,[wB r.2])]):=by intro aG kJ r h;refine bI K.gQ (ug ?_);unfold C.gQ;rcases n with _|n<;>simp only[G.gQ,reduceCtorEq]at h;have z:=jk (pp @F.slices_BinarySearch_string <|pp @F.strconv_Itoa ()) (pp (@uQ (Int) _ (λn x=>G.gQ.L1 n aG kJ x) r (λx=>gZ.of [eS 1 kJ,eI 21 (aG.aP.length:Int),eI 22 x] [])) ()) (pp (bY @G.gQ.L1.eq_1 <|@G.gQ.L1.eq_2) ()) (pp (@gK [] [] []) ());exact uH
theorem F.jf {n:Nat} : ∀{aZ:List aj} {JU:Int} {EO:List aj} {r:List aj},G.jf n aZ JU EO=some r ->
 pM pZ 189 [.one (.own 0 aZ.length 5),oI JU,.one (.own 1 EO.length 5)] [.dat 5 (ax aj.cells aZ),.dat 5 (ax aj.cells EO)]
  (λr1 b1=>r1 = .one (.own 2 r.length 5)/\b1=[.dead,.dat 5 (ax aj.cells EO),.dat 5 (ax aj.cells r)]):=by
 intro s i v r h;rcases n with _|n<;>simp only[G.jf,reduceCtorEq]at h;exact FG.ins _ (cb:=80) xM K.jf h
theorem F.mZ {n:Nat} : ∀{aZ:List fC} {JU:Int} {EO:List fC} {r:List fC},G.mZ n aZ JU EO=some r ->
 pM pZ 188 [.one (.own 0 aZ.length 1),oI JU,.one (.own 1 EO.length 1)] [.dat 1 (ax cS aZ),.dat 1 (ax cS EO)]
  (λr1 b1=>r1 = .one (.own 2 r.length 1)/\b1=[.dead,.dat 1 (ax cS EO),.dat 1 (ax cS r)]):=by
 intro s i v r h;rcases n with _|n<;>simp only[G.mZ,reduceCtorEq]at h;exact FG.ins _ (cb:=16) xM K.mZ h
theorem F.pV {n:Nat} : ∀{BP fU iZ r},G.pV n BP fU iZ=some r->pM pZ 172 [.one (.ptr 0 0),oS fU,.agg (wN iZ)] [.var [wI BP.bM,wI BP.wJ,wS BP.lI,.own 1 BP.aO.length 1,.own 2 BP.aP.length 5],.dat 1 (ax cS BP.aO),.dat 5 (ax aj.cells BP.aP)] (λr1 b1=>r1 = .AA []/\b1=[.var [wI r.bM,wI r.wJ,wS r.lI,.own 3 r.aO.length 1,.own 4 r.aP.length 5],.dead,.dead,.dat 1 (ax cS r.aO),.dat 5 (ax aj.cells r.aP)]):=by intro BP fU iZ r h;refine yL K.pV (ug ?_);unfold C.pV;rcases n with _|n<;>simp only[G.pV,reduceCtorEq]at h;have z:=IJ (pp @F.slices_BinarySearch_string ()) (pp (pp @F.mZ (@cG [1,11] [101])) <|pp (pp @F.jf (@cG [2,12] [102])) ()) (pp (@Ew [] [(0,0),(1,1),(2,2),(3,1),(4,2)] []) <|pp (@Ew [] [(0,0),(1,1),(2,2),(3,101),(4,102)] []) ());exact uH
theorem F.lX {n:Nat} : ∀{aG kJ iZ r},G.lX n aG kJ iZ=some r->fE pZ 199 [.agg (wN aG),oS kJ,.agg (wN iZ)] (.AA [(true,(wN r.1)),(false,[wB r.2])]):=by intro aG kJ iZ r h;refine bI K.lX (ug ?_);unfold C.lX;rcases n with _|n<;>simp only[G.lX,reduceCtorEq]at h;have z:=ag7 (pp @F.gQ <|pp @F.strconv_Itoa ()) (pp (pp @F.xq (@cG [] [101,102])) <|pp (pp @F.xq (@cG [] [103,104])) <|pp (pp @F.pV (@cH [13,101,102] [105,106])) <|pp (pp @F.xq (@cG [] [112,113])) <|pp (pp @F.jf (@cG [111,14] [114])) ()) (pp (@Ii (aj×Int×Bool) _ (λn x=>G.lX.K1 n iZ x.1 x.2.1 x.2.2) r (λx=>gZ.of [eP 5 107,eP 6 108,eP 8 109,eI 9 x.2.1,eB 10 x.2.2] [(107,.var (wN iZ)),(108,.var zN),(109,.var [wI x.1.bM,wI x.1.wJ,wS x.1.lI,.own 110 x.1.aO.length 1,.own 111 x.1.aP.length 5]),(110,.dat 1 (ax cS x.1.aO)),(111,.dat 5 (ax aj.cells x.1.aP))])) ()) (pp (bY @G.lX.K1.eq_1 <|@G.lX.K1.eq_2) ()) (pp (@gK [] [(107,11),(108,12),(109,13),(110,101),(111,102)] []) ());exact uH
theorem F.vC {n:Nat} : ∀{Ak lg pK AX r},G.vC n Ak lg pK AX=some r->pM pZ 198 [.agg (wN Ak),.one (.ptr 0 0),.one (.ptr 1 0),.one (.ptr 2 0)] [.var [wT lg],.var [wI pK],.var (wN AX)] (λr1 b1=>r1 = .AA [(true,(wN r.1)),(false,[wB r.2])]/\b1=[.var [wT lg],.var [wI pK],.var (wN AX)]):=by intro Ak lg pK AX r h;refine yL K.vC (ug ?_);unfold C.vC;rcases n with _|n<;>simp only[G.vC,reduceCtorEq]at h;have z:=Yg (pp @F.lX ()) (pp (@Ew [] [(0,0),(1,1),(2,2)] []) ());exact uH
theorem F.gI {n:Nat} : ∀{aZ r},G.gI n aZ=some r->fE pZ 163 [oS aZ] (oB r):=by intro aZ r h;refine bI K.gI (ug ?_);unfold C.gI;rcases n with _|n<;>simp only[G.gI,reduceCtorEq]at h;have z:=zJ (pp (@uQ (Int) _ (λn x=>G.gI.L1 n aZ x) r (λx=>gZ.of [eS 0 aZ,eI 3 x] [])) ()) (pp (bY @G.gI.L1.eq_1 <|@G.gI.L1.eq_2) ()) (pp (@gK [] [] []) ());exact uH
theorem F.kM {n:Nat} : ∀{xR r},G.kM n xR=some r->fE pZ 164 [oT xR] (oB r):=by intro xR r h;refine bI K.kM (ug ?_);unfold C.kM;rcases n with _|n<;>simp only[G.kM,reduceCtorEq]at h;have z:=jk (pp @F.gI ()) (pp (@uQ (Int) _ (λn x=>G.kM.L1 n xR x) r (λx=>gZ.of [eT 0 xR,eT 8 xR,eI 9 (xR.length:Int),eI 10 x] [])) ()) (pp (bY @G.kM.L1.eq_1 <|@G.kM.L1.eq_2) ()) (pp (@gK [] [] []) ());exact uH
theorem F.gV {n:Nat} : ∀{aG r},G.gV n aG=some r->fE pZ 144 [.agg (wN aG)] (oB r):=by intro aG r h;refine bI K.gV (ug ?_);unfold C.gV;rcases n with _|n<;>simp only[G.gV,reduceCtorEq]at h;have z:=II (pp @F.gI <|pp @F.kM ()) (pp (@Ii (Unit) _ (λn x=>G.gV.K1 n aG) r (λx=>gZ.of [eP 1 101,eB 20 false] [(101,.var (wN aG))])) ()) (pp (bY @G.gV.K1.eq_1 <|@G.gV.K1.eq_2) ()) (pp (@gK [] [(101,10)] []) ());exact uH
theorem F.Ph : ∀(n:Nat),∀{aG Bh r},G.gz n aG Bh=some r->fE pZ 119 [.agg (wN aG),oI Bh] (.AA [(false,[wI r.1]),(false,[wI r.2.1]),(false,[wB r.2.2])]):=by
 intro n
 induction n using iw with|_ n ih=>
 intro aG Bh r h;refine bI K.gz (ug ?_);unfold C.gz;rcases n with _|n<;>simp only[G.gz,reduceCtorEq]at h;have z:=jk (pp ih <|pp @F.gV ()) (pp (@uQ (Int×Int×Int) _ (λn x=>G.gz.L1 n aG Bh x.1 x.2.1 x.2.2) r (λx=>gZ.of [eI 1 Bh,eI 4 x.1,eI 5 x.2.1,(20,.v true (.one (wK aG.aP))),eI 21 (aG.aP.length:Int),eI 22 x.2.2] [])) ()) (pp (bY @G.gz.L1.eq_1 <|@G.gz.L1.eq_2) ()) (pp (@gK [] [] []) ());exact uH
theorem F.gz {n:Nat} : ∀{aG:aj} {Bh:Int} {r:Int×Int×Bool},G.gz n aG Bh=some r->fE pZ 119 [.agg (wN aG),oI Bh] (.AA [(false,[wI r.1]),(false,[wI r.2.1]),(false,[wB r.2.2])]):=F.Ph n
theorem F.dm {n:Nat} : ∀{aG r},G.dm n aG=some r->fE pZ 92 [.agg (wN aG)] (oB r):=by intro aG r h;refine bI K.dm (ug ?_);unfold C.dm;cases n;cases h;simp only[G.dm]at h;have z:=iY (pp @F.gz ());exact uH
theorem F.Gl : ∀(n:Nat),∀{aG aV lg pK AX r},G.jF n aG aV lg pK AX=some r->pM pZ 197 [.agg (wN aG),oT aV,.one (.fn 198 [0,1,2])] [.var [wT lg],.var [wI pK],.var (wN AX)] (λr1 b1=>r1 = .AA [(true,(wN r.1)),(false,[wB r.2])]/\b1=[.var [wT lg],.var [wI pK],.var (wN AX)]):=by
 intro n
 induction n using iw with|_ n ih=>
 intro aG aV lg pK AX r h;refine yL K.jF (ug ?_);unfold C.Dc;rcases n with _|n<;>simp only[G.jF,reduceCtorEq]at h;have z:=IJ (pp @F.gQ ()) (pp (pp ih (@cG [0,1,2] [])) <|pp (pp @F.vC (@cG [0,1,2] [])) <|pp (pp @F.xq (@cG [] [101,102])) ()) (pp (@Ew [] [(0,0),(1,1),(2,2)] []) <|pp (@Ew [101,102] [(0,0),(1,1),(2,2)] []) ());exact uH
theorem F.jF {n:Nat} : ∀{aG:aj} {aV:List fC} {lg:List fC} {pK:Int} {AX:aj} {r:aj×Bool},G.jF n aG aV lg pK AX=some r->pM pZ 197 [.agg (wN aG),oT aV,.one (.fn 198 [0,1,2])] [.var [wT lg],.var [wI pK],.var (wN AX)] (λr1 b1=>r1 = .AA [(true,(wN r.1)),(false,[wB r.2])]/\b1=[.var [wT lg],.var [wI pK],.var (wN AX)]):=F.Gl n
theorem F.pU {n:Nat} : ∀{aG MH r},G.pU n aG MH=some r->fE pZ 154 [.agg (wN aG),oB MH] (.AA [(true,(wN r.1)),(false,[wB r.2])]):=by intro aG MH r h;refine bI K.pU (ug ?_);unfold C.pU;cases n;cases h;simp only[G.pU]at h;have z:=iY (pp @F.dm ());exact uH
theorem F.jv {n:Nat} : ∀{aV r},G.jv n aV=some r->fE pZ 145 [oT aV] (oB r):=by intro aV r h;refine bI K.jv (ug ?_);unfold C.jv;rcases n with _|n<;>simp only[G.jv,reduceCtorEq]at h;have z:=jk (pp @F.gI ()) (pp (@uQ (Int) _ (λn x=>G.jv.L1 n aV x) r (λx=>gZ.of [eT 8 aV,eI 9 (aV.length:Int),eI 10 x] [])) ()) (pp (bY @G.jv.L1.eq_1 <|@G.jv.L1.eq_2) ()) (pp (@gK [] [] []) ());exact uH
theorem F.oQ {n:Nat} : ∀{aG aV iZ r},G.oQ n aG aV iZ=some r->fE pZ 178 [.agg (wN aG),oT aV,.agg (wN iZ)] (.AA [(true,(wN r.1)),(false,[wB r.2])]):=by intro aG aV iZ r h;refine bI K.oQ (ug ?_);unfold C.oQ;rcases n with _|n<;>simp only[G.oQ,reduceCtorEq]at h;have z:=GM (pp @F.dm <|pp @F.jv <|pp @F.bC <|pp @F.pU ()) (pp (pp @F.jF (@cG [11,14,12] [])) ());exact uH
theorem F.kN {n:Nat} : ∀{aG aV r},G.kN n aG aV=some r->fE pZ 204 [.agg (wN aG),oT aV] (.AA [(true,(wN r.1)),(false,[wB r.2])]):=by intro aG aV r h;refine bI K.kN (ug ?_);unfold C.kN;rcases n with _|n<;>simp only[G.kN,reduceCtorEq]at h;have z:=jk (pp @F.gQ ()) (pp (@uQ (Int×Int×Int×fC×List fC×List aj) _ (λn x=>G.kN.L1 n aV x.1 x.2.1 x.2.2.1 x.2.2.2.1 x.2.2.2.2.1 x.2.2.2.2.2) r (λx=>gZ.of [eP 2 105,eP 4 106,eT 10 aV,eI 11 (aV.length:Int),eI 12 x.1] [(105,.var [wI x.2.1,wI x.2.2.1,wS x.2.2.2.1,wT x.2.2.2.2.1,wK x.2.2.2.2.2]),(106,.var zN)])) ()) (pp (bY @G.kN.L1.eq_1 <|@G.kN.L1.eq_2) ()) (pp (@gK [] [(105,10),(106,11)] []) <|pp (@gK [] [(105,105),(106,106)] []) ());exact uH
theorem F.uO {n:Nat} : ∀{aG aV r},G.uO n aG aV=some r->fE pZ 182 [.agg (wN aG),oT aV] (.AA [(true,(wN r.1)),(false,[wB r.2])]):=by intro aG aV r h;refine bI K.uO (ug ?_);unfold C.uO;cases n;cases h;simp only[G.uO]at h;have z:=iY (pp @F.dm <|pp @F.jv <|pp @F.kN <|pp @F.bC ());exact uH
theorem F.jW {n:Nat} : ∀{aZ:List aj} {JU:Int} {ZW:Int} {r:List aj},G.jW n aZ JU ZW=some r ->
 pM pZ 185 [.one (.own 0 aZ.length 5),oI JU,oI ZW] [.dat 5 (ax aj.cells aZ)]
  (λr1 b1=>r1 = .one (.own 1 r.length 5)/\b1=[.dead,.dat 5 (ax aj.cells r)]):=by
 intro s i j r h;rcases n with _|n<;>simp only[G.jW,reduceCtorEq]at h;exact FG.del _ (cb:=80) xM K.jW h
theorem F.slices_Delete_string {n:Nat} : ∀{aZ:List fC} {JU:Int} {ZW:Int} {r:List fC},G.slices_Delete_string n aZ JU ZW=some r ->
 pM pZ 184 [.one (.own 0 aZ.length 1),oI JU,oI ZW] [.dat 1 (ax cS aZ)]
  (λr1 b1=>r1 = .one (.own 1 r.length 1)/\b1=[.dead,.dat 1 (ax cS r)]):=by
 intro s i j r h;rcases n with _|n<;>simp only[G.slices_Delete_string,reduceCtorEq]at h;exact FG.del _ (cb:=16) xM K.slices_Delete_string h
theorem F.jq {n:Nat} : ∀{Ak lg pK r},G.jq n Ak lg pK=some r->pM pZ 200 [.agg (wN Ak),.one (.ptr 0 0),.one (.ptr 1 0)] [.var [wT lg],.var [wI pK]] (λr1 b1=>r1 = .AA [(true,(wN r.1)),(false,[wB r.2])]/\b1=[.var [wT lg],.var [wI pK]]):=by intro Ak lg pK r h;refine yL K.jq (ug ?_);unfold C.jq;rcases n with _|n<;>simp only[G.jq,reduceCtorEq]at h;have z:=ag8 (pp @F.gQ ()) (pp (pp @F.xq (@cG [] [101,102])) <|pp (pp @F.slices_Delete_string (@cG [101] [109])) <|pp (pp @F.jW (@cG [107] [108])) ()) (pp (@Ii ((Int×Bool)×aj×List fC) _ (λn x=>G.jq.K1 n x.1 x.2.1 x.2.2) r (λx=>gZ.of [eP 4 104,eI 6 x.1.1,eP 8 105] [(0,.var [wT lg]),(1,.var [wI pK]),(104,.var zN),(105,.var [wI x.2.1.bM,wI x.2.1.wJ,wS x.2.1.lI,.own 106 x.2.2.length 1,.own 107 x.2.1.aP.length 5]),(106,.dat 1 (ax cS x.2.2)),(107,.dat 5 (ax aj.cells x.2.1.aP))])) ()) (pp (bY @G.jq.K1.eq_1 <|@G.jq.K1.eq_2) ()) (pp (@gK [] [(0,0),(1,1),(104,11),(105,12),(106,109),(107,102)] []) <|pp (@gK [] [(0,0),(1,1),(104,11),(105,12),(106,101),(107,102)] []) ()) (pp (@Ew [106,108] [(0,0),(1,1)] []) <|pp (@Ew [] [(0,0),(1,1)] []) ());exact uH
theorem F.EU : ∀(n:Nat),∀{aG aV lg pK r},G.jb n aG aV lg pK=some r->pM pZ 197 [.agg (wN aG),oT aV,.one (.fn 200 [0,1])] [.var [wT lg],.var [wI pK]] (λr1 b1=>r1 = .AA [(true,(wN r.1)),(false,[wB r.2])]/\b1=[.var [wT lg],.var [wI pK]]):=by
 intro n
 induction n using iw with|_ n ih=>
 intro aG aV lg pK r h;refine yL K.jb (ug ?_);unfold C.Dc;rcases n with _|n<;>simp only[G.jb,reduceCtorEq]at h;have z:=IJ (pp @F.gQ ()) (pp (pp ih (@cG [0,1] [])) <|pp (pp @F.jq (@cG [0,1] [])) <|pp (pp @F.xq (@cG [] [101,102])) ()) (pp (@Ew [] [(0,0),(1,1)] []) <|pp (@Ew [101,102] [(0,0),(1,1)] []) ());exact uH
theorem F.jb {n:Nat} : ∀{aG:aj} {aV:List fC} {lg:List fC} {pK:Int} {r:aj×Bool},G.jb n aG aV lg pK=some r->pM pZ 197 [.agg (wN aG),oT aV,.one (.fn 200 [0,1])] [.var [wT lg],.var [wI pK]] (λr1 b1=>r1 = .AA [(true,(wN r.1)),(false,[wB r.2])]/\b1=[.var [wT lg],.var [wI pK]]):=F.EU n
theorem F.mF {n:Nat} : ∀{aG aV r},G.mF n aG aV=some r->fE pZ 179 [.agg (wN aG),oT aV] (.AA [(true,(wN r.1)),(false,[wB r.2])]):=by intro aG aV r h;refine bI K.mF (ug ?_);unfold C.mF;rcases n with _|n<;>simp only[G.mF,reduceCtorEq]at h;have z:=GM (pp @F.dm <|pp @F.jv ()) (pp (pp @F.jb (@cG [11,13] [])) ());exact uH
theorem F.vF {n:Nat} : ∀{aQ lg r},G.vF n aQ lg=some r->pM pZ 202 [.agg (wN aQ),.one (.ptr 0 0)] [.var (wN lg)] (λr1 b1=>r1 = .AA [(true,(wN r.1)),(false,[wB r.2])]/\b1=[.var (wN lg)]):=by intro aQ lg r h;refine yL K.vF (ug ?_);unfold C.vF;rcases n with _|n<;>simp only[G.vF,reduceCtorEq]at h;have z:=Yg (pp @F.bC ()) (pp (@Ew [] [(0,0)] []) ());exact uH
theorem F.Gm : ∀(n:Nat),∀{aG aV lg r},G.jG n aG aV lg=some r->pM pZ 197 [.agg (wN aG),oT aV,.one (.fn 202 [0])] [.var (wN lg)] (λr1 b1=>r1 = .AA [(true,(wN r.1)),(false,[wB r.2])]/\b1=[.var (wN lg)]):=by
 intro n
 induction n using iw with|_ n ih=>
 intro aG aV lg r h;refine yL K.jG (ug ?_);unfold C.Dc;rcases n with _|n<;>simp only[G.jG,reduceCtorEq]at h;have z:=IJ (pp @F.gQ ()) (pp (pp ih (@cG [0] [])) <|pp (pp @F.vF (@cG [0] [])) <|pp (pp @F.xq (@cG [] [101,102])) ()) (pp (@Ew [] [(0,0)] []) <|pp (@Ew [101,102] [(0,0)] []) ());exact uH
theorem F.jG {n:Nat} : ∀{aG:aj} {aV:List fC} {lg:aj} {r:aj×Bool},G.jG n aG aV lg=some r->pM pZ 197 [.agg (wN aG),oT aV,.one (.fn 202 [0])] [.var (wN lg)] (λr1 b1=>r1 = .AA [(true,(wN r.1)),(false,[wB r.2])]/\b1=[.var (wN lg)]):=F.Gm n
theorem F.vP {n:Nat} : ∀{aG aV iZ r},G.vP n aG aV iZ=some r->fE pZ 180 [.agg (wN aG),oT aV,.agg (wN iZ)] (.AA [(true,(wN r.1)),(false,[wB r.2])]):=by intro aG aV iZ r h;refine bI K.vP (ug ?_);unfold C.vP;rcases n with _|n<;>simp only[G.vP,reduceCtorEq]at h;have z:=GM (pp @F.dm <|pp @F.jv <|pp @F.pU ()) (pp (pp @F.jG (@cG [11] [])) ());exact uH
theorem F.vK {n:Nat} : ∀{vz r},G.vK n vz=some r->fE pZ 120 [.agg (wO vz)] (oB r):=by intro vz r h;refine bI K.vK (ug ?_);unfold C.vK;cases n;cases h;simp only[G.vK]at h;have z:=iY (pp @F.jv <|pp @F.dm ());exact uH
theorem F.slices_Equal_string {n:Nat} : ∀{Jk LQ r},G.slices_Equal_string n Jk LQ=some r->fE pZ 203 [oT Jk,oT LQ] (oB r):=by intro Jk LQ r h;refine bI K.slices_Equal_string (ug ?_);unfold C.slices_Equal_string;rcases n with _|n<;>simp only[G.slices_Equal_string,reduceCtorEq]at h;have z:=zJ (pp (@uQ (Int) _ (λn x=>G.slices_Equal_string.L1 n Jk LQ x) r (λx=>gZ.of [eT 0 Jk,eT 1 LQ,eI 12 (Jk.length:Int),eI 13 x] [])) ()) (pp (bY @G.slices_Equal_string.L1.eq_1 <|@G.slices_Equal_string.L1.eq_2) ()) (pp (@gK [] [] []) ());exact uH
theorem F.uJ {n:Nat} : ∀{aG D9 aV r},G.uJ n aG D9 aV=some r->fE pZ 181 [.agg (wN aG),oT D9,oT aV] (.AA [(true,(wN r.1)),(false,[wB r.2])]):=by intro aG D9 aV r h;refine bI K.uJ (ug ?_);unfold C.uJ;cases n;cases h;simp only[G.uJ]at h;have z:=iY (pp @F.uO <|pp @F.slices_Equal_string <|pp @F.bC <|pp @F.mF <|pp @F.oQ ());exact uH
theorem F.iH {n:Nat} : ∀{aQ gB r},G.iH n aQ gB=some r->fE pZ 146 [oS aQ,oS gB] (oI r):=by intro aQ gB r h;refine bI K.iH (ug ?_);unfold C.iH;rcases n with _|n<;>simp only[G.iH,reduceCtorEq]at h;have z:=Dk;exact uH
theorem F.strings_Compare {n:Nat} : ∀{aQ gB r},G.strings_Compare n aQ gB=some r->fE pZ 123 [oS aQ,oS gB] (oI r):=by intro aQ gB r h;refine bI K.strings_Compare (ug ?_);unfold C.strings_Compare;cases n;cases h;simp only[G.strings_Compare]at h;have z:=iY (pp @F.iH ());exact uH
theorem F.Ov : ∀(n:Nat),∀{aQ gB r},G.dQ n aQ gB=some r->fE pZ 218 [.agg (wN aQ),.agg (wN gB)] (oI r):=by
 intro n
 induction n using iw with|_ n ih=>
 intro aQ gB r h;refine bI K.dQ (ug ?_);unfold C.dQ;rcases n with _|n<;>simp only[G.dQ,reduceCtorEq]at h;have z:=Oq (pp ih <|pp @F.cmp_Compare_int <|pp @F.strings_Compare ()) (pp (@uQ (Int) _ (λn x=>G.dQ.L3 n aQ gB x) r (λx=>gZ.of [eP 2 109,eP 3 110,eI 8 x] [(109,.var (wN aQ)),(110,.var (wN gB))])) ()) (pp (@Ii (Int) _ (λn x=>G.dQ.K4 n aQ gB x) r (λx=>gZ.of [eP 2 111,eP 3 112,eI 8 x] [(111,.var (wN aQ)),(112,.var (wN gB))])) ()) (pp (bY @G.dQ.L3.eq_1 <|bY @G.dQ.L3.eq_2 <|bY @G.dQ.K4.eq_1 <|@G.dQ.K4.eq_2) ()) (pp (@gK [] [(109,10),(110,11)] []) <|pp (@gK [] [(111,109),(112,110)] []) <|pp (@gK [] [(109,111),(110,112)] []) ());exact uH
theorem F.dQ {n:Nat} : ∀{aQ:aj} {gB:aj} {r:Int},G.dQ n aQ gB=some r->fE pZ 218 [.agg (wN aQ),.agg (wN gB)] (oI r):=F.Ov n
theorem F.uK {n:Nat} : ∀{aQ gB r},G.uK n aQ gB=some r->fE pZ 205 [.agg (wN aQ),.agg (wN gB)] (oB r):=by intro aQ gB r h;refine bI K.uK (ug ?_);unfold C.uK;cases n;cases h;simp only[G.uK]at h;have z:=iY (pp @F.dQ ());exact uH
theorem F.sD {n:Nat} : ∀{aG aV iZ r},G.sD n aG aV iZ=some r->fE pZ 183 [.agg (wN aG),oT aV,.agg (wN iZ)] (.AA [(true,(wN r.1)),(false,[wB r.2])]):=by intro aG aV iZ r h;refine bI K.sD (ug ?_);unfold C.sD;cases n;cases h;simp only[G.sD]at h;have z:=iY (pp @F.kN <|pp @F.uK <|pp @F.bC ());exact uH
theorem F.rM {n:Nat} : ∀{aG vz r},G.rM n aG vz=some r->fE pZ 169 [.agg (wN aG),.agg (wO vz)] (.AA [(true,(wN r.1)),(false,[wB r.2])]):=by intro aG vz r h;refine bI K.rM (ug ?_);unfold C.rM;cases n;cases h;simp only[G.rM]at h;have z:=iY (pp @F.dm <|pp @F.vK <|pp @F.oQ <|pp @F.mF <|pp @F.vP <|pp @F.uJ <|pp @F.uO <|pp @F.sD ());exact uH
theorem F.gY {n:Nat} : ∀{aU r},G.gY n aU=some r->fE pZ 94 [.one (w8 aU)] (oB r):=by intro aU r h;refine bI K.gY (ug ?_);unfold C.gY;rcases n with _|n<;>simp only[G.gY,reduceCtorEq]at h;have z:=jk (pp @F.vK ()) (pp (@uQ (Int) _ (λn x=>G.gY.L1 n aU x) r (λx=>gZ.of [(8,.v true (.one (w8 aU))),eI 9 (aU.length:Int),eI 10 x] [])) ()) (pp (bY @G.gY.L1.eq_1 <|@G.gY.L1.eq_2) ()) (pp (@gK [] [] []) ());exact uH
theorem F.lG {n:Nat} : ∀{aG aU r},G.lG n aG aU=some r->fE pZ 153 [.agg (wN aG),.one (w8 aU)] (.AA [(true,(wN r.1)),(false,[wI r.2])]):=by intro aG aU r h;refine bI K.lG (ug ?_);unfold C.lG;rcases n with _|n<;>simp only[G.lG,reduceCtorEq]at h;have z:=jk (pp @F.bC <|pp @F.rM ()) (pp (@uQ (Int×Int×Int×fC×List fC×List aj) _ (λn x=>G.lG.L1 n aU x.1 x.2.1 x.2.2.1 x.2.2.2.1 x.2.2.2.2.1 x.2.2.2.2.2) r (λx=>gZ.of [(1,.v true (.one (w8 aU))),eP 4 105,eP 6 106,(13,.v true (.one (w8 aU))),eI 14 (aU.length:Int),eI 15 x.1] [(105,.var zN),(106,.var [wI x.2.1,wI x.2.2.1,wS x.2.2.2.1,wT x.2.2.2.2.1,wK x.2.2.2.2.2])])) ()) (pp (bY @G.lG.L1.eq_1 <|@G.lG.L1.eq_2) ()) (pp (@gK [] [(105,11),(106,12)] []) <|pp (@gK [] [(105,105),(106,106)] []) ());exact uH
theorem F.ry {n:Nat} : ∀{aG aU r},G.ry n aG aU=some r->fE pZ 130 [.agg (wN aG),.one (w8 aU)] (.AA [(true,(wN r.1)),(false,[wB r.2])]):=by intro aG aU r h;refine bI K.ry (ug ?_);unfold C.ry;cases n;cases h;simp only[G.ry]at h;have z:=iY (pp @F.dm <|pp @F.gY <|pp @F.lG ());exact uH
theorem F.jR {n:Nat} : ∀{aZ PZ r},G.jR n aZ PZ=some r->fE pZ 151 [oS aZ,.one (.c (.lit (.int .u8 PZ)))] (oI r):=by intro aZ PZ r h;refine bI K.jR (ug ?_);unfold C.jR;rcases n with _|n<;>simp only[G.jR,reduceCtorEq]at h;have z:=Dk;exact uH
theorem F.strings_IndexByte {n:Nat} : ∀{aZ PZ r},G.strings_IndexByte n aZ PZ=some r->fE pZ 127 [oS aZ,.one (.c (.lit (.int .u8 PZ)))] (oI r):=by intro aZ PZ r h;refine bI K.strings_IndexByte (ug ?_);unfold C.strings_IndexByte;cases n;cases h;simp only[G.strings_IndexByte]at h;have z:=iY (pp @F.jR ());exact uH
theorem F.o8 {n:Nat} : ∀{aZ r},G.o8 n aZ=some r->fE pZ 99 [oS aZ] (oB r):=by intro aZ r h;refine bI K.o8 (ug ?_);unfold C.o8;rcases n with _|n<;>simp only[G.o8,reduceCtorEq]at h;have z:=jk (pp @F.strings_IndexByte ()) (pp (@uQ (Int) _ (λn x=>G.o8.L1 n aZ x) r (λx=>gZ.of [eS 0 aZ,eI 3 x] [])) ()) (pp (bY @G.o8.L1.eq_1 <|@G.o8.L1.eq_2) ()) (pp (@gK [] [] []) ());exact uH
theorem F.kK {n:Nat} : ∀{aU r},G.kK n aU=some r->fE pZ 93 [oT aU] (oB r):=by intro aU r h;refine bI K.kK (ug ?_);unfold C.kK;rcases n with _|n<;>simp only[G.kK,reduceCtorEq]at h;have z:=jk (pp @F.o8 ()) (pp (@uQ (Int) _ (λn x=>G.kK.L1 n aU x) r (λx=>gZ.of [eT 8 aU,eI 9 (aU.length:Int),eI 10 x] [])) ()) (pp (bY @G.kK.L1.eq_1 <|@G.kK.L1.eq_2) ()) (pp (@gK [] [] []) ());exact uH
theorem F.slices_Index_string {n:Nat} : ∀{aZ EO r},G.slices_Index_string n aZ EO=some r->fE pZ 152 [oT aZ,oS EO] (oI r):=by intro aZ EO r h;refine bI K.slices_Index_string (ug ?_);unfold C.slices_Index_string;rcases n with _|n<;>simp only[G.slices_Index_string,reduceCtorEq]at h;have z:=zJ (pp (@uQ (Int) _ (λn x=>G.slices_Index_string.L1 n aZ EO x) r (λx=>gZ.of [eT 0 aZ,eS 1 EO,eI 7 (aZ.length:Int),eI 8 x] [])) ()) (pp (bY @G.slices_Index_string.L1.eq_1 <|@G.slices_Index_string.L1.eq_2) ()) (pp (@gK [] [] []) ());exact uH
theorem F.slices_Contains_string {n:Nat} : ∀{aZ EO r},G.slices_Contains_string n aZ EO=some r->fE pZ 128 [oT aZ,oS EO] (oB r):=by intro aZ EO r h;refine bI K.slices_Contains_string (ug ?_);unfold C.slices_Contains_string;cases n;cases h;simp only[G.slices_Contains_string]at h;have z:=iY (pp @F.slices_Index_string ());exact uH
theorem F.qV {n:Nat} : ∀{aU uh r},G.qV n aU uh=some r->fE pZ 100 [oT aU,oS uh] (oB r):=by intro aU uh r h;refine bI K.qV (ug ?_);unfold C.qV;cases n;cases h;simp only[G.qV]at h;have z:=iY (pp @F.slices_Contains_string ());exact uH
theorem F.kZ {n:Nat} : ∀{zZ vZ uh yE r},G.kZ n zZ vZ uh yE=some r->fE pZ 48 [oT zZ,oT vZ,oS uh,oB yE] (oI r):=by intro zZ vZ uh yE r h;refine bI K.kZ (ug ?_);unfold C.kZ;rcases n with _|n<;>simp only[G.kZ,reduceCtorEq]at h;have z:=II (pp @F.kK <|pp @F.o8 <|pp @F.qV ()) (pp (@Ii (Unit) _ (λn x=>G.kZ.K1 n zZ vZ uh yE) r (λx=>gZ.of [eT 0 zZ,eT 1 vZ,eS 2 uh,eB 3 yE,eB 25 false] [])) ()) (pp (bY @G.kZ.K1.eq_1 <|@G.kZ.K1.eq_2) ()) (pp (@gK [] [] []) ());exact uH
theorem F.kQ {n:Nat} : ∀{aZ r},G.kQ n aZ=some r->fE pZ 91 [oS aZ] (oB r):=by intro aZ r h;refine bI K.kQ (ug ?_);unfold C.kQ;rcases n with _|n<;>simp only[G.kQ,reduceCtorEq]at h;have z:=zJ (pp (@uQ (Int) _ (λn x=>G.kQ.L1 n aZ x) r (λx=>gZ.of [eS 0 aZ,eI 3 x] [])) ()) (pp (bY @G.kQ.L1.eq_1 <|@G.kQ.L1.eq_2) ()) (pp (@gK [] [] []) ());exact uH
theorem F.dY {n:Nat} : ∀{aZ r},G.dY n aZ=some r->fE pZ 43 [.agg (wU aZ)] (oB r):=by intro aZ r h;refine bI K.dY (ug ?_);unfold C.dY;rcases n with _|n<;>simp only[G.dY,reduceCtorEq]at h;have z:=jk (pp @F.kQ <|pp @F.dm ()) (pp (@uQ (Int) _ (λn x=>G.dY.L1 n aZ x) r (λx=>gZ.of [eP 1 103,(20,.v true (.one (w7 aZ.bH))),eI 21 (aZ.bH.length:Int),eI 22 x] [(103,.var (wU aZ))])) ()) (pp (bY @G.dY.L1.eq_1 <|@G.dY.L1.eq_2) ()) (pp (@gK [] [(103,10)] []) <|pp (@gK [] [(103,103)] []) ());exact uH
theorem F.su {n:Nat} : ∀{yT r},G.su n yT=some r->fE pZ 96 [.agg (wM yT)] (.agg (wM r)):=by intro yT r h;refine bI K.su (ug ?_);unfold C.su;cases n;cases h;simp only[G.su]at h;have z:=iY (pp @F.bC ());exact uH
theorem F.fG {n:Nat} : ∀{aZ r},G.fG n aZ=some r->fE pZ 46 [.agg (wU aZ)] (.agg (wU r)):=by intro aZ r h;refine bI K.fG (ug ?_);unfold C.fG;rcases n with _|n<;>simp only[G.fG,reduceCtorEq]at h;have z:=jk (pp @F.su ()) (pp (@uQ (Int×List fA) _ (λn x=>G.fG.L1 n aZ x.1 x.2) r (λx=>gZ.of [eP 2 107,eP 3 108,(19,.v true (.one (w7 aZ.bH))),eI 20 (aZ.bH.length:Int),eI 21 x.1] [(107,.var [.og 7,wI 0]),(108,.var [.own 109 x.2.length 7,wI aZ.kY]),(109,.dat 7 (ax fA.cells x.2))])) ()) (pp (bY @G.fG.L1.eq_1 <|@G.fG.L1.eq_2) ()) (pp (@gK [] [(107,11),(108,12),(109,13)] []) <|pp (@gK [] [(107,107),(108,108),(109,109)] []) ());exact uH
theorem F.Ku {n:Nat} : ∀{aZ r},G.fG n aZ=some r->pM pZ 46 [.agg (wU aZ)] [] (λr1 b1=>r1 = .agg [.own 0 r.bH.length 7,wI r.kY]/\b1=[.dat 7 (ax fA.cells r.bH)]):=by intro aZ r h;refine yL K.fG (ug ?_);unfold C.fG;rcases n with _|n<;>simp only[G.fG,reduceCtorEq]at h;have z:=Yh (pp @F.su ()) (pp (@uQ (Int×List fA) _ (λn x=>G.fG.L1 n aZ x.1 x.2) r (λx=>gZ.of [eP 2 107,eP 3 108,(19,.v true (.one (w7 aZ.bH))),eI 20 (aZ.bH.length:Int),eI 21 x.1] [(107,.var [.og 7,wI 0]),(108,.var [.own 109 x.2.length 7,wI aZ.kY]),(109,.dat 7 (ax fA.cells x.2))])) ()) (pp (bY @G.fG.L1.eq_1 <|@G.fG.L1.eq_2) ()) (pp (@gK [] [(107,11),(108,12),(109,13)] []) <|pp (@gK [] [(107,107),(108,108),(109,109)] []) ()) (pp (@Ew [] [(0,109)] []) <|pp (@Ew [] [] [0]) ());exact uH
theorem F.sQ {n:Nat} : ∀{yT fU r},G.sQ n yT fU=some r->fE pZ 122 [.agg (wM yT),oS fU] (oI r):=by intro yT fU r h;refine bI K.sQ (ug ?_);unfold C.sQ;cases n;cases h;simp only[G.sQ]at h;have z:=iY (pp @F.strings_Compare ());exact uH
theorem F.aW {n:Nat} : ∀{vw rU r},G.aW n vw rU=some r->fE pZ 121 [.one (w7 vw),oS rU,.one (.fn 122 [])] (.AA [(false,[wI r.1]),(false,[wB r.2])]):=by intro vw rU r h;refine bI K.aW (ug ?_);unfold C.yF;rcases n with _|n<;>simp only[G.aW,reduceCtorEq]at h;have z:=jk (pp @F.sQ ()) (pp (@uQ (Int×Int) _ (λn x=>G.aW.L1 n vw rU x.1 x.2) r (λx=>gZ.of [(0,.v true (.one (w7 vw))),eS 1 rU,(2,.v true (.one (.fn 122 []))),eI 8 (vw.length:Int),eI 9 x.1,eI 10 x.2] [])) ()) (pp (bY @G.aW.L1.eq_1 <|@G.aW.L1.eq_2) ()) (pp (@gK [] [] []) ());exact uH
theorem F.nZ {n:Nat} : ∀{Ar fU r},G.nZ n Ar fU=some r->fE pZ 95 [.one (w7 Ar),oS fU] (.AA [(false,[wI r.1]),(false,[wB r.2])]):=by intro Ar fU r h;refine bI K.nZ (ug ?_);unfold C.nZ;rcases n with _|n<;>simp only[G.nZ,reduceCtorEq]at h;have z:=Yf (pp (pp @F.aW (@cG [] [])) ());exact uH
theorem F.oh {n:Nat} : ∀{aZ:List fA} {JU:Int} {ZW:Int} {r:List fA},G.oh n aZ JU ZW=some r ->
 pM pZ 129 [.one (.own 0 aZ.length 7),oI JU,oI ZW] [.dat 7 (ax fA.cells aZ)]
  (λr1 b1=>r1 = .one (.own 1 r.length 7)/\b1=[.dead,.dat 7 (ax fA.cells r)]):=by
 intro s i j r h;rcases n with _|n<;>simp only[G.oh,reduceCtorEq]at h;exact FG.del _ (cb:=104) xM K.oh h
theorem F.uI {n:Nat} : ∀{aZ fU r},G.uI n aZ fU=some r->fE pZ 101 [.agg (wU aZ),oS fU] (.AA [(true,(wU r.1)),(false,[wB r.2])]):=by intro aZ fU r h;refine bI K.uI (ug ?_);unfold C.uI;rcases n with _|n<;>simp only[G.uI,reduceCtorEq]at h;have z:=GM (pp @F.dY <|pp @F.nZ ()) (pp (pp @F.Ku (@cG [] [101])) <|pp (pp @F.oh (@cG [101] [102])) ());exact uH
theorem B.lays167 : Go.Proofs.Lays.n167 pZ B.ren:=by constructor<;>first|kernel_rfl|(intro w;kernel_rfl)
theorem F.dH {n:Nat} : ∀{Eb:jM} {PZ:Int} {r:Unit×jM},G.dH n Eb PZ=some r->pM pZ 150 [.one (.ptr 0 0),.one (.c (.lit (.int .u8 PZ)))] [.var [.opt 155 0,.zV 1 Eb.buf.length],.row 5 Eb.buf] (λr1 b1=>r1 = .one (.c (.lit .nilIface))/\b1=[.var [.opt 155 0,.zV 2 r.2.buf.length],.dead,.row 5 r.2.buf]):=by intro b c r h;rcases n with _|n<;>simp only[G.dH,reduceCtorEq]at h;obtain⟨⟨hc,hl⟩,h⟩:=En.1 h;cases h;exact Yn B.lays167 B.x hc hl
theorem F.iE {n:Nat} : ∀{Eb aZ r},G.iE n Eb aZ=some r->pM pZ 149 [.one (.ptr 0 0),oS aZ] [.var [.opt 155 0,.zV 1 Eb.buf.length],.row 5 Eb.buf] (λr1 b1=>r1 = .AA []/\b1=[.var [.opt 155 0,.zV 2 r.buf.length],.dead,.row 5 r.buf]):=by intro Eb aZ r h;refine yL K.iE (ug ?_);unfold C.iE;rcases n with _|n<;>simp only[G.iE,reduceCtorEq]at h;have z:=ag5 (pp (pp @F.dH (@cG [0,1] [101])) <|pp (pp @F.dH (@cG [0,116] [121])) <|pp (pp @F.dH (@cG [0,116] [122])) <|pp (pp @F.dH (@cG [0,119] [120])) <|pp (pp @F.dH (@cG [0,116] [123])) ()) (pp (@uQ (Int×fC) _ (λn x=>G.iE.L3 n aZ x.1 x.2) r (λx=>gZ.of [eP 0 0,eS 1 aZ,eI 4 x.1] [(0,.var [.opt 155 0,.zV 116 x.2.length]),(1,.dead),(116,.row 5 x.2)])) ()) (pp (@Ii (Int×fC) _ (λn x=>G.iE.K4 n aZ x.1 x.2) r (λx=>gZ.of [eP 0 0,eS 1 aZ,eI 4 x.1] [(0,.var [.opt 155 0,.zV 119 x.2.length]),(1,.dead),(119,.row 5 x.2)])) ()) (pp (bY @G.iE.L3.eq_1 <|bY @G.iE.L3.eq_2 <|bY @G.iE.K4.eq_1 <|@G.iE.K4.eq_2) ()) (pp (@gK [] [(0,0),(1,1),(116,101)] []) <|pp (@gK [] [(0,0),(1,1),(119,121)] []) <|pp (@gK [] [(0,0),(1,1),(119,122)] []) <|pp (@gK [] [(0,0),(1,1),(119,116)] []) <|pp (@gK [] [(0,0),(1,1),(116,120)] []) ()) (pp (@Ew [] [(0,0),(1,1),(2,123)] []) <|pp (@Ew [] [(0,0),(1,1),(2,121)] []) ());exact uH
theorem B.lays166 : Go.Proofs.Lays.n166 pZ B.ren:=by constructor<;>first|kernel_rfl|(intro w;kernel_rfl)
theorem F.nG {n:Nat} : ∀{Eb:jM} {aZ:fC} {r:Int×Unit×jM},G.nG n Eb aZ=some r->pM pZ 147 [.one (.ptr 0 0),oS aZ] [.var [.opt 155 0,.zV 1 Eb.buf.length],.row 5 Eb.buf] (λr1 b1=>r1 = .AA [(false,[wI r.1]),(false,[.c (.lit .nilIface)])]/\b1=[.var [.opt 155 0,.zV 2 r.2.2.buf.length],.dead,.row 5 r.2.2.buf]):=by intro b s r h;rcases n with _|n<;>simp only[G.nG,reduceCtorEq]at h;obtain⟨hl,h⟩:=En.1 h;cases h;exact UZ B.lays166 B.x hl
theorem F.RX : ∀(n:Nat),∀{Eb aG r},G.dO n Eb aG=some r->pM pZ 125 [.one (.ptr 0 0),.agg (wN aG)] [.var [.opt 155 0,.zV 1 Eb.buf.length],.row 5 Eb.buf] (λr1 b1=>r1 = .AA []/\b1=[.var [.opt 155 0,.zV 2 r.buf.length],.dead,.row 5 r.buf]):=by
 intro n
 induction n using iw with|_ n ih=>
 intro Eb aG r h;refine yL K.dO (ug ?_);unfold C.dO;rcases n with _|n<;>simp only[G.dO,reduceCtorEq]at h;have:=Mk.mk 1;have:=Mk.mk 2;have z:=adZ (pp @F.strconv_Itoa ()) (pp (pp ih (@cG [0,118] [119])) <|pp (pp ih (@cG [0,148] [149])) <|pp (pp @F.nG (@cG [0,1] [101])) <|pp (pp @F.nG (@cG [0,1] [102])) <|pp (pp @F.iE (@cG [0,1] [103])) <|pp (pp @F.dH (@cG [0,1] [104])) <|pp (pp @F.dH (@cG [0,115] [120])) <|pp (pp @F.dH (@cG [0,115] [121])) <|pp (pp @F.dH (@cG [0,1] [122])) <|pp (pp @F.dH (@cG [0,142] [150])) <|pp (pp @F.iE (@cG [0,146] [147])) <|pp (pp @F.dH (@cG [0,147] [148])) <|pp (pp @F.dH (@cG [0,142] [151])) ()) (pp (@uQ (Int×fC) _ (λn x=>G.dO.L3 n aG x.1 x.2) r (λx=>gZ.of [eP 0 0,(32,.v true (.one (wK aG.aP))),eI 33 (aG.aP.length:Int),eI 34 x.1] [(0,.var [.opt 155 0,.zV 115 x.2.length]),(1,.dead),(115,.row 5 x.2)])) <|pp (@uQ (Int×fC) _ (λn x=>G.dO.L7 n aG x.1 x.2) r (λx=>gZ.of [eP 0 0,eP 3 141,(54,.v true (.one (wK aG.aP))),eI 55 (aG.aP.length:Int),eI 56 x.1] [(0,.var [.opt 155 0,.zV 142 x.2.length]),(1,.dead),(141,.var (wN aG)),(142,.row 5 x.2)])) ()) (pp (@Ii (Int×fC) _ (λn x=>G.dO.K4 n aG x.1 x.2) r (λx=>gZ.of [eP 0 0,eP 5 117,(32,.v true (.one (wK aG.aP))),eI 33 (aG.aP.length:Int),eI 34 x.1] [(0,.var [.opt 155 0,.zV 118 x.2.length]),(1,.dead),(117,.var [wI ((aG.aP.getD x.1.toNat default).bM),wI ((aG.aP.getD x.1.toNat default).wJ),wS ((aG.aP.getD x.1.toNat default).lI),wT ((aG.aP.getD x.1.toNat default).aO),wK ((aG.aP.getD x.1.toNat default).aP)]),(118,.row 5 x.2)])) <|pp (@Ii (Int×fC) _ (λn x=>G.dO.K8 n aG x.1 x.2) r (λx=>gZ.of [eP 0 0,eP 3 144,eI 6 x.1,eP 7 145,(54,.v true (.one (wK aG.aP))),eI 55 (aG.aP.length:Int),eI 56 x.1] [(0,.var [.opt 155 0,.zV 146 x.2.length]),(1,.dead),(144,.var (wN aG)),(145,.var [wI ((aG.aP.getD x.1.toNat default).bM),wI ((aG.aP.getD x.1.toNat default).wJ),wS ((aG.aP.getD x.1.toNat default).lI),wT ((aG.aP.getD x.1.toNat default).aO),wK ((aG.aP.getD x.1.toNat default).aP)]),(146,.row 5 x.2)])) ()) (pp (bY @G.dO.L3.eq_1 <|bY @G.dO.L3.eq_2 <|bY @G.dO.K4.eq_1 <|bY @G.dO.K4.eq_2 <|bY @G.dO.L7.eq_1 <|bY @G.dO.L7.eq_2 <|bY @G.dO.K8.eq_1 <|@G.dO.K8.eq_2) ()) (pp (@gK [] [(0,0),(1,1),(115,104)] []) <|pp (@gK [] [(0,0),(1,1),(117,11),(118,120)] []) <|pp (@gK [] [(0,0),(1,1),(117,11),(118,115)] []) <|pp (@gK [] [(0,0),(1,1),(115,119)] []) <|pp (@gK [] [(0,0),(1,1),(141,10),(142,122)] []) <|pp (@gK [] [(0,0),(1,1),(144,141),(145,12),(146,150)] []) <|pp (@gK [] [(0,0),(1,1),(144,141),(145,12),(146,142)] []) <|pp (@gK [] [(0,0),(1,1),(141,144),(142,149)] []) <|pp (@gK [] [(0,0),(1,1),(141,10),(142,104)] []) ()) (pp (@Ew [] [(0,0),(1,1),(2,101)] []) <|pp (@Ew [] [(0,0),(1,1),(2,102)] []) <|pp (@Ew [] [(0,0),(1,1),(2,103)] []) <|pp (@Ew [] [(0,0),(1,1),(2,121)] []) <|pp (@Ew [] [(0,0),(1,1),(2,151)] []) <|pp (@Ew [] [(0,0),(1,1),(2,1)] []) <|pp (@Ew [] [(0,0),(1,1),(2,120)] []) <|pp (@Ew [] [(0,0),(1,1),(2,150)] []) ()) (pp (pp (rfl : @G.dO.K4=_) <|pp (rfl : @G.dO.L3=_) ()) <|pp (pp (rfl : @G.dO.K8=_) <|pp (rfl : @G.dO.L7=_) ()) ());exact ahR
theorem F.dO {n:Nat} : ∀{Eb:jM} {aG:aj} {r:jM},G.dO n Eb aG=some r->pM pZ 125 [.one (.ptr 0 0),.agg (wN aG)] [.var [.opt 155 0,.zV 1 Eb.buf.length],.row 5 Eb.buf] (λr1 b1=>r1 = .AA []/\b1=[.var [.opt 155 0,.zV 2 r.buf.length],.dead,.row 5 r.buf]):=F.RX n
theorem B.lays169 : Go.Proofs.Lays.n169 pZ B.ren:=by constructor<;>first|kernel_rfl|(intro w;kernel_rfl)
theorem F.uZ {n:Nat} : ∀{Eb:jM} {r:fC},G.uZ n Eb=some r->pM pZ 126 [.one (.ptr 0 0)] [.var [.opt 155 0,.zV 1 Eb.buf.length],.row 5 Eb.buf] (λr1 b1=>r1=oS r/\b1=[.dead,.dead]):=by intro b r h;rcases n with _|n<;>simp only[G.uZ,reduceCtorEq]at h;obtain⟨hl,h⟩:=En.1 h;cases h;exact afm B.lays169 B.x (bJ hl xM)
theorem F.rC {n:Nat} : ∀{aG r},G.rC n aG=some r->fE pZ 98 [.agg (wN aG)] (oS r):=by intro aG r h;refine bI K.rC (ug ?_);unfold C.rC;rcases n with _|n<;>simp only[G.rC,reduceCtorEq]at h;have z:=GM (pp @F.dm ()) (pp (pp @F.dO (@cG [12,11] [101])) <|pp (pp @F.uZ (@cG [12,101] [])) ());exact uH
theorem F.vN {n:Nat} : ∀{aZ fU r},G.vN n aZ fU=some r->fE pZ 45 [.agg (wU aZ),oS fU] (.AA [(true,(wM r.1)),(false,[wB r.2])]):=by intro aZ fU r h;refine bI K.vN (ug ?_);unfold C.vN;cases n;cases h;simp only[G.vN]at h;have z:=iY (pp @F.dY <|pp @F.nZ <|pp @F.su ());exact uH
theorem F.jy {n:Nat} : ∀{aZ r},G.jy n aZ=some r->fE pZ 97 [oS aZ] (oS r):=by intro aZ r h;refine bI K.jy (ug ?_);unfold C.jy;rcases n with _|n<;>simp only[G.jy,reduceCtorEq]at h;have z:=zJ (pp (@uQ (Int×Int) _ (λn x=>G.jy.L1 n aZ x.1 x.2) r (λx=>gZ.of [eS 0 aZ,eI 3 x.1,eI 4 x.2] [])) <|pp (@uQ (Int×Int×List Int) _ (λn x=>G.jy.L2 n x.1 x.2.1 x.2.2) r (λx=>gZ.of [eI 3 x.1,(5,.v true (.one (.BF 103 0 1 0))),eI 6 x.2.1] [(103,.dat 1 (ax cU x.2.2))])) ()) (pp (bY @G.jy.L1.eq_1 <|bY @G.jy.L1.eq_2 <|bY @G.jy.L2.eq_1 <|@G.jy.L2.eq_2) ()) (pp (@gK [] [] []) <|pp (@gK [] [(103,10)] []) <|pp (@gK [] [(103,103)] []) ());exact uH
theorem F.wo {n:Nat} : ∀{aG r},G.wo n aG=some r->fE pZ 47 [.agg (wN aG)] (oS r):=by intro aG r h;refine bI K.wo (ug ?_);unfold C.wo;cases n;cases h;simp only[G.wo]at h;have z:=iY (pp @F.dm <|pp @F.rC <|pp @F.jy ());exact uH
theorem F.rD {n:Nat} : ∀{aZ nI r},G.rD n aZ nI=some r->fE pZ 49 [.agg (wU aZ),.agg (wQ nI)] (.AA [(true,(wU r.1)),(true,(wR r.2))]):=by intro aZ nI r h;refine bI K.rD (ug ?_);unfold C.rD;cases n;cases h;simp only[G.rD]at h;have z:=iY (pp @F.uI <|pp @F.fG ());exact uH
theorem F.ou {n:Nat} : ∀{aZ:List fA} {JU:Int} {EO:List fA} {r:List fA},G.ou n aZ JU EO=some r ->
 pM pZ 156 [.one (.own 0 aZ.length 7),oI JU,.one (.own 1 EO.length 7)] [.dat 7 (ax fA.cells aZ),.dat 7 (ax fA.cells EO)]
  (λr1 b1=>r1 = .one (.own 2 r.length 7)/\b1=[.dead,.dat 7 (ax fA.cells EO),.dat 7 (ax fA.cells r)]):=by
 intro s i v r h;rcases n with _|n<;>simp only[G.ou,reduceCtorEq]at h;exact FG.ins _ (cb:=104) xM K.ou h
theorem F.xU {n:Nat} : ∀{Ar yT r},G.xU n Ar yT=some r->pM pZ 132 [.one (.own 0 Ar.length 7),.agg (wM yT)] [.dat 7 (ax fA.cells Ar)] (λr1 b1=>r1 = .one (.own 1 r.length 7)/\b1=[.dead,.dat 7 (ax fA.cells r)]):=by intro Ar yT r h;refine yL K.xU (ug ?_);unfold C.xU;rcases n with _|n<;>simp only[G.xU,reduceCtorEq]at h;have z:=IJ (pp @F.nZ ()) (pp (pp @F.ou (@cG [0,11] [101])) ()) (pp (@Ew [] [(0,0),(1,0)] []) <|pp (@Ew [] [(0,0),(1,101)] []) ());exact uH
theorem F.vO {n:Nat} : ∀{aZ fU aG r},G.vO n aZ fU aG=some r->fE pZ 103 [.agg (wU aZ),oS fU,.agg (wN aG)] (.AA [(true,(wU r.1)),(false,[wB r.2])]):=by intro aZ fU aG r h;refine bI K.vO (ug ?_);unfold C.vO;rcases n with _|n<;>simp only[G.vO,reduceCtorEq]at h;have z:=GM (pp @F.dY <|pp @F.kQ <|pp @F.dm <|pp @F.bC ()) (pp (pp @F.Ku (@cG [] [101])) <|pp (pp @F.xU (@cG [101] [102])) ());exact uH
theorem F.wF {n:Nat} : ∀{BP fU r},G.wF n BP fU=some r->pM pZ 170 [.one (.ptr 0 0),oS fU] [.var [wI BP.bM,wI BP.wJ,wS BP.lI,.own 1 BP.aO.length 1,.own 2 BP.aP.length 5],.dat 1 (ax cS BP.aO),.dat 5 (ax aj.cells BP.aP)] (λr1 b1=>r1 = .AA []/\b1=[.var [wI r.bM,wI r.wJ,wS r.lI,.own 3 r.aO.length 1,.own 4 r.aP.length 5],.dead,.dead,.dat 1 (ax cS r.aO),.dat 5 (ax aj.cells r.aP)]):=by intro BP fU r h;refine yL K.wF (ug ?_);unfold C.wF;rcases n with _|n<;>simp only[G.wF,reduceCtorEq]at h;have z:=IJ (pp @F.slices_BinarySearch_string ()) (pp (pp @F.slices_Delete_string (@cG [1] [101])) <|pp (pp @F.jW (@cG [2] [102])) ()) (pp (@Ew [] [(0,0),(1,1),(2,2),(3,101),(4,102)] []) <|pp (@Ew [] [(0,0),(1,1),(2,2),(3,1),(4,2)] []) ());exact uH
theorem F.Qu : ∀(n:Nat),∀{aG fB r},G.fD n aG fB=some r->fE pZ 155 [.agg (wN aG),.agg (wN fB)] (.agg (wN r)):=by
 intro n
 induction n using iw with|_ n ih=>
 intro aG fB r h;refine bI K.fD (ug ?_);unfold C.fD;rcases n with _|n<;>simp only[G.fD,reduceCtorEq]at h;have:=Mk.mk 1;have:=Mk.mk 2;have z:=adY (pp ih <|pp @F.slices_BinarySearch_string ()) (pp (pp @F.xq (@cG [] [101,102])) <|pp (pp @F.xq (@cG [] [155,156])) <|pp (pp @F.wF (@cG [142,143,144] [145,146])) <|pp (pp @F.pV (@cG [149,151,152] [153,154])) ()) (pp (@uQ (Int×Int×Int×fC×List fC×List aj) _ (λn x=>G.fD.L4 n fB x.1 x.2.1 x.2.2.1 x.2.2.2.1 x.2.2.2.2.1 x.2.2.2.2.2) r (λx=>gZ.of [eP 3 140,eP 4 141,eP 5 142,eT 23 fB.aO,eI 24 (fB.aO.length:Int),eI 25 x.1] [(140,.var (wN fB)),(141,.var zN),(142,.var [wI x.2.1,wI x.2.2.1,wS x.2.2.2.1,.own 143 x.2.2.2.2.1.length 1,.own 144 x.2.2.2.2.2.length 5]),(143,.dat 1 (ax cS x.2.2.2.2.1)),(144,.dat 5 (ax aj.cells x.2.2.2.2.2))])) ()) (pp (@Ii (Int×Int×fC×List fC×List aj) _ (λn x=>G.fD.K1 n fB x.1 x.2.1 x.2.2.1 x.2.2.2.1 x.2.2.2.2) r (λx=>gZ.of [eP 3 105,eP 4 106,eP 5 107] [(105,.var (wN fB)),(106,.var zN),(107,.var [wI x.1,wI x.2.1,wS x.2.2.1,.own 108 x.2.2.2.1.length 1,.own 109 x.2.2.2.2.length 5]),(108,.dat 1 (ax cS x.2.2.2.1)),(109,.dat 5 (ax aj.cells x.2.2.2.2))])) <|pp (@Ii (Int×Int×Int×fC×List fC×List aj×Int×Int×fC×List fC×List aj) _ (λn x=>G.fD.K5 n fB x.1 x.2.1 x.2.2.1 x.2.2.2.1 x.2.2.2.2.1 x.2.2.2.2.2.1 x.2.2.2.2.2.2.1 x.2.2.2.2.2.2.2.1 x.2.2.2.2.2.2.2.2.1 x.2.2.2.2.2.2.2.2.2.1 x.2.2.2.2.2.2.2.2.2.2) r (λx=>gZ.of [eP 3 147,eP 4 148,eP 5 149,eI 6 x.1,eS 7 (fB.aO.getD x.1.toNat default),eP 8 150,eT 23 fB.aO,eI 24 (fB.aO.length:Int),eI 25 x.1] [(147,.var (wN fB)),(148,.var zN),(149,.var [wI x.2.1,wI x.2.2.1,wS x.2.2.2.1,.own 151 x.2.2.2.2.1.length 1,.own 152 x.2.2.2.2.2.1.length 5]),(150,.var [wI x.2.2.2.2.2.2.1,wI x.2.2.2.2.2.2.2.1,wS x.2.2.2.2.2.2.2.2.1,wT x.2.2.2.2.2.2.2.2.2.1,wK x.2.2.2.2.2.2.2.2.2.2]),(151,.dat 1 (ax cS x.2.2.2.2.1)),(152,.dat 5 (ax aj.cells x.2.2.2.2.2.1))])) ()) (pp (bY @G.fD.K1.eq_1 <|bY @G.fD.K1.eq_2 <|bY @G.fD.L4.eq_1 <|bY @G.fD.L4.eq_2 <|bY @G.fD.K5.eq_1 <|@G.fD.K5.eq_2) ()) (pp (@gK [] [(105,11),(106,12),(107,13),(108,155),(109,156)] []) <|pp (@gK [] [(105,11),(106,12),(107,13)] [108,109]) <|pp (@gK [] [(140,105),(141,106),(142,107),(143,108),(144,109)] []) <|pp (@gK [] [(140,140),(141,141),(142,142),(143,145),(144,146)] []) <|pp (@gK [] [(147,140),(148,141),(149,142),(150,14),(151,143),(152,144)] []) <|pp (@gK [] [(140,147),(141,148),(142,149),(143,153),(144,154)] []) <|pp (@gK [] [(105,11),(106,12),(107,13),(108,101),(109,102)] []) ()) (pp (pp (rfl : @G.fD.K1=_) ()) <|pp (pp (rfl : @G.fD.K5=_) <|pp (rfl : @G.fD.L4=_) <|pp (rfl : @G.fD.K1=_) ()) ());exact ahR
theorem F.fD {n:Nat} : ∀{aG:aj} {fB:aj} {r:aj},G.fD n aG fB=some r->fE pZ 155 [.agg (wN aG),.agg (wN fB)] (.agg (wN r)):=F.Qu n
theorem F.sV {n:Nat} : ∀{aG fB r},G.sV n aG fB=some r->fE pZ 131 [.agg (wN aG),.agg (wN fB)] (.AA [(true,(wN r.1)),(false,[wB r.2])]):=by intro aG fB r h;refine bI K.sV (ug ?_);unfold C.sV;cases n;cases h;simp only[G.sV]at h;have z:=iY (pp @F.dm <|pp @F.fD <|pp @F.pU ());exact uH
theorem F.vS {n:Nat} : ∀{Hg nI r},G.vS n Hg nI=some r->fE pZ 102 [.agg (wN Hg),.agg (wQ nI)] (.AA [(true,(wN r.1)),(false,[wB r.2])]):=by intro Hg nI r h;refine bI K.vS (ug ?_);unfold C.vS;cases n;cases h;simp only[G.vS]at h;have z:=iY (pp @F.ry <|pp @F.sV ());exact uH
theorem F.nP {n:Nat} : ∀{aZ nI Hg MI r},G.nP n aZ nI Hg MI=some r->fE pZ 50 [.agg (wU aZ),.agg (wQ nI),.agg (wN Hg),oB MI] (.AA [(true,(wU r.1)),(true,(wR r.2))]):=by intro aZ nI Hg MI r h;refine bI K.nP (ug ?_);unfold C.nP;cases n;cases h;simp only[G.nP]at h;have z:=iY (pp @F.vS <|pp @F.vO <|pp @F.wo <|pp @F.fG ());exact uH
theorem F.l7 {n:Nat} : ∀{nI r},G.l7 n nI=some r->fE pZ 44 [.agg (wQ nI)] (oB r):=by intro nI r h;refine bI K.l7 (ug ?_);unfold C.l7;cases n;cases h;simp only[G.l7]at h;have z:=iY (pp @F.kQ <|pp @F.kK <|pp @F.dm <|pp @F.gY ());exact uH
theorem F.fF {n:Nat} : ∀{aZ nI r},G.fF n aZ nI=some r->fE pZ 11 [.agg (wU aZ),.agg (wQ nI)] (.AA [(true,(wU r.1)),(true,(wR r.2))]):=by intro aZ nI r h;refine bI K.fF (ug ?_);unfold C.fF;rcases n with _|n<;>simp only[G.fF,reduceCtorEq]at h;have:=Mk.mk 1;have:=Mk.mk 2;have z:=WR (pp @F.dY <|pp @F.l7 <|pp @F.vN <|pp @F.wo <|pp @F.kZ <|pp @F.fG <|pp @F.rD <|pp @F.nP ()) (pp (@Ii ((fA×Bool)×fC) _ (λn x=>G.fF.K1 n aZ nI x.1 x.2) r (λx=>gZ.of [eP 2 101,eP 3 102,eP 4 103,eP 5 104,eP 6 105,eB 7 true,eS 8 x.2] [(101,.var (wU aZ)),(102,.var (wQ nI)),(103,.var [.og 7,wI 0]),(104,.var [wI 0,.c (.str []),wI 0,wI 0,wI 0,.c (.str []),.og 1,.og 5]),(105,.var (wM x.1.1))])) <|pp (@Ii ((fA×Bool)) _ (λn x=>G.fF.K2 n aZ nI x) r (λx=>gZ.of [eP 2 106,eP 3 107,eP 4 108,eP 5 109,eP 6 110,eB 7 false,(8,.v true (.one (.c (.str [])))),eB 37 false] [(106,.var (wU aZ)),(107,.var (wQ nI)),(108,.var [.og 7,wI 0]),(109,.var [wI 0,.c (.str []),wI 0,wI 0,wI 0,.c (.str []),.og 1,.og 5]),(110,.var (wM x.1))])) ()) (pp (bY @G.fF.K1.eq_1 <|bY @G.fF.K1.eq_2 <|bY @G.fF.K2.eq_1 <|@G.fF.K2.eq_2) ()) (pp (@gK [] [(101,10),(102,11),(103,12),(104,13),(105,14)] []) <|pp (@gK [] [(106,10),(107,11),(108,12),(109,13),(110,14)] []) ()) (pp (pp (rfl : @G.fF.K1=_) ()) <|pp (pp (rfl : @G.fF.K2=_) ()) ());exact ahR
theorem F.ja {n:Nat} : ∀{aU r},G.ja n aU=some r->fE pZ 63 [.one (.c (.sl 10 (ax bn.cells aU)))] (oB r):=by intro aU r h;refine bI K.ja (ug ?_);unfold C.ja;rcases n with _|n<;>simp only[G.ja,reduceCtorEq]at h;have z:=jk (pp @F.l7 ()) (pp (@uQ (Int) _ (λn x=>G.ja.L1 n aU x) r (λx=>gZ.of [(8,.v true (.one (.c (.sl 10 (ax bn.cells aU))))),eI 9 (aU.length:Int),eI 10 x] [])) ()) (pp (bY @G.ja.L1.eq_1 <|@G.ja.L1.eq_2) ()) (pp (@gK [] [] []) ());exact uH
theorem F.qh {n:Nat} : ∀{aQ r},G.qh n aQ=some r->fE pZ 65 [oI aQ] (oB r):=by intro aQ r h;refine bI K.qh (ug ?_);unfold C.qh;rcases n with _|n<;>simp only[G.qh,reduceCtorEq]at h;have z:=Dk;exact uH
theorem F.fO {n:Nat} : ∀{aZ aU r},G.fO n aZ aU=some r->fE pZ 64 [.agg (wU aZ),.one (.c (.sl 10 (ax bn.cells aU))),.one (.fn 65 [])] (.AA [(true,(wU r.1)),(false,[.c (.sl 8 (ax bP.cells r.2))])]):=by intro aZ aU r h;refine bI K.fO (ug ?_);unfold C.OH;rcases n with _|n<;>simp only[G.fO,reduceCtorEq]at h;have z:=jk (pp @F.fG <|pp @F.fF <|pp @F.qh ()) (pp (@uQ (Int×List fA×Int×List bP) _ (λn x=>G.fO.L1 n aU x.1 x.2.1 x.2.2.1 x.2.2.2) r (λx=>gZ.of [(2,.v true (.one (.fn 65 []))),eP 6 106,eP 8 107,(9,.v true (.one (.own 108 x.2.2.2.length 8))),(16,.v true (.one (.c (.sl 10 (ax bn.cells aU))))),eI 17 (aU.length:Int),eI 18 x.1] [(106,.var [.og 7,wI 0]),(107,.var [w7 x.2.1,wI x.2.2.1]),(108,.dat 8 (ax bP.cells x.2.2.2))])) ()) (pp (bY @G.fO.L1.eq_1 <|@G.fO.L1.eq_2) ()) (pp (@gK [] [(106,11),(107,12)] [108]) <|pp (@gK [] [(106,106),(107,107),(108,17)] []) ());exact uH
theorem F.lF {n:Nat} : ∀{aZ aU r},G.lF n aZ aU=some r->fE pZ 23 [.agg (wU aZ),.one (.c (.sl 10 (ax bn.cells aU)))] (.AA [(true,(wU r.1)),(false,[.c (.sl 8 (ax bP.cells r.2))])]):=by intro aZ aU r h;refine bI K.lF (ug ?_);unfold C.lF;rcases n with _|n<;>simp only[G.lF,reduceCtorEq]at h;have z:=GM (pp @F.dY <|pp @F.ja ()) (pp (pp @F.fO (@cG [] [])) ());exact uH
theorem F.jT {n:Nat} : ∀{aQ gB r},G.jT n aQ gB=some r->fE pZ 53 [oT aQ,oT gB] (oB r):=by intro aQ gB r h;refine bI K.jT (ug ?_);unfold C.jT;rcases n with _|n<;>simp only[G.jT,reduceCtorEq]at h;have z:=zJ (pp (@uQ (Int) _ (λn x=>G.jT.L1 n aQ gB x) r (λx=>gZ.of [eT 0 aQ,eT 1 gB,eI 5 x] [])) ()) (pp (bY @G.jT.L1.eq_1 <|@G.jT.L1.eq_2) ()) (pp (@gK [] [] []) ());exact uH
theorem F.Un : ∀(n:Nat),(∀{aQ gB r},G.qW n aQ gB=some r->fE pZ 52 [.agg (wN aQ),.agg (wN gB)] (oB r))/\(∀{aQ gB r},G.qC n aQ gB=some r->fE pZ 105 [.one (wK aQ),.one (wK gB)] (oB r)):=by
 intro n
 induction n using iw with|_ n ih=>
 refine⟨?_,?_⟩
 ·intro aQ gB r h;refine bI K.qW (ug ?_);unfold C.qW;cases n;cases h;simp only[G.qW]at h;have z:=iY (pp ((ihR ih)) <|pp @F.jT ());exact uH
 ·intro aQ gB r h;refine bI K.qC (ug ?_);unfold C.qC;rcases n with _|n<;>simp only[G.qC,reduceCtorEq]at h;have z:=jk (pp ((ihL ih)) ()) (pp (@uQ (Int) _ (λn x=>G.qC.L1 n aQ gB x) r (λx=>gZ.of [(0,.v true (.one (wK aQ))),(1,.v true (.one (wK gB))),eI 5 x] [])) ()) (pp (bY @G.qC.L1.eq_1 <|@G.qC.L1.eq_2) ()) (pp (@gK [] [] []) ());exact uH
theorem F.qW {n:Nat} : ∀{aQ:aj} {gB:aj} {r:Bool},G.qW n aQ gB=some r->fE pZ 52 [.agg (wN aQ),.agg (wN gB)] (oB r):=(F.Un n).1
theorem F.yw {n:Nat} : ∀{aQ gB r},G.yw n aQ gB=some r->fE pZ 104 [.agg (wM aQ),.agg (wM gB)] (oB r):=by intro aQ gB r h;refine bI K.yw (ug ?_);unfold C.yw;cases n;cases h;simp only[G.yw]at h;have z:=iY (pp @F.qW ());exact uH
theorem F.oU {n:Nat} : ∀{aQ gB r},G.oU n aQ gB=some r->fE pZ 51 [.one (w7 aQ),.one (w7 gB)] (oB r):=by intro aQ gB r h;refine bI K.oU (ug ?_);unfold C.oU;rcases n with _|n<;>simp only[G.oU,reduceCtorEq]at h;have z:=jk (pp @F.yw ()) (pp (@uQ (Int) _ (λn x=>G.oU.L1 n aQ gB x) r (λx=>gZ.of [(0,.v true (.one (w7 aQ))),(1,.v true (.one (w7 gB))),eI 5 x] [])) ()) (pp (bY @G.oU.L1.eq_1 <|@G.oU.L1.eq_2) ()) (pp (@gK [] [] []) ());exact uH
theorem F.Bf {n:Nat} : ∀{aQ gB r},G.Bf n aQ gB=some r->fE pZ 106 [.agg (wO aQ),.agg (wO gB)] (oB r):=by intro aQ gB r h;refine bI K.Bf (ug ?_);unfold C.Bf;cases n;cases h;simp only[G.Bf]at h;have z:=iY (pp @F.jT <|pp @F.qW ());exact uH
theorem F.uj {n:Nat} : ∀{aQ gB r},G.uj n aQ gB=some r->fE pZ 54 [.one (w8 aQ),.one (w8 gB)] (oB r):=by intro aQ gB r h;refine bI K.uj (ug ?_);unfold C.uj;rcases n with _|n<;>simp only[G.uj,reduceCtorEq]at h;have z:=jk (pp @F.Bf ()) (pp (@uQ (Int) _ (λn x=>G.uj.L1 n aQ gB x) r (λx=>gZ.of [(0,.v true (.one (w8 aQ))),(1,.v true (.one (w8 gB))),eI 5 x] [])) ()) (pp (bY @G.uj.L1.eq_1 <|@G.uj.L1.eq_2) ()) (pp (@gK [] [] []) ());exact uH
theorem F.vG {n:Nat} : ∀{aQ gB r},G.vG n aQ gB=some r->fE pZ 14 [.agg (wQ aQ),.agg (wQ gB)] (oB r):=by intro aQ gB r h;refine bI K.vG (ug ?_);unfold C.vG;cases n;cases h;simp only[G.vG]at h;have z:=iY (pp @F.jT <|pp @F.qW <|pp @F.uj ());exact uH
theorem F.lH {n:Nat} : ∀{aQ gB r},G.lH n aQ gB=some r->fE pZ 25 [.one (.c (.sl 10 (ax bn.cells aQ))),.one (.c (.sl 10 (ax bn.cells gB)))] (oB r):=by intro aQ gB r h;refine bI K.lH (ug ?_);unfold C.lH;rcases n with _|n<;>simp only[G.lH,reduceCtorEq]at h;have z:=jk (pp @F.vG ()) (pp (@uQ (Int) _ (λn x=>G.lH.L1 n aQ gB x) r (λx=>gZ.of [(0,.v true (.one (.c (.sl 10 (ax bn.cells aQ))))),(1,.v true (.one (.c (.sl 10 (ax bn.cells gB))))),eI 5 x] [])) ()) (pp (bY @G.lH.L1.eq_1 <|@G.lH.L1.eq_2) ()) (pp (@gK [] [] []) ());exact uH
theorem F.uA {n:Nat} : ∀{aQ gB r},G.uA n aQ gB=some r->fE pZ 13 [.agg (wR aQ),.agg (wR gB)] (oB r):=by intro aQ gB r h;refine bI K.uA (ug ?_);unfold C.uA;cases n;cases h;simp only[G.uA]at h;have z:=iY (pp @F.qW ());exact uH
theorem F.jS {n:Nat} : ∀{aQ gB r},G.jS n aQ gB=some r->fE pZ 24 [.one (.c (.sl 8 (ax bP.cells aQ))),.one (.c (.sl 8 (ax bP.cells gB)))] (oB r):=by intro aQ gB r h;refine bI K.jS (ug ?_);unfold C.jS;rcases n with _|n<;>simp only[G.jS,reduceCtorEq]at h;have z:=jk (pp @F.uA ()) (pp (@uQ (Int) _ (λn x=>G.jS.L1 n aQ gB x) r (λx=>gZ.of [(0,.v true (.one (.c (.sl 8 (ax bP.cells aQ))))),(1,.v true (.one (.c (.sl 8 (ax bP.cells gB))))),eI 5 x] [])) ()) (pp (bY @G.jS.L1.eq_1 <|@G.jS.L1.eq_2) ()) (pp (@gK [] [] []) ());exact uH
theorem F.uy {n:Nat} : ∀{aQ gB r},G.uy n aQ gB=some r->fE pZ 12 [.agg (wU aQ),.agg (wU gB)] (oB r):=by intro aQ gB r h;refine bI K.uy (ug ?_);unfold C.uy;cases n;cases h;simp only[G.uy]at h;have z:=iY (pp @F.oU ());exact uH
theorem F.jh {n:Nat} : ∀{Au r},G.jh n Au=some r->fE pZ 66 [oI Au] (oS r):=by intro Au r h;refine bI K.jh (ug ?_);unfold C.jh;rcases n with _|n<;>simp only[G.jh,reduceCtorEq]at h;have z:=zJ (pp (@uQ (Int×fC) _ (λn x=>G.jh.L1 n x.1 x.2) r (λx=>gZ.of [eI 0 x.1,eS 3 x.2] [])) ()) (pp (bY @G.jh.L1.eq_1 <|@G.jh.L1.eq_2) ()) (pp (@gK [] [] []) ());exact uH
theorem F.jl {n:Nat} : ∀{aQ Au r},G.jl n aQ Au=some r->fE pZ 68 [oT aQ,oI Au] (oI r):=by intro aQ Au r h;refine bI K.jl (ug ?_);unfold C.jl;rcases n with _|n<;>simp only[G.jl,reduceCtorEq]at h;have z:=jk (pp @F.jh ()) (pp (@uQ (Int×Int) _ (λn x=>G.jl.L1 n aQ x.1 x.2) r (λx=>gZ.of [eT 0 aQ,eI 1 x.1,eI 5 x.2] [])) ()) (pp (bY @G.jl.L1.eq_1 <|@G.jl.L1.eq_2) ()) (pp (@gK [] [] []) ());exact uH
theorem F.Su : ∀(n:Nat),∀{aQ Au r},G.jU n aQ Au=some r->fE pZ 69 [.one (wK aQ),oI Au] (oI r):=by
 intro n
 induction n using iw with|_ n ih=>
 intro aQ Au r h;refine bI K.jU (ug ?_);unfold C.jU;rcases n with _|n<;>simp only[G.jU,reduceCtorEq]at h;have z:=jk (pp ih <|pp @F.jh <|pp @F.jl ()) (pp (@uQ (Int×Int) _ (λn x=>G.jU.L1 n aQ x.1 x.2) r (λx=>gZ.of [(0,.v true (.one (wK aQ))),eI 1 x.1,eI 5 x.2] [])) ()) (pp (bY @G.jU.L1.eq_1 <|@G.jU.L1.eq_2) ()) (pp (@gK [] [] []) ());exact uH
theorem F.jU {n:Nat} : ∀{aQ:List aj} {Au:Int} {r:Int},G.jU n aQ Au=some r->fE pZ 69 [.one (wK aQ),oI Au] (oI r):=F.Su n
theorem F.l9 {n:Nat} : ∀{aQ Au r},G.l9 n aQ Au=some r->fE pZ 59 [.one (w7 aQ),oI Au] (oI r):=by intro aQ Au r h;refine bI K.l9 (ug ?_);unfold C.l9;rcases n with _|n<;>simp only[G.l9,reduceCtorEq]at h;have z:=jk (pp @F.jh <|pp @F.jl <|pp @F.jU ()) (pp (@uQ (Int×Int) _ (λn x=>G.l9.L1 n aQ x.1 x.2) r (λx=>gZ.of [(0,.v true (.one (w7 aQ))),eI 1 x.1,eI 5 x.2] [])) ()) (pp (bY @G.l9.L1.eq_1 <|@G.l9.L1.eq_2) ()) (pp (@gK [] [] []) ());exact uH
theorem F.jE {n:Nat} : ∀{aQ Au r},G.jE n aQ Au=some r->fE pZ 28 [.one (.c (.sl 8 (ax bP.cells aQ))),oI Au] (oI r):=by intro aQ Au r h;refine bI K.jE (ug ?_);unfold C.jE;rcases n with _|n<;>simp only[G.jE,reduceCtorEq]at h;have z:=jk (pp @F.jh <|pp @F.jl <|pp @F.jU ()) (pp (@uQ (Int×Int) _ (λn x=>G.jE.L1 n aQ x.1 x.2) r (λx=>gZ.of [(0,.v true (.one (.c (.sl 8 (ax bP.cells aQ))))),eI 1 x.1,eI 5 x.2] [])) ()) (pp (bY @G.jE.L1.eq_1 <|@G.jE.L1.eq_2) ()) (pp (@gK [] [] []) ());exact uH
theorem F.vH {n:Nat} : ∀{aQ Au r},G.vH n aQ Au=some r->fE pZ 18 [.agg (wU aQ),oI Au] (oI r):=by intro aQ Au r h;refine bI K.vH (ug ?_);unfold C.vH;cases n;cases h;simp only[G.vH]at h;have z:=iY (pp @F.l9 ());exact uH
theorem F.jA {n:Nat} : ∀{aQ jD r},G.jA n aQ jD=some r->fE pZ 32 [oT aQ,oI jD] (oI r):=by intro aQ jD r h;refine bI K.jA (ug ?_);unfold C.jA;rcases n with _|n<;>simp only[G.jA,reduceCtorEq]at h;have z:=zJ (pp (@uQ (Int×Int) _ (λn x=>G.jA.L1 n aQ x.1 x.2) r (λx=>gZ.of [eT 0 aQ,eI 1 x.1,eI 5 x.2] [])) ()) (pp (bY @G.jA.L1.eq_1 <|@G.jA.L1.eq_2) ()) (pp (@gK [] [] []) ());exact uH
theorem F.Uo : ∀(n:Nat),(∀{aQ jD r},G.qY n aQ jD=some r->fE pZ 33 [.agg (wN aQ),oI jD] (oI r))/\(∀{aQ jD r},G.oV n aQ jD=some r->fE pZ 73 [.one (wK aQ),oI jD] (oI r)):=by
 intro n
 induction n using iw with|_ n ih=>
 refine⟨?_,?_⟩
 ·intro aQ jD r h;refine bI K.qY (ug ?_);unfold C.qY;cases n;cases h;simp only[G.qY]at h;have z:=iY (pp ((ihR ih)) <|pp @F.jA ());exact uH
 ·intro aQ jD r h;refine bI K.oV (ug ?_);unfold C.oV;rcases n with _|n<;>simp only[G.oV,reduceCtorEq]at h;have z:=jk (pp ((ihL ih)) ()) (pp (@uQ (Int×Int) _ (λn x=>G.oV.L1 n aQ x.1 x.2) r (λx=>gZ.of [(0,.v true (.one (wK aQ))),eI 1 x.1,eI 5 x.2] [])) ()) (pp (bY @G.oV.L1.eq_1 <|@G.oV.L1.eq_2) ()) (pp (@gK [] [] []) ());exact uH
theorem F.qY {n:Nat} : ∀{aQ:aj} {jD:Int} {r:Int},G.qY n aQ jD=some r->fE pZ 33 [.agg (wN aQ),oI jD] (oI r):=(F.Uo n).1
theorem F.wY {n:Nat} : ∀{aQ jD r},G.wY n aQ jD=some r->fE pZ 72 [.agg (wM aQ),oI jD] (oI r):=by intro aQ jD r h;refine bI K.wY (ug ?_);unfold C.wY;cases n;cases h;simp only[G.wY]at h;have z:=iY (pp @F.qY ());exact uH
theorem F.nM {n:Nat} : ∀{aQ jD r},G.nM n aQ jD=some r->fE pZ 31 [.one (w7 aQ),oI jD] (oI r):=by intro aQ jD r h;refine bI K.nM (ug ?_);unfold C.nM;rcases n with _|n<;>simp only[G.nM,reduceCtorEq]at h;have z:=jk (pp @F.wY ()) (pp (@uQ (Int×Int) _ (λn x=>G.nM.L1 n aQ x.1 x.2) r (λx=>gZ.of [(0,.v true (.one (w7 aQ))),eI 1 x.1,eI 5 x.2] [])) ()) (pp (bY @G.nM.L1.eq_1 <|@G.nM.L1.eq_2) ()) (pp (@gK [] [] []) ());exact uH
theorem F.yM {n:Nat} : ∀{aQ jD r},G.yM n aQ jD=some r->fE pZ 74 [.agg (wO aQ),oI jD] (oI r):=by intro aQ jD r h;refine bI K.yM (ug ?_);unfold C.yM;cases n;cases h;simp only[G.yM]at h;have z:=iY (pp @F.jA <|pp @F.qY ());exact uH
theorem F.rE {n:Nat} : ∀{aQ jD r},G.rE n aQ jD=some r->fE pZ 34 [.one (w8 aQ),oI jD] (oI r):=by intro aQ jD r h;refine bI K.rE (ug ?_);unfold C.rE;rcases n with _|n<;>simp only[G.rE,reduceCtorEq]at h;have z:=jk (pp @F.yM ()) (pp (@uQ (Int×Int) _ (λn x=>G.rE.L1 n aQ x.1 x.2) r (λx=>gZ.of [(0,.v true (.one (w8 aQ))),eI 1 x.1,eI 5 x.2] [])) ()) (pp (bY @G.rE.L1.eq_1 <|@G.rE.L1.eq_2) ()) (pp (@gK [] [] []) ());exact uH
theorem F.o9 {n:Nat} : ∀{aQ jD r},G.o9 n aQ jD=some r->fE pZ 7 [.agg (wQ aQ),oI jD] (oI r):=by intro aQ jD r h;refine bI K.o9 (ug ?_);unfold C.o9;cases n;cases h;simp only[G.o9]at h;have z:=iY (pp @F.jA <|pp @F.qY <|pp @F.rE ());exact uH
theorem F.jQ {n:Nat} : ∀{aQ jD r},G.jQ n aQ jD=some r->fE pZ 20 [.one (.c (.sl 10 (ax bn.cells aQ))),oI jD] (oI r):=by intro aQ jD r h;refine bI K.jQ (ug ?_);unfold C.jQ;rcases n with _|n<;>simp only[G.jQ,reduceCtorEq]at h;have z:=jk (pp @F.o9 ()) (pp (@uQ (Int×Int) _ (λn x=>G.jQ.L1 n aQ x.1 x.2) r (λx=>gZ.of [(0,.v true (.one (.c (.sl 10 (ax bn.cells aQ))))),eI 1 x.1,eI 5 x.2] [])) ()) (pp (bY @G.jQ.L1.eq_1 <|@G.jQ.L1.eq_2) ()) (pp (@gK [] [] []) ());exact uH
theorem F.sW {n:Nat} : ∀{aQ jD r},G.sW n aQ jD=some r->fE pZ 6 [.agg (wU aQ),oI jD] (oI r):=by intro aQ jD r h;refine bI K.sW (ug ?_);unfold C.sW;cases n;cases h;simp only[G.sW]at h;have z:=iY (pp @F.nM ());exact uH
theorem F.jV {n:Nat} : ∀{aQ r},G.jV n aQ=some r->fE pZ 40 [oT aQ] (oT r):=by intro aQ r h;refine bI K.jV (ug ?_);unfold C.jV;rcases n with _|n<;>simp only[G.jV,reduceCtorEq]at h;have z:=zJ (pp (@uQ (Int×List fC) _ (λn x=>G.jV.L1 n aQ x.1 x.2) r (λx=>gZ.of [eT 0 aQ,(3,.v true (.one (.own 103 x.2.length 1))),eI 4 x.1] [(103,.dat 1 (ax cS x.2))])) ()) (pp (bY @G.jV.L1.eq_1 <|@G.jV.L1.eq_2) ()) (pp (@gK [] [(103,10)] []) <|pp (@gK [] [(103,103)] []) ());exact uH
theorem F.Ur : ∀(n:Nat),(∀{aQ r},G.sZ n aQ=some r->fE pZ 41 [.agg (wN aQ)] (.agg (wN r)))/\(∀{aQ r},G.qG n aQ=some r->fE pZ 89 [.one (wK aQ)] (.one (wK r))):=by
 intro n
 induction n using iw with|_ n ih=>
 refine⟨?_,?_⟩
 ·intro aQ r h;refine bI K.sZ (ug ?_);unfold C.sZ;cases n;cases h;simp only[G.sZ]at h;have z:=iY (pp ((ihR ih)) <|pp @F.jV ());exact uH
 ·intro aQ r h;refine bI K.qG (ug ?_);unfold C.qG;rcases n with _|n<;>simp only[G.qG,reduceCtorEq]at h;have z:=jk (pp ((ihL ih)) ()) (pp (@uQ (Int×List aj) _ (λn x=>G.qG.L1 n aQ x.1 x.2) r (λx=>gZ.of [(0,.v true (.one (wK aQ))),(3,.v true (.one (.own 103 x.2.length 5))),eI 4 x.1] [(103,.dat 5 (ax aj.cells x.2))])) ()) (pp (bY @G.qG.L1.eq_1 <|@G.qG.L1.eq_2) ()) (pp (@gK [] [(103,10)] []) <|pp (@gK [] [(103,103)] []) ());exact uH
theorem F.sZ {n:Nat} : ∀{aQ:aj} {r:aj},G.sZ n aQ=some r->fE pZ 41 [.agg (wN aQ)] (.agg (wN r)):=(F.Ur n).1
theorem F.yx {n:Nat} : ∀{aQ r},G.yx n aQ=some r->fE pZ 88 [.agg (wM aQ)] (.agg (wM r)):=by intro aQ r h;refine bI K.yx (ug ?_);unfold C.yx;cases n;cases h;simp only[G.yx]at h;have z:=iY (pp @F.sZ ());exact uH
theorem F.oW {n:Nat} : ∀{aQ r},G.oW n aQ=some r->fE pZ 39 [.one (w7 aQ)] (.one (w7 r)):=by intro aQ r h;refine bI K.oW (ug ?_);unfold C.oW;rcases n with _|n<;>simp only[G.oW,reduceCtorEq]at h;have z:=jk (pp @F.yx ()) (pp (@uQ (Int×List fA) _ (λn x=>G.oW.L1 n aQ x.1 x.2) r (λx=>gZ.of [(0,.v true (.one (w7 aQ))),(3,.v true (.one (.own 103 x.2.length 7))),eI 4 x.1] [(103,.dat 7 (ax fA.cells x.2))])) ()) (pp (bY @G.oW.L1.eq_1 <|@G.oW.L1.eq_2) ()) (pp (@gK [] [(103,10)] []) <|pp (@gK [] [(103,103)] []) ());exact uH
theorem F.Bg {n:Nat} : ∀{aQ r},G.Bg n aQ=some r->fE pZ 90 [.agg (wO aQ)] (.agg (wO r)):=by intro aQ r h;refine bI K.Bg (ug ?_);unfold C.Bg;cases n;cases h;simp only[G.Bg]at h;have z:=iY (pp @F.jV <|pp @F.sZ ());exact uH
theorem F.uk {n:Nat} : ∀{aQ r},G.uk n aQ=some r->fE pZ 42 [.one (w8 aQ)] (.one (w8 r)):=by intro aQ r h;refine bI K.uk (ug ?_);unfold C.uk;rcases n with _|n<;>simp only[G.uk,reduceCtorEq]at h;have z:=jk (pp @F.Bg ()) (pp (@uQ (Int×List uN) _ (λn x=>G.uk.L1 n aQ x.1 x.2) r (λx=>gZ.of [(0,.v true (.one (w8 aQ))),(3,.v true (.one (.own 103 x.2.length 8))),eI 4 x.1] [(103,.dat 8 (ax uN.cells x.2))])) ()) (pp (bY @G.uk.L1.eq_1 <|@G.uk.L1.eq_2) ()) (pp (@gK [] [(103,10)] []) <|pp (@gK [] [(103,103)] []) ());exact uH
theorem F.vI {n:Nat} : ∀{aQ r},G.vI n aQ=some r->fE pZ 10 [.agg (wQ aQ)] (.agg (wQ r)):=by intro aQ r h;refine bI K.vI (ug ?_);unfold C.vI;cases n;cases h;simp only[G.vI]at h;have z:=iY (pp @F.jV <|pp @F.sZ <|pp @F.uk ());exact uH
theorem F.kS {n:Nat} : ∀{aQ r},G.kS n aQ=some r->fE pZ 22 [.one (.c (.sl 10 (ax bn.cells aQ)))] (.one (.c (.sl 10 (ax bn.cells r)))):=by intro aQ r h;refine bI K.kS (ug ?_);unfold C.kS;rcases n with _|n<;>simp only[G.kS,reduceCtorEq]at h;have z:=jk (pp @F.vI ()) (pp (@uQ (Int×List bn) _ (λn x=>G.kS.L1 n aQ x.1 x.2) r (λx=>gZ.of [(0,.v true (.one (.c (.sl 10 (ax bn.cells aQ))))),(3,.v true (.one (.own 103 x.2.length 10))),eI 4 x.1] [(103,.dat 10 (ax bn.cells x.2))])) ()) (pp (bY @G.kS.L1.eq_1 <|@G.kS.L1.eq_2) ()) (pp (@gK [] [(103,10)] []) <|pp (@gK [] [(103,103)] []) ());exact uH
theorem F.vT {n:Nat} : ∀{aQ r},G.vT n aQ=some r->fE pZ 9 [.agg (wU aQ)] (.agg (wU r)):=by intro aQ r h;refine bI K.vT (ug ?_);unfold C.vT;cases n;cases h;simp only[G.vT]at h;have z:=iY (pp @F.oW ());exact uH
theorem F.Ut : ∀(n:Nat),∀{aG r},G.cO n aG=some r->fE pZ 83 [.agg (wN aG)] (.agg (wN r)):=by
 intro n
 induction n using iw with|_ n ih=>
 intro aG r h;refine bI K.cO (ug ?_);unfold C.cO;rcases n with _|n<;>simp only[G.cO,reduceCtorEq]at h;have z:=jk (pp ih ()) (pp (@uQ (Int×List aj) _ (λn x=>G.cO.L1 n aG x.1 x.2) r (λx=>gZ.of [eP 1 107,eP 2 108,(3,.v true (.one (.own 109 x.2.length 5))),eI 4 x.1] [(107,.var (wN aG)),(108,.var zN),(109,.dat 5 (ax aj.cells x.2))])) ()) (pp (bY @G.cO.L1.eq_1 <|@G.cO.L1.eq_2) ()) (pp (@gK [] [(107,10),(108,11),(109,12)] []) <|pp (@gK [] [(107,107),(108,108),(109,14)] []) ());exact uH
theorem F.cO {n:Nat} : ∀{aG:aj} {r:aj},G.cO n aG=some r->fE pZ 83 [.agg (wN aG)] (.agg (wN r)):=F.Ut n
theorem F.LX {n:Nat} : ∀{aG r},G.cO n aG=some r->pM pZ 83 [.agg (wN aG)] [] (λr1 b1=>r1 = .agg [wI r.bM,wI r.wJ,wS r.lI,.own 0 r.aO.length 1,.own 1 r.aP.length 5]/\b1=[.dat 1 (ax cS r.aO),.dat 5 (ax aj.cells r.aP)]):=by intro aG r h;refine yL K.cO (ug ?_);unfold C.cO;rcases n with _|n<;>simp only[G.cO,reduceCtorEq]at h;have z:=Yh (pp @F.cO ()) (pp (@uQ (Int×List aj) _ (λn x=>G.cO.L1 n aG x.1 x.2) r (λx=>gZ.of [eP 1 107,eP 2 108,(3,.v true (.one (.own 109 x.2.length 5))),eI 4 x.1] [(107,.var (wN aG)),(108,.var zN),(109,.dat 5 (ax aj.cells x.2))])) ()) (pp (bY @G.cO.L1.eq_1 <|@G.cO.L1.eq_2) ()) (pp (@gK [] [(107,10),(108,11),(109,12)] []) <|pp (@gK [] [(107,107),(108,108),(109,14)] []) ()) (pp (@Ew [] [(0,16),(1,109)] []) ());exact uH
theorem F.Ws : ∀(n:Nat),∀{aG r},G.lY n aG=some r->fE pZ 137 [oI aG] (oS r):=by
 intro n
 induction n using iw with|_ n ih=>
 intro aG r h;refine bI K.lY (ug ?_);unfold C.lY;cases n;cases h;simp only[G.lY]at h;have z:=iY (pp ih ());exact uH
theorem F.lY {n:Nat} : ∀{aG:Int} {r:fC},G.lY n aG=some r->fE pZ 137 [oI aG] (oS r):=F.Ws n
theorem F.jL {n:Nat} : ∀{aG kJ r},G.jL n aG kJ=some r->fE pZ 140 [.agg (wN aG),oS kJ] (oI r):=by intro aG kJ r h;refine bI K.jL (ug ?_);unfold C.jL;rcases n with _|n<;>simp only[G.jL,reduceCtorEq]at h;have z:=jk (pp @F.lY ()) (pp (@uQ (Int) _ (λn x=>G.jL.L1 n aG kJ x) r (λx=>gZ.of [eS 1 kJ,eP 2 103,eI 5 x] [(103,.var (wN aG))])) ()) (pp (bY @G.jL.L1.eq_1 <|@G.jL.L1.eq_2) ()) (pp (@gK [] [(103,10)] []) <|pp (@gK [] [(103,103)] []) ());exact uH
theorem F.mO {n:Nat} : ∀{aG kJ r},G.mO n aG kJ=some r->fE pZ 162 [.agg (wN aG),oS kJ] (.AA [(false,[wI r.1]),(false,[wB r.2])]):=by intro aG kJ r h;refine bI K.mO (ug ?_);unfold C.mO;rcases n with _|n<;>simp only[G.mO,reduceCtorEq]at h;have z:=jk (pp @F.jL <|pp @F.lY ()) (pp (@uQ (Int) _ (λn x=>G.mO.L1 n aG kJ x) r (λx=>gZ.of [eS 1 kJ,eP 2 103,eI 7 x] [(103,.var (wN aG))])) <|pp (@uQ (Int) _ (λn x=>G.mO.L2 n aG kJ x) r (λx=>gZ.of [eS 1 kJ,eP 2 106,eI 7 x] [(106,.var (wN aG))])) ()) (pp (bY @G.mO.L1.eq_1 <|bY @G.mO.L1.eq_2 <|bY @G.mO.L2.eq_1 <|@G.mO.L2.eq_2) ()) (pp (@gK [] [(103,10)] []) <|pp (@gK [] [(103,103)] []) <|pp (@gK [] [(106,10)] []) <|pp (@gK [] [(106,106)] []) ());exact uH
theorem F.pY {n:Nat} : ∀{aG Au UW r},G.pY n aG Au UW=some r->fE pZ 142 [.agg (wN aG),oI Au,.agg (wN UW)] (.agg (wN r)):=by intro aG Au UW r h;refine bI K.pY (ug ?_);unfold C.pY;rcases n with _|n<;>simp only[G.pY,reduceCtorEq]at h;have z:=Yf (pp (pp @F.LX (@cG [] [101,102])) <|pp (pp @F.LX (@cG [] [103,104])) ());exact uH
theorem F.rO {n:Nat} : ∀{aG kJ iZ r},G.rO n aG kJ iZ=some r->fE pZ 143 [.agg (wN aG),oS kJ,.agg (wN iZ)] (.AA [(true,(wN r.1)),(false,[wB r.2])]):=by intro aG kJ iZ r h;refine bI K.rO (ug ?_);unfold C.rO;cases n;cases h;simp only[G.rO]at h;have z:=iY (pp @F.mO <|pp @F.pY <|pp @F.cO ());exact uH
theorem F.uY {n:Nat} : ∀{aG aV r},G.uY n aG aV=some r->fE pZ 159 [.agg (wN aG),oT aV] (.AA [(true,(wN r.1)),(false,[wB r.2])]):=by intro aG aV r h;refine bI K.uY (ug ?_);unfold C.uY;rcases n with _|n<;>simp only[G.uY,reduceCtorEq]at h;have z:=jk (pp @F.jL <|pp @F.cO ()) (pp (@uQ (Int×Int×Int×fC×List fC×List aj) _ (λn x=>G.uY.L1 n aV x.1 x.2.1 x.2.2.1 x.2.2.2.1 x.2.2.2.2.1 x.2.2.2.2.2) r (λx=>gZ.of [eT 1 aV,eP 2 105,eP 4 106,eI 6 x.1] [(105,.var [wI x.2.1,wI x.2.2.1,wS x.2.2.2.1,wT x.2.2.2.2.1,wK x.2.2.2.2.2]),(106,.var zN)])) ()) (pp (bY @G.uY.L1.eq_1 <|@G.uY.L1.eq_2) ()) (pp (@gK [] [(105,10),(106,11)] []) <|pp (@gK [] [(105,105),(106,106)] []) ());exact uH
theorem F.ZA : ∀(n:Nat),∀{aG aV iZ r},G.qj n aG aV iZ=some r->fE pZ 158 [.agg (wN aG),oT aV,.agg (wN iZ)] (.AA [(true,(wN r.1)),(false,[wB r.2])]):=by
 intro n
 induction n using iw with|_ n ih=>
 intro aG aV iZ r h;refine bI K.qj (ug ?_);unfold C.qj;cases n;cases h;simp only[G.qj]at h;have z:=iY (pp ih <|pp @F.cO <|pp @F.jL <|pp @F.pY ());exact uH
theorem F.qj {n:Nat} : ∀{aG:aj} {aV:List fC} {iZ:aj} {r:aj×Bool},G.qj n aG aV iZ=some r->fE pZ 158 [.agg (wN aG),oT aV,.agg (wN iZ)] (.AA [(true,(wN r.1)),(false,[wB r.2])]):=F.ZA n
theorem F.vM {n:Nat} : ∀{aG aV iZ r},G.vM n aG aV iZ=some r->fE pZ 157 [.agg (wN aG),oT aV,.agg (wN iZ)] (.AA [(true,(wN r.1)),(false,[wB r.2])]):=by intro aG aV iZ r h;refine bI K.vM (ug ?_);unfold C.vM;cases n;cases h;simp only[G.vM]at h;have z:=iY (pp @F.cO <|pp @F.uY <|pp @F.rO <|pp @F.qj ());exact uH
theorem F.nS {n:Nat} : ∀{aV EI r},G.nS n aV EI=some r->fE pZ 161 [oT aV,oT EI] (oB r):=by intro aV EI r h;refine bI K.nS (ug ?_);unfold C.nS;rcases n with _|n<;>simp only[G.nS,reduceCtorEq]at h;have z:=zJ (pp (@uQ (Int) _ (λn x=>G.nS.L1 n aV EI x) r (λx=>gZ.of [eT 0 aV,eT 1 EI,eI 5 x] [])) ()) (pp (bY @G.nS.L1.eq_1 <|@G.nS.L1.eq_2) ()) (pp (@gK [] [] []) ());exact uH
theorem F.kV {n:Nat} : ∀{aG aV r},G.kV n aG aV=some r->fE pZ 141 [.agg (wN aG),oT aV] (.AA [(true,(wN r.1)),(false,[wB r.2])]):=by intro aG aV r h;refine bI K.kV (ug ?_);unfold C.kV;rcases n with _|n<;>simp only[G.kV,reduceCtorEq]at h;have z:=II (pp @F.uY <|pp @F.jL <|pp @F.qj ()) (pp (@Ii ((aj×Bool)×List aj×List fC) _ (λn x=>G.kV.K1 n aG aV x.1 x.2.1 x.2.2) r (λx=>gZ.of [eT 1 aV,eP 2 101,eP 4 102,eI 6 (af .i64 ((aV.length:Int)-1)),eP 7 103,(10,.v true (.one (.own 104 x.2.1.length 5))),(11,.v true (.one (.own 105 x.2.2.length 1)))] [(101,.var (wN aG)),(102,.var zN),(103,.var (wN x.1.1)),(104,.dat 5 (ax aj.cells x.2.1)),(105,.dat 1 (ax cS x.2.2))])) ()) (pp (bY @G.kV.K1.eq_1 <|@G.kV.K1.eq_2) ()) (pp (@gK [] [(101,10),(102,11),(103,12),(104,15),(105,19)] []) <|pp (@gK [] [(101,10),(102,11),(103,12),(104,15),(105,16)] []) ());exact uH
theorem F.mQ {n:Nat} : ∀{gB r},G.mQ n gB=some r->fE pZ 212 [oB gB] (oI r):=by intro gB r h;refine bI K.mQ (ug ?_);unfold C.mQ;rcases n with _|n<;>simp only[G.mQ,reduceCtorEq]at h;have z:=Dk;exact uH
theorem F.sK {n:Nat} : ∀{aQ gB r},G.sK n aQ gB=some r->fE pZ 191 [oI aQ,oI gB] (oI r):=by intro aQ gB r h;refine bI K.sK (ug ?_);unfold C.sK;cases n;cases h;simp only[G.sK]at h;have z:=iY (pp @F.mQ ());exact uH
theorem F.pI {n:Nat} : ∀{aQ gB r},G.pI n aQ gB=some r->fE pZ 192 [oS aQ,oS gB] (oI r):=by intro aQ gB r h;refine bI K.pI (ug ?_);unfold C.pI;cases n;cases h;simp only[G.pI]at h;have z:=iY (pp @F.mQ ());exact uH
theorem F.Wq : ∀(n:Nat),∀{aQ gB r},G.iO n aQ gB=some r->fE pZ 175 [.agg (wN aQ),.agg (wN gB)] (oI r):=by
 intro n
 induction n using iw with|_ n ih=>
 intro aQ gB r h;refine bI K.iO (ug ?_);unfold C.iO;rcases n with _|n<;>simp only[G.iO,reduceCtorEq]at h;have z:=jk (pp ih <|pp @F.sK <|pp @F.pI ()) (pp (@uQ (Int) _ (λn x=>G.iO.L1 n aQ gB x) r (λx=>gZ.of [eP 2 105,eP 3 106,eI 5 x] [(105,.var (wN aQ)),(106,.var (wN gB))])) ()) (pp (bY @G.iO.L1.eq_1 <|@G.iO.L1.eq_2) ()) (pp (@gK [] [(105,10),(106,11)] []) <|pp (@gK [] [(105,105),(106,106)] []) ());exact uH
theorem F.iO {n:Nat} : ∀{aQ:aj} {gB:aj} {r:Int},G.iO n aQ gB=some r->fE pZ 175 [.agg (wN aQ),.agg (wN gB)] (oI r):=F.Wq n
theorem F.zx {n:Nat} : ∀{aQ gB r},G.zx n aQ gB=some r->fE pZ 160 [.agg (wN aQ),.agg (wN gB)] (oB r):=by intro aQ gB r h;refine bI K.zx (ug ?_);unfold C.zx;cases n;cases h;simp only[G.zx]at h;have z:=iY (pp @F.iO ());exact uH
theorem F.lM {n:Nat} : ∀{aG vz r},G.lM n aG vz=some r->fE pZ 139 [.agg (wN aG),.agg (wO vz)] (.AA [(true,(wN r.1)),(false,[wB r.2])]):=by intro aG vz r h;refine bI K.lM (ug ?_);unfold C.lM;rcases n with _|n<;>simp only[G.lM,reduceCtorEq]at h;have z:=II (pp @F.vM <|pp @F.kV <|pp @F.qj <|pp @F.uY <|pp @F.zx <|pp @F.nS <|pp @F.cO ()) (pp (@Ii (List fC) _ (λn x=>G.lM.K1 n aG vz x) r (λx=>gZ.of [eP 2 101,eP 3 102,eP 4 103,eT 6 x] [(101,.var (wN aG)),(102,.var (wO vz)),(103,.var zN)])) ()) (pp (bY @G.lM.K1.eq_1 <|@G.lM.K1.eq_2) ()) (pp (@gK [] [(101,10),(102,11),(103,12)] []) ());exact uH
theorem F.Zy : ∀(n:Nat),∀{aG r},G.nX n aG=some r->fE pZ 108 [.agg (wN aG)] (oI r):=by
 intro n
 induction n using iw with|_ n ih=>
 intro aG r h;refine bI K.nX (ug ?_);unfold C.nX;rcases n with _|n<;>simp only[G.nX,reduceCtorEq]at h;have z:=jk (pp ih ()) (pp (@uQ (Int×Int) _ (λn x=>G.nX.L1 n aG x.1 x.2) r (λx=>gZ.of [eP 1 103,eI 3 x.1,eI 4 x.2] [(103,.var (wN aG))])) ()) (pp (bY @G.nX.L1.eq_1 <|@G.nX.L1.eq_2) ()) (pp (@gK [] [(103,10)] []) <|pp (@gK [] [(103,103)] []) ());exact uH
theorem F.nX {n:Nat} : ∀{aG:aj} {r:Int},G.nX n aG=some r->fE pZ 108 [.agg (wN aG)] (oI r):=F.Zy n
theorem F.iP {n:Nat} : ∀{aG UX P5 r},G.iP n aG UX P5=some r->fE pZ 77 [oI aG,oI UX,oI P5] (oB r):=by intro aG UX P5 r h;refine bI K.iP (ug ?_);unfold C.iP;rcases n with _|n<;>simp only[G.iP,reduceCtorEq]at h;have z:=Dk;exact uH
theorem F.jd {n:Nat} : ∀{aZ r},G.jd n aZ=some r->fE pZ 133 [oS aZ] (oB r):=by intro aZ r h;refine bI K.jd (ug ?_);unfold C.jd;rcases n with _|n<;>simp only[G.jd,reduceCtorEq]at h;have z:=jk (pp @F.iP ()) (pp (@uQ (Int) _ (λn x=>G.jd.L1 n aZ x) r (λx=>gZ.of [eS 0 aZ,eI 3 x] [])) ()) (pp (bY @G.jd.L1.eq_1 <|@G.jd.L1.eq_2) ()) (pp (@gK [] [] []) ());exact uH
theorem F.pG {n:Nat} : ∀{aU r},G.pG n aU=some r->fE pZ 135 [oT aU] (oB r):=by intro aU r h;refine bI K.pG (ug ?_);unfold C.pG;rcases n with _|n<;>simp only[G.pG,reduceCtorEq]at h;have z:=jk (pp @F.jd ()) (pp (@uQ (Int) _ (λn x=>G.pG.L1 n aU x) r (λx=>gZ.of [eT 0 aU,eI 3 x] [])) ()) (pp (bY @G.pG.L1.eq_1 <|@G.pG.L1.eq_2) ()) (pp (@gK [] [] []) ());exact uH
theorem F.Xg : ∀(n:Nat),(∀{aG nH r},G.uo n aG nH=some r->fE pZ 134 [.agg (wN aG),oI nH] (oB r))/\(∀{aG nH r},G.jB n aG nH=some r->fE pZ 107 [.agg (wN aG),oI nH] (oB r)):=by
 intro n
 induction n using iw with|_ n ih=>
 refine⟨?_,?_⟩
 ·intro aG nH r h;refine bI K.uo (ug ?_);unfold C.uo;rcases n with _|n<;>simp only[G.uo,reduceCtorEq]at h;have z:=jk (pp ((ihR ih)) ()) (pp (@uQ (Int) _ (λn x=>G.uo.L1 n aG nH x) r (λx=>gZ.of [eI 1 nH,eP 2 103,eI 5 x] [(103,.var (wN aG))])) ()) (pp (bY @G.uo.L1.eq_1 <|@G.uo.L1.eq_2) ()) (pp (@gK [] [(103,10)] []) <|pp (@gK [] [(103,103)] []) ());exact uH
 ·intro aG nH r h;refine bI K.jB (ug ?_);unfold C.jB;rcases n with _|n<;>simp only[G.jB,reduceCtorEq]at h;have z:=II (pp ((ihL ih)) <|pp @F.iP <|pp @F.jd <|pp @F.pG ()) (pp (@Ii (Unit) _ (λn x=>G.jB.K1 n aG nH) r (λx=>gZ.of [eI 1 nH,eP 2 101,eB 54 false] [(101,.var (wN aG))])) ()) (pp (bY @G.jB.K1.eq_1 <|@G.jB.K1.eq_2) ()) (pp (@gK [] [(101,10)] []) ());exact uH
theorem F.jB {n:Nat} : ∀{aG:aj} {nH:Int} {r:Bool},G.jB n aG nH=some r->fE pZ 107 [.agg (wN aG),oI nH] (oB r):=(F.Xg n).2
theorem F.iI {n:Nat} : ∀{aG r},G.iI n aG=some r->fE pZ 76 [.agg (wN aG)] (oB r):=by intro aG r h;refine bI K.iI (ug ?_);unfold C.iI;cases n;cases h;simp only[G.iI]at h;have z:=iY (pp @F.jB <|pp @F.nX ());exact uH
theorem F.qJ {n:Nat} : ∀{aG MH r},G.qJ n aG MH=some r->fE pZ 117 [.agg (wN aG),oB MH] (.AA [(true,(wN r.1)),(false,[wB r.2])]):=by intro aG MH r h;refine bI K.qJ (ug ?_);unfold C.qJ;cases n;cases h;simp only[G.qJ]at h;have z:=iY (pp @F.iI ());exact uH
theorem F.rG {n:Nat} : ∀{aG vz r},G.rG n aG vz=some r->fE pZ 116 [.agg (wN aG),.agg (wO vz)] (.AA [(true,(wN r.1)),(false,[wB r.2])]):=by intro aG vz r h;refine bI K.rG (ug ?_);unfold C.rG;cases n;cases h;simp only[G.rG]at h;have z:=iY (pp @F.lM <|pp @F.qJ <|pp @F.cO ());exact uH
theorem F.jX {n:Nat} : ∀{aV r},G.jX n aV=some r->fE pZ 136 [oT aV] (oB r):=by intro aV r h;refine bI K.jX (ug ?_);unfold C.jX;rcases n with _|n<;>simp only[G.jX,reduceCtorEq]at h;have z:=jk (pp @F.jd ()) (pp (@uQ (Int) _ (λn x=>G.jX.L1 n aV x) r (λx=>gZ.of [eT 0 aV,eI 3 x] [])) ()) (pp (bY @G.jX.L1.eq_1 <|@G.jX.L1.eq_2) ()) (pp (@gK [] [] []) ());exact uH
theorem F.vU {n:Nat} : ∀{vz r},G.vU n vz=some r->fE pZ 110 [.agg (wO vz)] (oB r):=by intro vz r h;refine bI K.vU (ug ?_);unfold C.vU;cases n;cases h;simp only[G.vU]at h;have z:=iY (pp @F.iP <|pp @F.jX <|pp @F.iI ());exact uH
theorem F.iL {n:Nat} : ∀{aU r},G.iL n aU=some r->fE pZ 79 [.one (w8 aU)] (oB r):=by intro aU r h;refine bI K.iL (ug ?_);unfold C.iL;rcases n with _|n<;>simp only[G.iL,reduceCtorEq]at h;have z:=jk (pp @F.vU ()) (pp (@uQ (Int) _ (λn x=>G.iL.L1 n aU x) r (λx=>gZ.of [(0,.v true (.one (w8 aU))),eI 3 x] [])) ()) (pp (bY @G.iL.L1.eq_1 <|@G.iL.L1.eq_2) ()) (pp (@gK [] [] []) ());exact uH
theorem F.jH {n:Nat} : ∀{aG aU r},G.jH n aG aU=some r->fE pZ 86 [.agg (wN aG),.one (w8 aU)] (.AA [(true,(wN r.1)),(false,[wB r.2])]):=by intro aG aU r h;refine bI K.jH (ug ?_);unfold C.jH;rcases n with _|n<;>simp only[G.jH,reduceCtorEq]at h;have z:=jk (pp @F.iI <|pp @F.iL <|pp @F.cO <|pp @F.rG ()) (pp (@uQ (Int×Int×Int×fC×List fC×List aj) _ (λn x=>G.jH.L1 n aU x.1 x.2.1 x.2.2.1 x.2.2.2.1 x.2.2.2.2.1 x.2.2.2.2.2) r (λx=>gZ.of [(1,.v true (.one (w8 aU))),eP 4 105,eP 6 106,eI 7 x.1] [(105,.var zN),(106,.var [wI x.2.1,wI x.2.2.1,wS x.2.2.2.1,wT x.2.2.2.2.1,wK x.2.2.2.2.2])])) ()) (pp (bY @G.jH.L1.eq_1 <|@G.jH.L1.eq_2) ()) (pp (@gK [] [(105,11),(106,12)] []) <|pp (@gK [] [(105,105),(106,106)] []) ());exact uH
theorem F.pz {n:Nat} : ∀{JV r},G.pz n JV=some r->fE pZ 37 [oI JV] (.agg (wR r)):=by intro JV r h;refine bI K.pz (ug ?_);unfold C.pz;rcases n with _|n<;>simp only[G.pz,reduceCtorEq]at h;have z:=Dk;exact uH
theorem F.Zz : ∀(n:Nat),∀{aG fB r},G.jK n aG fB=some r->fE pZ 118 [.agg (wN aG),.agg (wN fB)] (.agg (wN r)):=by
 intro n
 induction n using iw with|_ n ih=>
 intro aG fB r h;refine bI K.jK (ug ?_);unfold C.jK;rcases n with _|n<;>simp only[G.jK,reduceCtorEq]at h;have z:=Oq (pp ih <|pp @F.cO <|pp @F.jL <|pp @F.kV <|pp @F.rO <|pp @F.pY ()) (pp (@uQ (Int×Int×Int×fC×List fC×List aj) _ (λn x=>G.jK.L2 n fB x.1 x.2.1 x.2.2.1 x.2.2.2.1 x.2.2.2.2.1 x.2.2.2.2.2) r (λx=>gZ.of [eP 3 110,eP 4 111,eP 5 112,eI 6 x.1] [(110,.var (wN fB)),(111,.var zN),(112,.var [wI x.2.1,wI x.2.2.1,wS x.2.2.2.1,wT x.2.2.2.2.1,wK x.2.2.2.2.2])])) ()) (pp (@Ii (Int×Int×fC×List fC×List aj) _ (λn x=>G.jK.K1 n fB x.1 x.2.1 x.2.2.1 x.2.2.2.1 x.2.2.2.2) r (λx=>gZ.of [eP 3 101,eP 4 102,eP 5 103] [(101,.var (wN fB)),(102,.var zN),(103,.var [wI x.1,wI x.2.1,wS x.2.2.1,wT x.2.2.2.1,wK x.2.2.2.2])])) ()) (pp (bY @G.jK.K1.eq_1 <|bY @G.jK.K1.eq_2 <|bY @G.jK.L2.eq_1 <|@G.jK.L2.eq_2) ()) (pp (@gK [] [(101,11),(102,12),(103,15)] []) <|pp (@gK [13,14] [(101,11),(102,12),(103,15)] []) <|pp (@gK [] [(110,101),(111,102),(112,103)] []) <|pp (@gK [] [(110,110),(111,111),(112,112)] []) ());exact uH
theorem F.jK {n:Nat} : ∀{aG:aj} {fB:aj} {r:aj},G.jK n aG fB=some r->fE pZ 118 [.agg (wN aG),.agg (wN fB)] (.agg (wN r)):=F.Zz n
theorem F.rF {n:Nat} : ∀{aG fB r},G.rF n aG fB=some r->fE pZ 87 [.agg (wN aG),.agg (wN fB)] (.AA [(true,(wN r.1)),(false,[wB r.2])]):=by intro aG fB r h;refine bI K.rF (ug ?_);unfold C.rF;cases n;cases h;simp only[G.rF]at h;have z:=iY (pp @F.iI <|pp @F.jK <|pp @F.qJ ());exact uH
theorem F.nJ {n:Nat} : ∀{aU uh r},G.nJ n aU uh=some r->fE pZ 111 [oT aU,oS uh] (oB r):=by intro aU uh r h;refine bI K.nJ (ug ?_);unfold C.nJ;rcases n with _|n<;>simp only[G.nJ,reduceCtorEq]at h;have z:=zJ (pp (@uQ (Int) _ (λn x=>G.nJ.L1 n aU uh x) r (λx=>gZ.of [eT 0 aU,eS 1 uh,eI 5 x] [])) ()) (pp (bY @G.nJ.L1.eq_1 <|@G.nJ.L1.eq_2) ()) (pp (@gK [] [] []) ());exact uH
theorem F.wV {n:Nat} : ∀{zZ vZ uh yE r},G.wV n zZ vZ uh yE=some r->fE pZ 81 [oT zZ,oT vZ,oS uh,oB yE] (oI r):=by intro zZ vZ uh yE r h;refine bI K.wV (ug ?_);unfold C.wV;cases n;cases h;simp only[G.wV]at h;have z:=iY (pp @F.nJ ());exact uH
theorem F.fZ {n:Nat} : ∀{aZ r},G.fZ n aZ=some r->fE pZ 62 [.agg (wU aZ)] (.agg (wU r)):=by intro aZ r h;refine bI K.fZ (ug ?_);unfold C.fZ;rcases n with _|n<;>simp only[G.fZ,reduceCtorEq]at h;have z:=jk (pp @F.cO ()) (pp (@uQ (Int×List fA) _ (λn x=>G.fZ.L1 n aZ x.1 x.2) r (λx=>gZ.of [eP 1 107,eP 2 108,(3,.v true (.one (.own 109 x.2.length 7))),eI 4 x.1] [(107,.var (wU aZ)),(108,.var [.og 7,wI 0]),(109,.dat 7 (ax fA.cells x.2))])) ()) (pp (bY @G.fZ.L1.eq_1 <|@G.fZ.L1.eq_2) ()) (pp (@gK [] [(107,10),(108,11),(109,12)] []) <|pp (@gK [] [(107,107),(108,108),(109,14)] []) ());exact uH
theorem F.sS {n:Nat} : ∀{aZ fU r},G.sS n aZ fU=some r->fE pZ 85 [.agg (wU aZ),oS fU] (.agg (wU r)):=by intro aZ fU r h;refine bI K.sS (ug ?_);unfold C.sS;rcases n with _|n<;>simp only[G.sS,reduceCtorEq]at h;have z:=jk (pp @F.fZ ()) (pp (@uQ (bU×Int×List fA) _ (λn x=>G.sS.L1 n aZ fU x.1 x.2.1 x.2.2) r (λx=>gZ.of [eS 1 fU,eP 2 107,eP 4 108,(5,.v true (.one (.own 109 x.2.2.length 7))),(6,.v true (.one (w7 x.1.bH))),eI 7 x.2.1] [(107,.var (wU aZ)),(108,.var [.og 7,wI 0]),(109,.dat 7 (ax fA.cells x.2.2))])) ()) (pp (bY @G.sS.L1.eq_1 <|@G.sS.L1.eq_2) ()) (pp (@gK [] [(107,10),(108,11),(109,12)] []) <|pp (@gK [] [(107,107),(108,108),(109,109)] []) <|pp (@gK [] [(107,107),(108,108),(109,14)] []) ());exact uH
theorem F.pX {n:Nat} : ∀{aZ fU r},G.pX n aZ fU=some r->fE pZ 80 [.agg (wU aZ),oS fU] (oI r):=by intro aZ fU r h;refine bI K.pX (ug ?_);unfold C.pX;rcases n with _|n<;>simp only[G.pX,reduceCtorEq]at h;have z:=zJ (pp (@uQ (Int) _ (λn x=>G.pX.L1 n aZ fU x) r (λx=>gZ.of [eS 1 fU,eP 2 103,eI 5 x] [(103,.var (wU aZ))])) ()) (pp (bY @G.pX.L1.eq_1 <|@G.pX.L1.eq_2) ()) (pp (@gK [] [(103,10)] []) <|pp (@gK [] [(103,103)] []) ());exact uH
theorem F.nY {n:Nat} : ∀{aZ r},G.nY n aZ=some r->fE pZ 138 [oS aZ] (oS r):=by intro aZ r h;refine bI K.nY (ug ?_);unfold C.nY;rcases n with _|n<;>simp only[G.nY,reduceCtorEq]at h;have z:=zJ (pp (@uQ (fC×Int) _ (λn x=>G.nY.L1 n aZ x.1 x.2) r (λx=>gZ.of [eS 0 aZ,eS 3 x.1,eI 4 x.2] [])) ()) (pp (bY @G.nY.L1.eq_1 <|@G.nY.L1.eq_2) ()) (pp (@gK [] [] []) ());exact uH
theorem F.Xi : ∀(n:Nat),∀{aG r},G.ig n aG=some r->fE pZ 114 [.agg (wN aG)] (oS r):=by
 intro n
 induction n using iw with|_ n ih=>
 intro aG r h;refine bI K.ig (ug ?_);unfold C.ig;rcases n with _|n<;>simp only[G.ig,reduceCtorEq]at h;have:=Mk.mk 1;have:=Mk.mk 2;have z:=adX (pp ih <|pp @F.lY <|pp @F.nY ()) (pp (@uQ (fC×Int) _ (λn x=>G.ig.L5 n aG x.1 x.2) r (λx=>gZ.of [eP 1 107,eS 3 x.1,eI 4 x.2] [(107,.var (wN aG))])) ()) (pp (@Ii (Int×fC) _ (λn x=>G.ig.K6 n aG x.1 x.2) r (λx=>gZ.of [eP 1 108,eS 3 x.2,eI 4 x.1] [(108,.var (wN aG))])) <|pp (@Ii (Int×fC) _ (λn x=>G.ig.K7 n aG x.1 x.2) r (λx=>gZ.of [eP 1 109,eS 3 x.2,eI 4 x.1] [(109,.var (wN aG))])) ()) (pp (bY @G.ig.L5.eq_1 <|bY @G.ig.L5.eq_2 <|bY @G.ig.K6.eq_1 <|bY @G.ig.K6.eq_2 <|bY @G.ig.K7.eq_1 <|@G.ig.K7.eq_2) ()) (pp (@gK [] [(107,10)] []) <|pp (@gK [] [(108,107)] []) <|pp (@gK [] [(109,108)] []) <|pp (@gK [] [(107,109)] []) ()) (pp (pp (rfl : @G.ig.K6=_) <|pp (rfl : @G.ig.L5=_) <|pp (rfl : @G.ig.K7=_) ()) <|pp (pp (rfl : @G.ig.K7=_) <|pp (rfl : @G.ig.K6=_) <|pp (rfl : @G.ig.L5=_) ()) ());exact ahR
theorem F.ig {n:Nat} : ∀{aG:aj} {r:fC},G.ig n aG=some r->fE pZ 114 [.agg (wN aG)] (oS r):=F.Xi n
theorem F.Bj {n:Nat} : ∀{aG r},G.Bj n aG=some r->fE pZ 112 [oI aG] (oS r):=by intro aG r h;refine bI K.Bj (ug ?_);unfold C.Bj;rcases n with _|n<;>simp only[G.Bj,reduceCtorEq]at h;have z:=Dk;exact uH
theorem F.rH {n:Nat} : ∀{aZ r},G.rH n aZ=some r->fE pZ 113 [oS aZ] (oI r):=by intro aZ r h;refine bI K.rH (ug ?_);unfold C.rH;rcases n with _|n<;>simp only[G.rH,reduceCtorEq]at h;have z:=zJ (pp (@uQ (Int×Int) _ (λn x=>G.rH.L1 n aZ x.1 x.2) r (λx=>gZ.of [eS 0 aZ,eI 3 x.1,eI 4 x.2] [])) ()) (pp (bY @G.rH.L1.eq_1 <|@G.rH.L1.eq_2) ()) (pp (@gK [] [] []) ());exact uH
theorem F.uD {n:Nat} : ∀{aZ fU r},G.uD n aZ fU=some r->fE pZ 82 [.agg (wU aZ),oS fU] (oS r):=by intro aZ fU r h;refine bI K.uD (ug ?_);unfold C.uD;cases n;cases h;simp only[G.uD]at h;have z:=iY (pp @F.pX <|pp @F.ig <|pp @F.rH <|pp @F.Bj ());exact uH
theorem F.mP {n:Nat} : ∀{aZ fU aG r},G.mP n aZ fU aG=some r->fE pZ 115 [.agg (wU aZ),oS fU,.agg (wN aG)] (.agg (wU r)):=by intro aZ fU aG r h;refine bI K.mP (ug ?_);unfold C.mP;rcases n with _|n<;>simp only[G.mP,reduceCtorEq]at h;have z:=Oq (pp @F.cO <|pp @F.fZ ()) (pp (@uQ (aj×bU×Bool×Int×List fA) _ (λn x=>G.mP.L3 n aZ fU x.1 x.2.1 x.2.2.1 x.2.2.2.1 x.2.2.2.2) r (λx=>gZ.of [eS 1 fU,eP 3 117,eP 6 118,(7,.v true (.one (.own 119 x.2.2.2.2.length 7))),eP 8 120,(9,.v true (.one (w7 x.2.1.bH))),eB 10 x.2.2.1,eI 11 x.2.2.2.1] [(117,.var (wU aZ)),(118,.var [.og 7,wI 0]),(119,.dat 7 (ax fA.cells x.2.2.2.2)),(120,.var [wS fU,wI (af .i64 (aZ.kY+1)),wI x.1.bM,wI x.1.wJ,wS x.1.lI,wT x.1.aO,wK x.1.aP])])) ()) (pp (@Ii (aj×bU×Int×Bool×List fA) _ (λn x=>G.mP.K4 n aZ fU x.1 x.2.1 x.2.2.1 x.2.2.2.1 x.2.2.2.2) r (λx=>gZ.of [eS 1 fU,eP 3 121,eP 6 122,(7,.v true (.one (.own 123 x.2.2.2.2.length 7))),eP 8 124,(9,.v true (.one (w7 x.2.1.bH))),eB 10 x.2.2.2.1,eI 11 x.2.2.1] [(121,.var (wU aZ)),(122,.var [.og 7,wI 0]),(123,.dat 7 (ax fA.cells x.2.2.2.2)),(124,.var [wS fU,wI (af .i64 (aZ.kY+1)),wI x.1.bM,wI x.1.wJ,wS x.1.lI,wT x.1.aO,wK x.1.aP])])) ()) (pp (bY @G.mP.L3.eq_1 <|bY @G.mP.L3.eq_2 <|bY @G.mP.K4.eq_1 <|@G.mP.K4.eq_2) ()) (pp (@gK [] [(117,10),(118,12),(119,13),(120,14)] []) <|pp (@gK [] [(121,117),(122,118),(123,119),(124,120)] []) <|pp (@gK [] [(121,117),(122,118),(123,16),(124,120)] []) <|pp (@gK [] [(117,121),(118,122),(119,123),(120,124)] []) <|pp (@gK [] [(117,121),(118,122),(119,18),(120,124)] []) ());exact uH
theorem F.jC {n:Nat} : ∀{aZ r},G.jC n aZ=some r->fE pZ 75 [oS aZ] (oB r):=by intro aZ r h;refine bI K.jC (ug ?_);unfold C.jC;rcases n with _|n<;>simp only[G.jC,reduceCtorEq]at h;have z:=jk (pp @F.iP ()) (pp (@uQ (Int) _ (λn x=>G.jC.L1 n aZ x) r (λx=>gZ.of [eS 0 aZ,eI 3 x] [])) ()) (pp (bY @G.jC.L1.eq_1 <|@G.jC.L1.eq_2) ()) (pp (@gK [] [] []) ());exact uH
theorem F.gX {n:Nat} : ∀{aZ r},G.gX n aZ=some r->fE pZ 35 [.agg (wU aZ)] (oB r):=by intro aZ r h;refine bI K.gX (ug ?_);unfold C.gX;rcases n with _|n<;>simp only[G.gX,reduceCtorEq]at h;have z:=jk (pp @F.jC <|pp @F.iI <|pp @F.iP ()) (pp (@uQ (Int) _ (λn x=>G.gX.L1 n aZ x) r (λx=>gZ.of [eP 1 103,eI 3 x] [(103,.var (wU aZ))])) ()) (pp (bY @G.gX.L1.eq_1 <|@G.gX.L1.eq_2) ()) (pp (@gK [] [(103,10)] []) <|pp (@gK [] [(103,103)] []) ());exact uH
theorem F.mG {n:Nat} : ∀{aZ fU aG r},G.mG n aZ fU aG=some r->fE pZ 84 [.agg (wU aZ),oS fU,.agg (wN aG)] (.AA [(true,(wU r.1)),(true,(wR r.2))]):=by intro aZ fU aG r h;refine bI K.mG (ug ?_);unfold C.mG;rcases n with _|n<;>simp only[G.mG,reduceCtorEq]at h;have z:=II (pp @F.pX <|pp @F.mP <|pp @F.gX <|pp @F.uD <|pp @F.fZ <|pp @F.pz ()) (pp (@Ii (Int) _ (λn x=>G.mG.K1 n aZ fU aG x) r (λx=>gZ.of [eS 1 fU,eP 3 101,eP 5 102,eP 6 103,eP 7 104,eI 8 x] [(101,.var (wU aZ)),(102,.var (wN aG)),(103,.var [.og 7,wI 0]),(104,.var [wI 0,.c (.str []),wI 0,wI 0,wI 0,.c (.str []),.og 1,.og 5])])) ()) (pp (bY @G.mG.K1.eq_1 <|@G.mG.K1.eq_2) ()) (pp (@gK [] [(101,10),(102,11),(103,12),(104,13)] []) ());exact uH
theorem F.kR {n:Nat} : ∀{aZ nI r},G.kR n aZ nI=some r->fE pZ 38 [.agg (wU aZ),.agg (wQ nI)] (.AA [(true,(wU r.1)),(true,(wR r.2))]):=by intro aZ nI r h;refine bI K.kR (ug ?_);unfold C.kR;rcases n with _|n<;>simp only[G.kR,reduceCtorEq]at h;have:=Mk.mk 1;have:=Mk.mk 2;have z:=WR (pp @F.pX <|pp @F.fZ <|pp @F.pz <|pp @F.uD <|pp @F.wV <|pp @F.cO <|pp @F.mG <|pp @F.sS <|pp @F.jH <|pp @F.rF ()) (pp (@Ii (Bool×Int×Int×fC×List fC×List aj) _ (λn x=>G.kR.K1 n aZ nI x.1 x.2.1 x.2.2.1 x.2.2.2.1 x.2.2.2.2.1 x.2.2.2.2.2) r (λx=>gZ.of [eP 2 101,eP 3 102,eP 4 103,eP 5 104,eP 8 105,eB 9 x.1] [(101,.var (wU aZ)),(102,.var (wQ nI)),(103,.var [.og 7,wI 0]),(104,.var [wI 0,.c (.str []),wI 0,wI 0,wI 0,.c (.str []),.og 1,.og 5]),(105,.var [wI x.2.1,wI x.2.2.1,wS x.2.2.2.1,wT x.2.2.2.2.1,wK x.2.2.2.2.2])])) <|pp (@Ii (Bool×Int×Int×fC×List fC×List aj) _ (λn x=>G.kR.K2 n aZ nI x.1 x.2.1 x.2.2.1 x.2.2.2.1 x.2.2.2.2.1 x.2.2.2.2.2) r (λx=>gZ.of [eP 2 106,eP 3 107,eP 4 108,eP 5 109,eP 8 110,eB 9 x.1] [(106,.var (wU aZ)),(107,.var (wQ nI)),(108,.var [.og 7,wI 0]),(109,.var [wI 0,.c (.str []),wI 0,wI 0,wI 0,.c (.str []),.og 1,.og 5]),(110,.var [wI x.2.1,wI x.2.2.1,wS x.2.2.2.1,wT x.2.2.2.2.1,wK x.2.2.2.2.2])])) ()) (pp (bY @G.kR.K1.eq_1 <|bY @G.kR.K1.eq_2 <|bY @G.kR.K2.eq_1 <|@G.kR.K2.eq_2) ()) (pp (@gK [] [(101,10),(102,11),(103,12),(104,13),(105,14)] []) <|pp (@gK [] [(106,10),(107,11),(108,12),(109,13),(110,14)] []) ()) (pp (pp (rfl : @G.kR.K1=_) ()) <|pp (pp (rfl : @G.kR.K2=_) ()) ());exact ahR
theorem F.lS {n:Nat} : ∀{aZ r},G.lS n aZ=some r->fE pZ 109 [oS aZ] (oB r):=by intro aZ r h;refine bI K.lS (ug ?_);unfold C.lS;rcases n with _|n<;>simp only[G.lS,reduceCtorEq]at h;have z:=jk (pp @F.iP ()) (pp (@uQ (Int) _ (λn x=>G.lS.L1 n aZ x) r (λx=>gZ.of [eS 0 aZ,eI 3 x] [])) ()) (pp (bY @G.lS.L1.eq_1 <|@G.lS.L1.eq_2) ()) (pp (@gK [] [] []) ());exact uH
theorem F.kH {n:Nat} : ∀{aU r},G.kH n aU=some r->fE pZ 78 [oT aU] (oB r):=by intro aU r h;refine bI K.kH (ug ?_);unfold C.kH;rcases n with _|n<;>simp only[G.kH,reduceCtorEq]at h;have z:=jk (pp @F.lS ()) (pp (@uQ (Int) _ (λn x=>G.kH.L1 n aU x) r (λx=>gZ.of [eT 0 aU,eI 3 x] [])) ()) (pp (bY @G.kH.L1.eq_1 <|@G.kH.L1.eq_2) ()) (pp (@gK [] [] []) ());exact uH
theorem F.oL {n:Nat} : ∀{nI r},G.oL n nI=some r->fE pZ 36 [.agg (wQ nI)] (oB r):=by intro nI r h;refine bI K.oL (ug ?_);unfold C.oL;cases n;cases h;simp only[G.oL]at h;have z:=iY (pp @F.iP <|pp @F.jC <|pp @F.kH <|pp @F.iI <|pp @F.iL ());exact uH
theorem F.jo {n:Nat} : ∀{aU r},G.jo n aU=some r->fE pZ 61 [.one (.c (.sl 10 (ax bn.cells aU)))] (oB r):=by intro aU r h;refine bI K.jo (ug ?_);unfold C.jo;rcases n with _|n<;>simp only[G.jo,reduceCtorEq]at h;have z:=jk (pp @F.oL ()) (pp (@uQ (Int) _ (λn x=>G.jo.L1 n aU x) r (λx=>gZ.of [(0,.v true (.one (.c (.sl 10 (ax bn.cells aU))))),eI 3 x] [])) ()) (pp (bY @G.jo.L1.eq_1 <|@G.jo.L1.eq_2) ()) (pp (@gK [] [] []) ());exact uH
theorem F.iQ {n:Nat} : ∀{aZ aU r},G.iQ n aZ aU=some r->fE pZ 21 [.agg (wU aZ),.one (.c (.sl 10 (ax bn.cells aU)))] (.AA [(true,(wU r.1)),(false,[.c (.sl 8 (ax bP.cells r.2))])]):=by intro aZ aU r h;refine bI K.iQ (ug ?_);unfold C.iQ;rcases n with _|n<;>simp only[G.iQ,reduceCtorEq]at h;have z:=jk (pp @F.gX <|pp @F.jo <|pp @F.fZ <|pp @F.kR ()) (pp (@uQ (Int×List bP×List fA×Int) _ (λn x=>G.iQ.L1 n aU x.1 x.2.1 x.2.2.1 x.2.2.2) r (λx=>gZ.of [(1,.v true (.one (.c (.sl 10 (ax bn.cells aU))))),eP 4 107,(6,.v true (.one (.own 108 x.2.1.length 8))),eP 7 109,eI 8 x.1] [(107,.var [.og 7,wI 0]),(108,.dat 8 (ax bP.cells x.2.1)),(109,.var [w7 x.2.2.1,wI x.2.2.2])])) ()) (pp (bY @G.iQ.L1.eq_1 <|@G.iQ.L1.eq_2) ()) (pp (@gK [] [(107,11),(108,12),(109,13)] []) <|pp (@gK [] [(107,107),(108,17),(109,109)] []) ());exact uH
end Go.Ab
section
namespace Go.Ab
open Go Go.ChangeShapes Go.WideShapes Go.ChangeAt Go.RowKit
def I0 (W:World):IH:=λb=>match W.heap[b]? with
 |some (.cells c _ _)=>some c
 |_=>none
theorem ahh (W:World):Agree (I0 W) W:=by
 intro b c h;unfold I0 at h;split at h
 ·rename_i c' e fr hb;cases h;exact⟨e,fr,hb⟩
 ·cases h
theorem ad2 (W:World){a:Addr}{v:Value}(h:W.cell? a=some v):(I0 W).cell a=some v:=by
 unfold Go.World.cell? at h;unfold IH.cell I0;split at h
 ·rename_i c e fr hb;split at h
  ·cases h
  ·rename_i hs;rw[au hs,hb];exact h
 ·cases h
theorem Yr {W W':World}{M:Nat->Prop}(h:DN W W' M)(hM:∀k,¬M k):Below W.heap.size W W':=
 ⟨h.os,h.tape,h.output,h.size,λk hk=>h.block k hk (hM k)⟩
theorem SH (ρ:Ren)(k:Nat):¬ ∃b,(C9 [] b).uses (ρ b) k:=λ⟨b,h⟩=>by simp only[C9,List.getD_nil]at h;exact h
theorem af4 {P:Program}{W:World}{x:String×DataW Unit}{rest:List (String×DataW Unit)}(h:laidMet P (x::rest) W):laidMet P rest W:=by obtain⟨ps,hv,hn,hc⟩:=h;obtain⟨g,t,cs,fuel,p,q,h1,h2,h3,h4,h5,rfl⟩:=hv;exact⟨q,h5,(List.nodup_append.1 hn).2.1,λb off hp=>hc b off (List.mem_append_right _ hp)⟩
theorem XL {P:Program}{W:World} : ∀(k:Nat) {l:List (String×DataW Unit)},laidMet P l W->laidMet P (l.drop k) W
 |0,l,h=>h
 |k+1,[],h=>h
 |k+1,x::l,h=>XL k (l:=l) (af4 h)
theorem am5 {P:Program}{W:World}{rest:List (String×DataW Unit)}{g:Nat}{t e:TypeId}
 (hg:P.globalNamed "internal/strconv.uint64pow10" = some g) (hty:(P.globals[g]?).map (·.type)=some t) (ht:P.underlying t=some (.array 20 e)) (he:P.underlying e=some (.int .u64)) (hce:P.cellsOf e=1) (hct:P.cellsOf t=20)
 (h:laidMet P (("internal/strconv.uint64pow10",Lib.tabData .u64 xY)::rest) W):∀g',P.globalNamed "internal/strconv.uint64pow10" = some g'->I0 W g'=some (xY.map λz=>Go.Value.int .u64 z).toArray:=by
 have h1:=Lib.tabIs_of_head hg hty ht he hce hct h;intro g' hg';rw[hg]at hg';simp only[aH]at hg';subst hg';unfold Lib.TabIs World.var? at h1;simp only[hg]at h1;unfold I0
 revert h1
 split<;>simp_all
theorem amX {P:Program}{W:World}{n:String}{g:Nat}{t:TypeId}(h:W.ShapedOpen P)(hn:P.globalNamed n=some g)(hg:g<P.globals.size)
 (h0:((begin P (λ_ _=>0) default).world.heap[g]?).bind Obj.row? = some (#[.int .i64 0],t)) (hb:P.buildable t=true) (hc:P.cellTypes P.depth t=some [t]) (hu:P.underlying t=some (.int .i64)) :
 ∀g',P.globalNamed n=some g'->∃m,(I0 W).cell ⟨g',0,none⟩=some (.int .i64 m):=by
 intro g' hg';cases hn.symm.trans hg';obtain⟨m,hm⟩:=Go.Proofs.cell_of_shapedOpen_int h hg h0 rfl hb hc hu;exact⟨m,ad2 W hm⟩
end Go.Ab
end
namespace Go.Ab
open Go
section
variable {P:Program} {W:World} {H:Type} {enc:TypeId×Value->H}
def Ri (I:IH)(cs:List Value)(xs:List Cell):Prop:=xs.length=cs.length/\∀(i:Nat) v c,cs[i]? = some v->xs[i]? = some c->Rd I v c
theorem Ri.nil {I:IH} : Ri I [] []:=⟨rfl,λi v c h=>by simp at h⟩
theorem Ri.app {I:IH}{a b:List Value}{x y:List Cell}(h:Ri I a x)(k:Ri I b y):Ri I (a++b) (x++y):=by
 refine⟨by rw[bZ,bZ,h.1,k.1],λi v c hv hc=>?_⟩;have hl:=h.1;by_cases hi:i<a.length
 ·rw[cu hi]at hv;rw[cu aI]at hc;exact h.2 i v c hv hc
 ·rw[dU aI]at hv;rw[dU aI,hl]at hc;exact k.2 _ v c hv hc
theorem Ri.one {I:IH}{v:Value}{c:Cell}(h:Rd I v c):Ri I [v] [c]:=by
 refine⟨rfl,λi v' c' hv hc=>?_⟩
 match i with
 | 0=>simp only[eY,aH]at hv hc;subst hv hc;exact h
 |i+1=>simp at hv
theorem Ri.fst {I:IH}{v:Value}{c:Cell}(h:Ri I [v] [c]):Rd I v c:=h.2 0 v c rfl rfl
section
variable {fuel:Nat} {t:TypeId} {cs:List Value} {d:DataW H} {ps:List MemPlace}
theorem trod_int {k:IntKind}(ht:P.underlying t=some (.int k))(h:ny enc P W 0 (λ_=>true) true fuel t cs=some (d,ps)):∃n,cs=[.int k n]/\(Lit.int k n).wf=true:=by
 cases fuel with
 |zero=>cases h
 | succ fuel=>unfold ny at h;rw[ht]at h;split at h<;>simp_all
theorem ajA (ht:P.underlying t=some .string)(h:ny enc P W 0 (λ_=>true) true fuel t cs=some (d,ps)):∃s:ByteArray,cs=[.string s]/\s.size<=maxLen:=by
 cases fuel with
 |zero=>cases h
 | succ fuel=>unfold ny at h;rw[ht]at h;split at h<;>simp_all
end
theorem mapM_at {α β:Type}{f:α->Option β} : ∀{l:List α} {ys:List β},l.mapM f=some ys->ys.length=l.length/\∀(i:Nat) x,l[i]? = some x->f x=ys[i]?
 | [],ys,h=>by simp at h;subst h;exact⟨rfl,λi x hx=>by simp at hx⟩
 | a::l,ys,h=>by
   rw[List.mapM_cons]at h;cases ha:f a with
   |none=>rw[ha]at h;cases h
   | some y=>
     cases hl:l.mapM f with
     |none=>rw[ha,hl]at h;cases h
     | some r=>
       rw[ha,hl]at h;have:ys=y::r:=(by simpa using h.symm);subst this;obtain⟨h1,h2⟩:=mapM_at hl;refine⟨by simp[h1],λi x hx=>?_⟩
       match i with
       |0=>simp at hx;subst hx;simpa using ha
       |i+1=>simp at hx;simpa using h2 i x hx
theorem abm {β:Type}{f:Nat->Option β}{n:Nat}{ys:List β}(h:(tV n).mapM f=some ys):ys.length=n/\∀i,i<n->f i=ys[i]?:=by obtain⟨h1,h2⟩:=mapM_at h;rw[List.length_range]at h1;exact⟨h1,λi hi=>h2 i i (by simp[hi])⟩
theorem cells_at {a:Addr}{n:Nat}{ecs:List Value}(h:W.cells? 0 a n=some ecs):ecs.length=n/\∀j v,ecs[j]? = some v->(I0 W).cell (a.add j)=some v:=by
 unfold World.cells? at h;rw[aA (oN _)]at h;obtain⟨h1,h2⟩:=abm h;refine⟨h1,λj v hv=>?_⟩;have hj:j<n:=by have:=(aS.1 hv).1;omega
 have:=h2 j hj;rw[hv]at this;exact ad2 W this
theorem add_add (a:Addr)(x y:Nat):(a.add x).add y=a.add (x+y):=by
 unfold Go.Addr.add;by_cases hx:x=0
 ·subst hx;simp
 ·by_cases hy:y=0
  ·subst hy;simp
  ·have:¬x+y=0:=(by omega);simp[hx,hy,Nat.add_assoc]
theorem Ja {X:Type}{cells:X->List Cell}{Q:X->Prop}{sz:Nat}{t e:TypeId}{fuel:Nat}{cs:List Value}{d:DataW H}{ps:List MemPlace}(ht:P.underlying t=some (.slice e))(hce:P.cellsOf e=sz)
 (hX:∀f ecs d p,f<fuel->ny enc P W 0 (λ_=>true) true f e ecs=some (d,p)->∃x,Ri (I0 W) ecs (cells x)/\Q x)
 (h:ny enc P W 0 (λ_=>true) true fuel t cs=some (d,ps)):∃(l:List X) (v:Value),cs=[v]/\Rd (I0 W) v (.sl sz (l.map cells))/\l.length<=maxLen/\∀x,x∈l->Q x:=by
 subst hce;cases fuel with
 |zero=>cases h
 | succ fuel=>
   unfold ny at h;rw[ht]at h;split at h<;>(try(simp at *;done))<;>(try contradiction)
   ·refine⟨[],_,rfl,.sl none 0 0 _ [] (λ_ _=>undef) rfl (aF _) (oN _) (λe h=>by cases h) (λh=>by omega) (λad h=>by cases h) (λi j c h=>by simp at h),oN _,λx h=>by cases h⟩
   ·rename_i e' a len cap heq;have:e'=e:=(by simpa using heq.symm);subst this;simp only at h;split at h
    ·rename_i hc;obtain⟨_,hlc,hcm⟩:=hc;cases hm:(tV len).mapM (λi=>(W.cells? 0 (a.add (i*P.cellsOf e')) (P.cellsOf e')).bind (ny enc P W 0 (λ_=>true) true fuel e'))with
     |none=>rw[hm]at h;cases h
     | some ys=>
       obtain⟨h1,h2⟩:=abm hm;have elem:∀i,i<len->∃x ecs,W.cells? 0 (a.add (i*P.cellsOf e')) (P.cellsOf e')=some ecs/\Ri (I0 W) ecs (cells x)/\Q x:=λi hi=>by
        have:=h2 i hi;rw[aB aI]at this;cases hw:W.cells? 0 (a.add (i*P.cellsOf e')) (P.cellsOf e')with
        |none=>rw[hw]at this;cases this
        | some ecs=>rw[hw]at this;obtain⟨x,hx⟩:=hX fuel ecs _ _ (Nat.lt_succ_self _) this;exact⟨x,ecs,rfl,hx⟩
       have pick:∃l:List X,l.length=len/\∀i (hi:i<l.length),∃ecs,W.cells? 0 (a.add (i*P.cellsOf e')) (P.cellsOf e')=some ecs/\Ri (I0 W) ecs (cells l[i])/\Q l[i]:=by refine⟨(tV len).attach.map λi=>(elem i.1 (by simpa using i.2)).choose,mD,λi hi=>?_⟩;have hi':i<len:=(by simpa using hi);obtain⟨ecs,h3⟩:=(elem i hi').choose_spec;refine⟨ecs,h3.1,?_⟩;simpa using h3.2
       obtain⟨l,hl,hp'⟩:=pick;have hp:=λi hi=>(hp' i hi).imp λ_ h=>(⟨h.1,h.2.1⟩:_/\_);refine⟨l,_,rfl,.sl (some a) len cap _ _ (λi j=>((I0 W).cell ((a.add (i*P.cellsOf e'+j)))).getD undef) (by rw[vg,hl]) hlc hcm (λx hx=>?_) (λ_ h=>by cases h) (λad hd i j hi hj=>?_) (λi j c hc=>?_),aI,λx hx=>?_⟩
       ·obtain⟨y,hy,rfl⟩:=List.mem_map.1 hx;obtain⟨i,hi,rfl⟩:=kG.1 hy;obtain⟨ecs,g1,g2⟩:=hp i hi;rw[g2.1,(cells_at g1).1]
       ·cases hd;obtain⟨ecs,g1,g2⟩:=hp i aI;obtain⟨q1,q2⟩:=cells_at g1;have:=q2 j ecs[j] (aB aI);have ea:(a.add (i*P.cellsOf e')).add j=a.add (i*P.cellsOf e'+j):=add_add _ _ _;rw[ea]at this;rw[this];rfl
       ·by_cases hi:i<l.length
        ·obtain⟨ecs,g1,g2⟩:=hp i hi;have e1:(l.map cells).getD i []=cells l[i]:=(by simp[List.getD,hi]);rw[e1]at hc;obtain⟨q1,q2⟩:=cells_at g1;have hj:j<ecs.length:=by
          have:=(aS.1 hc).1;have:=g2.1;omega
         have q3:=q2 j ecs[j] (aB hj);have ea:(a.add (i*P.cellsOf e')).add j=a.add (i*P.cellsOf e'+j):=add_add _ _ _;rw[ea]at q3;rw[q3];exact g2.2 j _ c (aB hj) hc
        ·have:(l.map cells).getD i []=[]:=(by simp[List.getD,List.getElem?_eq_none (by simpa using hi:(l.map cells).length<=i)]);rw[this]at hc;simp at hc
       ·obtain⟨i,hi,rfl⟩:=kG.1 hx;exact(hp' i hi).choose_spec.2.2
    ·cases h
theorem trod_struct {t:TypeId}{fs:Array Field}{fuel:Nat}{cs:List Value}{d:DataW H}{ps:List MemPlace}(ht:P.underlying t=some (.struct fs))
 (h:ny enc P W 0 (λ_=>true) true fuel t cs=some (d,ps)):∃f,fuel=f+1/\cs.length=P.cellsOf t/\∀(k:Nat) x,fs.toList[k]? = some x->∃d' p',ny enc P W 0 (λ_=>true) true f x.type ((cs.drop x.offset).take (P.cellsOf x.type))=some (d',p'):=by
 cases fuel with
 |zero=>cases h
 | succ fuel=>
   refine⟨fuel,rfl,?_⟩;unfold ny at h;rw[ht]at h;split at h<;>(try(simp at *;done))<;>(try contradiction);rename_i cs0 x0 cs1 fs' heq;have:fs'=fs:=(by simpa using heq.symm);subst this;split at h
   ·rename_i hl;refine⟨hl,λk x hx=>?_⟩;cases hm:fs'.toList.mapM (λf=>ny enc P W 0 (λ_=>true) true fuel f.type ((cs0.drop f.offset).take (P.cellsOf f.type)))with
    |none=>rw[hm]at h;cases h
    | some ys=>
      obtain⟨h1,h2⟩:=mapM_at hm;have h3:=h2 k x hx;have hk:k<ys.length:=by have:=(aS.1 hx).1;omega
      rw[aB hk]at h3;exact⟨_,_,h3⟩
   ·cases h
end
end Go.Ab
section
namespace Go.Ab
open Go Go.ChangeShapes Go.WideShapes Go.ChangeAt Go.RowKit
theorem ak5 {I:IH}{ρ:Ren}{cs:Array Value}{xs:List Cell}(h:Ri I cs.toList xs):GV I ρ (.agg cs) (.agg (xs.map .c)):=by refine⟨cs,rfl,by rw[vg];exact h.1.symm,λj v x hv hx=>?_⟩;rw[dG]at hx;obtain⟨c,hc,rfl⟩:=dD.1 hx;exact h.2 j v c hv hc
theorem aoO {I:IH}{ρ:Ren}{v:Value}{x:Cell}(h:Rd I v x):GV I ρ v (.one (.c x)):=h
theorem akJ {I:IH}{ρ:Ren}{v u:Value}{x y:AV}(h:GV I ρ v x)(k:GV I ρ u y):UR I ρ [v,u] [x,y]:=by
 refine⟨rfl,λj v' x' hv hx=>?_⟩
 match j with
 | 0=>simp only[eY,aH]at hv hx;subst hv hx;exact h
 | 1=>simp only[List.getElem?_cons_succ,eY,aH]at hv hx;subst hv hx;exact k
 |j+2=>simp at hv
theorem amN {P:Program}{f:FuncId}{W:World}{vs:List Value}{as_:List AV}(hT:Tabs P (I0 W))(hg:UR (I0 W) (λ_=>none) vs as_)(hp:fE P f as_ (xW true)) :
 Calls P f vs.toArray W λe W'=>e = .returned (.bool true)/\Below W.heap.size W W':=by
 refine(hp (I0 W) (λ_=>none) W vs hT (ahh W) ⟨λb=>by simp only[C9,List.getD_nil];exact rfl,λb b' k h=>(SH (λ_=>none) k ⟨b,h⟩).elim,λb k h=>(SH (λ_=>none) k ⟨b,h⟩).elim⟩ hg (λ_ _=>True) .abH).mono ?_;rintro e W' ⟨⟨v,J,σ,r,bs,rfl,⟨rfl,rfl⟩,hg,_,_,_,hfr,_⟩,_⟩;refine⟨?_,Yr hfr (SH (λ_=>none))⟩;cases hg;rfl
end Go.Ab
end
namespace Go.Ab
open Go
section
variable {P:Program} {W:World} {H:Type} {enc:TypeId×Value->H}
structure Uz (P:Program)(tI tS tL tN tK:TypeId):Prop where
 i:P.underlying tI=some (.int .i64)
 s:P.underlying tS=some .string
 l:P.underlying tL=some (.slice tS)
 k:P.underlying tK=some (.slice tN)
 n:∃fs,P.underlying tN=some (.struct fs)/\fs.toList.map (λf=>(f.type,f.offset))=[(tI,0),(tI,1),(tS,2),(tL,3),(tK,4)]
 ci:P.cellsOf tI=1
 cs:P.cellsOf tS=1
 cl:P.cellsOf tL=1
 ck:P.cellsOf tK=1
 cn:P.cellsOf tN=5
abbrev KI (enc:TypeId×Value->H)(P:Program)(W:World):=ny enc P W 0 (λ_=>true) true
theorem QU {fuel:Nat}{t:TypeId}{cs:List Value}{d:DataW H}{ps:List MemPlace}(ht:P.underlying t=some .string)(h:KI enc P W fuel t cs=some (d,ps)):∃s:fC,Ri (I0 W) cs (cS s)/\s.length<=maxLen:=by
 obtain⟨s,rfl,hl⟩:=ajA ht h;refine⟨s.data.toList,Ri.one ?_,hl⟩;have:s=⟨⟨s.data.toList⟩⟩:=by cases s;rfl
 rw[this];exact Rd.str _ hl
theorem KC {fuel:Nat}{t:TypeId}{cs:List Value}{d:DataW H}{ps:List MemPlace}(ht:P.underlying t=some (.int .i64))(h:KI enc P W fuel t cs=some (d,ps)):∃n:Int,Ri (I0 W) cs [.lit (.int .i64 n)] /\ -9223372036854775808<=n/\n<=9223372036854775807:=by obtain⟨n,rfl,hw⟩:=trod_int ht h;refine⟨n,Ri.one (Rd.lit _ rfl),?_⟩;have hw:(decide (yJ.min<=n)&&decide (n<=yJ.max))=true:=hw;obtain⟨h1,h2⟩:=DI.1 hw;exact⟨of_decide_eq_true h1,of_decide_eq_true h2⟩
theorem KD {fuel:Nat}{t tS:TypeId}{cs:List Value}{d:DataW H}{ps:List MemPlace}(ht:P.underlying t=some (.slice tS))(hS:P.underlying tS=some .string)(hc:P.cellsOf tS=1)(h:KI enc P W fuel t cs=some (d,ps)):∃l:List fC,Ri (I0 W) cs [.sl 1 (l.map cS)]/\l.length<=maxLen/\∀s,s∈l->s.length<=maxLen:=by obtain⟨l,v,rfl,hr,hm,hq⟩:=Ja (cells:=cS) (Q:=λs=>s.length<=maxLen) ht hc (λf ecs d p _ h=>QU hS h) h;exact⟨l,Ri.one hr,hm,hq⟩
theorem agl : maxLen<=mx:=xM
theorem part {cs:List Value}{k:Nat}(h:k<cs.length):(cs.drop k).take 1=[cs[k]]:=by rw[List.drop_eq_getElem_cons h];rfl
theorem SN {tI tS tL tN tK:TypeId}(T:Uz P tI tS tL tN tK):∀(fuel:Nat) {cs:List Value} {d:DataW H} {ps:List MemPlace},KI enc P W fuel tN cs=some (d,ps)->∃n:aj,Ri (I0 W) cs (aj.cells n)/\cs.length=5/\Aq mx fuel n:=by
 intro fuel
 induction fuel using iw with|_ fuel ih=>
 intro cs d ps h;obtain⟨fs,hfs,hl⟩:=T.n;obtain⟨f,rfl,h5,hx⟩:=trod_struct hfs h;rw[T.cn]at h5;have at_:∀k ty off,[(tI,0),(tI,1),(tS,2),(tL,3),(tK,4)][k]? = some (ty,off)->∃d' p',KI enc P W f ty ((cs.drop off).take (P.cellsOf ty))=some (d',p'):=λk ty off hk=>by rw[<- hl,dG]at hk;obtain⟨x,hx1,hx2⟩:=dD.1 hk;cases hx2;exact hx k x hx1
 obtain⟨d0,p0,h0⟩:=at_ 0 tI 0 rfl
 obtain⟨d1,p1,h1⟩:=at_ 1 tI 1 rfl
 obtain⟨d2,p2,h2⟩:=at_ 2 tS 2 rfl
 obtain⟨d3,p3,h3⟩:=at_ 3 tL 3 rfl
 obtain⟨d4,p4,h4⟩:=at_ 4 tK 4 rfl
 rw[T.ci,part aI]at h0 h1;rw[T.cs,part aI]at h2;rw[T.cl,part aI]at h3;rw[T.ck,part aI]at h4;obtain⟨z0,r0,_⟩:=KC T.i h0;obtain⟨z1,r1,_⟩:=KC T.i h1;obtain⟨z2,r2,m2⟩:=QU T.s h2;obtain⟨z3,r3,m3,q3⟩:=KD T.l T.s T.cs h3;obtain⟨z4,v4,e4,r4,m4,q4⟩:=Ja (cells:=aj.cells) (Q:=λn=>Aq mx f n) T.k T.cn (λf' ecs d p hf hh=>(ih f' aI hh).imp λn hn=>⟨hn.1,hn.2.2.mono (aF _) aI⟩) h4;have hM:=agl;refine⟨aj.mk z0 z1 z2 z3 z4,?_,h5,bJ m2 hM,bJ m3 hM,λs hs=>bJ (q3 s hs) hM,bJ m4 hM,trivial,q4⟩;rw[aj.iG];have ec:cs=[cs[0]]++([cs[1]]++([cs[2]]++([cs[3]]++[cs[4]]))):=by
  match cs,h5 with
  |[a,b,c,d,e],_=>rfl
 rw[ec];have e4':cs[4]=v4:=by simpa using e4
 exact r0.app (r1.app (r2.app (r3.app (e4'▸Ri.one r4))))
structure ad4 (P:Program)(tI tS tL tN tK tO tP:TypeId):Prop where
 nt:Uz P tI tS tL tN tK
 p:P.underlying tP=some (.slice tO)
 o:∃fs,P.underlying tO=some (.struct fs)/\fs.toList.map (λf=>(f.type,f.offset))=[(tI,0),(tL,1),(tL,2),(tN,3)]
 co:P.cellsOf tO=8
 cp:P.cellsOf tP=1
theorem ak6 {tI tS tL tN tK tO tP:TypeId}(T:ad4 P tI tS tL tN tK tO tP){fuel:Nat}{cs:List Value}{d:DataW H}{ps:List MemPlace}(h:KI enc P W fuel tO cs=some (d,ps)):∃o:uN,Ri (I0 W) cs (uN.cells o)/\cs.length=8/\Gi mx fuel o:=by
 obtain⟨fs,hfs,hl⟩:=T.o;obtain⟨f,rfl,h8,hx⟩:=trod_struct hfs h;rw[T.co]at h8;have at_:∀k ty off,[(tI,0),(tL,1),(tL,2),(tN,3)][k]? = some (ty,off)->∃d' p',KI enc P W f ty ((cs.drop off).take (P.cellsOf ty))=some (d',p'):=λk ty off hk=>by rw[<- hl,dG]at hk;obtain⟨x,hx1,hx2⟩:=dD.1 hk;cases hx2;exact hx k x hx1
 obtain⟨d0,p0,h0⟩:=at_ 0 tI 0 rfl
 obtain⟨d1,p1,h1⟩:=at_ 1 tL 1 rfl
 obtain⟨d2,p2,h2⟩:=at_ 2 tL 2 rfl
 obtain⟨d3,p3,h3⟩:=at_ 3 tN 3 rfl
 rw[T.nt.ci,part aI]at h0;rw[T.nt.cl,part aI]at h1 h2;obtain⟨z0,r0,_⟩:=KC T.nt.i h0;obtain⟨z1,r1,m1,q1⟩:=KD T.nt.l T.nt.s T.nt.cs h1;obtain⟨z2,r2,m2,q2⟩:=KD T.nt.l T.nt.s T.nt.cs h2;obtain⟨n,r3,_,q3⟩:=SN T.nt f h3;have hM:=agl;rw[aj.iG,T.nt.cn]at r3;refine⟨uN.mk z0 z1 z2 n,?_,h8,⟨bJ m1 hM,λs hs=>bJ (q1 s hs) hM⟩,⟨bJ m2 hM,λs hs=>bJ (q2 s hs) hM⟩,q3.mono (aF _) aI⟩;have ec:cs=[cs[0]]++([cs[1]]++([cs[2]]++(cs.drop 3).take 5)):=by
  match cs,h8 with
  |[a,b,c,d,e,f,g,h],_=>rfl
 rw[ec];exact r0.app (r1.app (r2.app r3))
theorem aje {tI tS tL tN tK tO tP:TypeId}(T:ad4 P tI tS tL tN tK tO tP){fuel:Nat}{cs:List Value}{d:DataW H}{ps:List MemPlace}(h:KI enc P W fuel tP cs=some (d,ps)):∃(l:List uN) (v:Value),cs=[v]/\Rd (I0 W) v (.sl 8 (l.map uN.cells))/\l.length<=maxLen/\∀o,o∈l->∃D,Gi mx D o:=
 Ja (cells:=uN.cells) (Q:=λo=>∃D,Gi mx D o) T.p T.co (λf ecs d p _ hh=>(ak6 T hh).imp λn hn=>⟨hn.1,f,hn.2.2⟩) h
end
section
variable {P:Program} {W:World} {H:Type} {enc:TypeId×Value->H}
structure ab6 (P:Program)(tI tS tL tN tK tD tE tT:TypeId):Prop where
 nt:Uz P tI tS tL tN tK
 d:∃fs,P.underlying tD=some (.struct fs)/\fs.toList.map (λf=>(f.type,f.offset))=[(tS,0),(tI,1),(tN,2)]
 e:P.underlying tE=some (.slice tD)
 t:∃fs,P.underlying tT=some (.struct fs)/\fs.toList.map (λf=>(f.type,f.offset))=[(tE,0),(tI,1)]
 cd:P.cellsOf tD=7
 ce:P.cellsOf tE=1
 ct:P.cellsOf tT=2
theorem ahs {f:Nat}{cs:List Value}{fs:Array Field}{l:List (TypeId×Nat)}(hl:fs.toList.map (λf=>(f.type,f.offset))=l)
 (hx:∀(k:Nat) x,fs.toList[k]? = some x->∃d' p',ny enc P W 0 (λ_=>true) true f x.type ((cs.drop x.offset).take (P.cellsOf x.type))=some (d',p')) :
 ∀(k:Nat) (ty:TypeId) (off:Nat),l[k]? = some (ty,off)->∃d' p',KI enc P W f ty ((cs.drop off).take (P.cellsOf ty))=some (d',p'):=λk ty off hk=>by
 rw[<- hl,dG]at hk;obtain⟨x,hx1,hx2⟩:=dD.1 hk;cases hx2;exact hx k x hx1
theorem agv {tI tS tL tN tK tD tE tT:TypeId}(T:ab6 P tI tS tL tN tK tD tE tT){fuel:Nat}{cs:List Value}{d:DataW H}{ps:List MemPlace}(h:KI enc P W fuel tD cs=some (d,ps)):∃o:fA,Ri (I0 W) cs (fA.cells o)/\cs.length=7/\Yl mx fuel o:=by
 obtain⟨fs,hfs,hl⟩:=T.d;obtain⟨f,rfl,h7,hx⟩:=trod_struct hfs h;rw[T.cd]at h7;have at_:=ahs hl hx
 obtain⟨d0,p0,h0⟩:=at_ 0 tS 0 rfl
 obtain⟨d1,p1,h1⟩:=at_ 1 tI 1 rfl
 obtain⟨d2,p2,h2⟩:=at_ 2 tN 2 rfl
 rw[T.nt.cs,part aI]at h0;rw[T.nt.ci,part aI]at h1;obtain⟨z0,r0,m0⟩:=QU T.nt.s h0;obtain⟨z1,r1,_⟩:=KC T.nt.i h1;obtain⟨n,r2,_,q2⟩:=SN T.nt f h2;have hM:=agl;rw[aj.iG,T.nt.cn]at r2;refine⟨fA.mk z0 z1 n,?_,h7,bJ m0 hM,q2.mono (aF _) aI⟩;have ec:cs=[cs[0]]++([cs[1]]++(cs.drop 2).take 5):=by
  match cs,h7 with
  |[a,b,c,d,e,f,g],_=>rfl
 rw[ec];exact r0.app (r1.app r2)
theorem adz {tI tS tL tN tK tD tE tT:TypeId}(T:ab6 P tI tS tL tN tK tD tE tT){fuel:Nat}{cs:List Value}{d:DataW H}{ps:List MemPlace}(h:KI enc P W fuel tT cs=some (d,ps)) :
 ∃s:bU,Ri (I0 W) cs [.sl 7 (s.bH.map fA.cells),.lit (.int .i64 s.kY)]/\cs.length=2/\s.bH.length<=mx/\∃D,∀o,o∈s.bH->Yl mx D o:=by
 obtain⟨fs,hfs,hl⟩:=T.t;obtain⟨f,rfl,h2,hx⟩:=trod_struct hfs h;rw[T.ct]at h2;have at_:=ahs hl hx
 obtain⟨d0,p0,h0⟩:=at_ 0 tE 0 rfl
 obtain⟨d1,p1,h1⟩:=at_ 1 tI 1 rfl
 rw[T.ce,part aI]at h0;rw[T.nt.ci,part aI]at h1;obtain⟨z0,v0,e0,r0,m0,q0⟩:=Ja (cells:=fA.cells) (Q:=λn=>Yl mx f n) T.e T.cd (λf' ecs d p _ hh=>(agv T hh).imp λn hn=>⟨hn.1,hn.2.2.1,hn.2.2.2.mono (aF _) aI⟩) h0;obtain⟨z1,r1,_⟩:=KC T.nt.i h1;refine⟨bU.mk z0 z1,?_,h2,bJ m0 agl,f,q0⟩;have ec:cs=[cs[0]]++[cs[1]]:=by
  match cs,h2 with
  |[a,b],_=>rfl
 rw[ec];have e0':cs[0]=v0:=by simpa using e0
 exact(e0'▸Ri.one r0).app r1
structure ab4 (P:Program)(tI tS tL tN tK tO tP tR:TypeId):Prop where
 ot:ad4 P tI tS tL tN tK tO tP
 r:∃fs,P.underlying tR=some (.struct fs)/\fs.toList.map (λf=>(f.type,f.offset))=[(tI,0),(tS,1),(tL,2),(tL,3),(tN,4),(tP,9)]
 cr:P.cellsOf tR=10
theorem Zp {tI tS tL tN tK tO tP tR:TypeId}(T:ab4 P tI tS tL tN tK tO tP tR){fuel:Nat}{cs:List Value}{d:DataW H}{ps:List MemPlace}(h:KI enc P W fuel tR cs=some (d,ps)) :
 ∃q:bn,Ri (I0 W) cs [.lit (.int .i64 q.kP),.str q.iC,.sl 1 (q.yK.map cS),.sl 1 (q.uM.map cS),.lit (.int .i64 q.Body.bM),.lit (.int .i64 q.Body.wJ),.str q.Body.lI,.sl 1 (q.Body.aO.map cS),.sl 5 (q.Body.aP.map aj.cells),.sl 8 (q.Me.map uN.cells)]/\cs.length=10/\∃D,ae8 D q:=by
 obtain⟨fs,hfs,hl⟩:=T.r;obtain⟨f,rfl,h10,hx⟩:=trod_struct hfs h;rw[T.cr]at h10;have N:=T.ot.nt;have at_:=ahs hl hx
 obtain⟨d0,p0,h0⟩:=at_ 0 tI 0 rfl
 obtain⟨d1,p1,h1⟩:=at_ 1 tS 1 rfl
 obtain⟨d2,p2,h2⟩:=at_ 2 tL 2 rfl
 obtain⟨d3,p3,h3⟩:=at_ 3 tL 3 rfl
 obtain⟨d4,p4,h4⟩:=at_ 4 tN 4 rfl
 obtain⟨d5,p5,h5⟩:=at_ 5 tP 9 rfl
 rw[N.ci,part aI]at h0;rw[N.cs,part aI]at h1;rw[N.cl,part aI]at h2 h3;rw[T.ot.cp,part aI]at h5;obtain⟨z0,r0,_⟩:=KC N.i h0;obtain⟨z1,r1,m1⟩:=QU N.s h1;obtain⟨z2,r2,m2,q2⟩:=KD N.l N.s N.cs h2;obtain⟨z3,r3,m3,q3⟩:=KD N.l N.s N.cs h3;obtain⟨n,r4,_,q4⟩:=SN N f h4;obtain⟨z5,v5,e5,r5,m5,q5⟩:=aje T.ot h5;have hM:=agl;obtain⟨D,hD,hO⟩:=Gi.all f q5;rw[aj.iG,N.cn]at r4;refine⟨bn.mk z0 z1 z2 z3 n z5,?_,h10,D,bJ m1 hM,⟨bJ m2 hM,λs hs=>bJ (q2 s hs) hM⟩,⟨bJ m3 hM,λs hs=>bJ (q3 s hs) hM⟩,q4.mono (aF _) hD,bJ m5 hM,hO⟩;have ec:cs=[cs[0]]++([cs[1]]++([cs[2]]++([cs[3]]++((cs.drop 4).take 5++[cs[9]])))):=by
  match cs,h10 with
  |[a,b,c,d,e,f,g,h,i,j],_=>rfl
 rw[ec];have e5':cs[9]=v5:=by simpa using e5
 exact r0.app (r1.app (r2.app (r3.app (r4.app (e5'▸Ri.one r5)))))
theorem Xd {tI tS tL tN tK tO tP tR tQ:TypeId}(T:ab4 P tI tS tL tN tK tO tP tR)(hQ:P.underlying tQ=some (.slice tR)){fuel:Nat}{cs:List Value}{d:DataW H}{ps:List MemPlace}(h:KI enc P W fuel tQ cs=some (d,ps)) :
 ∃(l:List bn) (v:Value),cs=[v]/\Rd (I0 W) v (.sl 10 (l.map bn.cells))/\l.length<=mx/\∀x,x∈l->∃D,ae8 D x:=by
 obtain⟨l,v,e,r,m,q⟩:=Ja (cells:=bn.cells) (Q:=λn=>∃D,ae8 D n) hQ T.cr (λf' ecs d p _ hh=>(Zp T hh).imp λn hn=>⟨by rw[bn.iG];exact hn.1,hn.2.2⟩) h;exact⟨l,v,e,r,bJ m agl,q⟩
end
end Go.Ab
