/- The functions of the program that the laws reach: what they compute, the proofs that they do, the laws of the data (part 3). No conditions. -/
import Derived.Test.YtfengbmckcgbiaaGreatDoorB2
set_option linter.unusedVariables false
set_option linter.unusedSimpArgs false
set_option maxRecDepth 100000
set_option maxHeartbeats 4000000
set_option linter.defProp false
set_option linter.unusedSectionVars false
open Go.DataW renaming trod->mD
open Go.IntKind renaming wrap->af,i64->xZ
open Go.Lib renaming pow10Tab->qo
open Int renaming toNat_natCast->aj
open List renaming getElem?_eq_some_iff->aK,take_of_length_le->aT,mem_cons_self->aW,map->ai,drop_of_length_le->au,getElem?_eq_getElem->ax,length_append->bD,getElem?_append_left->bF,getElem?_map->bP,drop_zero->bT,getElem?_append_right->dA,getElem?_cons_zero->dN,mem_cons_of_mem->dY,length_cons->iC,mem_iff_getElem->jW,range->sQ,length_map->uF
open Nat renaming le_refl->aA,le_trans->bH,strongRecOn->gG,zero_le->nY
open Option renaming map_eq_some_iff->bW
open Option.some renaming injEq->aC
namespace Go.Ab
open Go
structure VJ (B D:Nat)(it:bg):Prop where
 U5:it.al9.length<=B
 ZX:zJ B D it.am4
theorem T.alv {D:Nat}{it:bg}{left:Int}(h:VJ mx D it)(h0:0<=left)(hl:left<=1048576):∃r,Ev (λf=>G.vX f it left) r/\r<=left/\(0<=r->VJ 1048576 D it/\(UK it.am4:Int)<=3*(left-r)+3):=by
 have hn:it.al9.length<=9223372036854775807:=h.U5;have w0:af .i64 (left-(it.al9.length:Int))=left-(it.al9.length:Int):=Cj (by omega) (by omega);by_cases c:left-(it.al9.length:Int)<0
 ·refine⟨-1,ais ?_,by omega,λh=>by omega⟩;simp only[G.vX,w0];exact alZ (al6 c) (akk _)
 obtain⟨v1,g1,a1,b1⟩:=T.VB D h.ZX (left:=left-(it.al9.length:Int)) (by omega) (by omega);by_cases c1:v1<0
 ·refine⟨-1,ais ?_,by omega,λh=>by omega⟩;simp only[G.vX,w0];exact alW (aki c) (af5 g1 (alZ (al6 c1) (akk _)))
 refine⟨v1,ais ?_,by omega,λh=>⟨⟨by omega,(b1 h).1⟩,by have:=(b1 h).2;omega⟩⟩;simp only[G.vX,w0];exact alW (aki c) (af5 g1 (alW (aki c1) (akk _)))
def mkI : List bg->Nat
 |[]=>0
 |it::r=>UK it.am4+2+mkI r
theorem T.XH {D:Nat}{s:alG}{left:Int}(h1:s.akj.length<=mx)(hO:∀o,o∈s.akj->VJ mx D o)(h0:0<=left)(hl:left<=1048576) :
 ∃r,Ev (λf=>G.kL f s left) r/\r<=left/\(0<=r->XZ 1048576 s/\(mkI s.akj:Int)<=5*(left-r)):=by
 obtain⟨l,ck⟩:=s;have S:∃r,Ev (λf=>G.mX f l left) r/\r<=left/\(0<=r->(l.length:Int)<=left/\(∀o,o∈l->VJ 1048576 D o)/\(mkI l:Int)<=5*(left-r)):=by
  unfold mx at h1;simp only at h1 hO;have w0:af .i64 (left-(l.length:Int))=left-(l.length:Int):=Cj (by omega) (by omega);by_cases c:left-(l.length:Int)<0
  ·refine⟨-1,ais ?_,by omega,λh=>by omega⟩;simp only[G.mX,w0];exact alZ (al6 c) (akk _)
  ·have L:∀(k i:Nat) (a:Int),i+k=l.length->0<=a->a<=1048576->∃r,Ev (λf=>G.mX.L1 f l a i) r/\r<=a/\(0<=r->(∀o,o∈l.drop i->VJ 1048576 D o)/\(mkI (l.drop i):Int)<=3*(a-r)+5*k):=by
    intro k
    induction k with
    | zero=>
      intro i a hi ha ha2;refine⟨a,ais ?_,by omega,λ_=>⟨λs hs=>?_,by rw[au (by omega)];simp[mkI]⟩⟩
      ·simp only[G.mX.L1];exact anm (akk _)
      ·rw[au (by omega)]at hs;cases hs
    | succ k ih=>
      intro i a hi ha ha2;have hil:i<l.length:=(by omega);obtain⟨q,gq,q1,q2⟩:=T.alv (hO _ (EP default hil)) ha ha2;by_cases c1:q<0
      ·refine⟨-1,ais ?_,by omega,λh=>by omega⟩;simp only[G.mX.L1,aj];exact ani (alI (af5 gq (alZ (al6 c1) (akk _))))
      ·obtain⟨r,g,g1,g2⟩:=ih (i+1) q (by omega) (by omega) (by omega);refine⟨r,ais ?_,by omega,λh=>⟨λs hs=>?_,?_⟩⟩
       ·simp only[G.mX.L1,aj,wrS i];exact ani (alI (af5 gq (alW (aki c1) g)))
       ·rw[dW default hil]at hs;rcases List.mem_cons.1 hs with e|e
        ·rw[e];exact(q2 (by omega)).1
        ·exact(g2 h).1 s e
       ·have h1:=(q2 (by omega)).2;have h2:=(g2 h).2;rw[dW default hil];simp only[mkI];omega
   obtain⟨r,g,g1,g2⟩:=L l.length 0 (left-(l.length:Int)) (by omega) (by omega) (by omega);refine⟨r,ais ?_,by omega,λh=>⟨by omega,λs hs=>(g2 h).1 s (by rw[bT];exact hs),by have:=(g2 h).2;rw[bT]at this;omega⟩⟩;simp only[G.mX,w0];exact alW (aki c) g
 obtain⟨r,g,g1,g2⟩:=S;by_cases c:r<0
 ·refine⟨-1,ais ?_,by omega,λh=>by omega⟩;simp only[G.kL];exact af5 g (alZ (al6 c) (akk _))
 ·refine⟨r,ais ?_,by omega,λh=>?_⟩
  ·simp only[G.kL];exact af5 g (alW (aki c) (akk _))
  ·obtain⟨e1,e2,e3⟩:=g2 h;exact⟨⟨by show l.length<=_;omega,λit hi=>(e2 it hi).U5,λit hi=>⟨D,(e2 it hi).ZX⟩⟩,e3⟩
structure aaD (D:Nat)(q:akh):Prop where
 U5:q.al9.length<=mx
 want:q.anx.length<=mx/\∀s,s∈q.anx->s.length<=mx
 avoid:q.lY.length<=mx/\∀s,s∈q.lY->s.length<=mx
 body:zJ mx D q.Body
 ops:q.Ops.length<=mx/\∀o,o∈q.Ops->GL mx D o
theorem T.XG {D:Nat}{q:akh}{left:Int}(h:aaD D q)(h0:0<=left)(hl:left<=1048576):∃r,Ev (λf=>G.lN f q left) r/\r<=left/\(0<=r->Y2 1048576 q/\((q.anx.length+q.lY.length+UK q.Body+Jy q.Ops:Nat):Int)<=4*(left-r)+3):=by
 have hn:q.al9.length<=9223372036854775807:=h.U5;have w0:af .i64 (left-(q.al9.length:Int))=left-(q.al9.length:Int):=Cj (by omega) (by omega);by_cases c:left-(q.al9.length:Int)<0
 ·refine⟨-1,ais ?_,by omega,λh=>by omega⟩;simp only[G.lN,w0];exact alZ (al6 c) (akk _)
 obtain⟨v1,g1,a1,b1⟩:=T.XI h.want.1 h.want.2 (left:=left-(q.al9.length:Int)) (by omega) (by omega);by_cases c1:v1<0
 ·refine⟨-1,ais ?_,by omega,λh=>by omega⟩;simp only[G.lN,w0];exact alW (aki c) (af5 g1 (alZ (al6 c1) (akk _)))
 obtain⟨v2,g2,a2,b2⟩:=T.XI h.avoid.1 h.avoid.2 (left:=v1) (by omega) (by omega);by_cases c2:v2<0
 ·refine⟨-1,ais ?_,by omega,λh=>by omega⟩;simp only[G.lN,w0];exact alW (aki c) (af5 g1 (alW (aki c1) (af5 g2 (alZ (al6 c2) (akk _)))))
 obtain⟨v3,g3,a3,b3⟩:=T.VB D h.body (left:=v2) (by omega) (by omega);by_cases c3:v3<0
 ·refine⟨-1,ais ?_,by omega,λh=>by omega⟩;simp only[G.lN,w0];exact alW (aki c) (af5 g1 (alW (aki c1) (af5 g2 (alW (aki c2) (af5 g3 (alZ (al6 c3) (akk _)))))))
 obtain⟨v4,g4,a4,b4⟩:=T.ann h.ops.1 h.ops.2 (left:=v3) (by omega) (by omega);by_cases c4:v4<0
 ·refine⟨-1,ais ?_,by omega,λh=>by omega⟩;simp only[G.lN,w0];exact alW (aki c) (af5 g1 (alW (aki c1) (af5 g2 (alW (aki c2) (af5 g3 (alW (aki c3) (af5 g4 (alZ (al6 c4) (akk _)))))))))
 refine⟨v4,ais ?_,by omega,λh=>?_⟩
 ·simp only[G.lN,w0];exact alW (aki c) (af5 g1 (alW (aki c1) (af5 g2 (alW (aki c2) (af5 g3 (alW (aki c3) (af5 g4 (alW (aki c4) (akk _)))))))))
 ·obtain⟨e1,e2⟩:=b1 (by omega);obtain⟨e3,e4⟩:=b2 (by omega);obtain⟨e5,e6,e7⟩:=b4 (by omega);obtain⟨e8,e9⟩:=b3 (by omega);exact⟨⟨by omega,⟨by omega,λs hs=>by have:=e2 s hs;omega⟩,⟨by omega,λs hs=>by have:=e4 s hs;omega⟩,⟨D,e8⟩,by omega,λo ho=>⟨D,e6 o ho⟩⟩,by omega⟩
theorem T.aav {s:alG}(h:XZ 1048576 s):Ev (λf=>G.nR f s) s:=by
 obtain⟨l,ck⟩:=s;have hl:l.length<=1048576:=h.len;have I:∀it,it∈l->Ev (λf=>G.xJ f it) it:=λit hi=>by obtain⟨D,hd⟩:=h.ZX it hi;refine ais ?_;simp only[G.xJ];exact af5 (T.aau FD hd) (akk _)
 have L:∀(k i:Nat) (z:List bg),i+k=l.length->z.length=l.length->z.take i=l.take i->Ev (λf=>G.oG.L1 f l i z) l:=by
  intro k
  induction k with
  | zero=>intro i z hi hz ht;refine ais ?_;simp only[G.oG.L1];rw[aT (by omega),aT (by omega)]at ht;exact anm (ake ht)
  | succ k ih=>intro i z hi hz ht;have hil:i<l.length:=(by omega);refine ais ?_;simp only[G.oG.L1,aj,wrS i];refine ani (alI (af5 (I _ (EP default hil)) (alI (ih (i+1) _ (by omega) (by rw[List.length_set];exact hz) ?_))));rw[gJ _ hil];exact Oh hil hz ht
 have S:Ev (λf=>G.oG f l) l:=by refine ais ?_;simp only[G.oG];exact alI (L l.length 0 _ (by omega) (by simp) rfl)
 refine ais ?_;simp only[G.nR];exact af5 S (akk _)
theorem T.OL {s:alG}(h:XZ 1048576 s):Ev (λf=>G.kS f s s) true:=by
 obtain⟨l,ck⟩:=s;have hl:l.length<=1048576:=h.len;have I:∀it,it∈l->Ev (λf=>G.xI f it it) true:=λit hi=>by obtain⟨D,hd⟩:=h.ZX it hi;refine ais ?_;simp only[G.xI];exact alZ (by simp) (alW (by simp) (af5 (T.Wv FD hd) (alZ rfl (akk _))))
 have L:∀(k i:Nat),i+k=l.length->Ev (λf=>G.oz.L1 f l l i) true:=by
  intro k
  induction k with
  | zero=>intro i hi;refine ais ?_;simp only[G.oz.L1];exact anm (akk _)
  | succ k ih=>intro i hi;refine ais ?_;simp only[G.oz.L1,aj,wrS i];exact ani (alI (alI (af5 (I _ (EP default (by omega))) (alZ rfl (ih (i+1) (by omega))))))
 have S:Ev (λf=>G.oz f l l) true:=by refine ais ?_;simp only[G.oz];exact alW (by simp) (L l.length 0 (by omega))
 refine ais ?_;simp only[G.kS];exact af5 S (alZ rfl (alW (by simp) (akk _)))
theorem T.YY {q:akh}(h:Y2 1048576 q):Ev (λf=>G.pV f q) q:=by obtain⟨D,hd⟩:=h.body;obtain⟨D',_,ho⟩:=GL.all 0 h.ops.2;refine ais ?_;simp only[G.pV];exact af5 (T.XO (bH h.want.1 FD)) (af5 (T.XO (bH h.avoid.1 FD)) (af5 (T.aau FD hd) (af5 (T.aoX FD (bH h.ops.1 FD) ho) (akk _))))
theorem T.Yy {q:akh}(h:Y2 1048576 q):Ev (λf=>G.sF f q q) true:=by obtain⟨D,hd⟩:=h.body;obtain⟨D',_,ho⟩:=GL.all 0 h.ops.2;refine ais ?_;simp only[G.sF];exact alW (by simp) (alZ (by simp) (af5 (T.WA (bH h.want.1 FD)) (alZ rfl (af5 (T.WA (bH h.avoid.1 FD)) (alZ rfl (af5 (T.Wv FD hd) (alZ rfl (af5 (T.an6 FD (bH h.ops.1 FD) ho) (alZ rfl (akk _))))))))))
theorem Xq {q:akh}(h:RqF q):Us 60 q:=by
 have P:∀{l:List dR},Kv l=true->FK 60 l:=λ{l} hl=>by obtain⟨h1,h2⟩:=Lc hl;exact⟨by omega,λs hs=>by have:=acr (h2 s hs);omega⟩
 exact⟨by have:=Xc h.U5;omega,P h.want,P h.avoid,⟨5,Eh h.body⟩,af7 h.ops⟩
theorem T0.dB {s:alG}{q:akh}(hs:XZ 1048576 s)(hq:Y2 1048576 q):Ev (λf=>G.dB f s q) (yz s q):=by
 cases h1:H7 s with
 | true=>
   cases h2:Vl q with
   |true=>exact T.dB (Ai.1 h1) (Xq (Jq.1 h2))
   | false=>refine ais ?_;simp only[G.dB];unfold yz;rw[h1,h2];exact af5 (T0.bM FD hs) (alZ h1 (af5 (T0.lq FD hq) (alW h2 (akk _))))
 | false=>refine ais ?_;simp only[G.dB];unfold yz;rw[h1];exact af5 (T0.bM FD hs) (alW h1 (akk _))
theorem T0.jY {s:alG}{q:akh}(hs:XZ 1048576 s)(hq:Y2 1048576 q):Ev (λf=>G.jY f s q) (yz s q):=by
 cases h1:H7 s with
 | true=>
   cases h2:Vl q with
   |true=>exact T.jY (Ai.1 h1) (Xq (Jq.1 h2))
   | false=>refine ais ?_;simp only[G.jY];unfold yz;rw[h1,h2];exact af5 (T0.dF FD hs) (alZ h1 (af5 (T0.jB FD hq) (alW h2 (af5 (T.lI 400) (akk _)))))
 | false=>refine ais ?_;simp only[G.jY];unfold yz;rw[h1];exact af5 (T0.dF FD hs) (alW h1 (af5 (T.lI 400) (akk _)))
theorem Yu (w a:List dR)(t:dR)(b:Bool):Kt w a t b=200\/Kt w a t b=304\/Kt w a t b=412:=by
 unfold Kt;split
 ·exact .inr (.inr rfl)
 ·split
  ·split
   ·exact .inr (.inl rfl)
   ·exact .inr (.inr rfl)
  ·exact .inl rfl
inductive Han (s:alG)(q:akh):alG×aI->Prop
 |no (c:Int) (h1:c≠200) (h2:c≠201) (h3:c≠400) (h4:c=404<->(Qx s q.al9=none/\q.amI≠2)):Han s q (s,ans c)
 |get (it:bg) (h1:q.amI=1) (h2:Qx s q.al9=some it) (h3:Kt q.anx q.lY (Hq it.am4) true=200):Han s q (s,aI.mk 200 (Hq it.am4) it.amX it.am4)
 |drop (it:bg) (m:alG) (h1:q.amI=3) (h2:Qx s q.al9=some it) (h3:Qw s q.al9=some m):Han s q (m,aI.mk 200 [] m.amJ wU)
 |made (m:alG) (h1:q.amI=2) (h2:Qx s q.al9=none) (h3:Qz s q.al9 q.Body=some m):Han s q (m,aI.mk 201 (Hq q.Body) m.amJ wU)
 |put (it:bg) (n:ak) (m:alG) (h1:q.amI=2\/q.amI=4\/q.amI=5) (h2:Qx s q.al9=some it) (h3:TV it.am4 q=some n) (h4:Qz s q.al9 n=some m) (h5:Kt q.anx q.lY (Hq it.am4) false=200):Han s q (m,aI.mk 200 (Hq n) m.amJ wU)
theorem agc {s:alG}{q:akh}(hr:RqF q):Han s q (abm s q):=by
 have h1:=hr.lo;have h5:=hr.hi;unfold abm;cases hg:Qx s q.al9 with
 | none=>
   show Han s q (if q.amI=2 then _ else _);split
   ·rename_i e;rcases Yu q.anx q.lY [] false with h|h|h
    ·rw[ahl h];unfold Vh;cases hp:Qz s q.al9 q.Body with
     |none=>exact .no _ (by decide) (by decide) (by decide) ⟨λh=>by omega,λh=>al7 e h.2⟩
     |some m=>exact .made m e hg hp
    ·rw[ahk (by omega),h];exact .no _ (by decide) (by decide) (by decide) ⟨λh=>by omega,λh=>al7 e h.2⟩
    ·rw[ahk (by omega),h];exact .no _ (by decide) (by decide) (by decide) ⟨λh=>by omega,λh=>al7 e h.2⟩
   ·rename_i e;exact .no _ (by decide) (by decide) (by decide) ⟨λ_=>⟨hg,e⟩,λ_=>rfl⟩
 | some it=>
   have no:∀c:Int,c≠200->c≠201->c≠400->c≠404->Han s q (s,ans c):=λc a b d e=>.no c a b d ⟨λh=>al7 h e,λh=>by rw[hg]at h;cases h.1⟩;show Han s q (if Kt q.anx q.lY (Hq it.am4) (q.amI==1)=200 then aib s q it else(s,ans (Kt q.anx q.lY (Hq it.am4) (q.amI==1))));rcases Yu q.anx q.lY (Hq it.am4) (q.amI==1)with h|h|h
   ·rw[ahl h];unfold aib;split
    ·rename_i e;rw[show(q.amI==1)=true by simpa using e]at h;exact .get it e hg h
    ·split
     ·rename_i e;cases hd:Qw s q.al9 with
      |none=>exact no _ (by decide) (by decide) (by decide) (by decide)
      |some m=>exact .drop it m e hg hd
     ·rename_i e1 e3;rw[show(q.amI==1)=false by simpa using e1]at h;cases hn:TV it.am4 q with
      |none=>exact no _ (by decide) (by decide) (by decide) (by decide)
      | some n=>
        unfold Vh;cases hp:Qz s q.al9 n with
        | none=>
          show Han s q (match Qz s q.al9 n with
           |some m=>(m,aI.mk 200 (Hq n) m.amJ wU)
           |none=>(s,ans 422))
          rw[hp];exact no _ (by decide) (by decide) (by decide) (by decide)
        | some m=>
          show Han s q (match Qz s q.al9 n with
           |some m=>(m,aI.mk 200 (Hq n) m.amJ wU)
           |none=>(s,ans 422))
          rw[hp];exact .put it n m (by omega) hg hn hp h
   ·rw[ahk (by omega),h];exact no _ (by decide) (by decide) (by decide) (by decide)
   ·rw[ahk (by omega),h];exact no _ (by decide) (by decide) (by decide) (by decide)
theorem amK {s:alG}{q:akh} : (yz s q=(ad1,ans 400)/\(H7 s&&Vl q)=false)\/(StF s/\RqF q/\Han s q (yz s q)):=by
 unfold yz;cases h:H7 s&&Vl q with
 |false=>exact .inl ⟨rfl,rfl⟩
 | true=>obtain⟨h1,h2⟩:=Bool.and_eq_true_iff.1 h;exact .inr ⟨Ai.1 h1,Jq.1 h2,agc (Jq.1 h2)⟩
theorem akZ {s:alG}{q:akh}{p:alG×aI}(hs:StF s)(h:Han s q p):H7 p.1=true/\Val p.2.Body=true:=by
 cases h with
 |no c=>exact⟨Ai.2 hs,Ul⟩
 |get it h1 h2=>exact⟨Ai.2 hs,(YA h2).2.2.2⟩
 |drop it m h1 h2 h3=>exact⟨(ahU h3).2.2.2.2,Ul⟩
 |made m h1 h2 h3=>exact⟨(ab6 h3).2.2.2.2,Ul⟩
 |put it n m h1 h2 h3 h4=>exact⟨(ab6 h4).2.2.2.2,Ul⟩
theorem Jf (s:alG)(q:akh):H7 (yz s q).1=true/\Val (yz s q).2.Body=true:=by
 rcases amK (s:=s) (q:=q)with⟨h,_⟩|⟨hs,hr,h⟩
 ·rw[h];exact⟨aen,Ul⟩
 ·exact akZ hs h
theorem Dz : ∀(l:List bg),iY l=mkI l
 |[]=>rfl
 |it::r=>by simp only[iY,Ia,mkI,Dz r];omega
theorem ank (q:akh):rqc q<=q.anx.length+q.lY.length+UK q.Body+Jy q.Ops:=by have:=alo q.Body;unfold rqc;omega
theorem YI {K:Nat} : ∀{l:List bg},(∀it,it∈l->UK it.am4+2<=K)->mkI l<=K*l.length
 |[],_=>by simp[mkI]
 | o::r,h=>by have h1:=h o (aW ..);have h2:=YI (l:=r) λx hx=>h x (dY _ hx);simp only[mkI,iC,Nat.mul_succ];omega
structure ami (s:alG):Prop where
 f:XZ 1048576 s
 l:s.akj.length<=1048576
 k:mkI s.akj<=900000000
theorem O4 {s:alG}(h:H7 s=true):ami s:=by
 have hf:=Ai.1 h;have hl:=hf.len;have hn:∀it,it∈s.akj->ItF s.amJ it:=λit hi=>TI.1 (hf.itm it hi);have hb:=YI (K:=500) (l:=s.akj) λit hi=>by have:=afn (hn it hi).ZX;have:=FX it.am4;unfold Uf at *;omega
 exact⟨⟨by omega,λit hi=>by have:=Xc (hn it hi).U5;omega,λit hi=>⟨5,(nS (hn it hi).ZX).fin0.mono (by omega) (aA _)⟩⟩,by omega,by omega⟩
structure akw (r:aI):Prop where
 f:zJ 12 5 r.Body
 k:Uf r.Body<=400
theorem Sr {r:aI}(h:Val r.Body=true):akw r:=⟨(nS h).fin0,afn h⟩
theorem T.Wy {r:aI}(h:akw r):Ev (λf=>G.nZ f r r) true:=by refine ais ?_;simp only[G.nZ,ak.eta];exact alW (by simp) (alZ (by simp) (alW (by simp) (af5 (T.Wv (by decide) h.f) (alZ rfl (akk _)))))
def good (c:Int):Bool:=c==200||c==201
theorem alG.eta (s:alG):alG.mk s.akj s.amJ=s:=rfl
structure VO (l:List aI):Prop where
 len:l.length<=1000
 r:∀r,r∈l->akw r
theorem VO.k : ∀{l:List aI},(∀r,r∈l->akw r)->iL l<=500*l.length
 |[],_=>by simp[iL]
 | o::r,h=>by have h1:=(h o (aW ..)).k;have h2:=VO.k (l:=r) λx hx=>h x (dY _ hx);have h3:=FX o.Body;unfold Uf at h1;simp only[iL,yT,iC,Nat.mul_succ];omega
theorem F.cmp_isNaN_int {n:Nat} : ∀{uI r},G.cmp_isNaN_int n uI=some r->dI pZ 226 [acM uI] (oB r):=by intro uI r h;refine aU K.cmp_isNaN_int (qw ?_);unfold C.cmp_isNaN_int;rcases n with _|n<;>simp only[G.cmp_isNaN_int,reduceCtorEq]at h;have z:=afw;exact tH
theorem F.cmp_Compare_int {n:Nat} : ∀{uI PX r},G.cmp_Compare_int n uI PX=some r->dI pZ 223 [acM uI,acM PX] (acM r):=by intro uI PX r h;refine aU K.cmp_Compare_int (qw ?_);unfold C.cmp_Compare_int;rcases n with _|n<;>simp only[G.cmp_Compare_int,reduceCtorEq]at h;have z:=afo (pp @F.cmp_isNaN_int ());exact tH
theorem F.cmp_isNaN_string {n:Nat} : ∀{uI r},G.cmp_isNaN_string n uI=some r->dI pZ 206 [oS uI] (oB r):=by intro uI r h;refine aU K.cmp_isNaN_string (qw ?_);unfold C.cmp_isNaN_string;rcases n with _|n<;>simp only[G.cmp_isNaN_string,reduceCtorEq]at h;have z:=afw;exact tH
theorem F.cmp_Less_string {n:Nat} : ∀{uI PX r},G.cmp_Less_string n uI PX=some r->dI pZ 186 [oS uI,oS PX] (oB r):=by intro uI PX r h;refine aU K.cmp_Less_string (qw ?_);unfold C.cmp_Less_string;rcases n with _|n<;>simp only[G.cmp_Less_string,reduceCtorEq]at h;have z:=afo (pp @F.cmp_isNaN_string ());exact tH
theorem F.U3 : ∀(n:Nat),∀{aB r},G.aV n aB=some r->dI pZ 124 [.agg (wN aB)] (.agg (wN r)):=by
 intro n
 induction n using gG with|_ n ih=>
 intro aB r h;refine aU K.aV (qw ?_);unfold C.aV;rcases n with _|n<;>simp only[G.aV,reduceCtorEq]at h;have z:=ahi (pp ih ()) (pp (@tZ (List dR×Int×List ak) _ (λn x=>G.aV.L2 n aB x.1 x.2.1 x.2.2) r (λx=>fH.of [eP 2 113,eP 3 114,(37,.v true (.one (wK aB.ajX))),eI 38 (aB.ajX.length:Int),eI 39 x.2.1] [(113,.var zN),(114,.var [wI aB.alC,wI aB.Num,wS aB.amV,.own 115 x.1.length 1,.own 116 x.2.2.length 5]),(115,.dat 1 (ai cS x.1)),(116,.dat 5 (ai ak.cells x.2.2))])) ()) (pp (@IE (List dR) _ (λn x=>G.aV.K1 n aB x) r (λx=>fH.of [eP 1 101,eP 2 102,eP 3 103] [(101,.var (wN aB)),(102,.var zN),(103,.var [wI aB.alC,wI aB.Num,wS aB.amV,.own 104 x.length 1,.lF 5]),(104,.dat 1 (ai cS x))])) ()) (pp (bz @G.aV.K1.eq_1 <|bz @G.aV.K1.eq_2 <|bz @G.aV.L2.eq_1 <|@G.aV.L2.eq_2) ()) (pp (@fF [] [(101,10),(102,11),(103,12),(104,13)] []) <|pp (@fF [] [(101,10),(102,11),(103,12)] [104]) <|pp (@fF [] [(113,102),(114,103),(115,104),(116,14)] []) <|pp (@fF [] [(113,113),(114,114),(115,115),(116,116)] []) ());exact tH
theorem F.aV {n:Nat} : ∀{aB:ak} {r:ak},G.aV n aB=some r->dI pZ 124 [.agg (wN aB)] (.agg (wN r)):=F.U3 n
theorem F.wF {n:Nat} : ∀{aB r},G.aV n aB=some r->oV pZ 124 [.agg (wN aB)] [] (λr1 b1=>r1 = .agg [wI r.alC,wI r.Num,wS r.amV,.own 0 r.aiJ.length 1,.own 1 r.ajX.length 5]/\b1=[.dat 1 (ai cS r.aiJ),.dat 5 (ai ak.cells r.ajX)]):=by intro aB r h;refine x8 K.aV (qw ?_);unfold C.aV;rcases n with _|n<;>simp only[G.aV,reduceCtorEq]at h;have z:=amc (pp @F.aV ()) (pp (@tZ (List dR×Int×List ak) _ (λn x=>G.aV.L2 n aB x.1 x.2.1 x.2.2) r (λx=>fH.of [eP 2 113,eP 3 114,(37,.v true (.one (wK aB.ajX))),eI 38 (aB.ajX.length:Int),eI 39 x.2.1] [(113,.var zN),(114,.var [wI aB.alC,wI aB.Num,wS aB.amV,.own 115 x.1.length 1,.own 116 x.2.2.length 5]),(115,.dat 1 (ai cS x.1)),(116,.dat 5 (ai ak.cells x.2.2))])) ()) (pp (@IE (List dR) _ (λn x=>G.aV.K1 n aB x) r (λx=>fH.of [eP 1 101,eP 2 102,eP 3 103] [(101,.var (wN aB)),(102,.var zN),(103,.var [wI aB.alC,wI aB.Num,wS aB.amV,.own 104 x.length 1,.lF 5]),(104,.dat 1 (ai cS x))])) ()) (pp (bz @G.aV.K1.eq_1 <|bz @G.aV.K1.eq_2 <|bz @G.aV.L2.eq_1 <|@G.aV.L2.eq_2) ()) (pp (@fF [] [(101,10),(102,11),(103,12),(104,13)] []) <|pp (@fF [] [(101,10),(102,11),(103,12)] [104]) <|pp (@fF [] [(113,102),(114,103),(115,104),(116,14)] []) <|pp (@fF [] [(113,113),(114,114),(115,115),(116,116)] []) ()) (pp (@Eo [] [(0,115),(1,116)] []) <|pp (@Eo [] [(0,104)] [1]) ());exact tH
theorem F.slices_isNaN_string {n:Nat} : ∀{uI r},G.slices_isNaN_string n uI=some r->dI pZ 187 [oS uI] (oB r):=by intro uI r h;refine aU K.slices_isNaN_string (qw ?_);unfold C.slices_isNaN_string;rcases n with _|n<;>simp only[G.slices_isNaN_string,reduceCtorEq]at h;have z:=afw;exact tH
theorem F.slices_BinarySearch_string {n:Nat} : ∀{uI rE r},G.slices_BinarySearch_string n uI rE=some r->dI pZ 171 [oT uI,oS rE] (.zi [(false,[wI r.1]),(false,[acL r.2])]):=by intro uI rE r h;refine aU K.slices_BinarySearch_string (qw ?_);unfold C.slices_BinarySearch_string;rcases n with _|n<;>simp only[G.slices_BinarySearch_string,reduceCtorEq]at h;have z:=afp (pp @F.cmp_Less_string <|pp @F.slices_isNaN_string ()) (pp (@tZ (Int×Int) _ (λn x=>G.slices_BinarySearch_string.L1 n uI rE x.1 x.2) r (λx=>fH.of [eT 0 uI,eS 1 rE,eI 6 (uI.length:Int),eI 7 x.1,eI 8 x.2] [])) ()) (pp (bz @G.slices_BinarySearch_string.L1.eq_1 <|@G.slices_BinarySearch_string.L1.eq_2) ()) (pp (@fF [] [] []) ());exact tH
def B.ren : Go.Shelf.Ren:=⟨λn=>match n with|217=>151|266=>168|129=>214|166=>147|167=>150|169=>126|171=>148|240=>166|243=>167|246=>177|276=>176|283=>193|284=>194|285=>195|286=>196|317=>213|318=>215|319=>216|320=>217|337=>221|338=>222|_=>0,λn=>match n with|21=>21|0=>0|2=>2|3=>3|4=>4|5=>5|9=>9|20=>20|31=>25|37=>138|46=>165|51=>209|53=>196|70=>153|72=>155|75=>167|76=>168|80=>157|127=>172|164=>185|171=>195|173=>199|212=>208|213=>210|232=>215|233=>216|_=>0,λn=>match n with|1=>0|17=>1|18=>2|19=>3|_=>0⟩
theorem B.x72 : Go.Proofs.Builder.X72 pZ B.ren:=by constructor<;>kernel_rfl
theorem B.x : Go.Proofs.Builder.Extra pZ B.ren:=by constructor<;>first|exact B.x72|kernel_rfl|(intro w;kernel_rfl)|decide
theorem B.lays171 : Go.Proofs.Lays.n171 pZ B.ren:=by constructor<;>first|kernel_rfl|(intro w;kernel_rfl)
theorem B.laysM171 : Go.Proofs.LaysM.n171 pZ B.ren:=by constructor<;>first|exact B.lays171|kernel_rfl|(intro w;kernel_rfl)
theorem F.strconv_Itoa {n:Nat} : ∀{Kw:Int} {r:dR},G.strconv_Itoa n Kw=some r->dI pZ 148 [acM Kw] (oS r):=by intro i r h;rcases n with _|n<;>simp only[G.strconv_Itoa,reduceCtorEq]at h;obtain⟨⟨h0,hl⟩,h⟩:=Eg.1 h;exact akz B.laysM171 h0 (bH hl (by decide)) (by cases h;rfl)
theorem F.fQ {n:Nat} : ∀{aB jX r},G.fQ n aB jX=some r->dI pZ 201 [.agg (wN aB),oS jX] (.zi [(false,[wI r.1]),(false,[acL r.2])]):=by intro aB jX r h;refine aU K.fQ (qw ?_);unfold C.fQ;rcases n with _|n<;>simp only[G.fQ,reduceCtorEq]at h;have z:=afp (pp @F.slices_BinarySearch_string <|pp @F.strconv_Itoa ()) (pp (@tZ (Int) _ (λn x=>G.fQ.L1 n aB jX x) r (λx=>fH.of [eS 1 jX,eI 21 (aB.ajX.length:Int),eI 22 x] [])) ()) (pp (bz @G.fQ.L1.eq_1 <|@G.fQ.L1.eq_2) ()) (pp (@fF [] [] []) ());exact tH
theorem F.iV {n:Nat} : ∀{aJ:List ak} {Kw:Int} {EN:List ak} {r:List ak},G.iV n aJ Kw EN=some r ->
 oV pZ 189 [.one (.own 0 aJ.length 5),acM Kw,.one (.own 1 EN.length 5)] [.dat 5 (ai ak.cells aJ),.dat 5 (ai ak.cells EN)]
  (λr1 b1=>r1 = .one (.own 2 r.length 5)/\b1=[.dead,.dat 5 (ai ak.cells EN),.dat 5 (ai ak.cells r)]):=by
 intro s i v r h;rcases n with _|n<;>simp only[G.iV,reduceCtorEq]at h;exact FG.ins _ (cb:=80) (by decide) K.iV h
theorem F.l9 {n:Nat} : ∀{aJ:List dR} {Kw:Int} {EN:List dR} {r:List dR},G.l9 n aJ Kw EN=some r ->
 oV pZ 188 [.one (.own 0 aJ.length 1),acM Kw,.one (.own 1 EN.length 1)] [.dat 1 (ai cS aJ),.dat 1 (ai cS EN)]
  (λr1 b1=>r1 = .one (.own 2 r.length 1)/\b1=[.dead,.dat 1 (ai cS EN),.dat 1 (ai cS r)]):=by
 intro s i v r h;rcases n with _|n<;>simp only[G.l9,reduceCtorEq]at h;exact FG.ins _ (cb:=16) (by decide) K.l9 h
theorem F.o6 {n:Nat} : ∀{BA eH iD r},G.o6 n BA eH iD=some r->oV pZ 172 [.one (.ptr 0 0),oS eH,.agg (wN iD)] [.var [wI BA.alC,wI BA.Num,wS BA.amV,.own 1 BA.aiJ.length 1,.own 2 BA.ajX.length 5],.dat 1 (ai cS BA.aiJ),.dat 5 (ai ak.cells BA.ajX)] (λr1 b1=>r1 = .zi []/\b1=[.var [wI r.alC,wI r.Num,wS r.amV,.own 3 r.aiJ.length 1,.own 4 r.ajX.length 5],.dead,.dead,.dat 1 (ai cS r.aiJ),.dat 5 (ai ak.cells r.ajX)]):=by intro BA eH iD r h;refine x8 K.o6 (qw ?_);unfold C.o6;rcases n with _|n<;>simp only[G.o6,reduceCtorEq]at h;have z:=ahh (pp @F.slices_BinarySearch_string ()) (pp (pp @F.l9 (@cG [1,11] [101])) <|pp (pp @F.iV (@cG [2,12] [102])) ()) (pp (@Eo [] [(0,0),(1,1),(2,2),(3,1),(4,2)] []) <|pp (@Eo [] [(0,0),(1,1),(2,2),(3,101),(4,102)] []) ());exact tH
theorem F.lH {n:Nat} : ∀{aB jX iD r},G.lH n aB jX iD=some r->dI pZ 199 [.agg (wN aB),oS jX,.agg (wN iD)] (.zi [(true,(wN r.1)),(false,[acL r.2])]):=by intro aB jX iD r h;refine aU K.lH (qw ?_);unfold C.lH;rcases n with _|n<;>simp only[G.lH,reduceCtorEq]at h;have z:=amd (pp @F.fQ <|pp @F.strconv_Itoa ()) (pp (pp @F.wF (@cG [] [101,102])) <|pp (pp @F.wF (@cG [] [103,104])) <|pp (pp @F.o6 (@cH [13,101,102] [105,106])) <|pp (pp @F.wF (@cG [] [112,113])) <|pp (pp @F.iV (@cG [111,14] [114])) ()) (pp (@IE (ak×Int×Bool) _ (λn x=>G.lH.K1 n iD x.1 x.2.1 x.2.2) r (λx=>fH.of [eP 5 107,eP 6 108,eP 8 109,eI 9 x.2.1,eB 10 x.2.2] [(107,.var (wN iD)),(108,.var zN),(109,.var [wI x.1.alC,wI x.1.Num,wS x.1.amV,.own 110 x.1.aiJ.length 1,.own 111 x.1.ajX.length 5]),(110,.dat 1 (ai cS x.1.aiJ)),(111,.dat 5 (ai ak.cells x.1.ajX))])) ()) (pp (bz @G.lH.K1.eq_1 <|@G.lH.K1.eq_2) ()) (pp (@fF [] [(107,11),(108,12),(109,13),(110,101),(111,102)] []) ());exact tH
theorem F.uK {n:Nat} : ∀{zF kM oU zZ r},G.uK n zF kM oU zZ=some r->oV pZ 198 [.agg (wN zF),.one (.ptr 0 0),.one (.ptr 1 0),.one (.ptr 2 0)] [.var [wT kM],.var [wI oU],.var (wN zZ)] (λr1 b1=>r1 = .zi [(true,(wN r.1)),(false,[acL r.2])]/\b1=[.var [wT kM],.var [wI oU],.var (wN zZ)]):=by intro zF kM oU zZ r h;refine x8 K.uK (qw ?_);unfold C.uK;rcases n with _|n<;>simp only[G.uK,reduceCtorEq]at h;have z:=akc (pp @F.lH ()) (pp (@Eo [] [(0,0),(1,1),(2,2)] []) ());exact tH
theorem F.fK {n:Nat} : ∀{aJ r},G.fK n aJ=some r->dI pZ 163 [oS aJ] (oB r):=by intro aJ r h;refine aU K.fK (qw ?_);unfold C.fK;rcases n with _|n<;>simp only[G.fK,reduceCtorEq]at h;have z:=afu (pp (@tZ (Int) _ (λn x=>G.fK.L1 n aJ x) r (λx=>fH.of [eS 0 aJ,eI 3 x] [])) ()) (pp (bz @G.fK.L1.eq_1 <|@G.fK.L1.eq_2) ()) (pp (@fF [] [] []) ());exact tH
theorem F.jZ {n:Nat} : ∀{xg r},G.jZ n xg=some r->dI pZ 164 [oT xg] (oB r):=by intro xg r h;refine aU K.jZ (qw ?_);unfold C.jZ;rcases n with _|n<;>simp only[G.jZ,reduceCtorEq]at h;have z:=afp (pp @F.fK ()) (pp (@tZ (Int) _ (λn x=>G.jZ.L1 n xg x) r (λx=>fH.of [eT 0 xg,eT 8 xg,eI 9 (xg.length:Int),eI 10 x] [])) ()) (pp (bz @G.jZ.L1.eq_1 <|@G.jZ.L1.eq_2) ()) (pp (@fF [] [] []) ());exact tH
theorem F.fU {n:Nat} : ∀{aB r},G.fU n aB=some r->dI pZ 144 [.agg (wN aB)] (oB r):=by intro aB r h;refine aU K.fU (qw ?_);unfold C.fU;rcases n with _|n<;>simp only[G.fU,reduceCtorEq]at h;have z:=agi (pp @F.fK <|pp @F.jZ ()) (pp (@IE (Unit) _ (λn x=>G.fU.K1 n aB) r (λx=>fH.of [eP 1 101,eB 20 false] [(101,.var (wN aB))])) ()) (pp (bz @G.fU.K1.eq_1 <|@G.fU.K1.eq_2) ()) (pp (@fF [] [(101,10)] []) ());exact tH
theorem F.Qc : ∀(n:Nat),∀{aB Aw r},G.fC n aB Aw=some r->dI pZ 119 [.agg (wN aB),acM Aw] (.zi [(false,[wI r.1]),(false,[wI r.2.1]),(false,[acL r.2.2])]):=by
 intro n
 induction n using gG with|_ n ih=>
 intro aB Aw r h;refine aU K.fC (qw ?_);unfold C.fC;rcases n with _|n<;>simp only[G.fC,reduceCtorEq]at h;have z:=afp (pp ih <|pp @F.fU ()) (pp (@tZ (Int×Int×Int) _ (λn x=>G.fC.L1 n aB Aw x.1 x.2.1 x.2.2) r (λx=>fH.of [eI 1 Aw,eI 4 x.1,eI 5 x.2.1,(20,.v true (.one (wK aB.ajX))),eI 21 (aB.ajX.length:Int),eI 22 x.2.2] [])) ()) (pp (bz @G.fC.L1.eq_1 <|@G.fC.L1.eq_2) ()) (pp (@fF [] [] []) ());exact tH
theorem F.fC {n:Nat} : ∀{aB:ak} {Aw:Int} {r:Int×Int×Bool},G.fC n aB Aw=some r->dI pZ 119 [.agg (wN aB),acM Aw] (.zi [(false,[wI r.1]),(false,[wI r.2.1]),(false,[acL r.2.2])]):=F.Qc n
theorem F.bJ {n:Nat} : ∀{aB r},G.bJ n aB=some r->dI pZ 92 [.agg (wN aB)] (oB r):=by intro aB r h;refine aU K.bJ (qw ?_);unfold C.bJ;rcases n with _|n<;>simp only[G.bJ,reduceCtorEq]at h;have z:=afo (pp @F.fC ());exact tH
theorem F.Gv : ∀(n:Nat),∀{aB aN kM oU zZ r},G.jq n aB aN kM oU zZ=some r->oV pZ 197 [.agg (wN aB),oT aN,.one (.fn 198 [0,1,2])] [.var [wT kM],.var [wI oU],.var (wN zZ)] (λr1 b1=>r1 = .zi [(true,(wN r.1)),(false,[acL r.2])]/\b1=[.var [wT kM],.var [wI oU],.var (wN zZ)]):=by
 intro n
 induction n using gG with|_ n ih=>
 intro aB aN kM oU zZ r h;refine x8 K.jq (qw ?_);unfold C.CP;rcases n with _|n<;>simp only[G.jq,reduceCtorEq]at h;have z:=ahh (pp @F.fQ ()) (pp (pp ih (@cG [0,1,2] [])) <|pp (pp @F.uK (@cG [0,1,2] [])) <|pp (pp @F.wF (@cG [] [101,102])) ()) (pp (@Eo [] [(0,0),(1,1),(2,2)] []) <|pp (@Eo [101,102] [(0,0),(1,1),(2,2)] []) ());exact tH
theorem F.jq {n:Nat} : ∀{aB:ak} {aN:List dR} {kM:List dR} {oU:Int} {zZ:ak} {r:ak×Bool},G.jq n aB aN kM oU zZ=some r->oV pZ 197 [.agg (wN aB),oT aN,.one (.fn 198 [0,1,2])] [.var [wT kM],.var [wI oU],.var (wN zZ)] (λr1 b1=>r1 = .zi [(true,(wN r.1)),(false,[acL r.2])]/\b1=[.var [wT kM],.var [wI oU],.var (wN zZ)]):=F.Gv n
theorem F.oZ {n:Nat} : ∀{aB Nr r},G.oZ n aB Nr=some r->dI pZ 154 [.agg (wN aB),oB Nr] (.zi [(true,(wN r.1)),(false,[acL r.2])]):=by intro aB Nr r h;refine aU K.oZ (qw ?_);unfold C.oZ;rcases n with _|n<;>simp only[G.oZ,reduceCtorEq]at h;have z:=afo (pp @F.bJ ());exact tH
theorem F.iT {n:Nat} : ∀{aN r},G.iT n aN=some r->dI pZ 145 [oT aN] (oB r):=by intro aN r h;refine aU K.iT (qw ?_);unfold C.iT;rcases n with _|n<;>simp only[G.iT,reduceCtorEq]at h;have z:=afp (pp @F.fK ()) (pp (@tZ (Int) _ (λn x=>G.iT.L1 n aN x) r (λx=>fH.of [eT 8 aN,eI 9 (aN.length:Int),eI 10 x] [])) ()) (pp (bz @G.iT.L1.eq_1 <|@G.iT.L1.eq_2) ()) (pp (@fF [] [] []) ());exact tH
theorem F.ou {n:Nat} : ∀{aB aN iD r},G.ou n aB aN iD=some r->dI pZ 178 [.agg (wN aB),oT aN,.agg (wN iD)] (.zi [(true,(wN r.1)),(false,[acL r.2])]):=by intro aB aN iD r h;refine aU K.ou (qw ?_);unfold C.ou;rcases n with _|n<;>simp only[G.ou,reduceCtorEq]at h;have z:=ag6 (pp @F.bJ <|pp @F.iT <|pp @F.aV <|pp @F.oZ ()) (pp (pp @F.jq (@cG [11,14,12] [])) ());exact tH
theorem F.kz {n:Nat} : ∀{aB aN r},G.kz n aB aN=some r->dI pZ 204 [.agg (wN aB),oT aN] (.zi [(true,(wN r.1)),(false,[acL r.2])]):=by intro aB aN r h;refine aU K.kz (qw ?_);unfold C.kz;rcases n with _|n<;>simp only[G.kz,reduceCtorEq]at h;have z:=afp (pp @F.fQ ()) (pp (@tZ (Int×Int×Int×dR×List dR×List ak) _ (λn x=>G.kz.L1 n aN x.1 x.2.1 x.2.2.1 x.2.2.2.1 x.2.2.2.2.1 x.2.2.2.2.2) r (λx=>fH.of [eP 2 105,eP 4 106,eT 10 aN,eI 11 (aN.length:Int),eI 12 x.1] [(105,.var [wI x.2.1,wI x.2.2.1,wS x.2.2.2.1,wT x.2.2.2.2.1,wK x.2.2.2.2.2]),(106,.var zN)])) ()) (pp (bz @G.kz.L1.eq_1 <|@G.kz.L1.eq_2) ()) (pp (@fF [] [(105,10),(106,11)] []) <|pp (@fF [] [(105,105),(106,106)] []) ());exact tH
theorem F.um {n:Nat} : ∀{aB aN r},G.um n aB aN=some r->dI pZ 182 [.agg (wN aB),oT aN] (.zi [(true,(wN r.1)),(false,[acL r.2])]):=by intro aB aN r h;refine aU K.um (qw ?_);unfold C.um;rcases n with _|n<;>simp only[G.um,reduceCtorEq]at h;have z:=afo (pp @F.bJ <|pp @F.iT <|pp @F.kz <|pp @F.aV ());exact tH
theorem F.jM {n:Nat} : ∀{aJ:List ak} {Kw:Int} {aaI:Int} {r:List ak},G.jM n aJ Kw aaI=some r ->
 oV pZ 185 [.one (.own 0 aJ.length 5),acM Kw,acM aaI] [.dat 5 (ai ak.cells aJ)]
  (λr1 b1=>r1 = .one (.own 1 r.length 5)/\b1=[.dead,.dat 5 (ai ak.cells r)]):=by
 intro s i j r h;rcases n with _|n<;>simp only[G.jM,reduceCtorEq]at h;exact FG.del _ (cb:=80) (by decide) K.jM h
theorem F.slices_Delete_string {n:Nat} : ∀{aJ:List dR} {Kw:Int} {aaI:Int} {r:List dR},G.slices_Delete_string n aJ Kw aaI=some r ->
 oV pZ 184 [.one (.own 0 aJ.length 1),acM Kw,acM aaI] [.dat 1 (ai cS aJ)]
  (λr1 b1=>r1 = .one (.own 1 r.length 1)/\b1=[.dead,.dat 1 (ai cS r)]):=by
 intro s i j r h;rcases n with _|n<;>simp only[G.slices_Delete_string,reduceCtorEq]at h;exact FG.del _ (cb:=16) (by decide) K.slices_Delete_string h
theorem F.jd {n:Nat} : ∀{zF kM oU r},G.jd n zF kM oU=some r->oV pZ 200 [.agg (wN zF),.one (.ptr 0 0),.one (.ptr 1 0)] [.var [wT kM],.var [wI oU]] (λr1 b1=>r1 = .zi [(true,(wN r.1)),(false,[acL r.2])]/\b1=[.var [wT kM],.var [wI oU]]):=by intro zF kM oU r h;refine x8 K.jd (qw ?_);unfold C.jd;rcases n with _|n<;>simp only[G.jd,reduceCtorEq]at h;have z:=amy (pp @F.fQ ()) (pp (pp @F.wF (@cG [] [101,102])) <|pp (pp @F.slices_Delete_string (@cG [101] [109])) <|pp (pp @F.jM (@cG [107] [108])) ()) (pp (@IE ((Int×Bool)×ak×List dR) _ (λn x=>G.jd.K1 n x.1 x.2.1 x.2.2) r (λx=>fH.of [eP 4 104,eI 6 x.1.1,eP 8 105] [(0,.var [wT kM]),(1,.var [wI oU]),(104,.var zN),(105,.var [wI x.2.1.alC,wI x.2.1.Num,wS x.2.1.amV,.own 106 x.2.2.length 1,.own 107 x.2.1.ajX.length 5]),(106,.dat 1 (ai cS x.2.2)),(107,.dat 5 (ai ak.cells x.2.1.ajX))])) ()) (pp (bz @G.jd.K1.eq_1 <|@G.jd.K1.eq_2) ()) (pp (@fF [] [(0,0),(1,1),(104,11),(105,12),(106,109),(107,102)] []) <|pp (@fF [] [(0,0),(1,1),(104,11),(105,12),(106,101),(107,102)] []) ()) (pp (@Eo [106,108] [(0,0),(1,1)] []) <|pp (@Eo [] [(0,0),(1,1)] []) ());exact tH
theorem F.ER : ∀(n:Nat),∀{aB aN kM oU r},G.iI n aB aN kM oU=some r->oV pZ 197 [.agg (wN aB),oT aN,.one (.fn 200 [0,1])] [.var [wT kM],.var [wI oU]] (λr1 b1=>r1 = .zi [(true,(wN r.1)),(false,[acL r.2])]/\b1=[.var [wT kM],.var [wI oU]]):=by
 intro n
 induction n using gG with|_ n ih=>
 intro aB aN kM oU r h;refine x8 K.iI (qw ?_);unfold C.CP;rcases n with _|n<;>simp only[G.iI,reduceCtorEq]at h;have z:=ahh (pp @F.fQ ()) (pp (pp ih (@cG [0,1] [])) <|pp (pp @F.jd (@cG [0,1] [])) <|pp (pp @F.wF (@cG [] [101,102])) ()) (pp (@Eo [] [(0,0),(1,1)] []) <|pp (@Eo [101,102] [(0,0),(1,1)] []) ());exact tH
theorem F.iI {n:Nat} : ∀{aB:ak} {aN:List dR} {kM:List dR} {oU:Int} {r:ak×Bool},G.iI n aB aN kM oU=some r->oV pZ 197 [.agg (wN aB),oT aN,.one (.fn 200 [0,1])] [.var [wT kM],.var [wI oU]] (λr1 b1=>r1 = .zi [(true,(wN r.1)),(false,[acL r.2])]/\b1=[.var [wT kM],.var [wI oU]]):=F.ER n
theorem F.lS {n:Nat} : ∀{aB aN r},G.lS n aB aN=some r->dI pZ 179 [.agg (wN aB),oT aN] (.zi [(true,(wN r.1)),(false,[acL r.2])]):=by intro aB aN r h;refine aU K.lS (qw ?_);unfold C.lS;rcases n with _|n<;>simp only[G.lS,reduceCtorEq]at h;have z:=ag6 (pp @F.bJ <|pp @F.iT ()) (pp (pp @F.iI (@cG [11,13] [])) ());exact tH
theorem F.uM {n:Nat} : ∀{aF kM r},G.uM n aF kM=some r->oV pZ 202 [.agg (wN aF),.one (.ptr 0 0)] [.var (wN kM)] (λr1 b1=>r1 = .zi [(true,(wN r.1)),(false,[acL r.2])]/\b1=[.var (wN kM)]):=by intro aF kM r h;refine x8 K.uM (qw ?_);unfold C.uM;rcases n with _|n<;>simp only[G.uM,reduceCtorEq]at h;have z:=akc (pp @F.aV ()) (pp (@Eo [] [(0,0)] []) ());exact tH
theorem F.Gw : ∀(n:Nat),∀{aB aN kM r},G.jv n aB aN kM=some r->oV pZ 197 [.agg (wN aB),oT aN,.one (.fn 202 [0])] [.var (wN kM)] (λr1 b1=>r1 = .zi [(true,(wN r.1)),(false,[acL r.2])]/\b1=[.var (wN kM)]):=by
 intro n
 induction n using gG with|_ n ih=>
 intro aB aN kM r h;refine x8 K.jv (qw ?_);unfold C.CP;rcases n with _|n<;>simp only[G.jv,reduceCtorEq]at h;have z:=ahh (pp @F.fQ ()) (pp (pp ih (@cG [0] [])) <|pp (pp @F.uM (@cG [0] [])) <|pp (pp @F.wF (@cG [] [101,102])) ()) (pp (@Eo [] [(0,0)] []) <|pp (@Eo [101,102] [(0,0)] []) ());exact tH
theorem F.jv {n:Nat} : ∀{aB:ak} {aN:List dR} {kM:ak} {r:ak×Bool},G.jv n aB aN kM=some r->oV pZ 197 [.agg (wN aB),oT aN,.one (.fn 202 [0])] [.var (wN kM)] (λr1 b1=>r1 = .zi [(true,(wN r.1)),(false,[acL r.2])]/\b1=[.var (wN kM)]):=F.Gw n
theorem F.uU {n:Nat} : ∀{aB aN iD r},G.uU n aB aN iD=some r->dI pZ 180 [.agg (wN aB),oT aN,.agg (wN iD)] (.zi [(true,(wN r.1)),(false,[acL r.2])]):=by intro aB aN iD r h;refine aU K.uU (qw ?_);unfold C.uU;rcases n with _|n<;>simp only[G.uU,reduceCtorEq]at h;have z:=ag6 (pp @F.bJ <|pp @F.iT <|pp @F.oZ ()) (pp (pp @F.jv (@cG [11] [])) ());exact tH
theorem F.uy {n:Nat} : ∀{mV r},G.uy n mV=some r->dI pZ 120 [.agg (acN mV)] (oB r):=by intro mV r h;refine aU K.uy (qw ?_);unfold C.uy;rcases n with _|n<;>simp only[G.uy,reduceCtorEq]at h;have z:=afo (pp @F.iT <|pp @F.bJ ());exact tH
theorem F.slices_Equal_string {n:Nat} : ∀{JG MN r},G.slices_Equal_string n JG MN=some r->dI pZ 203 [oT JG,oT MN] (oB r):=by intro JG MN r h;refine aU K.slices_Equal_string (qw ?_);unfold C.slices_Equal_string;rcases n with _|n<;>simp only[G.slices_Equal_string,reduceCtorEq]at h;have z:=afu (pp (@tZ (Int) _ (λn x=>G.slices_Equal_string.L1 n JG MN x) r (λx=>fH.of [eT 0 JG,eT 1 MN,eI 12 (JG.length:Int),eI 13 x] [])) ()) (pp (bz @G.slices_Equal_string.L1.eq_1 <|@G.slices_Equal_string.L1.eq_2) ()) (pp (@fF [] [] []) ());exact tH
theorem F.uj {n:Nat} : ∀{aB DV aN r},G.uj n aB DV aN=some r->dI pZ 181 [.agg (wN aB),oT DV,oT aN] (.zi [(true,(wN r.1)),(false,[acL r.2])]):=by intro aB DV aN r h;refine aU K.uj (qw ?_);unfold C.uj;rcases n with _|n<;>simp only[G.uj,reduceCtorEq]at h;have z:=afo (pp @F.um <|pp @F.slices_Equal_string <|pp @F.aV <|pp @F.lS <|pp @F.ou ());exact tH
theorem F.gU {n:Nat} : ∀{aF eF r},G.gU n aF eF=some r->dI pZ 146 [oS aF,oS eF] (acM r):=by intro aF eF r h;refine aU K.gU (qw ?_);unfold C.gU;rcases n with _|n<;>simp only[G.gU,reduceCtorEq]at h;have z:=afw;exact tH
theorem F.strings_Compare {n:Nat} : ∀{aF eF r},G.strings_Compare n aF eF=some r->dI pZ 123 [oS aF,oS eF] (acM r):=by intro aF eF r h;refine aU K.strings_Compare (qw ?_);unfold C.strings_Compare;rcases n with _|n<;>simp only[G.strings_Compare,reduceCtorEq]at h;have z:=afo (pp @F.gU ());exact tH
theorem F.Pj : ∀(n:Nat),∀{aF eF r},G.dw n aF eF=some r->dI pZ 218 [.agg (wN aF),.agg (wN eF)] (acM r):=by
 intro n
 induction n using gG with|_ n ih=>
 intro aF eF r h;refine aU K.dw (qw ?_);unfold C.dw;rcases n with _|n<;>simp only[G.dw,reduceCtorEq]at h;have z:=ahi (pp ih <|pp @F.cmp_Compare_int <|pp @F.strings_Compare ()) (pp (@tZ (Int) _ (λn x=>G.dw.L3 n aF eF x) r (λx=>fH.of [eP 2 109,eP 3 110,eI 8 x] [(109,.var (wN aF)),(110,.var (wN eF))])) ()) (pp (@IE (Int) _ (λn x=>G.dw.K4 n aF eF x) r (λx=>fH.of [eP 2 111,eP 3 112,eI 8 x] [(111,.var (wN aF)),(112,.var (wN eF))])) ()) (pp (bz @G.dw.L3.eq_1 <|bz @G.dw.L3.eq_2 <|bz @G.dw.K4.eq_1 <|@G.dw.K4.eq_2) ()) (pp (@fF [] [(109,10),(110,11)] []) <|pp (@fF [] [(111,109),(112,110)] []) <|pp (@fF [] [(109,111),(110,112)] []) ());exact tH
theorem F.dw {n:Nat} : ∀{aF:ak} {eF:ak} {r:Int},G.dw n aF eF=some r->dI pZ 218 [.agg (wN aF),.agg (wN eF)] (acM r):=F.Pj n
theorem F.uk {n:Nat} : ∀{aF eF r},G.uk n aF eF=some r->dI pZ 205 [.agg (wN aF),.agg (wN eF)] (oB r):=by intro aF eF r h;refine aU K.uk (qw ?_);unfold C.uk;rcases n with _|n<;>simp only[G.uk,reduceCtorEq]at h;have z:=afo (pp @F.dw ());exact tH
theorem F.rP {n:Nat} : ∀{aB aN iD r},G.rP n aB aN iD=some r->dI pZ 183 [.agg (wN aB),oT aN,.agg (wN iD)] (.zi [(true,(wN r.1)),(false,[acL r.2])]):=by intro aB aN iD r h;refine aU K.rP (qw ?_);unfold C.rP;rcases n with _|n<;>simp only[G.rP,reduceCtorEq]at h;have z:=afo (pp @F.kz <|pp @F.uk <|pp @F.aV ());exact tH
theorem F.ru {n:Nat} : ∀{aB mV r},G.ru n aB mV=some r->dI pZ 169 [.agg (wN aB),.agg (acN mV)] (.zi [(true,(wN r.1)),(false,[acL r.2])]):=by intro aB mV r h;refine aU K.ru (qw ?_);unfold C.ru;rcases n with _|n<;>simp only[G.ru,reduceCtorEq]at h;have z:=afo (pp @F.bJ <|pp @F.uy <|pp @F.ou <|pp @F.lS <|pp @F.uU <|pp @F.uj <|pp @F.um <|pp @F.rP ());exact tH
theorem F.eX {n:Nat} : ∀{aH r},G.eX n aH=some r->dI pZ 94 [.one (w8 aH)] (oB r):=by intro aH r h;refine aU K.eX (qw ?_);unfold C.eX;rcases n with _|n<;>simp only[G.eX,reduceCtorEq]at h;have z:=afp (pp @F.uy ()) (pp (@tZ (Int) _ (λn x=>G.eX.L1 n aH x) r (λx=>fH.of [(8,.v true (.one (w8 aH))),eI 9 (aH.length:Int),eI 10 x] [])) ()) (pp (bz @G.eX.L1.eq_1 <|@G.eX.L1.eq_2) ()) (pp (@fF [] [] []) ());exact tH
theorem F.kV {n:Nat} : ∀{aB aH r},G.kV n aB aH=some r->dI pZ 153 [.agg (wN aB),.one (w8 aH)] (.zi [(true,(wN r.1)),(false,[wI r.2])]):=by intro aB aH r h;refine aU K.kV (qw ?_);unfold C.kV;rcases n with _|n<;>simp only[G.kV,reduceCtorEq]at h;have z:=afp (pp @F.aV <|pp @F.ru ()) (pp (@tZ (Int×Int×Int×dR×List dR×List ak) _ (λn x=>G.kV.L1 n aH x.1 x.2.1 x.2.2.1 x.2.2.2.1 x.2.2.2.2.1 x.2.2.2.2.2) r (λx=>fH.of [(1,.v true (.one (w8 aH))),eP 4 105,eP 6 106,(13,.v true (.one (w8 aH))),eI 14 (aH.length:Int),eI 15 x.1] [(105,.var zN),(106,.var [wI x.2.1,wI x.2.2.1,wS x.2.2.2.1,wT x.2.2.2.2.1,wK x.2.2.2.2.2])])) ()) (pp (bz @G.kV.L1.eq_1 <|@G.kV.L1.eq_2) ()) (pp (@fF [] [(105,11),(106,12)] []) <|pp (@fF [] [(105,105),(106,106)] []) ());exact tH
theorem F.qJ {n:Nat} : ∀{aB aH r},G.qJ n aB aH=some r->dI pZ 130 [.agg (wN aB),.one (w8 aH)] (.zi [(true,(wN r.1)),(false,[acL r.2])]):=by intro aB aH r h;refine aU K.qJ (qw ?_);unfold C.qJ;rcases n with _|n<;>simp only[G.qJ,reduceCtorEq]at h;have z:=afo (pp @F.bJ <|pp @F.eX <|pp @F.kV ());exact tH
theorem F.jJ {n:Nat} : ∀{aJ QC r},G.jJ n aJ QC=some r->dI pZ 151 [oS aJ,.one (.c (.lit (.int .u8 QC)))] (acM r):=by intro aJ QC r h;refine aU K.jJ (qw ?_);unfold C.jJ;rcases n with _|n<;>simp only[G.jJ,reduceCtorEq]at h;have z:=afw;exact tH
theorem F.strings_IndexByte {n:Nat} : ∀{aJ QC r},G.strings_IndexByte n aJ QC=some r->dI pZ 127 [oS aJ,.one (.c (.lit (.int .u8 QC)))] (acM r):=by intro aJ QC r h;refine aU K.strings_IndexByte (qw ?_);unfold C.strings_IndexByte;rcases n with _|n<;>simp only[G.strings_IndexByte,reduceCtorEq]at h;have z:=afo (pp @F.jJ ());exact tH
theorem F.oM {n:Nat} : ∀{aJ r},G.oM n aJ=some r->dI pZ 99 [oS aJ] (oB r):=by intro aJ r h;refine aU K.oM (qw ?_);unfold C.oM;rcases n with _|n<;>simp only[G.oM,reduceCtorEq]at h;have z:=afp (pp @F.strings_IndexByte ()) (pp (@tZ (Int) _ (λn x=>G.oM.L1 n aJ x) r (λx=>fH.of [eS 0 aJ,eI 3 x] [])) ()) (pp (bz @G.oM.L1.eq_1 <|@G.oM.L1.eq_2) ()) (pp (@fF [] [] []) ());exact tH
theorem F.jG {n:Nat} : ∀{aH r},G.jG n aH=some r->dI pZ 93 [oT aH] (oB r):=by intro aH r h;refine aU K.jG (qw ?_);unfold C.jG;rcases n with _|n<;>simp only[G.jG,reduceCtorEq]at h;have z:=afp (pp @F.oM ()) (pp (@tZ (Int) _ (λn x=>G.jG.L1 n aH x) r (λx=>fH.of [eT 8 aH,eI 9 (aH.length:Int),eI 10 x] [])) ()) (pp (bz @G.jG.L1.eq_1 <|@G.jG.L1.eq_2) ()) (pp (@fF [] [] []) ());exact tH
theorem F.slices_Index_string {n:Nat} : ∀{aJ EN r},G.slices_Index_string n aJ EN=some r->dI pZ 152 [oT aJ,oS EN] (acM r):=by intro aJ EN r h;refine aU K.slices_Index_string (qw ?_);unfold C.slices_Index_string;rcases n with _|n<;>simp only[G.slices_Index_string,reduceCtorEq]at h;have z:=afu (pp (@tZ (Int) _ (λn x=>G.slices_Index_string.L1 n aJ EN x) r (λx=>fH.of [eT 0 aJ,eS 1 EN,eI 7 (aJ.length:Int),eI 8 x] [])) ()) (pp (bz @G.slices_Index_string.L1.eq_1 <|@G.slices_Index_string.L1.eq_2) ()) (pp (@fF [] [] []) ());exact tH
theorem F.slices_Contains_string {n:Nat} : ∀{aJ EN r},G.slices_Contains_string n aJ EN=some r->dI pZ 128 [oT aJ,oS EN] (oB r):=by intro aJ EN r h;refine aU K.slices_Contains_string (qw ?_);unfold C.slices_Contains_string;rcases n with _|n<;>simp only[G.slices_Contains_string,reduceCtorEq]at h;have z:=afo (pp @F.slices_Index_string ());exact tH
theorem F.qx {n:Nat} : ∀{aH sW r},G.qx n aH sW=some r->dI pZ 100 [oT aH,oS sW] (oB r):=by intro aH sW r h;refine aU K.qx (qw ?_);unfold C.qx;rcases n with _|n<;>simp only[G.qx,reduceCtorEq]at h;have z:=afo (pp @F.slices_Contains_string ());exact tH
theorem F.kK {n:Nat} : ∀{yZ vg sW xQ r},G.kK n yZ vg sW xQ=some r->dI pZ 48 [oT yZ,oT vg,oS sW,oB xQ] (acM r):=by intro yZ vg sW xQ r h;refine aU K.kK (qw ?_);unfold C.kK;rcases n with _|n<;>simp only[G.kK,reduceCtorEq]at h;have z:=agi (pp @F.jG <|pp @F.oM <|pp @F.qx ()) (pp (@IE (Unit) _ (λn x=>G.kK.K1 n yZ vg sW xQ) r (λx=>fH.of [eT 0 yZ,eT 1 vg,eS 2 sW,eB 3 xQ,eB 25 false] [])) ()) (pp (bz @G.kK.K1.eq_1 <|@G.kK.K1.eq_2) ()) (pp (@fF [] [] []) ());exact tH
theorem F.jR {n:Nat} : ∀{aJ r},G.jR n aJ=some r->dI pZ 91 [oS aJ] (oB r):=by intro aJ r h;refine aU K.jR (qw ?_);unfold C.jR;rcases n with _|n<;>simp only[G.jR,reduceCtorEq]at h;have z:=afu (pp (@tZ (Int) _ (λn x=>G.jR.L1 n aJ x) r (λx=>fH.of [eS 0 aJ,eI 3 x] [])) ()) (pp (bz @G.jR.L1.eq_1 <|@G.jR.L1.eq_2) ()) (pp (@fF [] [] []) ());exact tH
theorem F.bM {n:Nat} : ∀{aJ r},G.bM n aJ=some r->dI pZ 43 [.agg (aeA aJ)] (oB r):=by intro aJ r h;refine aU K.bM (qw ?_);unfold C.bM;rcases n with _|n<;>simp only[G.bM,reduceCtorEq]at h;have z:=afp (pp @F.jR <|pp @F.bJ ()) (pp (@tZ (Int) _ (λn x=>G.bM.L1 n aJ x) r (λx=>fH.of [eP 1 103,(20,.v true (.one (w7 aJ.akj))),eI 21 (aJ.akj.length:Int),eI 22 x] [(103,.var (aeA aJ))])) ()) (pp (bz @G.bM.L1.eq_1 <|@G.bM.L1.eq_2) ()) (pp (@fF [] [(103,10)] []) <|pp (@fF [] [(103,103)] []) ());exact tH
theorem F.rO {n:Nat} : ∀{pX r},G.rO n pX=some r->dI pZ 96 [.agg (adH pX)] (.agg (adH r)):=by intro pX r h;refine aU K.rO (qw ?_);unfold C.rO;rcases n with _|n<;>simp only[G.rO,reduceCtorEq]at h;have z:=afo (pp @F.aV ());exact tH
theorem F.dG {n:Nat} : ∀{aJ r},G.dG n aJ=some r->dI pZ 46 [.agg (aeA aJ)] (.agg (aeA r)):=by intro aJ r h;refine aU K.dG (qw ?_);unfold C.dG;rcases n with _|n<;>simp only[G.dG,reduceCtorEq]at h;have z:=afp (pp @F.rO ()) (pp (@tZ (Int×List bg) _ (λn x=>G.dG.L1 n aJ x.1 x.2) r (λx=>fH.of [eP 2 107,eP 3 108,(19,.v true (.one (w7 aJ.akj))),eI 20 (aJ.akj.length:Int),eI 21 x.1] [(107,.var [.lF 7,wI 0]),(108,.var [.own 109 x.2.length 7,wI aJ.amJ]),(109,.dat 7 (ai bg.cells x.2))])) ()) (pp (bz @G.dG.L1.eq_1 <|@G.dG.L1.eq_2) ()) (pp (@fF [] [(107,11),(108,12),(109,13)] []) <|pp (@fF [] [(107,107),(108,108),(109,109)] []) ());exact tH
theorem F.KN {n:Nat} : ∀{aJ r},G.dG n aJ=some r->oV pZ 46 [.agg (aeA aJ)] [] (λr1 b1=>r1 = .agg [.own 0 r.akj.length 7,wI r.amJ]/\b1=[.dat 7 (ai bg.cells r.akj)]):=by intro aJ r h;refine x8 K.dG (qw ?_);unfold C.dG;rcases n with _|n<;>simp only[G.dG,reduceCtorEq]at h;have z:=akd (pp @F.rO ()) (pp (@tZ (Int×List bg) _ (λn x=>G.dG.L1 n aJ x.1 x.2) r (λx=>fH.of [eP 2 107,eP 3 108,(19,.v true (.one (w7 aJ.akj))),eI 20 (aJ.akj.length:Int),eI 21 x.1] [(107,.var [.lF 7,wI 0]),(108,.var [.own 109 x.2.length 7,wI aJ.amJ]),(109,.dat 7 (ai bg.cells x.2))])) ()) (pp (bz @G.dG.L1.eq_1 <|@G.dG.L1.eq_2) ()) (pp (@fF [] [(107,11),(108,12),(109,13)] []) <|pp (@fF [] [(107,107),(108,108),(109,109)] []) ()) (pp (@Eo [] [(0,109)] []) <|pp (@Eo [] [] [0]) ());exact tH
theorem F.rY {n:Nat} : ∀{pX eH r},G.rY n pX eH=some r->dI pZ 122 [.agg (adH pX),oS eH] (acM r):=by intro pX eH r h;refine aU K.rY (qw ?_);unfold C.rY;rcases n with _|n<;>simp only[G.rY,reduceCtorEq]at h;have z:=afo (pp @F.strings_Compare ());exact tH
theorem F.aO {n:Nat} : ∀{uI rE r},G.aO n uI rE=some r->dI pZ 121 [.one (w7 uI),oS rE,.one (.fn 122 [])] (.zi [(false,[wI r.1]),(false,[acL r.2])]):=by intro uI rE r h;refine aU K.aO (qw ?_);unfold C.xR;rcases n with _|n<;>simp only[G.aO,reduceCtorEq]at h;have z:=afp (pp @F.rY ()) (pp (@tZ (Int×Int) _ (λn x=>G.aO.L1 n uI rE x.1 x.2) r (λx=>fH.of [(0,.v true (.one (w7 uI))),eS 1 rE,(2,.v true (.one (.fn 122 []))),eI 8 (uI.length:Int),eI 9 x.1,eI 10 x.2] [])) ()) (pp (bz @G.aO.L1.eq_1 <|@G.aO.L1.eq_2) ()) (pp (@fF [] [] []) ());exact tH
theorem F.nM {n:Nat} : ∀{zL eH r},G.nM n zL eH=some r->dI pZ 95 [.one (w7 zL),oS eH] (.zi [(false,[wI r.1]),(false,[acL r.2])]):=by intro zL eH r h;refine aU K.nM (qw ?_);unfold C.nM;rcases n with _|n<;>simp only[G.nM,reduceCtorEq]at h;have z:=akb (pp (pp @F.aO (@cG [] [])) ());exact tH
theorem F.nN {n:Nat} : ∀{aJ:List bg} {Kw:Int} {aaI:Int} {r:List bg},G.nN n aJ Kw aaI=some r ->
 oV pZ 129 [.one (.own 0 aJ.length 7),acM Kw,acM aaI] [.dat 7 (ai bg.cells aJ)]
  (λr1 b1=>r1 = .one (.own 1 r.length 7)/\b1=[.dead,.dat 7 (ai bg.cells r)]):=by
 intro s i j r h;rcases n with _|n<;>simp only[G.nN,reduceCtorEq]at h;exact FG.del _ (cb:=104) (by decide) K.nN h
theorem F.uh {n:Nat} : ∀{aJ eH r},G.uh n aJ eH=some r->dI pZ 101 [.agg (aeA aJ),oS eH] (.zi [(true,(aeA r.1)),(false,[acL r.2])]):=by intro aJ eH r h;refine aU K.uh (qw ?_);unfold C.uh;rcases n with _|n<;>simp only[G.uh,reduceCtorEq]at h;have z:=ag6 (pp @F.bM <|pp @F.nM ()) (pp (pp @F.KN (@cG [] [101])) <|pp (pp @F.nN (@cG [101] [102])) ());exact tH
theorem B.lays167 : Go.Proofs.Lays.n167 pZ B.ren:=by constructor<;>first|kernel_rfl|(intro w;kernel_rfl)
theorem F.bY {n:Nat} : ∀{DZ:jF} {QC:Int} {r:Unit×jF},G.bY n DZ QC=some r->oV pZ 150 [.one (.ptr 0 0),.one (.c (.lit (.int .u8 QC)))] [.var [.opt 155 0,.yV 1 DZ.buf.length],.row 5 DZ.buf] (λr1 b1=>r1 = .one (.c (.lit .nilIface))/\b1=[.var [.opt 155 0,.yV 2 r.2.buf.length],.dead,.row 5 r.2.buf]):=by intro b c r h;rcases n with _|n<;>simp only[G.bY,reduceCtorEq]at h;obtain⟨⟨hc,hl⟩,h⟩:=Eg.1 h;cases h;exact Y6 B.lays167 B.x hc hl
theorem F.gK {n:Nat} : ∀{DZ aJ r},G.gK n DZ aJ=some r->oV pZ 149 [.one (.ptr 0 0),oS aJ] [.var [.opt 155 0,.yV 1 DZ.buf.length],.row 5 DZ.buf] (λr1 b1=>r1 = .zi []/\b1=[.var [.opt 155 0,.yV 2 r.buf.length],.dead,.row 5 r.buf]):=by intro DZ aJ r h;refine x8 K.gK (qw ?_);unfold C.gK;rcases n with _|n<;>simp only[G.gK,reduceCtorEq]at h;have z:=amb (pp (pp @F.bY (@cG [0,1] [101])) <|pp (pp @F.bY (@cG [0,116] [121])) <|pp (pp @F.bY (@cG [0,116] [122])) <|pp (pp @F.bY (@cG [0,119] [120])) <|pp (pp @F.bY (@cG [0,116] [123])) ()) (pp (@tZ (Int×dR) _ (λn x=>G.gK.L3 n aJ x.1 x.2) r (λx=>fH.of [eP 0 0,eS 1 aJ,eI 4 x.1] [(0,.var [.opt 155 0,.yV 116 x.2.length]),(1,.dead),(116,.row 5 x.2)])) ()) (pp (@IE (Int×dR) _ (λn x=>G.gK.K4 n aJ x.1 x.2) r (λx=>fH.of [eP 0 0,eS 1 aJ,eI 4 x.1] [(0,.var [.opt 155 0,.yV 119 x.2.length]),(1,.dead),(119,.row 5 x.2)])) ()) (pp (bz @G.gK.L3.eq_1 <|bz @G.gK.L3.eq_2 <|bz @G.gK.K4.eq_1 <|@G.gK.K4.eq_2) ()) (pp (@fF [] [(0,0),(1,1),(116,101)] []) <|pp (@fF [] [(0,0),(1,1),(119,121)] []) <|pp (@fF [] [(0,0),(1,1),(119,122)] []) <|pp (@fF [] [(0,0),(1,1),(119,116)] []) <|pp (@fF [] [(0,0),(1,1),(116,120)] []) ()) (pp (@Eo [] [(0,0),(1,1),(2,123)] []) <|pp (@Eo [] [(0,0),(1,1),(2,121)] []) ());exact tH
theorem B.lays166 : Go.Proofs.Lays.n166 pZ B.ren:=by constructor<;>first|kernel_rfl|(intro w;kernel_rfl)
theorem F.mM {n:Nat} : ∀{DZ:jF} {aJ:dR} {r:Int×Unit×jF},G.mM n DZ aJ=some r->oV pZ 147 [.one (.ptr 0 0),oS aJ] [.var [.opt 155 0,.yV 1 DZ.buf.length],.row 5 DZ.buf] (λr1 b1=>r1 = .zi [(false,[wI r.1]),(false,[.c (.lit .nilIface)])]/\b1=[.var [.opt 155 0,.yV 2 r.2.2.buf.length],.dead,.row 5 r.2.2.buf]):=by intro b s r h;rcases n with _|n<;>simp only[G.mM,reduceCtorEq]at h;obtain⟨hl,h⟩:=Eg.1 h;cases h;exact VT B.lays166 B.x hl
theorem F.TD : ∀(n:Nat),∀{DZ aB r},G.di n DZ aB=some r->oV pZ 125 [.one (.ptr 0 0),.agg (wN aB)] [.var [.opt 155 0,.yV 1 DZ.buf.length],.row 5 DZ.buf] (λr1 b1=>r1 = .zi []/\b1=[.var [.opt 155 0,.yV 2 r.buf.length],.dead,.row 5 r.buf]):=by
 intro n
 induction n using gG with|_ n ih=>
 intro DZ aB r h;refine x8 K.di (qw ?_);unfold C.di;rcases n with _|n<;>simp only[G.di,reduceCtorEq]at h;have:=Mk.mk 1;have:=Mk.mk 2;have z:=alx (pp @F.strconv_Itoa ()) (pp (pp ih (@cG [0,118] [119])) <|pp (pp ih (@cG [0,148] [149])) <|pp (pp @F.mM (@cG [0,1] [101])) <|pp (pp @F.mM (@cG [0,1] [102])) <|pp (pp @F.gK (@cG [0,1] [103])) <|pp (pp @F.bY (@cG [0,1] [104])) <|pp (pp @F.bY (@cG [0,115] [120])) <|pp (pp @F.bY (@cG [0,115] [121])) <|pp (pp @F.bY (@cG [0,1] [122])) <|pp (pp @F.bY (@cG [0,142] [150])) <|pp (pp @F.gK (@cG [0,146] [147])) <|pp (pp @F.bY (@cG [0,147] [148])) <|pp (pp @F.bY (@cG [0,142] [151])) ()) (pp (@tZ (Int×dR) _ (λn x=>G.di.L3 n aB x.1 x.2) r (λx=>fH.of [eP 0 0,(32,.v true (.one (wK aB.ajX))),eI 33 (aB.ajX.length:Int),eI 34 x.1] [(0,.var [.opt 155 0,.yV 115 x.2.length]),(1,.dead),(115,.row 5 x.2)])) <|pp (@tZ (Int×dR) _ (λn x=>G.di.L7 n aB x.1 x.2) r (λx=>fH.of [eP 0 0,eP 3 141,(54,.v true (.one (wK aB.ajX))),eI 55 (aB.ajX.length:Int),eI 56 x.1] [(0,.var [.opt 155 0,.yV 142 x.2.length]),(1,.dead),(141,.var (wN aB)),(142,.row 5 x.2)])) ()) (pp (@IE (Int×dR) _ (λn x=>G.di.K4 n aB x.1 x.2) r (λx=>fH.of [eP 0 0,eP 5 117,(32,.v true (.one (wK aB.ajX))),eI 33 (aB.ajX.length:Int),eI 34 x.1] [(0,.var [.opt 155 0,.yV 118 x.2.length]),(1,.dead),(117,.var [wI ((aB.ajX.getD x.1.toNat default).alC),wI ((aB.ajX.getD x.1.toNat default).Num),wS ((aB.ajX.getD x.1.toNat default).amV),wT ((aB.ajX.getD x.1.toNat default).aiJ),wK ((aB.ajX.getD x.1.toNat default).ajX)]),(118,.row 5 x.2)])) <|pp (@IE (Int×dR) _ (λn x=>G.di.K8 n aB x.1 x.2) r (λx=>fH.of [eP 0 0,eP 3 144,eI 6 x.1,eP 7 145,(54,.v true (.one (wK aB.ajX))),eI 55 (aB.ajX.length:Int),eI 56 x.1] [(0,.var [.opt 155 0,.yV 146 x.2.length]),(1,.dead),(144,.var (wN aB)),(145,.var [wI ((aB.ajX.getD x.1.toNat default).alC),wI ((aB.ajX.getD x.1.toNat default).Num),wS ((aB.ajX.getD x.1.toNat default).amV),wT ((aB.ajX.getD x.1.toNat default).aiJ),wK ((aB.ajX.getD x.1.toNat default).ajX)]),(146,.row 5 x.2)])) ()) (pp (bz @G.di.L3.eq_1 <|bz @G.di.L3.eq_2 <|bz @G.di.K4.eq_1 <|bz @G.di.K4.eq_2 <|bz @G.di.L7.eq_1 <|bz @G.di.L7.eq_2 <|bz @G.di.K8.eq_1 <|@G.di.K8.eq_2) ()) (pp (@fF [] [(0,0),(1,1),(115,104)] []) <|pp (@fF [] [(0,0),(1,1),(117,11),(118,120)] []) <|pp (@fF [] [(0,0),(1,1),(117,11),(118,115)] []) <|pp (@fF [] [(0,0),(1,1),(115,119)] []) <|pp (@fF [] [(0,0),(1,1),(141,10),(142,122)] []) <|pp (@fF [] [(0,0),(1,1),(144,141),(145,12),(146,150)] []) <|pp (@fF [] [(0,0),(1,1),(144,141),(145,12),(146,142)] []) <|pp (@fF [] [(0,0),(1,1),(141,144),(142,149)] []) <|pp (@fF [] [(0,0),(1,1),(141,10),(142,104)] []) ()) (pp (@Eo [] [(0,0),(1,1),(2,101)] []) <|pp (@Eo [] [(0,0),(1,1),(2,102)] []) <|pp (@Eo [] [(0,0),(1,1),(2,103)] []) <|pp (@Eo [] [(0,0),(1,1),(2,121)] []) <|pp (@Eo [] [(0,0),(1,1),(2,151)] []) <|pp (@Eo [] [(0,0),(1,1),(2,1)] []) <|pp (@Eo [] [(0,0),(1,1),(2,120)] []) <|pp (@Eo [] [(0,0),(1,1),(2,150)] []) ()) (pp (pp (rfl : @G.di.K4=_) <|pp (rfl : @G.di.L3=_) ()) <|pp (pp (rfl : @G.di.K8=_) <|pp (rfl : @G.di.L7=_) ()) ());exact ahV
theorem F.di {n:Nat} : ∀{DZ:jF} {aB:ak} {r:jF},G.di n DZ aB=some r->oV pZ 125 [.one (.ptr 0 0),.agg (wN aB)] [.var [.opt 155 0,.yV 1 DZ.buf.length],.row 5 DZ.buf] (λr1 b1=>r1 = .zi []/\b1=[.var [.opt 155 0,.yV 2 r.buf.length],.dead,.row 5 r.buf]):=F.TD n
theorem B.lays169 : Go.Proofs.Lays.n169 pZ B.ren:=by constructor<;>first|kernel_rfl|(intro w;kernel_rfl)
theorem F.uC {n:Nat} : ∀{DZ:jF} {r:dR},G.uC n DZ=some r->oV pZ 126 [.one (.ptr 0 0)] [.var [.opt 155 0,.yV 1 DZ.buf.length],.row 5 DZ.buf] (λr1 b1=>r1=oS r/\b1=[.dead,.dead]):=by intro b r h;rcases n with _|n<;>simp only[G.uC,reduceCtorEq]at h;obtain⟨hl,h⟩:=Eg.1 h;cases h;exact afH B.lays169 B.x (bH hl (by decide))
theorem F.qK {n:Nat} : ∀{aB r},G.qK n aB=some r->dI pZ 98 [.agg (wN aB)] (oS r):=by intro aB r h;refine aU K.qK (qw ?_);unfold C.qK;rcases n with _|n<;>simp only[G.qK,reduceCtorEq]at h;have z:=ag6 (pp @F.bJ ()) (pp (pp @F.di (@cG [12,11] [101])) <|pp (pp @F.uC (@cG [12,101] [])) ());exact tH
theorem F.uS {n:Nat} : ∀{aJ eH r},G.uS n aJ eH=some r->dI pZ 45 [.agg (aeA aJ),oS eH] (.zi [(true,(adH r.1)),(false,[acL r.2])]):=by intro aJ eH r h;refine aU K.uS (qw ?_);unfold C.uS;rcases n with _|n<;>simp only[G.uS,reduceCtorEq]at h;have z:=afo (pp @F.bM <|pp @F.nM <|pp @F.rO ());exact tH
theorem F.je {n:Nat} : ∀{aJ r},G.je n aJ=some r->dI pZ 97 [oS aJ] (oS r):=by intro aJ r h;refine aU K.je (qw ?_);unfold C.je;rcases n with _|n<;>simp only[G.je,reduceCtorEq]at h;have z:=afu (pp (@tZ (Int×Int) _ (λn x=>G.je.L1 n aJ x.1 x.2) r (λx=>fH.of [eS 0 aJ,eI 3 x.1,eI 4 x.2] [])) <|pp (@tZ (Int×Int×List Int) _ (λn x=>G.je.L2 n x.1 x.2.1 x.2.2) r (λx=>fH.of [eI 3 x.1,(5,.v true (.one (.Bc 103 0 1 0))),eI 6 x.2.1] [(103,.dat 1 (ai cU x.2.2))])) ()) (pp (bz @G.je.L1.eq_1 <|bz @G.je.L1.eq_2 <|bz @G.je.L2.eq_1 <|@G.je.L2.eq_2) ()) (pp (@fF [] [] []) <|pp (@fF [] [(103,10)] []) <|pp (@fF [] [(103,103)] []) ());exact tH
theorem F.vk {n:Nat} : ∀{aB r},G.vk n aB=some r->dI pZ 47 [.agg (wN aB)] (oS r):=by intro aB r h;refine aU K.vk (qw ?_);unfold C.vk;rcases n with _|n<;>simp only[G.vk,reduceCtorEq]at h;have z:=afo (pp @F.bJ <|pp @F.qK <|pp @F.je ());exact tH
theorem F.qM {n:Nat} : ∀{aJ fJ r},G.qM n aJ fJ=some r->dI pZ 49 [.agg (aeA aJ),.agg (aeQ fJ)] (.zi [(true,(aeA r.1)),(true,(aeT r.2))]):=by intro aJ fJ r h;refine aU K.qM (qw ?_);unfold C.qM;rcases n with _|n<;>simp only[G.qM,reduceCtorEq]at h;have z:=afo (pp @F.uh <|pp @F.dG ());exact tH
theorem F.nO {n:Nat} : ∀{aJ:List bg} {Kw:Int} {EN:List bg} {r:List bg},G.nO n aJ Kw EN=some r ->
 oV pZ 156 [.one (.own 0 aJ.length 7),acM Kw,.one (.own 1 EN.length 7)] [.dat 7 (ai bg.cells aJ),.dat 7 (ai bg.cells EN)]
  (λr1 b1=>r1 = .one (.own 2 r.length 7)/\b1=[.dead,.dat 7 (ai bg.cells EN),.dat 7 (ai bg.cells r)]):=by
 intro s i v r h;rcases n with _|n<;>simp only[G.nO,reduceCtorEq]at h;exact FG.ins _ (cb:=104) (by decide) K.nO h
theorem F.xh {n:Nat} : ∀{zL pX r},G.xh n zL pX=some r->oV pZ 132 [.one (.own 0 zL.length 7),.agg (adH pX)] [.dat 7 (ai bg.cells zL)] (λr1 b1=>r1 = .one (.own 1 r.length 7)/\b1=[.dead,.dat 7 (ai bg.cells r)]):=by intro zL pX r h;refine x8 K.xh (qw ?_);unfold C.xh;rcases n with _|n<;>simp only[G.xh,reduceCtorEq]at h;have z:=ahh (pp @F.nM ()) (pp (pp @F.nO (@cG [0,11] [101])) ()) (pp (@Eo [] [(0,0),(1,0)] []) <|pp (@Eo [] [(0,0),(1,101)] []) ());exact tH
theorem F.uT {n:Nat} : ∀{aJ eH aB r},G.uT n aJ eH aB=some r->dI pZ 103 [.agg (aeA aJ),oS eH,.agg (wN aB)] (.zi [(true,(aeA r.1)),(false,[acL r.2])]):=by intro aJ eH aB r h;refine aU K.uT (qw ?_);unfold C.uT;rcases n with _|n<;>simp only[G.uT,reduceCtorEq]at h;have z:=ag6 (pp @F.bM <|pp @F.jR <|pp @F.bJ <|pp @F.aV ()) (pp (pp @F.KN (@cG [] [101])) <|pp (pp @F.xh (@cG [101] [102])) ());exact tH
theorem F.vH {n:Nat} : ∀{BA eH r},G.vH n BA eH=some r->oV pZ 170 [.one (.ptr 0 0),oS eH] [.var [wI BA.alC,wI BA.Num,wS BA.amV,.own 1 BA.aiJ.length 1,.own 2 BA.ajX.length 5],.dat 1 (ai cS BA.aiJ),.dat 5 (ai ak.cells BA.ajX)] (λr1 b1=>r1 = .zi []/\b1=[.var [wI r.alC,wI r.Num,wS r.amV,.own 3 r.aiJ.length 1,.own 4 r.ajX.length 5],.dead,.dead,.dat 1 (ai cS r.aiJ),.dat 5 (ai ak.cells r.ajX)]):=by intro BA eH r h;refine x8 K.vH (qw ?_);unfold C.vH;rcases n with _|n<;>simp only[G.vH,reduceCtorEq]at h;have z:=ahh (pp @F.slices_BinarySearch_string ()) (pp (pp @F.slices_Delete_string (@cG [1] [101])) <|pp (pp @F.jM (@cG [2] [102])) ()) (pp (@Eo [] [(0,0),(1,1),(2,2),(3,101),(4,102)] []) <|pp (@Eo [] [(0,0),(1,1),(2,2),(3,1),(4,2)] []) ());exact tH
theorem F.Rf : ∀(n:Nat),∀{aB dO r},G.dP n aB dO=some r->dI pZ 155 [.agg (wN aB),.agg (wN dO)] (.agg (wN r)):=by
 intro n
 induction n using gG with|_ n ih=>
 intro aB dO r h;refine aU K.dP (qw ?_);unfold C.dP;rcases n with _|n<;>simp only[G.dP,reduceCtorEq]at h;have:=Mk.mk 1;have:=Mk.mk 2;have z:=alb (pp ih <|pp @F.slices_BinarySearch_string ()) (pp (pp @F.wF (@cG [] [101,102])) <|pp (pp @F.wF (@cG [] [155,156])) <|pp (pp @F.vH (@cG [142,143,144] [145,146])) <|pp (pp @F.o6 (@cG [149,151,152] [153,154])) ()) (pp (@tZ (Int×Int×Int×dR×List dR×List ak) _ (λn x=>G.dP.L4 n dO x.1 x.2.1 x.2.2.1 x.2.2.2.1 x.2.2.2.2.1 x.2.2.2.2.2) r (λx=>fH.of [eP 3 140,eP 4 141,eP 5 142,eT 23 dO.aiJ,eI 24 (dO.aiJ.length:Int),eI 25 x.1] [(140,.var (wN dO)),(141,.var zN),(142,.var [wI x.2.1,wI x.2.2.1,wS x.2.2.2.1,.own 143 x.2.2.2.2.1.length 1,.own 144 x.2.2.2.2.2.length 5]),(143,.dat 1 (ai cS x.2.2.2.2.1)),(144,.dat 5 (ai ak.cells x.2.2.2.2.2))])) ()) (pp (@IE (Int×Int×dR×List dR×List ak) _ (λn x=>G.dP.K1 n dO x.1 x.2.1 x.2.2.1 x.2.2.2.1 x.2.2.2.2) r (λx=>fH.of [eP 3 105,eP 4 106,eP 5 107] [(105,.var (wN dO)),(106,.var zN),(107,.var [wI x.1,wI x.2.1,wS x.2.2.1,.own 108 x.2.2.2.1.length 1,.own 109 x.2.2.2.2.length 5]),(108,.dat 1 (ai cS x.2.2.2.1)),(109,.dat 5 (ai ak.cells x.2.2.2.2))])) <|pp (@IE (Int×Int×Int×dR×List dR×List ak×Int×Int×dR×List dR×List ak) _ (λn x=>G.dP.K5 n dO x.1 x.2.1 x.2.2.1 x.2.2.2.1 x.2.2.2.2.1 x.2.2.2.2.2.1 x.2.2.2.2.2.2.1 x.2.2.2.2.2.2.2.1 x.2.2.2.2.2.2.2.2.1 x.2.2.2.2.2.2.2.2.2.1 x.2.2.2.2.2.2.2.2.2.2) r (λx=>fH.of [eP 3 147,eP 4 148,eP 5 149,eI 6 x.1,eS 7 (dO.aiJ.getD x.1.toNat default),eP 8 150,eT 23 dO.aiJ,eI 24 (dO.aiJ.length:Int),eI 25 x.1] [(147,.var (wN dO)),(148,.var zN),(149,.var [wI x.2.1,wI x.2.2.1,wS x.2.2.2.1,.own 151 x.2.2.2.2.1.length 1,.own 152 x.2.2.2.2.2.1.length 5]),(150,.var [wI x.2.2.2.2.2.2.1,wI x.2.2.2.2.2.2.2.1,wS x.2.2.2.2.2.2.2.2.1,wT x.2.2.2.2.2.2.2.2.2.1,wK x.2.2.2.2.2.2.2.2.2.2]),(151,.dat 1 (ai cS x.2.2.2.2.1)),(152,.dat 5 (ai ak.cells x.2.2.2.2.2.1))])) ()) (pp (bz @G.dP.K1.eq_1 <|bz @G.dP.K1.eq_2 <|bz @G.dP.L4.eq_1 <|bz @G.dP.L4.eq_2 <|bz @G.dP.K5.eq_1 <|@G.dP.K5.eq_2) ()) (pp (@fF [] [(105,11),(106,12),(107,13),(108,155),(109,156)] []) <|pp (@fF [] [(105,11),(106,12),(107,13)] [108,109]) <|pp (@fF [] [(140,105),(141,106),(142,107),(143,108),(144,109)] []) <|pp (@fF [] [(140,140),(141,141),(142,142),(143,145),(144,146)] []) <|pp (@fF [] [(147,140),(148,141),(149,142),(150,14),(151,143),(152,144)] []) <|pp (@fF [] [(140,147),(141,148),(142,149),(143,153),(144,154)] []) <|pp (@fF [] [(105,11),(106,12),(107,13),(108,101),(109,102)] []) ()) (pp (pp (rfl : @G.dP.K1=_) ()) <|pp (pp (rfl : @G.dP.K5=_) <|pp (rfl : @G.dP.L4=_) <|pp (rfl : @G.dP.K1=_) ()) ());exact ahV
theorem F.dP {n:Nat} : ∀{aB:ak} {dO:ak} {r:ak},G.dP n aB dO=some r->dI pZ 155 [.agg (wN aB),.agg (wN dO)] (.agg (wN r)):=F.Rf n
theorem F.sD {n:Nat} : ∀{aB dO r},G.sD n aB dO=some r->dI pZ 131 [.agg (wN aB),.agg (wN dO)] (.zi [(true,(wN r.1)),(false,[acL r.2])]):=by intro aB dO r h;refine aU K.sD (qw ?_);unfold C.sD;rcases n with _|n<;>simp only[G.sD,reduceCtorEq]at h;have z:=afo (pp @F.bJ <|pp @F.dP <|pp @F.oZ ());exact tH
theorem F.uV {n:Nat} : ∀{H8 fJ r},G.uV n H8 fJ=some r->dI pZ 102 [.agg (wN H8),.agg (aeQ fJ)] (.zi [(true,(wN r.1)),(false,[acL r.2])]):=by intro H8 fJ r h;refine aU K.uV (qw ?_);unfold C.uV;rcases n with _|n<;>simp only[G.uV,reduceCtorEq]at h;have z:=afo (pp @F.qJ <|pp @F.sD ());exact tH
theorem F.ni {n:Nat} : ∀{aJ fJ H8 Ns r},G.ni n aJ fJ H8 Ns=some r->dI pZ 50 [.agg (aeA aJ),.agg (aeQ fJ),.agg (wN H8),oB Ns] (.zi [(true,(aeA r.1)),(true,(aeT r.2))]):=by intro aJ fJ H8 Ns r h;refine aU K.ni (qw ?_);unfold C.ni;rcases n with _|n<;>simp only[G.ni,reduceCtorEq]at h;have z:=afo (pp @F.uV <|pp @F.uT <|pp @F.vk <|pp @F.dG ());exact tH
theorem F.lq {n:Nat} : ∀{fJ r},G.lq n fJ=some r->dI pZ 44 [.agg (aeQ fJ)] (oB r):=by intro fJ r h;refine aU K.lq (qw ?_);unfold C.lq;rcases n with _|n<;>simp only[G.lq,reduceCtorEq]at h;have z:=afo (pp @F.jR <|pp @F.jG <|pp @F.bJ <|pp @F.eX ());exact tH
theorem F.dB {n:Nat} : ∀{aJ fJ r},G.dB n aJ fJ=some r->dI pZ 11 [.agg (aeA aJ),.agg (aeQ fJ)] (.zi [(true,(aeA r.1)),(true,(aeT r.2))]):=by intro aJ fJ r h;refine aU K.dB (qw ?_);unfold C.dB;rcases n with _|n<;>simp only[G.dB,reduceCtorEq]at h;have:=Mk.mk 1;have:=Mk.mk 2;have z:=ajM (pp @F.bM <|pp @F.lq <|pp @F.uS <|pp @F.vk <|pp @F.kK <|pp @F.dG <|pp @F.qM <|pp @F.ni ()) (pp (@IE ((bg×Bool)×dR) _ (λn x=>G.dB.K1 n aJ fJ x.1 x.2) r (λx=>fH.of [eP 2 101,eP 3 102,eP 4 103,eP 5 104,eP 6 105,eB 7 true,eS 8 x.2] [(101,.var (aeA aJ)),(102,.var (aeQ fJ)),(103,.var [.lF 7,wI 0]),(104,.var [wI 0,.c (.str []),wI 0,wI 0,wI 0,.c (.str []),.lF 1,.lF 5]),(105,.var (adH x.1.1))])) <|pp (@IE ((bg×Bool)) _ (λn x=>G.dB.K2 n aJ fJ x) r (λx=>fH.of [eP 2 106,eP 3 107,eP 4 108,eP 5 109,eP 6 110,eB 7 false,(8,.v true (.one (.c (.str [])))),eB 37 false] [(106,.var (aeA aJ)),(107,.var (aeQ fJ)),(108,.var [.lF 7,wI 0]),(109,.var [wI 0,.c (.str []),wI 0,wI 0,wI 0,.c (.str []),.lF 1,.lF 5]),(110,.var (adH x.1))])) ()) (pp (bz @G.dB.K1.eq_1 <|bz @G.dB.K1.eq_2 <|bz @G.dB.K2.eq_1 <|@G.dB.K2.eq_2) ()) (pp (@fF [] [(101,10),(102,11),(103,12),(104,13),(105,14)] []) <|pp (@fF [] [(106,10),(107,11),(108,12),(109,13),(110,14)] []) ()) (pp (pp (rfl : @G.dB.K1=_) ()) <|pp (pp (rfl : @G.dB.K2=_) ()) ());exact ahV
theorem F.jK {n:Nat} : ∀{aF eF r},G.jK n aF eF=some r->dI pZ 53 [oT aF,oT eF] (oB r):=by intro aF eF r h;refine aU K.jK (qw ?_);unfold C.jK;rcases n with _|n<;>simp only[G.jK,reduceCtorEq]at h;have z:=afu (pp (@tZ (Int) _ (λn x=>G.jK.L1 n aF eF x) r (λx=>fH.of [eT 0 aF,eT 1 eF,eI 5 x] [])) ()) (pp (bz @G.jK.L1.eq_1 <|@G.jK.L1.eq_2) ()) (pp (@fF [] [] []) ());exact tH
theorem F.Va : ∀(n:Nat),(∀{aF eF r},G.qy n aF eF=some r->dI pZ 52 [.agg (wN aF),.agg (wN eF)] (oB r))/\(∀{aF eF r},G.pY n aF eF=some r->dI pZ 105 [.one (wK aF),.one (wK eF)] (oB r)):=by
 intro n
 induction n using gG with|_ n ih=>
 refine⟨?_,?_⟩
 ·intro aF eF r h;refine aU K.qy (qw ?_);unfold C.qy;rcases n with _|n<;>simp only[G.qy,reduceCtorEq]at h;have z:=afo (pp ((ihR ih)) <|pp @F.jK ());exact tH
 ·intro aF eF r h;refine aU K.pY (qw ?_);unfold C.pY;rcases n with _|n<;>simp only[G.pY,reduceCtorEq]at h;have z:=afp (pp ((ihL ih)) ()) (pp (@tZ (Int) _ (λn x=>G.pY.L1 n aF eF x) r (λx=>fH.of [(0,.v true (.one (wK aF))),(1,.v true (.one (wK eF))),eI 5 x] [])) ()) (pp (bz @G.pY.L1.eq_1 <|@G.pY.L1.eq_2) ()) (pp (@fF [] [] []) ());exact tH
theorem F.qy {n:Nat} : ∀{aF:ak} {eF:ak} {r:Bool},G.qy n aF eF=some r->dI pZ 52 [.agg (wN aF),.agg (wN eF)] (oB r):=(F.Va n).1
theorem F.xI {n:Nat} : ∀{aF eF r},G.xI n aF eF=some r->dI pZ 104 [.agg (adH aF),.agg (adH eF)] (oB r):=by intro aF eF r h;refine aU K.xI (qw ?_);unfold C.xI;rcases n with _|n<;>simp only[G.xI,reduceCtorEq]at h;have z:=afo (pp @F.qy ());exact tH
theorem F.oz {n:Nat} : ∀{aF eF r},G.oz n aF eF=some r->dI pZ 51 [.one (w7 aF),.one (w7 eF)] (oB r):=by intro aF eF r h;refine aU K.oz (qw ?_);unfold C.oz;rcases n with _|n<;>simp only[G.oz,reduceCtorEq]at h;have z:=afp (pp @F.xI ()) (pp (@tZ (Int) _ (λn x=>G.oz.L1 n aF eF x) r (λx=>fH.of [(0,.v true (.one (w7 aF))),(1,.v true (.one (w7 eF))),eI 5 x] [])) ()) (pp (bz @G.oz.L1.eq_1 <|@G.oz.L1.eq_2) ()) (pp (@fF [] [] []) ());exact tH
theorem F.Am {n:Nat} : ∀{aF eF r},G.Am n aF eF=some r->dI pZ 106 [.agg (acN aF),.agg (acN eF)] (oB r):=by intro aF eF r h;refine aU K.Am (qw ?_);unfold C.Am;rcases n with _|n<;>simp only[G.Am,reduceCtorEq]at h;have z:=afo (pp @F.jK <|pp @F.qy ());exact tH
theorem F.tq {n:Nat} : ∀{aF eF r},G.tq n aF eF=some r->dI pZ 54 [.one (w8 aF),.one (w8 eF)] (oB r):=by intro aF eF r h;refine aU K.tq (qw ?_);unfold C.tq;rcases n with _|n<;>simp only[G.tq,reduceCtorEq]at h;have z:=afp (pp @F.Am ()) (pp (@tZ (Int) _ (λn x=>G.tq.L1 n aF eF x) r (λx=>fH.of [(0,.v true (.one (w8 aF))),(1,.v true (.one (w8 eF))),eI 5 x] [])) ()) (pp (bz @G.tq.L1.eq_1 <|@G.tq.L1.eq_2) ()) (pp (@fF [] [] []) ());exact tH
theorem F.sF {n:Nat} : ∀{aF eF r},G.sF n aF eF=some r->dI pZ 14 [.agg (aeQ aF),.agg (aeQ eF)] (oB r):=by intro aF eF r h;refine aU K.sF (qw ?_);unfold C.sF;rcases n with _|n<;>simp only[G.sF,reduceCtorEq]at h;have z:=afo (pp @F.jK <|pp @F.qy <|pp @F.tq ());exact tH
theorem F.nZ {n:Nat} : ∀{aF eF r},G.nZ n aF eF=some r->dI pZ 13 [.agg (aeT aF),.agg (aeT eF)] (oB r):=by intro aF eF r h;refine aU K.nZ (qw ?_);unfold C.nZ;rcases n with _|n<;>simp only[G.nZ,reduceCtorEq]at h;have z:=afo (pp @F.qy ());exact tH
theorem F.kS {n:Nat} : ∀{aF eF r},G.kS n aF eF=some r->dI pZ 12 [.agg (aeA aF),.agg (aeA eF)] (oB r):=by intro aF eF r h;refine aU K.kS (qw ?_);unfold C.kS;rcases n with _|n<;>simp only[G.kS,reduceCtorEq]at h;have z:=afo (pp @F.oz ());exact tH
theorem F.iE {n:Nat} : ∀{xe r},G.iE n xe=some r->dI pZ 66 [acM xe] (oS r):=by intro xe r h;refine aU K.iE (qw ?_);unfold C.iE;rcases n with _|n<;>simp only[G.iE,reduceCtorEq]at h;have z:=afu (pp (@tZ (Int×dR) _ (λn x=>G.iE.L1 n x.1 x.2) r (λx=>fH.of [eI 0 x.1,eS 3 x.2] [])) ()) (pp (bz @G.iE.L1.eq_1 <|@G.iE.L1.eq_2) ()) (pp (@fF [] [] []) ());exact tH
theorem F.iG {n:Nat} : ∀{aF xe r},G.iG n aF xe=some r->dI pZ 68 [oT aF,acM xe] (acM r):=by intro aF xe r h;refine aU K.iG (qw ?_);unfold C.iG;rcases n with _|n<;>simp only[G.iG,reduceCtorEq]at h;have z:=afp (pp @F.iE ()) (pp (@tZ (Int×Int) _ (λn x=>G.iG.L1 n aF x.1 x.2) r (λx=>fH.of [eT 0 aF,eI 1 x.1,eI 5 x.2] [])) ()) (pp (bz @G.iG.L1.eq_1 <|@G.iG.L1.eq_2) ()) (pp (@fF [] [] []) ());exact tH
theorem F.TN : ∀(n:Nat),∀{aF xe r},G.jf n aF xe=some r->dI pZ 69 [.one (wK aF),acM xe] (acM r):=by
 intro n
 induction n using gG with|_ n ih=>
 intro aF xe r h;refine aU K.jf (qw ?_);unfold C.jf;rcases n with _|n<;>simp only[G.jf,reduceCtorEq]at h;have z:=afp (pp ih <|pp @F.iE <|pp @F.iG ()) (pp (@tZ (Int×Int) _ (λn x=>G.jf.L1 n aF x.1 x.2) r (λx=>fH.of [(0,.v true (.one (wK aF))),eI 1 x.1,eI 5 x.2] [])) ()) (pp (bz @G.jf.L1.eq_1 <|@G.jf.L1.eq_2) ()) (pp (@fF [] [] []) ());exact tH
theorem F.jf {n:Nat} : ∀{aF:List ak} {xe:Int} {r:Int},G.jf n aF xe=some r->dI pZ 69 [.one (wK aF),acM xe] (acM r):=F.TN n
theorem F.lM {n:Nat} : ∀{aF xe r},G.lM n aF xe=some r->dI pZ 59 [.one (w7 aF),acM xe] (acM r):=by intro aF xe r h;refine aU K.lM (qw ?_);unfold C.lM;rcases n with _|n<;>simp only[G.lM,reduceCtorEq]at h;have z:=afp (pp @F.iE <|pp @F.iG <|pp @F.jf ()) (pp (@tZ (Int×Int) _ (λn x=>G.lM.L1 n aF x.1 x.2) r (λx=>fH.of [(0,.v true (.one (w7 aF))),eI 1 x.1,eI 5 x.2] [])) ()) (pp (bz @G.lM.L1.eq_1 <|@G.lM.L1.eq_2) ()) (pp (@fF [] [] []) ());exact tH
theorem F.vI {n:Nat} : ∀{aF xe r},G.vI n aF xe=some r->dI pZ 60 [.agg (wN aF),acM xe] (acM r):=by intro aF xe r h;refine aU K.vI (qw ?_);unfold C.vI;rcases n with _|n<;>simp only[G.vI,reduceCtorEq]at h;have z:=afo (pp @F.iG <|pp @F.jf ());exact tH
theorem F.qR {n:Nat} : ∀{aF xe r},G.qR n aF xe=some r->dI pZ 19 [.agg (aeT aF),acM xe] (acM r):=by intro aF xe r h;refine aU K.qR (qw ?_);unfold C.qR;rcases n with _|n<;>simp only[G.qR,reduceCtorEq]at h;have z:=afo (pp @F.vI ());exact tH
theorem F.pU {n:Nat} : ∀{aF xe r},G.pU n aF xe=some r->dI pZ 18 [.agg (aeA aF),acM xe] (acM r):=by intro aF xe r h;refine aU K.pU (qw ?_);unfold C.pU;rcases n with _|n<;>simp only[G.pU,reduceCtorEq]at h;have z:=afo (pp @F.lM ());exact tH
theorem F.jh {n:Nat} : ∀{aF jo r},G.jh n aF jo=some r->dI pZ 32 [oT aF,acM jo] (acM r):=by intro aF jo r h;refine aU K.jh (qw ?_);unfold C.jh;rcases n with _|n<;>simp only[G.jh,reduceCtorEq]at h;have z:=afu (pp (@tZ (Int×Int) _ (λn x=>G.jh.L1 n aF x.1 x.2) r (λx=>fH.of [eT 0 aF,eI 1 x.1,eI 5 x.2] [])) ()) (pp (bz @G.jh.L1.eq_1 <|@G.jh.L1.eq_2) ()) (pp (@fF [] [] []) ());exact tH
theorem F.Vb : ∀(n:Nat),(∀{aF jo r},G.qC n aF jo=some r->dI pZ 33 [.agg (wN aF),acM jo] (acM r))/\(∀{aF jo r},G.oD n aF jo=some r->dI pZ 73 [.one (wK aF),acM jo] (acM r)):=by
 intro n
 induction n using gG with|_ n ih=>
 refine⟨?_,?_⟩
 ·intro aF jo r h;refine aU K.qC (qw ?_);unfold C.qC;rcases n with _|n<;>simp only[G.qC,reduceCtorEq]at h;have z:=afo (pp ((ihR ih)) <|pp @F.jh ());exact tH
 ·intro aF jo r h;refine aU K.oD (qw ?_);unfold C.oD;rcases n with _|n<;>simp only[G.oD,reduceCtorEq]at h;have z:=afp (pp ((ihL ih)) ()) (pp (@tZ (Int×Int) _ (λn x=>G.oD.L1 n aF x.1 x.2) r (λx=>fH.of [(0,.v true (.one (wK aF))),eI 1 x.1,eI 5 x.2] [])) ()) (pp (bz @G.oD.L1.eq_1 <|@G.oD.L1.eq_2) ()) (pp (@fF [] [] []) ());exact tH
theorem F.qC {n:Nat} : ∀{aF:ak} {jo:Int} {r:Int},G.qC n aF jo=some r->dI pZ 33 [.agg (wN aF),acM jo] (acM r):=(F.Vb n).1
theorem F.vX {n:Nat} : ∀{aF jo r},G.vX n aF jo=some r->dI pZ 72 [.agg (adH aF),acM jo] (acM r):=by intro aF jo r h;refine aU K.vX (qw ?_);unfold C.vX;rcases n with _|n<;>simp only[G.vX,reduceCtorEq]at h;have z:=afo (pp @F.qC ());exact tH
theorem F.mX {n:Nat} : ∀{aF jo r},G.mX n aF jo=some r->dI pZ 31 [.one (w7 aF),acM jo] (acM r):=by intro aF jo r h;refine aU K.mX (qw ?_);unfold C.mX;rcases n with _|n<;>simp only[G.mX,reduceCtorEq]at h;have z:=afp (pp @F.vX ()) (pp (@tZ (Int×Int) _ (λn x=>G.mX.L1 n aF x.1 x.2) r (λx=>fH.of [(0,.v true (.one (w7 aF))),eI 1 x.1,eI 5 x.2] [])) ()) (pp (bz @G.mX.L1.eq_1 <|@G.mX.L1.eq_2) ()) (pp (@fF [] [] []) ());exact tH
theorem F.x9 {n:Nat} : ∀{aF jo r},G.x9 n aF jo=some r->dI pZ 74 [.agg (acN aF),acM jo] (acM r):=by intro aF jo r h;refine aU K.x9 (qw ?_);unfold C.x9;rcases n with _|n<;>simp only[G.x9,reduceCtorEq]at h;have z:=afo (pp @F.jh <|pp @F.qC ());exact tH
theorem F.qV {n:Nat} : ∀{aF jo r},G.qV n aF jo=some r->dI pZ 34 [.one (w8 aF),acM jo] (acM r):=by intro aF jo r h;refine aU K.qV (qw ?_);unfold C.qV;rcases n with _|n<;>simp only[G.qV,reduceCtorEq]at h;have z:=afp (pp @F.x9 ()) (pp (@tZ (Int×Int) _ (λn x=>G.qV.L1 n aF x.1 x.2) r (λx=>fH.of [(0,.v true (.one (w8 aF))),eI 1 x.1,eI 5 x.2] [])) ()) (pp (bz @G.qV.L1.eq_1 <|@G.qV.L1.eq_2) ()) (pp (@fF [] [] []) ());exact tH
theorem F.lN {n:Nat} : ∀{aF jo r},G.lN n aF jo=some r->dI pZ 7 [.agg (aeQ aF),acM jo] (acM r):=by intro aF jo r h;refine aU K.lN (qw ?_);unfold C.lN;rcases n with _|n<;>simp only[G.lN,reduceCtorEq]at h;have z:=afo (pp @F.jh <|pp @F.qC <|pp @F.qV ());exact tH
theorem F.kL {n:Nat} : ∀{aF jo r},G.kL n aF jo=some r->dI pZ 6 [.agg (aeA aF),acM jo] (acM r):=by intro aF jo r h;refine aU K.kL (qw ?_);unfold C.kL;rcases n with _|n<;>simp only[G.kL,reduceCtorEq]at h;have z:=afo (pp @F.mX ());exact tH
theorem F.jL {n:Nat} : ∀{aF r},G.jL n aF=some r->dI pZ 40 [oT aF] (oT r):=by intro aF r h;refine aU K.jL (qw ?_);unfold C.jL;rcases n with _|n<;>simp only[G.jL,reduceCtorEq]at h;have z:=afu (pp (@tZ (Int×List dR) _ (λn x=>G.jL.L1 n aF x.1 x.2) r (λx=>fH.of [eT 0 aF,(3,.v true (.one (.own 103 x.2.length 1))),eI 4 x.1] [(103,.dat 1 (ai cS x.2))])) ()) (pp (bz @G.jL.L1.eq_1 <|@G.jL.L1.eq_2) ()) (pp (@fF [] [(103,10)] []) <|pp (@fF [] [(103,103)] []) ());exact tH
theorem F.Vd : ∀(n:Nat),(∀{aF r},G.sG n aF=some r->dI pZ 41 [.agg (wN aF)] (.agg (wN r)))/\(∀{aF r},G.qf n aF=some r->dI pZ 89 [.one (wK aF)] (.one (wK r))):=by
 intro n
 induction n using gG with|_ n ih=>
 refine⟨?_,?_⟩
 ·intro aF r h;refine aU K.sG (qw ?_);unfold C.sG;rcases n with _|n<;>simp only[G.sG,reduceCtorEq]at h;have z:=afo (pp ((ihR ih)) <|pp @F.jL ());exact tH
 ·intro aF r h;refine aU K.qf (qw ?_);unfold C.qf;rcases n with _|n<;>simp only[G.qf,reduceCtorEq]at h;have z:=afp (pp ((ihL ih)) ()) (pp (@tZ (Int×List ak) _ (λn x=>G.qf.L1 n aF x.1 x.2) r (λx=>fH.of [(0,.v true (.one (wK aF))),(3,.v true (.one (.own 103 x.2.length 5))),eI 4 x.1] [(103,.dat 5 (ai ak.cells x.2))])) ()) (pp (bz @G.qf.L1.eq_1 <|@G.qf.L1.eq_2) ()) (pp (@fF [] [(103,10)] []) <|pp (@fF [] [(103,103)] []) ());exact tH
theorem F.sG {n:Nat} : ∀{aF:ak} {r:ak},G.sG n aF=some r->dI pZ 41 [.agg (wN aF)] (.agg (wN r)):=(F.Vd n).1
theorem F.xJ {n:Nat} : ∀{aF r},G.xJ n aF=some r->dI pZ 88 [.agg (adH aF)] (.agg (adH r)):=by intro aF r h;refine aU K.xJ (qw ?_);unfold C.xJ;rcases n with _|n<;>simp only[G.xJ,reduceCtorEq]at h;have z:=afo (pp @F.sG ());exact tH
theorem F.oG {n:Nat} : ∀{aF r},G.oG n aF=some r->dI pZ 39 [.one (w7 aF)] (.one (w7 r)):=by intro aF r h;refine aU K.oG (qw ?_);unfold C.oG;rcases n with _|n<;>simp only[G.oG,reduceCtorEq]at h;have z:=afp (pp @F.xJ ()) (pp (@tZ (Int×List bg) _ (λn x=>G.oG.L1 n aF x.1 x.2) r (λx=>fH.of [(0,.v true (.one (w7 aF))),(3,.v true (.one (.own 103 x.2.length 7))),eI 4 x.1] [(103,.dat 7 (ai bg.cells x.2))])) ()) (pp (bz @G.oG.L1.eq_1 <|@G.oG.L1.eq_2) ()) (pp (@fF [] [(103,10)] []) <|pp (@fF [] [(103,103)] []) ());exact tH
theorem F.Ap {n:Nat} : ∀{aF r},G.Ap n aF=some r->dI pZ 90 [.agg (acN aF)] (.agg (acN r)):=by intro aF r h;refine aU K.Ap (qw ?_);unfold C.Ap;rcases n with _|n<;>simp only[G.Ap,reduceCtorEq]at h;have z:=afo (pp @F.jL <|pp @F.sG ());exact tH
theorem F.tu {n:Nat} : ∀{aF r},G.tu n aF=some r->dI pZ 42 [.one (w8 aF)] (.one (w8 r)):=by intro aF r h;refine aU K.tu (qw ?_);unfold C.tu;rcases n with _|n<;>simp only[G.tu,reduceCtorEq]at h;have z:=afp (pp @F.Ap ()) (pp (@tZ (Int×List pW) _ (λn x=>G.tu.L1 n aF x.1 x.2) r (λx=>fH.of [(0,.v true (.one (w8 aF))),(3,.v true (.one (.own 103 x.2.length 8))),eI 4 x.1] [(103,.dat 8 (ai pW.cells x.2))])) ()) (pp (bz @G.tu.L1.eq_1 <|@G.tu.L1.eq_2) ()) (pp (@fF [] [(103,10)] []) <|pp (@fF [] [(103,103)] []) ());exact tH
theorem F.pV {n:Nat} : ∀{aF r},G.pV n aF=some r->dI pZ 10 [.agg (aeQ aF)] (.agg (aeQ r)):=by intro aF r h;refine aU K.pV (qw ?_);unfold C.pV;rcases n with _|n<;>simp only[G.pV,reduceCtorEq]at h;have z:=afo (pp @F.jL <|pp @F.sG <|pp @F.tu ());exact tH
theorem F.nR {n:Nat} : ∀{aF r},G.nR n aF=some r->dI pZ 9 [.agg (aeA aF)] (.agg (aeA r)):=by intro aF r h;refine aU K.nR (qw ?_);unfold C.nR;rcases n with _|n<;>simp only[G.nR,reduceCtorEq]at h;have z:=afo (pp @F.oG ());exact tH
theorem F.Vf : ∀(n:Nat),∀{aB r},G.bG n aB=some r->dI pZ 83 [.agg (wN aB)] (.agg (wN r)):=by
 intro n
 induction n using gG with|_ n ih=>
 intro aB r h;refine aU K.bG (qw ?_);unfold C.bG;rcases n with _|n<;>simp only[G.bG,reduceCtorEq]at h;have z:=afp (pp ih ()) (pp (@tZ (Int×List ak) _ (λn x=>G.bG.L1 n aB x.1 x.2) r (λx=>fH.of [eP 1 107,eP 2 108,(3,.v true (.one (.own 109 x.2.length 5))),eI 4 x.1] [(107,.var (wN aB)),(108,.var zN),(109,.dat 5 (ai ak.cells x.2))])) ()) (pp (bz @G.bG.L1.eq_1 <|@G.bG.L1.eq_2) ()) (pp (@fF [] [(107,10),(108,11),(109,12)] []) <|pp (@fF [] [(107,107),(108,108),(109,14)] []) ());exact tH
theorem F.bG {n:Nat} : ∀{aB:ak} {r:ak},G.bG n aB=some r->dI pZ 83 [.agg (wN aB)] (.agg (wN r)):=F.Vf n
theorem F.MV {n:Nat} : ∀{aB r},G.bG n aB=some r->oV pZ 83 [.agg (wN aB)] [] (λr1 b1=>r1 = .agg [wI r.alC,wI r.Num,wS r.amV,.own 0 r.aiJ.length 1,.own 1 r.ajX.length 5]/\b1=[.dat 1 (ai cS r.aiJ),.dat 5 (ai ak.cells r.ajX)]):=by intro aB r h;refine x8 K.bG (qw ?_);unfold C.bG;rcases n with _|n<;>simp only[G.bG,reduceCtorEq]at h;have z:=akd (pp @F.bG ()) (pp (@tZ (Int×List ak) _ (λn x=>G.bG.L1 n aB x.1 x.2) r (λx=>fH.of [eP 1 107,eP 2 108,(3,.v true (.one (.own 109 x.2.length 5))),eI 4 x.1] [(107,.var (wN aB)),(108,.var zN),(109,.dat 5 (ai ak.cells x.2))])) ()) (pp (bz @G.bG.L1.eq_1 <|@G.bG.L1.eq_2) ()) (pp (@fF [] [(107,10),(108,11),(109,12)] []) <|pp (@fF [] [(107,107),(108,108),(109,14)] []) ()) (pp (@Eo [] [(0,16),(1,109)] []) ());exact tH
theorem F.XC : ∀(n:Nat),∀{aB r},G.lJ n aB=some r->dI pZ 137 [acM aB] (oS r):=by
 intro n
 induction n using gG with|_ n ih=>
 intro aB r h;refine aU K.lJ (qw ?_);unfold C.lJ;rcases n with _|n<;>simp only[G.lJ,reduceCtorEq]at h;have z:=afo (pp ih ());exact tH
theorem F.lJ {n:Nat} : ∀{aB:Int} {r:dR},G.lJ n aB=some r->dI pZ 137 [acM aB] (oS r):=F.XC n
theorem F.jE {n:Nat} : ∀{aB jX r},G.jE n aB jX=some r->dI pZ 140 [.agg (wN aB),oS jX] (acM r):=by intro aB jX r h;refine aU K.jE (qw ?_);unfold C.jE;rcases n with _|n<;>simp only[G.jE,reduceCtorEq]at h;have z:=afp (pp @F.lJ ()) (pp (@tZ (Int) _ (λn x=>G.jE.L1 n aB jX x) r (λx=>fH.of [eS 1 jX,eP 2 103,eI 5 x] [(103,.var (wN aB))])) ()) (pp (bz @G.jE.L1.eq_1 <|@G.jE.L1.eq_2) ()) (pp (@fF [] [(103,10)] []) <|pp (@fF [] [(103,103)] []) ());exact tH
theorem F.lV {n:Nat} : ∀{aB jX r},G.lV n aB jX=some r->dI pZ 162 [.agg (wN aB),oS jX] (.zi [(false,[wI r.1]),(false,[acL r.2])]):=by intro aB jX r h;refine aU K.lV (qw ?_);unfold C.lV;rcases n with _|n<;>simp only[G.lV,reduceCtorEq]at h;have z:=afp (pp @F.jE <|pp @F.lJ ()) (pp (@tZ (Int) _ (λn x=>G.lV.L1 n aB jX x) r (λx=>fH.of [eS 1 jX,eP 2 103,eI 7 x] [(103,.var (wN aB))])) <|pp (@tZ (Int) _ (λn x=>G.lV.L2 n aB jX x) r (λx=>fH.of [eS 1 jX,eP 2 106,eI 7 x] [(106,.var (wN aB))])) ()) (pp (bz @G.lV.L1.eq_1 <|bz @G.lV.L1.eq_2 <|bz @G.lV.L2.eq_1 <|@G.lV.L2.eq_2) ()) (pp (@fF [] [(103,10)] []) <|pp (@fF [] [(103,103)] []) <|pp (@fF [] [(106,10)] []) <|pp (@fF [] [(106,106)] []) ());exact tH
theorem F.o9 {n:Nat} : ∀{aB xe VR r},G.o9 n aB xe VR=some r->dI pZ 142 [.agg (wN aB),acM xe,.agg (wN VR)] (.agg (wN r)):=by intro aB xe VR r h;refine aU K.o9 (qw ?_);unfold C.o9;rcases n with _|n<;>simp only[G.o9,reduceCtorEq]at h;have z:=akb (pp (pp @F.MV (@cG [] [101,102])) <|pp (pp @F.MV (@cG [] [103,104])) ());exact tH
theorem F.ry {n:Nat} : ∀{aB jX iD r},G.ry n aB jX iD=some r->dI pZ 143 [.agg (wN aB),oS jX,.agg (wN iD)] (.zi [(true,(wN r.1)),(false,[acL r.2])]):=by intro aB jX iD r h;refine aU K.ry (qw ?_);unfold C.ry;rcases n with _|n<;>simp only[G.ry,reduceCtorEq]at h;have z:=afo (pp @F.lV <|pp @F.o9 <|pp @F.bG ());exact tH
theorem F.uB {n:Nat} : ∀{aB aN r},G.uB n aB aN=some r->dI pZ 159 [.agg (wN aB),oT aN] (.zi [(true,(wN r.1)),(false,[acL r.2])]):=by intro aB aN r h;refine aU K.uB (qw ?_);unfold C.uB;rcases n with _|n<;>simp only[G.uB,reduceCtorEq]at h;have z:=afp (pp @F.jE <|pp @F.bG ()) (pp (@tZ (Int×Int×Int×dR×List dR×List ak) _ (λn x=>G.uB.L1 n aN x.1 x.2.1 x.2.2.1 x.2.2.2.1 x.2.2.2.2.1 x.2.2.2.2.2) r (λx=>fH.of [eT 1 aN,eP 2 105,eP 4 106,eI 6 x.1] [(105,.var [wI x.2.1,wI x.2.2.1,wS x.2.2.2.1,wT x.2.2.2.2.1,wK x.2.2.2.2.2]),(106,.var zN)])) ()) (pp (bz @G.uB.L1.eq_1 <|@G.uB.L1.eq_2) ()) (pp (@fF [] [(105,10),(106,11)] []) <|pp (@fF [] [(105,105),(106,106)] []) ());exact tH
theorem F.aas : ∀(n:Nat),∀{aB aN iD r},G.pJ n aB aN iD=some r->dI pZ 158 [.agg (wN aB),oT aN,.agg (wN iD)] (.zi [(true,(wN r.1)),(false,[acL r.2])]):=by
 intro n
 induction n using gG with|_ n ih=>
 intro aB aN iD r h;refine aU K.pJ (qw ?_);unfold C.pJ;rcases n with _|n<;>simp only[G.pJ,reduceCtorEq]at h;have z:=afo (pp ih <|pp @F.bG <|pp @F.jE <|pp @F.o9 ());exact tH
theorem F.pJ {n:Nat} : ∀{aB:ak} {aN:List dR} {iD:ak} {r:ak×Bool},G.pJ n aB aN iD=some r->dI pZ 158 [.agg (wN aB),oT aN,.agg (wN iD)] (.zi [(true,(wN r.1)),(false,[acL r.2])]):=F.aas n
theorem F.uQ {n:Nat} : ∀{aB aN iD r},G.uQ n aB aN iD=some r->dI pZ 157 [.agg (wN aB),oT aN,.agg (wN iD)] (.zi [(true,(wN r.1)),(false,[acL r.2])]):=by intro aB aN iD r h;refine aU K.uQ (qw ?_);unfold C.uQ;rcases n with _|n<;>simp only[G.uQ,reduceCtorEq]at h;have z:=afo (pp @F.bG <|pp @F.uB <|pp @F.ry <|pp @F.pJ ());exact tH
theorem F.nC {n:Nat} : ∀{aN EG r},G.nC n aN EG=some r->dI pZ 161 [oT aN,oT EG] (oB r):=by intro aN EG r h;refine aU K.nC (qw ?_);unfold C.nC;rcases n with _|n<;>simp only[G.nC,reduceCtorEq]at h;have z:=afu (pp (@tZ (Int) _ (λn x=>G.nC.L1 n aN EG x) r (λx=>fH.of [eT 0 aN,eT 1 EG,eI 5 x] [])) ()) (pp (bz @G.nC.L1.eq_1 <|@G.nC.L1.eq_2) ()) (pp (@fF [] [] []) ());exact tH
theorem F.kG {n:Nat} : ∀{aB aN r},G.kG n aB aN=some r->dI pZ 141 [.agg (wN aB),oT aN] (.zi [(true,(wN r.1)),(false,[acL r.2])]):=by intro aB aN r h;refine aU K.kG (qw ?_);unfold C.kG;rcases n with _|n<;>simp only[G.kG,reduceCtorEq]at h;have z:=agi (pp @F.uB <|pp @F.jE <|pp @F.pJ ()) (pp (@IE ((ak×Bool)×List ak×List dR) _ (λn x=>G.kG.K1 n aB aN x.1 x.2.1 x.2.2) r (λx=>fH.of [eT 1 aN,eP 2 101,eP 4 102,eI 6 (af .i64 ((aN.length:Int)-1)),eP 7 103,(10,.v true (.one (.own 104 x.2.1.length 5))),(11,.v true (.one (.own 105 x.2.2.length 1)))] [(101,.var (wN aB)),(102,.var zN),(103,.var (wN x.1.1)),(104,.dat 5 (ai ak.cells x.2.1)),(105,.dat 1 (ai cS x.2.2))])) ()) (pp (bz @G.kG.K1.eq_1 <|@G.kG.K1.eq_2) ()) (pp (@fF [] [(101,10),(102,11),(103,12),(104,15),(105,19)] []) <|pp (@fF [] [(101,10),(102,11),(103,12),(104,15),(105,16)] []) ());exact tH
theorem F.lX {n:Nat} : ∀{eF r},G.lX n eF=some r->dI pZ 212 [oB eF] (acM r):=by intro eF r h;refine aU K.lX (qw ?_);unfold C.lX;rcases n with _|n<;>simp only[G.lX,reduceCtorEq]at h;have z:=afw;exact tH
theorem F.rV {n:Nat} : ∀{aF eF r},G.rV n aF eF=some r->dI pZ 191 [acM aF,acM eF] (acM r):=by intro aF eF r h;refine aU K.rV (qw ?_);unfold C.rV;rcases n with _|n<;>simp only[G.rV,reduceCtorEq]at h;have z:=afo (pp @F.lX ());exact tH
theorem F.oP {n:Nat} : ∀{aF eF r},G.oP n aF eF=some r->dI pZ 192 [oS aF,oS eF] (acM r):=by intro aF eF r h;refine aU K.oP (qw ?_);unfold C.oP;rcases n with _|n<;>simp only[G.oP,reduceCtorEq]at h;have z:=afo (pp @F.lX ());exact tH
theorem F.XB : ∀(n:Nat),∀{aF eF r},G.gZ n aF eF=some r->dI pZ 175 [.agg (wN aF),.agg (wN eF)] (acM r):=by
 intro n
 induction n using gG with|_ n ih=>
 intro aF eF r h;refine aU K.gZ (qw ?_);unfold C.gZ;rcases n with _|n<;>simp only[G.gZ,reduceCtorEq]at h;have z:=afp (pp ih <|pp @F.rV <|pp @F.oP ()) (pp (@tZ (Int) _ (λn x=>G.gZ.L1 n aF eF x) r (λx=>fH.of [eP 2 105,eP 3 106,eI 5 x] [(105,.var (wN aF)),(106,.var (wN eF))])) ()) (pp (bz @G.gZ.L1.eq_1 <|@G.gZ.L1.eq_2) ()) (pp (@fF [] [(105,10),(106,11)] []) <|pp (@fF [] [(105,105),(106,106)] []) ());exact tH
theorem F.gZ {n:Nat} : ∀{aF:ak} {eF:ak} {r:Int},G.gZ n aF eF=some r->dI pZ 175 [.agg (wN aF),.agg (wN eF)] (acM r):=F.XB n
theorem F.yG {n:Nat} : ∀{aF eF r},G.yG n aF eF=some r->dI pZ 160 [.agg (wN aF),.agg (wN eF)] (oB r):=by intro aF eF r h;refine aU K.yG (qw ?_);unfold C.yG;rcases n with _|n<;>simp only[G.yG,reduceCtorEq]at h;have z:=afo (pp @F.gZ ());exact tH
theorem F.kY {n:Nat} : ∀{aB mV r},G.kY n aB mV=some r->dI pZ 139 [.agg (wN aB),.agg (acN mV)] (.zi [(true,(wN r.1)),(false,[acL r.2])]):=by intro aB mV r h;refine aU K.kY (qw ?_);unfold C.kY;rcases n with _|n<;>simp only[G.kY,reduceCtorEq]at h;have z:=agi (pp @F.uQ <|pp @F.kG <|pp @F.pJ <|pp @F.uB <|pp @F.yG <|pp @F.nC <|pp @F.bG ()) (pp (@IE (List dR) _ (λn x=>G.kY.K1 n aB mV x) r (λx=>fH.of [eP 2 101,eP 3 102,eP 4 103,eT 6 x] [(101,.var (wN aB)),(102,.var (acN mV)),(103,.var zN)])) ()) (pp (bz @G.kY.K1.eq_1 <|@G.kY.K1.eq_2) ()) (pp (@fF [] [(101,10),(102,11),(103,12)] []) ());exact tH
theorem F.aaq : ∀(n:Nat),∀{aB r},G.nJ n aB=some r->dI pZ 108 [.agg (wN aB)] (acM r):=by
 intro n
 induction n using gG with|_ n ih=>
 intro aB r h;refine aU K.nJ (qw ?_);unfold C.nJ;rcases n with _|n<;>simp only[G.nJ,reduceCtorEq]at h;have z:=afp (pp ih ()) (pp (@tZ (Int×Int) _ (λn x=>G.nJ.L1 n aB x.1 x.2) r (λx=>fH.of [eP 1 103,eI 3 x.1,eI 4 x.2] [(103,.var (wN aB))])) ()) (pp (bz @G.nJ.L1.eq_1 <|@G.nJ.L1.eq_2) ()) (pp (@fF [] [(103,10)] []) <|pp (@fF [] [(103,103)] []) ());exact tH
theorem F.nJ {n:Nat} : ∀{aB:ak} {r:Int},G.nJ n aB=some r->dI pZ 108 [.agg (wN aB)] (acM r):=F.aaq n
theorem F.gu {n:Nat} : ∀{aB VS QD r},G.gu n aB VS QD=some r->dI pZ 77 [acM aB,acM VS,acM QD] (oB r):=by intro aB VS QD r h;refine aU K.gu (qw ?_);unfold C.gu;rcases n with _|n<;>simp only[G.gu,reduceCtorEq]at h;have z:=afw;exact tH
theorem F.iP {n:Nat} : ∀{aJ r},G.iP n aJ=some r->dI pZ 133 [oS aJ] (oB r):=by intro aJ r h;refine aU K.iP (qw ?_);unfold C.iP;rcases n with _|n<;>simp only[G.iP,reduceCtorEq]at h;have z:=afp (pp @F.gu ()) (pp (@tZ (Int) _ (λn x=>G.iP.L1 n aJ x) r (λx=>fH.of [eS 0 aJ,eI 3 x] [])) ()) (pp (bz @G.iP.L1.eq_1 <|@G.iP.L1.eq_2) ()) (pp (@fF [] [] []) ());exact tH
theorem F.oO {n:Nat} : ∀{aH r},G.oO n aH=some r->dI pZ 135 [oT aH] (oB r):=by intro aH r h;refine aU K.oO (qw ?_);unfold C.oO;rcases n with _|n<;>simp only[G.oO,reduceCtorEq]at h;have z:=afp (pp @F.iP ()) (pp (@tZ (Int) _ (λn x=>G.oO.L1 n aH x) r (λx=>fH.of [eT 0 aH,eI 3 x] [])) ()) (pp (bz @G.oO.L1.eq_1 <|@G.oO.L1.eq_2) ()) (pp (@fF [] [] []) ());exact tH
theorem F.Yd : ∀(n:Nat),(∀{aB mP r},G.tC n aB mP=some r->dI pZ 134 [.agg (wN aB),acM mP] (oB r))/\(∀{aB mP r},G.ji n aB mP=some r->dI pZ 107 [.agg (wN aB),acM mP] (oB r)):=by
 intro n
 induction n using gG with|_ n ih=>
 refine⟨?_,?_⟩
 ·intro aB mP r h;refine aU K.tC (qw ?_);unfold C.tC;rcases n with _|n<;>simp only[G.tC,reduceCtorEq]at h;have z:=afp (pp ((ihR ih)) ()) (pp (@tZ (Int) _ (λn x=>G.tC.L1 n aB mP x) r (λx=>fH.of [eI 1 mP,eP 2 103,eI 5 x] [(103,.var (wN aB))])) ()) (pp (bz @G.tC.L1.eq_1 <|@G.tC.L1.eq_2) ()) (pp (@fF [] [(103,10)] []) <|pp (@fF [] [(103,103)] []) ());exact tH
 ·intro aB mP r h;refine aU K.ji (qw ?_);unfold C.ji;rcases n with _|n<;>simp only[G.ji,reduceCtorEq]at h;have z:=agi (pp ((ihL ih)) <|pp @F.gu <|pp @F.iP <|pp @F.oO ()) (pp (@IE (Unit) _ (λn x=>G.ji.K1 n aB mP) r (λx=>fH.of [eI 1 mP,eP 2 101,eB 54 false] [(101,.var (wN aB))])) ()) (pp (bz @G.ji.K1.eq_1 <|@G.ji.K1.eq_2) ()) (pp (@fF [] [(101,10)] []) ());exact tH
theorem F.ji {n:Nat} : ∀{aB:ak} {mP:Int} {r:Bool},G.ji n aB mP=some r->dI pZ 107 [.agg (wN aB),acM mP] (oB r):=(F.Yd n).2
theorem F.fZ {n:Nat} : ∀{aB r},G.fZ n aB=some r->dI pZ 76 [.agg (wN aB)] (oB r):=by intro aB r h;refine aU K.fZ (qw ?_);unfold C.fZ;rcases n with _|n<;>simp only[G.fZ,reduceCtorEq]at h;have z:=afo (pp @F.ji <|pp @F.nJ ());exact tH
theorem F.qh {n:Nat} : ∀{aB Nr r},G.qh n aB Nr=some r->dI pZ 117 [.agg (wN aB),oB Nr] (.zi [(true,(wN r.1)),(false,[acL r.2])]):=by intro aB Nr r h;refine aU K.qh (qw ?_);unfold C.qh;rcases n with _|n<;>simp only[G.qh,reduceCtorEq]at h;have z:=afo (pp @F.fZ ());exact tH
theorem F.qY {n:Nat} : ∀{aB mV r},G.qY n aB mV=some r->dI pZ 116 [.agg (wN aB),.agg (acN mV)] (.zi [(true,(wN r.1)),(false,[acL r.2])]):=by intro aB mV r h;refine aU K.qY (qw ?_);unfold C.qY;rcases n with _|n<;>simp only[G.qY,reduceCtorEq]at h;have z:=afo (pp @F.kY <|pp @F.qh <|pp @F.bG ());exact tH
theorem F.jk {n:Nat} : ∀{aN r},G.jk n aN=some r->dI pZ 136 [oT aN] (oB r):=by intro aN r h;refine aU K.jk (qw ?_);unfold C.jk;rcases n with _|n<;>simp only[G.jk,reduceCtorEq]at h;have z:=afp (pp @F.iP ()) (pp (@tZ (Int) _ (λn x=>G.jk.L1 n aN x) r (λx=>fH.of [eT 0 aN,eI 3 x] [])) ()) (pp (bz @G.jk.L1.eq_1 <|@G.jk.L1.eq_2) ()) (pp (@fF [] [] []) ());exact tH
theorem F.rC {n:Nat} : ∀{mV r},G.rC n mV=some r->dI pZ 110 [.agg (acN mV)] (oB r):=by intro mV r h;refine aU K.rC (qw ?_);unfold C.rC;rcases n with _|n<;>simp only[G.rC,reduceCtorEq]at h;have z:=afo (pp @F.gu <|pp @F.jk <|pp @F.fZ ());exact tH
theorem F.fE {n:Nat} : ∀{aH r},G.fE n aH=some r->dI pZ 79 [.one (w8 aH)] (oB r):=by intro aH r h;refine aU K.fE (qw ?_);unfold C.fE;rcases n with _|n<;>simp only[G.fE,reduceCtorEq]at h;have z:=afp (pp @F.rC ()) (pp (@tZ (Int) _ (λn x=>G.fE.L1 n aH x) r (λx=>fH.of [(0,.v true (.one (w8 aH))),eI 3 x] [])) ()) (pp (bz @G.fE.L1.eq_1 <|@G.fE.L1.eq_2) ()) (pp (@fF [] [] []) ());exact tH
theorem F.jy {n:Nat} : ∀{aB aH r},G.jy n aB aH=some r->dI pZ 86 [.agg (wN aB),.one (w8 aH)] (.zi [(true,(wN r.1)),(false,[acL r.2])]):=by intro aB aH r h;refine aU K.jy (qw ?_);unfold C.jy;rcases n with _|n<;>simp only[G.jy,reduceCtorEq]at h;have z:=afp (pp @F.fZ <|pp @F.fE <|pp @F.bG <|pp @F.qY ()) (pp (@tZ (Int×Int×Int×dR×List dR×List ak) _ (λn x=>G.jy.L1 n aH x.1 x.2.1 x.2.2.1 x.2.2.2.1 x.2.2.2.2.1 x.2.2.2.2.2) r (λx=>fH.of [(1,.v true (.one (w8 aH))),eP 4 105,eP 6 106,eI 7 x.1] [(105,.var zN),(106,.var [wI x.2.1,wI x.2.2.1,wS x.2.2.2.1,wT x.2.2.2.2.1,wK x.2.2.2.2.2])])) ()) (pp (bz @G.jy.L1.eq_1 <|@G.jy.L1.eq_2) ()) (pp (@fF [] [(105,11),(106,12)] []) <|pp (@fF [] [(105,105),(106,106)] []) ());exact tH
theorem F.lI {n:Nat} : ∀{vJ r},G.lI n vJ=some r->dI pZ 37 [acM vJ] (.agg (aeT r)):=by intro vJ r h;refine aU K.lI (qw ?_);unfold C.lI;rcases n with _|n<;>simp only[G.lI,reduceCtorEq]at h;have z:=afw;exact tH
theorem F.aar : ∀(n:Nat),∀{aB dO r},G.jD n aB dO=some r->dI pZ 118 [.agg (wN aB),.agg (wN dO)] (.agg (wN r)):=by
 intro n
 induction n using gG with|_ n ih=>
 intro aB dO r h;refine aU K.jD (qw ?_);unfold C.jD;rcases n with _|n<;>simp only[G.jD,reduceCtorEq]at h;have z:=ahi (pp ih <|pp @F.bG <|pp @F.jE <|pp @F.kG <|pp @F.ry <|pp @F.o9 ()) (pp (@tZ (Int×Int×Int×dR×List dR×List ak) _ (λn x=>G.jD.L2 n dO x.1 x.2.1 x.2.2.1 x.2.2.2.1 x.2.2.2.2.1 x.2.2.2.2.2) r (λx=>fH.of [eP 3 110,eP 4 111,eP 5 112,eI 6 x.1] [(110,.var (wN dO)),(111,.var zN),(112,.var [wI x.2.1,wI x.2.2.1,wS x.2.2.2.1,wT x.2.2.2.2.1,wK x.2.2.2.2.2])])) ()) (pp (@IE (Int×Int×dR×List dR×List ak) _ (λn x=>G.jD.K1 n dO x.1 x.2.1 x.2.2.1 x.2.2.2.1 x.2.2.2.2) r (λx=>fH.of [eP 3 101,eP 4 102,eP 5 103] [(101,.var (wN dO)),(102,.var zN),(103,.var [wI x.1,wI x.2.1,wS x.2.2.1,wT x.2.2.2.1,wK x.2.2.2.2])])) ()) (pp (bz @G.jD.K1.eq_1 <|bz @G.jD.K1.eq_2 <|bz @G.jD.L2.eq_1 <|@G.jD.L2.eq_2) ()) (pp (@fF [] [(101,11),(102,12),(103,15)] []) <|pp (@fF [13,14] [(101,11),(102,12),(103,15)] []) <|pp (@fF [] [(110,101),(111,102),(112,103)] []) <|pp (@fF [] [(110,110),(111,111),(112,112)] []) ());exact tH
theorem F.jD {n:Nat} : ∀{aB:ak} {dO:ak} {r:ak},G.jD n aB dO=some r->dI pZ 118 [.agg (wN aB),.agg (wN dO)] (.agg (wN r)):=F.aar n
theorem F.qW {n:Nat} : ∀{aB dO r},G.qW n aB dO=some r->dI pZ 87 [.agg (wN aB),.agg (wN dO)] (.zi [(true,(wN r.1)),(false,[acL r.2])]):=by intro aB dO r h;refine aU K.qW (qw ?_);unfold C.qW;rcases n with _|n<;>simp only[G.qW,reduceCtorEq]at h;have z:=afo (pp @F.fZ <|pp @F.jD <|pp @F.qh ());exact tH
theorem F.mQ {n:Nat} : ∀{aH sW r},G.mQ n aH sW=some r->dI pZ 111 [oT aH,oS sW] (oB r):=by intro aH sW r h;refine aU K.mQ (qw ?_);unfold C.mQ;rcases n with _|n<;>simp only[G.mQ,reduceCtorEq]at h;have z:=afu (pp (@tZ (Int) _ (λn x=>G.mQ.L1 n aH sW x) r (λx=>fH.of [eT 0 aH,eS 1 sW,eI 5 x] [])) ()) (pp (bz @G.mQ.L1.eq_1 <|@G.mQ.L1.eq_2) ()) (pp (@fF [] [] []) ());exact tH
theorem F.vP {n:Nat} : ∀{yZ vg sW xQ r},G.vP n yZ vg sW xQ=some r->dI pZ 81 [oT yZ,oT vg,oS sW,oB xQ] (acM r):=by intro yZ vg sW xQ r h;refine aU K.vP (qw ?_);unfold C.vP;rcases n with _|n<;>simp only[G.vP,reduceCtorEq]at h;have z:=afo (pp @F.mQ ());exact tH
theorem F.dU {n:Nat} : ∀{aJ r},G.dU n aJ=some r->dI pZ 62 [.agg (aeA aJ)] (.agg (aeA r)):=by intro aJ r h;refine aU K.dU (qw ?_);unfold C.dU;rcases n with _|n<;>simp only[G.dU,reduceCtorEq]at h;have z:=afp (pp @F.bG ()) (pp (@tZ (Int×List bg) _ (λn x=>G.dU.L1 n aJ x.1 x.2) r (λx=>fH.of [eP 1 107,eP 2 108,(3,.v true (.one (.own 109 x.2.length 7))),eI 4 x.1] [(107,.var (aeA aJ)),(108,.var [.lF 7,wI 0]),(109,.dat 7 (ai bg.cells x.2))])) ()) (pp (bz @G.dU.L1.eq_1 <|@G.dU.L1.eq_2) ()) (pp (@fF [] [(107,10),(108,11),(109,12)] []) <|pp (@fF [] [(107,107),(108,108),(109,14)] []) ());exact tH
theorem F.rZ {n:Nat} : ∀{aJ eH r},G.rZ n aJ eH=some r->dI pZ 85 [.agg (aeA aJ),oS eH] (.agg (aeA r)):=by intro aJ eH r h;refine aU K.rZ (qw ?_);unfold C.rZ;rcases n with _|n<;>simp only[G.rZ,reduceCtorEq]at h;have z:=afp (pp @F.dU ()) (pp (@tZ (alG×Int×List bg) _ (λn x=>G.rZ.L1 n aJ eH x.1 x.2.1 x.2.2) r (λx=>fH.of [eS 1 eH,eP 2 107,eP 4 108,(5,.v true (.one (.own 109 x.2.2.length 7))),(6,.v true (.one (w7 x.1.akj))),eI 7 x.2.1] [(107,.var (aeA aJ)),(108,.var [.lF 7,wI 0]),(109,.dat 7 (ai bg.cells x.2.2))])) ()) (pp (bz @G.rZ.L1.eq_1 <|@G.rZ.L1.eq_2) ()) (pp (@fF [] [(107,10),(108,11),(109,12)] []) <|pp (@fF [] [(107,107),(108,108),(109,109)] []) <|pp (@fF [] [(107,107),(108,108),(109,14)] []) ());exact tH
theorem F.o8 {n:Nat} : ∀{aJ eH r},G.o8 n aJ eH=some r->dI pZ 80 [.agg (aeA aJ),oS eH] (acM r):=by intro aJ eH r h;refine aU K.o8 (qw ?_);unfold C.o8;rcases n with _|n<;>simp only[G.o8,reduceCtorEq]at h;have z:=afu (pp (@tZ (Int) _ (λn x=>G.o8.L1 n aJ eH x) r (λx=>fH.of [eS 1 eH,eP 2 103,eI 5 x] [(103,.var (aeA aJ))])) ()) (pp (bz @G.o8.L1.eq_1 <|@G.o8.L1.eq_2) ()) (pp (@fF [] [(103,10)] []) <|pp (@fF [] [(103,103)] []) ());exact tH
theorem F.nK {n:Nat} : ∀{aJ r},G.nK n aJ=some r->dI pZ 138 [oS aJ] (oS r):=by intro aJ r h;refine aU K.nK (qw ?_);unfold C.nK;rcases n with _|n<;>simp only[G.nK,reduceCtorEq]at h;have z:=afu (pp (@tZ (dR×Int) _ (λn x=>G.nK.L1 n aJ x.1 x.2) r (λx=>fH.of [eS 0 aJ,eS 3 x.1,eI 4 x.2] [])) ()) (pp (bz @G.nK.L1.eq_1 <|@G.nK.L1.eq_2) ()) (pp (@fF [] [] []) ());exact tH
theorem F.Yf : ∀(n:Nat),∀{aB r},G.gz n aB=some r->dI pZ 114 [.agg (wN aB)] (oS r):=by
 intro n
 induction n using gG with|_ n ih=>
 intro aB r h;refine aU K.gz (qw ?_);unfold C.gz;rcases n with _|n<;>simp only[G.gz,reduceCtorEq]at h;have:=Mk.mk 1;have:=Mk.mk 2;have z:=akP (pp ih <|pp @F.lJ <|pp @F.nK ()) (pp (@tZ (dR×Int) _ (λn x=>G.gz.L5 n aB x.1 x.2) r (λx=>fH.of [eP 1 107,eS 3 x.1,eI 4 x.2] [(107,.var (wN aB))])) ()) (pp (@IE (Int×dR) _ (λn x=>G.gz.K6 n aB x.1 x.2) r (λx=>fH.of [eP 1 108,eS 3 x.2,eI 4 x.1] [(108,.var (wN aB))])) <|pp (@IE (Int×dR) _ (λn x=>G.gz.K7 n aB x.1 x.2) r (λx=>fH.of [eP 1 109,eS 3 x.2,eI 4 x.1] [(109,.var (wN aB))])) ()) (pp (bz @G.gz.L5.eq_1 <|bz @G.gz.L5.eq_2 <|bz @G.gz.K6.eq_1 <|bz @G.gz.K6.eq_2 <|bz @G.gz.K7.eq_1 <|@G.gz.K7.eq_2) ()) (pp (@fF [] [(107,10)] []) <|pp (@fF [] [(108,107)] []) <|pp (@fF [] [(109,108)] []) <|pp (@fF [] [(107,109)] []) ()) (pp (pp (rfl : @G.gz.K6=_) <|pp (rfl : @G.gz.L5=_) <|pp (rfl : @G.gz.K7=_) ()) <|pp (pp (rfl : @G.gz.K7=_) <|pp (rfl : @G.gz.K6=_) <|pp (rfl : @G.gz.L5=_) ()) ());exact ahV
theorem F.gz {n:Nat} : ∀{aB:ak} {r:dR},G.gz n aB=some r->dI pZ 114 [.agg (wN aB)] (oS r):=F.Yf n
theorem F.AB {n:Nat} : ∀{aB r},G.AB n aB=some r->dI pZ 112 [acM aB] (oS r):=by intro aB r h;refine aU K.AB (qw ?_);unfold C.AB;rcases n with _|n<;>simp only[G.AB,reduceCtorEq]at h;have z:=afw;exact tH
theorem F.rf {n:Nat} : ∀{aJ r},G.rf n aJ=some r->dI pZ 113 [oS aJ] (acM r):=by intro aJ r h;refine aU K.rf (qw ?_);unfold C.rf;rcases n with _|n<;>simp only[G.rf,reduceCtorEq]at h;have z:=afu (pp (@tZ (Int×Int) _ (λn x=>G.rf.L1 n aJ x.1 x.2) r (λx=>fH.of [eS 0 aJ,eI 3 x.1,eI 4 x.2] [])) ()) (pp (bz @G.rf.L1.eq_1 <|@G.rf.L1.eq_2) ()) (pp (@fF [] [] []) ());exact tH
theorem F.uf {n:Nat} : ∀{aJ eH r},G.uf n aJ eH=some r->dI pZ 82 [.agg (aeA aJ),oS eH] (oS r):=by intro aJ eH r h;refine aU K.uf (qw ?_);unfold C.uf;rcases n with _|n<;>simp only[G.uf,reduceCtorEq]at h;have z:=afo (pp @F.o8 <|pp @F.gz <|pp @F.rf <|pp @F.AB ());exact tH
theorem F.lW {n:Nat} : ∀{aJ eH aB r},G.lW n aJ eH aB=some r->dI pZ 115 [.agg (aeA aJ),oS eH,.agg (wN aB)] (.agg (aeA r)):=by intro aJ eH aB r h;refine aU K.lW (qw ?_);unfold C.lW;rcases n with _|n<;>simp only[G.lW,reduceCtorEq]at h;have z:=ahi (pp @F.bG <|pp @F.dU ()) (pp (@tZ (ak×alG×Bool×Int×List bg) _ (λn x=>G.lW.L3 n aJ eH x.1 x.2.1 x.2.2.1 x.2.2.2.1 x.2.2.2.2) r (λx=>fH.of [eS 1 eH,eP 3 117,eP 6 118,(7,.v true (.one (.own 119 x.2.2.2.2.length 7))),eP 8 120,(9,.v true (.one (w7 x.2.1.akj))),eB 10 x.2.2.1,eI 11 x.2.2.2.1] [(117,.var (aeA aJ)),(118,.var [.lF 7,wI 0]),(119,.dat 7 (ai bg.cells x.2.2.2.2)),(120,.var [wS eH,wI (af .i64 (aJ.amJ+1)),wI x.1.alC,wI x.1.Num,wS x.1.amV,wT x.1.aiJ,wK x.1.ajX])])) ()) (pp (@IE (ak×alG×Int×Bool×List bg) _ (λn x=>G.lW.K4 n aJ eH x.1 x.2.1 x.2.2.1 x.2.2.2.1 x.2.2.2.2) r (λx=>fH.of [eS 1 eH,eP 3 121,eP 6 122,(7,.v true (.one (.own 123 x.2.2.2.2.length 7))),eP 8 124,(9,.v true (.one (w7 x.2.1.akj))),eB 10 x.2.2.2.1,eI 11 x.2.2.1] [(121,.var (aeA aJ)),(122,.var [.lF 7,wI 0]),(123,.dat 7 (ai bg.cells x.2.2.2.2)),(124,.var [wS eH,wI (af .i64 (aJ.amJ+1)),wI x.1.alC,wI x.1.Num,wS x.1.amV,wT x.1.aiJ,wK x.1.ajX])])) ()) (pp (bz @G.lW.L3.eq_1 <|bz @G.lW.L3.eq_2 <|bz @G.lW.K4.eq_1 <|@G.lW.K4.eq_2) ()) (pp (@fF [] [(117,10),(118,12),(119,13),(120,14)] []) <|pp (@fF [] [(121,117),(122,118),(123,119),(124,120)] []) <|pp (@fF [] [(121,117),(122,118),(123,16),(124,120)] []) <|pp (@fF [] [(117,121),(118,122),(119,123),(120,124)] []) <|pp (@fF [] [(117,121),(118,122),(119,18),(120,124)] []) ());exact tH
theorem F.iO {n:Nat} : ∀{aJ r},G.iO n aJ=some r->dI pZ 75 [oS aJ] (oB r):=by intro aJ r h;refine aU K.iO (qw ?_);unfold C.iO;rcases n with _|n<;>simp only[G.iO,reduceCtorEq]at h;have z:=afp (pp @F.gu ()) (pp (@tZ (Int) _ (λn x=>G.iO.L1 n aJ x) r (λx=>fH.of [eS 0 aJ,eI 3 x] [])) ()) (pp (bz @G.iO.L1.eq_1 <|@G.iO.L1.eq_2) ()) (pp (@fF [] [] []) ());exact tH
theorem F.dF {n:Nat} : ∀{aJ r},G.dF n aJ=some r->dI pZ 35 [.agg (aeA aJ)] (oB r):=by intro aJ r h;refine aU K.dF (qw ?_);unfold C.dF;rcases n with _|n<;>simp only[G.dF,reduceCtorEq]at h;have z:=afp (pp @F.iO <|pp @F.fZ <|pp @F.gu ()) (pp (@tZ (Int) _ (λn x=>G.dF.L1 n aJ x) r (λx=>fH.of [eP 1 103,eI 3 x] [(103,.var (aeA aJ))])) ()) (pp (bz @G.dF.L1.eq_1 <|@G.dF.L1.eq_2) ()) (pp (@fF [] [(103,10)] []) <|pp (@fF [] [(103,103)] []) ());exact tH
theorem F.lT {n:Nat} : ∀{aJ eH aB r},G.lT n aJ eH aB=some r->dI pZ 84 [.agg (aeA aJ),oS eH,.agg (wN aB)] (.zi [(true,(aeA r.1)),(true,(aeT r.2))]):=by intro aJ eH aB r h;refine aU K.lT (qw ?_);unfold C.lT;rcases n with _|n<;>simp only[G.lT,reduceCtorEq]at h;have z:=agi (pp @F.o8 <|pp @F.lW <|pp @F.dF <|pp @F.uf <|pp @F.dU <|pp @F.lI ()) (pp (@IE (Int) _ (λn x=>G.lT.K1 n aJ eH aB x) r (λx=>fH.of [eS 1 eH,eP 3 101,eP 5 102,eP 6 103,eP 7 104,eI 8 x] [(101,.var (aeA aJ)),(102,.var (wN aB)),(103,.var [.lF 7,wI 0]),(104,.var [wI 0,.c (.str []),wI 0,wI 0,wI 0,.c (.str []),.lF 1,.lF 5])])) ()) (pp (bz @G.lT.K1.eq_1 <|@G.lT.K1.eq_2) ()) (pp (@fF [] [(101,10),(102,11),(103,12),(104,13)] []) ());exact tH
theorem F.ja {n:Nat} : ∀{aJ fJ r},G.ja n aJ fJ=some r->dI pZ 38 [.agg (aeA aJ),.agg (aeQ fJ)] (.zi [(true,(aeA r.1)),(true,(aeT r.2))]):=by intro aJ fJ r h;refine aU K.ja (qw ?_);unfold C.ja;rcases n with _|n<;>simp only[G.ja,reduceCtorEq]at h;have:=Mk.mk 1;have:=Mk.mk 2;have z:=ajM (pp @F.o8 <|pp @F.dU <|pp @F.lI <|pp @F.uf <|pp @F.vP <|pp @F.bG <|pp @F.lT <|pp @F.rZ <|pp @F.jy <|pp @F.qW ()) (pp (@IE (Bool×Int×Int×dR×List dR×List ak) _ (λn x=>G.ja.K1 n aJ fJ x.1 x.2.1 x.2.2.1 x.2.2.2.1 x.2.2.2.2.1 x.2.2.2.2.2) r (λx=>fH.of [eP 2 101,eP 3 102,eP 4 103,eP 5 104,eP 8 105,eB 9 x.1] [(101,.var (aeA aJ)),(102,.var (aeQ fJ)),(103,.var [.lF 7,wI 0]),(104,.var [wI 0,.c (.str []),wI 0,wI 0,wI 0,.c (.str []),.lF 1,.lF 5]),(105,.var [wI x.2.1,wI x.2.2.1,wS x.2.2.2.1,wT x.2.2.2.2.1,wK x.2.2.2.2.2])])) <|pp (@IE (Bool×Int×Int×dR×List dR×List ak) _ (λn x=>G.ja.K2 n aJ fJ x.1 x.2.1 x.2.2.1 x.2.2.2.1 x.2.2.2.2.1 x.2.2.2.2.2) r (λx=>fH.of [eP 2 106,eP 3 107,eP 4 108,eP 5 109,eP 8 110,eB 9 x.1] [(106,.var (aeA aJ)),(107,.var (aeQ fJ)),(108,.var [.lF 7,wI 0]),(109,.var [wI 0,.c (.str []),wI 0,wI 0,wI 0,.c (.str []),.lF 1,.lF 5]),(110,.var [wI x.2.1,wI x.2.2.1,wS x.2.2.2.1,wT x.2.2.2.2.1,wK x.2.2.2.2.2])])) ()) (pp (bz @G.ja.K1.eq_1 <|bz @G.ja.K1.eq_2 <|bz @G.ja.K2.eq_1 <|@G.ja.K2.eq_2) ()) (pp (@fF [] [(101,10),(102,11),(103,12),(104,13),(105,14)] []) <|pp (@fF [] [(106,10),(107,11),(108,12),(109,13),(110,14)] []) ()) (pp (pp (rfl : @G.ja.K1=_) ()) <|pp (pp (rfl : @G.ja.K2=_) ()) ());exact ahV
theorem F.lu {n:Nat} : ∀{aJ r},G.lu n aJ=some r->dI pZ 109 [oS aJ] (oB r):=by intro aJ r h;refine aU K.lu (qw ?_);unfold C.lu;rcases n with _|n<;>simp only[G.lu,reduceCtorEq]at h;have z:=afp (pp @F.gu ()) (pp (@tZ (Int) _ (λn x=>G.lu.L1 n aJ x) r (λx=>fH.of [eS 0 aJ,eI 3 x] [])) ()) (pp (bz @G.lu.L1.eq_1 <|@G.lu.L1.eq_2) ()) (pp (@fF [] [] []) ());exact tH
theorem F.jA {n:Nat} : ∀{aH r},G.jA n aH=some r->dI pZ 78 [oT aH] (oB r):=by intro aH r h;refine aU K.jA (qw ?_);unfold C.jA;rcases n with _|n<;>simp only[G.jA,reduceCtorEq]at h;have z:=afp (pp @F.lu ()) (pp (@tZ (Int) _ (λn x=>G.jA.L1 n aH x) r (λx=>fH.of [eT 0 aH,eI 3 x] [])) ()) (pp (bz @G.jA.L1.eq_1 <|@G.jA.L1.eq_2) ()) (pp (@fF [] [] []) ());exact tH
theorem F.jB {n:Nat} : ∀{fJ r},G.jB n fJ=some r->dI pZ 36 [.agg (aeQ fJ)] (oB r):=by intro fJ r h;refine aU K.jB (qw ?_);unfold C.jB;rcases n with _|n<;>simp only[G.jB,reduceCtorEq]at h;have z:=afo (pp @F.gu <|pp @F.iO <|pp @F.jA <|pp @F.fZ <|pp @F.fE ());exact tH
theorem F.jY {n:Nat} : ∀{aJ fJ r},G.jY n aJ fJ=some r->dI pZ 8 [.agg (aeA aJ),.agg (aeQ fJ)] (.zi [(true,(aeA r.1)),(true,(aeT r.2))]):=by intro aJ fJ r h;refine aU K.jY (qw ?_);unfold C.jY;rcases n with _|n<;>simp only[G.jY,reduceCtorEq]at h;have z:=afo (pp @F.dF <|pp @F.jB <|pp @F.ja <|pp @F.lI ());exact tH
end Go.Ab
section
namespace Go.Ab
open Go Go.ChangeShapes Go.WideShapes Go.ChangeAt Go.RowKit
def I0 (W:World):IH:=λb=>match W.heap[b]? with
 |some (.cells c _ _)=>some c
 |_=>none
theorem aho (W:World):Agree (I0 W) W:=by
 intro b c h;unfold I0 at h;split at h
 ·rename_i c' e fr hb;cases h;exact⟨e,fr,hb⟩
 ·cases h
theorem aez (W:World){a:Addr}{v:Value}(h:W.cell? a=some v):(I0 W).cell a=some v:=by
 unfold Go.World.cell? at h;unfold IH.cell I0;split at h
 ·rename_i c e fr hb;split at h
  ·cases h
  ·rename_i hs;rw[ahk hs,hb];exact h
 ·cases h
theorem Za {W W':World}{M:Nat->Prop}(h:Dp W W' M)(hM:∀k,¬M k):Below W.heap.size W W':=
 ⟨h.os,h.tape,h.output,h.size,λk hk=>h.block k hk (hM k)⟩
theorem TY (ρ:Ren)(k:Nat):¬ ∃b,(CO [] b).uses (ρ b) k:=λ⟨b,h⟩=>by simp only[CO,List.getD_nil]at h;exact h
theorem agm {P:Program}{W:World}{x:String×DataW Unit}{rest:List (String×DataW Unit)}(h:laidMet P (x::rest) W):laidMet P rest W:=by obtain⟨ps,hv,hn,hc⟩:=h;obtain⟨g,t,cs,fuel,p,q,h1,h2,h3,h4,h5,rfl⟩:=hv;exact⟨q,h5,(List.nodup_append.1 hn).2.1,λb off hp=>hc b off (List.mem_append_right _ hp)⟩
theorem OQ {P:Program}{W:World} : ∀(k:Nat) {l:List (String×DataW Unit)},laidMet P l W->laidMet P (l.drop k) W
 |0,l,h=>h
 |k+1,[],h=>h
 |k+1,x::l,h=>OQ k (l:=l) (agm h)
theorem ad7 {P:Program}{W:World}{rest:List (String×DataW Unit)}{g:Nat}{t e:TypeId}
 (hg:P.globalNamed "internal/strconv.uint64pow10" = some g) (hty:(P.globals[g]?).map (·.type)=some t) (ht:P.underlying t=some (.array 20 e)) (he:P.underlying e=some (.int .u64)) (hce:P.cellsOf e=1) (hct:P.cellsOf t=20)
 (h:laidMet P (("internal/strconv.uint64pow10",Lib.tabData .u64 qo)::rest) W):∀g',P.globalNamed "internal/strconv.uint64pow10" = some g'->I0 W g'=some (qo.map λz=>Go.Value.int .u64 z).toArray:=by
 have h1:=Lib.tabIs_of_head hg hty ht he hce hct h;intro g' hg';rw[hg]at hg';simp only[aC]at hg';subst hg';unfold Lib.TabIs World.var? at h1;simp only[hg]at h1;unfold I0
 revert h1
 split<;>simp_all
theorem adW {P:Program}{W:World}{n:String}{g:Nat}{t:TypeId}(h:W.ShapedOpen P)(hn:P.globalNamed n=some g)(hg:g<P.globals.size)
 (h0:((begin P (λ_ _=>0) default).world.heap[g]?).bind Obj.row? = some (#[.int .i64 0],t)) (hb:P.buildable t=true) (hc:P.cellTypes P.depth t=some [t]) (hu:P.underlying t=some (.int .i64)) :
 ∀g',P.globalNamed n=some g'->∃m,(I0 W).cell ⟨g',0,none⟩=some (.int .i64 m):=by
 intro g' hg';cases hn.symm.trans hg';obtain⟨m,hm⟩:=Go.Proofs.cell_of_shapedOpen_int h hg h0 rfl hb hc hu;exact⟨m,aez W hm⟩
end Go.Ab
end
namespace Go.Ab
open Go
section
variable {P:Program} {W:World} {H:Type} {enc:TypeId×Value->H}
def SE (I:IH)(cs:List Value)(xs:List Cell):Prop:=xs.length=cs.length/\∀(i:Nat) v c,cs[i]? = some v->xs[i]? = some c->Rd I v c
theorem SE.nil {I:IH} : SE I [] []:=⟨rfl,λi v c h=>by simp at h⟩
theorem SE.app {I:IH}{a b:List Value}{x y:List Cell}(h:SE I a x)(k:SE I b y):SE I (a++b) (x++y):=by
 refine⟨by rw[bD,bD,h.1,k.1],λi v c hv hc=>?_⟩;have hl:=h.1;by_cases hi:i<a.length
 ·rw[bF hi]at hv;rw[bF (by omega)]at hc;exact h.2 i v c hv hc
 ·rw[dA (by omega)]at hv;rw[dA (by omega),hl]at hc;exact k.2 _ v c hv hc
theorem SE.one {I:IH}{v:Value}{c:Cell}(h:Rd I v c):SE I [v] [c]:=by
 refine⟨rfl,λi v' c' hv hc=>?_⟩
 match i with
 | 0=>simp only[dN,aC]at hv hc;subst hv hc;exact h
 |i+1=>simp at hv
theorem SE.fst {I:IH}{v:Value}{c:Cell}(h:SE I [v] [c]):Rd I v c:=h.2 0 v c rfl rfl
section
variable {fuel:Nat} {t:TypeId} {cs:List Value} {d:DataW H} {ps:List MemPlace}
theorem trod_int {k:IntKind}(ht:P.underlying t=some (.int k))(h:mD enc P W 0 (λ_=>true) true fuel t cs=some (d,ps)):∃n,cs=[.int k n]/\(Lit.int k n).wf=true:=by
 cases fuel with
 |zero=>cases h
 | succ fuel=>unfold mD at h;rw[ht]at h;split at h<;>simp_all
theorem ajL (ht:P.underlying t=some .string)(h:mD enc P W 0 (λ_=>true) true fuel t cs=some (d,ps)):∃s:ByteArray,cs=[.string s]/\s.size<=maxLen:=by
 cases fuel with
 |zero=>cases h
 | succ fuel=>unfold mD at h;rw[ht]at h;split at h<;>simp_all
end
theorem mapM_at {α β:Type}{f:α->Option β} : ∀{l:List α} {ys:List β},l.mapM f=some ys->ys.length=l.length/\∀(i:Nat) x,l[i]? = some x->f x=ys[i]?
 | [],ys,h=>by simp at h;subst h;exact⟨rfl,λi x hx=>by simp at hx⟩
 | a::l,ys,h=>by
   rw[List.mapM_cons]at h;cases ha:f a with
   |none=>rw[ha]at h;cases h
   | some y=>
     cases hl:l.mapM f with
     |none=>rw[ha,hl]at h;cases h
     | some r=>
       rw[ha,hl]at h;have:ys=y::r:=(by simpa using h.symm);subst this;obtain⟨h1,h2⟩:=mapM_at hl;refine⟨by simp[h1],λi x hx=>?_⟩
       match i with
       |0=>simp at hx;subst hx;simpa using ha
       |i+1=>simp at hx;simpa using h2 i x hx
theorem ab9 {β:Type}{f:Nat->Option β}{n:Nat}{ys:List β}(h:(sQ n).mapM f=some ys):ys.length=n/\∀i,i<n->f i=ys[i]?:=by obtain⟨h1,h2⟩:=mapM_at h;rw[List.length_range]at h1;exact⟨h1,λi hi=>h2 i i (by simp[hi])⟩
theorem cells_at {a:Addr}{n:Nat}{ecs:List Value}(h:W.cells? 0 a n=some ecs):ecs.length=n/\∀j v,ecs[j]? = some v->(I0 W).cell (a.add j)=some v:=by
 unfold World.cells? at h;rw[ahl (nY _)]at h;obtain⟨h1,h2⟩:=ab9 h;refine⟨h1,λj v hv=>?_⟩;have hj:j<n:=by have:=(aK.1 hv).1;omega
 have:=h2 j hj;rw[hv]at this;exact aez W this
theorem add_add (a:Addr)(x y:Nat):(a.add x).add y=a.add (x+y):=by
 unfold Go.Addr.add;by_cases hx:x=0
 ·subst hx;simp
 ·by_cases hy:y=0
  ·subst hy;simp
  ·have:¬x+y=0:=(by omega);simp[hx,hy,Nat.add_assoc]
theorem Jo {X:Type}{cells:X->List Cell}{Q:X->Prop}{sz:Nat}{t e:TypeId}{fuel:Nat}{cs:List Value}{d:DataW H}{ps:List MemPlace}(ht:P.underlying t=some (.slice e))(hce:P.cellsOf e=sz)
 (hX:∀f ecs d p,f<fuel->mD enc P W 0 (λ_=>true) true f e ecs=some (d,p)->∃x,SE (I0 W) ecs (cells x)/\Q x)
 (h:mD enc P W 0 (λ_=>true) true fuel t cs=some (d,ps)):∃(l:List X) (v:Value),cs=[v]/\Rd (I0 W) v (.sl sz (l.map cells))/\l.length<=maxLen/\∀x,x∈l->Q x:=by
 subst hce;cases fuel with
 |zero=>cases h
 | succ fuel=>
   unfold mD at h;rw[ht]at h;split at h<;>(try(simp at *;done))<;>(try contradiction)
   ·refine⟨[],_,rfl,.sl none 0 0 _ [] (λ_ _=>undef) rfl (aA _) (nY _) (λe h=>by cases h) (λh=>by omega) (λad h=>by cases h) (λi j c h=>by simp at h),nY _,λx h=>by cases h⟩
   ·rename_i e' a len cap heq;have:e'=e:=(by simpa using heq.symm);subst this;simp only at h;split at h
    ·rename_i hc;obtain⟨_,hlc,hcm⟩:=hc;cases hm:(sQ len).mapM (λi=>(W.cells? 0 (a.add (i*P.cellsOf e')) (P.cellsOf e')).bind (mD enc P W 0 (λ_=>true) true fuel e'))with
     |none=>rw[hm]at h;cases h
     | some ys=>
       obtain⟨h1,h2⟩:=ab9 hm;have elem:∀i,i<len->∃x ecs,W.cells? 0 (a.add (i*P.cellsOf e')) (P.cellsOf e')=some ecs/\SE (I0 W) ecs (cells x)/\Q x:=λi hi=>by
        have:=h2 i hi;rw[ax (by omega)]at this;cases hw:W.cells? 0 (a.add (i*P.cellsOf e')) (P.cellsOf e')with
        |none=>rw[hw]at this;cases this
        | some ecs=>rw[hw]at this;obtain⟨x,hx⟩:=hX fuel ecs _ _ (Nat.lt_succ_self _) this;exact⟨x,ecs,rfl,hx⟩
       have pick:∃l:List X,l.length=len/\∀i (hi:i<l.length),∃ecs,W.cells? 0 (a.add (i*P.cellsOf e')) (P.cellsOf e')=some ecs/\SE (I0 W) ecs (cells l[i])/\Q l[i]:=by refine⟨(sQ len).attach.map λi=>(elem i.1 (by simpa using i.2)).choose,by simp,λi hi=>?_⟩;have hi':i<len:=(by simpa using hi);obtain⟨ecs,h3⟩:=(elem i hi').choose_spec;refine⟨ecs,h3.1,?_⟩;simpa using h3.2
       obtain⟨l,hl,hp'⟩:=pick;have hp:=λi hi=>(hp' i hi).imp λ_ h=>(⟨h.1,h.2.1⟩:_/\_);refine⟨l,_,rfl,.sl (some a) len cap _ _ (λi j=>((I0 W).cell ((a.add (i*P.cellsOf e'+j)))).getD undef) (by rw[uF,hl]) hlc hcm (λx hx=>?_) (λ_ h=>by cases h) (λad hd i j hi hj=>?_) (λi j c hc=>?_),by omega,λx hx=>?_⟩
       ·obtain⟨y,hy,rfl⟩:=List.mem_map.1 hx;obtain⟨i,hi,rfl⟩:=jW.1 hy;obtain⟨ecs,g1,g2⟩:=hp i hi;rw[g2.1,(cells_at g1).1]
       ·cases hd;obtain⟨ecs,g1,g2⟩:=hp i (by omega);obtain⟨q1,q2⟩:=cells_at g1;have:=q2 j ecs[j] (ax (by omega));have ea:(a.add (i*P.cellsOf e')).add j=a.add (i*P.cellsOf e'+j):=add_add _ _ _;rw[ea]at this;rw[this];rfl
       ·by_cases hi:i<l.length
        ·obtain⟨ecs,g1,g2⟩:=hp i hi;have e1:(l.map cells).getD i []=cells l[i]:=(by simp[List.getD,hi]);rw[e1]at hc;obtain⟨q1,q2⟩:=cells_at g1;have hj:j<ecs.length:=by
          have:=(aK.1 hc).1;have:=g2.1;omega
         have q3:=q2 j ecs[j] (ax hj);have ea:(a.add (i*P.cellsOf e')).add j=a.add (i*P.cellsOf e'+j):=add_add _ _ _;rw[ea]at q3;rw[q3];exact g2.2 j _ c (ax hj) hc
        ·have:(l.map cells).getD i []=[]:=(by simp[List.getD,List.getElem?_eq_none (by simpa using hi:(l.map cells).length<=i)]);rw[this]at hc;simp at hc
       ·obtain⟨i,hi,rfl⟩:=jW.1 hx;exact(hp' i hi).choose_spec.2.2
    ·cases h
theorem trod_struct {t:TypeId}{fs:Array Field}{fuel:Nat}{cs:List Value}{d:DataW H}{ps:List MemPlace}(ht:P.underlying t=some (.struct fs))
 (h:mD enc P W 0 (λ_=>true) true fuel t cs=some (d,ps)):∃f,fuel=f+1/\cs.length=P.cellsOf t/\∀(k:Nat) x,fs.toList[k]? = some x->∃d' p',mD enc P W 0 (λ_=>true) true f x.type ((cs.drop x.offset).take (P.cellsOf x.type))=some (d',p'):=by
 cases fuel with
 |zero=>cases h
 | succ fuel=>
   refine⟨fuel,rfl,?_⟩;unfold mD at h;rw[ht]at h;split at h<;>(try(simp at *;done))<;>(try contradiction);rename_i cs0 x0 cs1 fs' heq;have:fs'=fs:=(by simpa using heq.symm);subst this;split at h
   ·rename_i hl;refine⟨hl,λk x hx=>?_⟩;cases hm:fs'.toList.mapM (λf=>mD enc P W 0 (λ_=>true) true fuel f.type ((cs0.drop f.offset).take (P.cellsOf f.type)))with
    |none=>rw[hm]at h;cases h
    | some ys=>
      obtain⟨h1,h2⟩:=mapM_at hm;have h3:=h2 k x hx;have hk:k<ys.length:=by have:=(aK.1 hx).1;omega
      rw[ax hk]at h3;exact⟨_,_,h3⟩
   ·cases h
end
end Go.Ab
section
namespace Go.Ab
open Go Go.ChangeShapes Go.WideShapes Go.ChangeAt Go.RowKit
theorem Vz {I:IH}{ρ:Ren}{cs:Array Value}{xs:List Cell}(h:SE I cs.toList xs):GV I ρ (.agg cs) (.agg (xs.map .c)):=by refine⟨cs,rfl,by rw[uF];exact h.1.symm,λj v x hv hx=>?_⟩;rw[bP]at hx;obtain⟨c,hc,rfl⟩:=bW.1 hx;exact h.2 j v c hv hc
theorem ZI {I:IH}{ρ:Ren}{v u:Value}{x y:AV}(h:GV I ρ v x)(k:GV I ρ u y):VL I ρ [v,u] [x,y]:=by
 refine⟨rfl,λj v' x' hv hx=>?_⟩
 match j with
 | 0=>simp only[dN,aC]at hv hx;subst hv hx;exact h
 | 1=>simp only[List.getElem?_cons_succ,dN,aC]at hv hx;subst hv hx;exact k
 |j+2=>simp at hv
theorem adO {P:Program}{f:FuncId}{W:World}{vs:List Value}{as_:List AV}(hT:Tabs P (I0 W))(hg:VL (I0 W) (λ_=>none) vs as_)(hp:dI P f as_ (vz true)) :
 Calls P f vs.toArray W λe W'=>e = .returned (.bool true)/\Below W.heap.size W W':=by
 refine(hp (I0 W) (λ_=>none) W vs hT (aho W) ⟨λb=>by simp only[CO,List.getD_nil];exact rfl,λb b' k h=>(TY (λ_=>none) k ⟨b,h⟩).elim,λb k h=>(TY (λ_=>none) k ⟨b,h⟩).elim⟩ hg (λ_ _=>True) .acs).mono ?_;rintro e W' ⟨⟨v,J,σ,r,bs,rfl,⟨rfl,rfl⟩,hg,_,_,_,hfr,_⟩,_⟩;refine⟨?_,Za hfr (TY (λ_=>none))⟩;cases hg;rfl
end Go.Ab
end
namespace Go.Ab
open Go
section
variable {P:Program} {W:World} {H:Type} {enc:TypeId×Value->H}
structure OC (P:Program)(tI tS tL tN tK:TypeId):Prop where
 i:P.underlying tI=some (.int .i64)
 s:P.underlying tS=some .string
 l:P.underlying tL=some (.slice tS)
 k:P.underlying tK=some (.slice tN)
 n:∃fs,P.underlying tN=some (.struct fs)/\fs.toList.map (λf=>(f.type,f.offset))=[(tI,0),(tI,1),(tS,2),(tL,3),(tK,4)]
 ci:P.cellsOf tI=1
 cs:P.cellsOf tS=1
 cl:P.cellsOf tL=1
 ck:P.cellsOf tK=1
 cn:P.cellsOf tN=5
abbrev Le (enc:TypeId×Value->H)(P:Program)(W:World):=mD enc P W 0 (λ_=>true) true
theorem RN {fuel:Nat}{t:TypeId}{cs:List Value}{d:DataW H}{ps:List MemPlace}(ht:P.underlying t=some .string)(h:Le enc P W fuel t cs=some (d,ps)):∃s:dR,SE (I0 W) cs (cS s)/\s.length<=maxLen:=by
 obtain⟨s,rfl,hl⟩:=ajL ht h;refine⟨s.data.toList,SE.one ?_,hl⟩;have:s=⟨⟨s.data.toList⟩⟩:=by cases s;rfl
 rw[this];exact Rd.str _ hl
theorem KW {fuel:Nat}{t:TypeId}{cs:List Value}{d:DataW H}{ps:List MemPlace}(ht:P.underlying t=some (.int .i64))(h:Le enc P W fuel t cs=some (d,ps)):∃n:Int,SE (I0 W) cs [.lit (.int .i64 n)] /\ -9223372036854775808<=n/\n<=9223372036854775807:=by obtain⟨n,rfl,hw⟩:=trod_int ht h;refine⟨n,SE.one (Rd.lit _ rfl),?_⟩;have hw:(decide (xZ.min<=n)&&decide (n<=xZ.max))=true:=hw;obtain⟨h1,h2⟩:=Bool.and_eq_true_iff.1 hw;exact⟨of_decide_eq_true h1,of_decide_eq_true h2⟩
theorem KX {fuel:Nat}{t tS:TypeId}{cs:List Value}{d:DataW H}{ps:List MemPlace}(ht:P.underlying t=some (.slice tS))(hS:P.underlying tS=some .string)(hc:P.cellsOf tS=1)(h:Le enc P W fuel t cs=some (d,ps)):∃l:List dR,SE (I0 W) cs [.sl 1 (l.map cS)]/\l.length<=maxLen/\∀s,s∈l->s.length<=maxLen:=by obtain⟨l,v,rfl,hr,hm,hq⟩:=Jo (cells:=cS) (Q:=λs=>s.length<=maxLen) ht hc (λf ecs d p _ h=>RN hS h) h;exact⟨l,SE.one hr,hm,hq⟩
theorem agB : maxLen<=mx:=by decide
theorem part {cs:List Value}{k:Nat}(h:k<cs.length):(cs.drop k).take 1=[cs[k]]:=by rw[List.drop_eq_getElem_cons h];rfl
theorem Uc {tI tS tL tN tK:TypeId}(T:OC P tI tS tL tN tK):∀(fuel:Nat) {cs:List Value} {d:DataW H} {ps:List MemPlace},Le enc P W fuel tN cs=some (d,ps)->∃n:ak,SE (I0 W) cs (ak.cells n)/\cs.length=5/\zJ mx fuel n:=by
 intro fuel
 induction fuel using gG with|_ fuel ih=>
 intro cs d ps h;obtain⟨fs,hfs,hl⟩:=T.n;obtain⟨f,rfl,h5,hx⟩:=trod_struct hfs h;rw[T.cn]at h5;have at_:∀k ty off,[(tI,0),(tI,1),(tS,2),(tL,3),(tK,4)][k]? = some (ty,off)->∃d' p',Le enc P W f ty ((cs.drop off).take (P.cellsOf ty))=some (d',p'):=λk ty off hk=>by rw[<- hl,bP]at hk;obtain⟨x,hx1,hx2⟩:=bW.1 hk;cases hx2;exact hx k x hx1
 obtain⟨d0,p0,h0⟩:=at_ 0 tI 0 rfl
 obtain⟨d1,p1,h1⟩:=at_ 1 tI 1 rfl
 obtain⟨d2,p2,h2⟩:=at_ 2 tS 2 rfl
 obtain⟨d3,p3,h3⟩:=at_ 3 tL 3 rfl
 obtain⟨d4,p4,h4⟩:=at_ 4 tK 4 rfl
 rw[T.ci,part (by omega)]at h0 h1;rw[T.cs,part (by omega)]at h2;rw[T.cl,part (by omega)]at h3;rw[T.ck,part (by omega)]at h4;obtain⟨z0,r0,_⟩:=KW T.i h0;obtain⟨z1,r1,_⟩:=KW T.i h1;obtain⟨z2,r2,m2⟩:=RN T.s h2;obtain⟨z3,r3,m3,q3⟩:=KX T.l T.s T.cs h3;obtain⟨z4,v4,e4,r4,m4,q4⟩:=Jo (cells:=ak.cells) (Q:=λn=>zJ mx f n) T.k T.cn (λf' ecs d p hf hh=>(ih f' (by omega) hh).imp λn hn=>⟨hn.1,hn.2.2.mono (aA _) (by omega)⟩) h4;have hM:=agB;refine⟨ak.mk z0 z1 z2 z3 z4,?_,h5,bH m2 hM,bH m3 hM,λs hs=>bH (q3 s hs) hM,bH m4 hM,trivial,q4⟩;rw[ak.gy];have ec:cs=[cs[0]]++([cs[1]]++([cs[2]]++([cs[3]]++[cs[4]]))):=by
  match cs,h5 with
  |[a,b,c,d,e],_=>rfl
 rw[ec];have e4':cs[4]=v4:=by simpa using e4
 exact r0.app (r1.app (r2.app (r3.app (e4'▸SE.one r4))))
structure Yk (P:Program)(tI tS tL tN tK tO tP:TypeId):Prop where
 nt:OC P tI tS tL tN tK
 p:P.underlying tP=some (.slice tO)
 o:∃fs,P.underlying tO=some (.struct fs)/\fs.toList.map (λf=>(f.type,f.offset))=[(tI,0),(tL,1),(tL,2),(tN,3)]
 co:P.cellsOf tO=8
 cp:P.cellsOf tP=1
theorem alj {tI tS tL tN tK tO tP:TypeId}(T:Yk P tI tS tL tN tK tO tP){fuel:Nat}{cs:List Value}{d:DataW H}{ps:List MemPlace}(h:Le enc P W fuel tO cs=some (d,ps)):∃o:pW,SE (I0 W) cs (pW.cells o)/\cs.length=8/\GL mx fuel o:=by
 obtain⟨fs,hfs,hl⟩:=T.o;obtain⟨f,rfl,h8,hx⟩:=trod_struct hfs h;rw[T.co]at h8;have at_:∀k ty off,[(tI,0),(tL,1),(tL,2),(tN,3)][k]? = some (ty,off)->∃d' p',Le enc P W f ty ((cs.drop off).take (P.cellsOf ty))=some (d',p'):=λk ty off hk=>by rw[<- hl,bP]at hk;obtain⟨x,hx1,hx2⟩:=bW.1 hk;cases hx2;exact hx k x hx1
 obtain⟨d0,p0,h0⟩:=at_ 0 tI 0 rfl
 obtain⟨d1,p1,h1⟩:=at_ 1 tL 1 rfl
 obtain⟨d2,p2,h2⟩:=at_ 2 tL 2 rfl
 obtain⟨d3,p3,h3⟩:=at_ 3 tN 3 rfl
 rw[T.nt.ci,part (by omega)]at h0;rw[T.nt.cl,part (by omega)]at h1 h2;obtain⟨z0,r0,_⟩:=KW T.nt.i h0;obtain⟨z1,r1,m1,q1⟩:=KX T.nt.l T.nt.s T.nt.cs h1;obtain⟨z2,r2,m2,q2⟩:=KX T.nt.l T.nt.s T.nt.cs h2;obtain⟨n,r3,_,q3⟩:=Uc T.nt f h3;have hM:=agB;rw[ak.gy,T.nt.cn]at r3;refine⟨pW.mk z0 z1 z2 n,?_,h8,⟨bH m1 hM,λs hs=>bH (q1 s hs) hM⟩,⟨bH m2 hM,λs hs=>bH (q2 s hs) hM⟩,q3.mono (aA _) (by omega)⟩;have ec:cs=[cs[0]]++([cs[1]]++([cs[2]]++(cs.drop 3).take 5)):=by
  match cs,h8 with
  |[a,b,c,d,e,f,g,h],_=>rfl
 rw[ec];exact r0.app (r1.app (r2.app r3))
theorem ajq {tI tS tL tN tK tO tP:TypeId}(T:Yk P tI tS tL tN tK tO tP){fuel:Nat}{cs:List Value}{d:DataW H}{ps:List MemPlace}(h:Le enc P W fuel tP cs=some (d,ps)):∃(l:List pW) (v:Value),cs=[v]/\Rd (I0 W) v (.sl 8 (l.map pW.cells))/\l.length<=maxLen/\∀o,o∈l->∃D,GL mx D o:=
 Jo (cells:=pW.cells) (Q:=λo=>∃D,GL mx D o) T.p T.co (λf ecs d p _ hh=>(alj T hh).imp λn hn=>⟨hn.1,f,hn.2.2⟩) h
end
section
variable {P:Program} {W:World} {H:Type} {enc:TypeId×Value->H}
structure VQ (P:Program)(tI tS tL tN tK tD tE tT:TypeId):Prop where
 nt:OC P tI tS tL tN tK
 d:∃fs,P.underlying tD=some (.struct fs)/\fs.toList.map (λf=>(f.type,f.offset))=[(tS,0),(tI,1),(tN,2)]
 e:P.underlying tE=some (.slice tD)
 t:∃fs,P.underlying tT=some (.struct fs)/\fs.toList.map (λf=>(f.type,f.offset))=[(tE,0),(tI,1)]
 cd:P.cellsOf tD=7
 ce:P.cellsOf tE=1
 ct:P.cellsOf tT=2
theorem ahx {f:Nat}{cs:List Value}{fs:Array Field}{l:List (TypeId×Nat)}(hl:fs.toList.map (λf=>(f.type,f.offset))=l)
 (hx:∀(k:Nat) x,fs.toList[k]? = some x->∃d' p',mD enc P W 0 (λ_=>true) true f x.type ((cs.drop x.offset).take (P.cellsOf x.type))=some (d',p')) :
 ∀(k:Nat) (ty:TypeId) (off:Nat),l[k]? = some (ty,off)->∃d' p',Le enc P W f ty ((cs.drop off).take (P.cellsOf ty))=some (d',p'):=λk ty off hk=>by
 rw[<- hl,bP]at hk;obtain⟨x,hx1,hx2⟩:=bW.1 hk;cases hx2;exact hx k x hx1
theorem agJ {tI tS tL tN tK tD tE tT:TypeId}(T:VQ P tI tS tL tN tK tD tE tT){fuel:Nat}{cs:List Value}{d:DataW H}{ps:List MemPlace}(h:Le enc P W fuel tD cs=some (d,ps)):∃o:bg,SE (I0 W) cs (bg.cells o)/\cs.length=7/\VJ mx fuel o:=by
 obtain⟨fs,hfs,hl⟩:=T.d;obtain⟨f,rfl,h7,hx⟩:=trod_struct hfs h;rw[T.cd]at h7;have at_:=ahx hl hx
 obtain⟨d0,p0,h0⟩:=at_ 0 tS 0 rfl
 obtain⟨d1,p1,h1⟩:=at_ 1 tI 1 rfl
 obtain⟨d2,p2,h2⟩:=at_ 2 tN 2 rfl
 rw[T.nt.cs,part (by omega)]at h0;rw[T.nt.ci,part (by omega)]at h1;obtain⟨z0,r0,m0⟩:=RN T.nt.s h0;obtain⟨z1,r1,_⟩:=KW T.nt.i h1;obtain⟨n,r2,_,q2⟩:=Uc T.nt f h2;have hM:=agB;rw[ak.gy,T.nt.cn]at r2;refine⟨bg.mk z0 z1 n,?_,h7,bH m0 hM,q2.mono (aA _) (by omega)⟩;have ec:cs=[cs[0]]++([cs[1]]++(cs.drop 2).take 5):=by
  match cs,h7 with
  |[a,b,c,d,e,f,g],_=>rfl
 rw[ec];exact r0.app (r1.app r2)
theorem Qn {tI tS tL tN tK tD tE tT:TypeId}(T:VQ P tI tS tL tN tK tD tE tT){fuel:Nat}{cs:List Value}{d:DataW H}{ps:List MemPlace}(h:Le enc P W fuel tT cs=some (d,ps)) :
 ∃s:alG,SE (I0 W) cs [.sl 7 (s.akj.map bg.cells),.lit (.int .i64 s.amJ)]/\cs.length=2/\s.akj.length<=mx/\∃D,∀o,o∈s.akj->VJ mx D o:=by
 obtain⟨fs,hfs,hl⟩:=T.t;obtain⟨f,rfl,h2,hx⟩:=trod_struct hfs h;rw[T.ct]at h2;have at_:=ahx hl hx
 obtain⟨d0,p0,h0⟩:=at_ 0 tE 0 rfl
 obtain⟨d1,p1,h1⟩:=at_ 1 tI 1 rfl
 rw[T.ce,part (by omega)]at h0;rw[T.nt.ci,part (by omega)]at h1;obtain⟨z0,v0,e0,r0,m0,q0⟩:=Jo (cells:=bg.cells) (Q:=λn=>VJ mx f n) T.e T.cd (λf' ecs d p _ hh=>(agJ T hh).imp λn hn=>⟨hn.1,hn.2.2.1,hn.2.2.2.mono (aA _) (by omega)⟩) h0;obtain⟨z1,r1,_⟩:=KW T.nt.i h1;refine⟨alG.mk z0 z1,?_,h2,bH m0 agB,f,q0⟩;have ec:cs=[cs[0]]++[cs[1]]:=by
  match cs,h2 with
  |[a,b],_=>rfl
 rw[ec];have e0':cs[0]=v0:=by simpa using e0
 exact(e0'▸SE.one r0).app r1
structure VN (P:Program)(tI tS tL tN tK tO tP tR:TypeId):Prop where
 ot:Yk P tI tS tL tN tK tO tP
 r:∃fs,P.underlying tR=some (.struct fs)/\fs.toList.map (λf=>(f.type,f.offset))=[(tI,0),(tS,1),(tL,2),(tL,3),(tN,4),(tP,9)]
 cr:P.cellsOf tR=10
theorem RJ {tI tS tL tN tK tO tP tR:TypeId}(T:VN P tI tS tL tN tK tO tP tR){fuel:Nat}{cs:List Value}{d:DataW H}{ps:List MemPlace}(h:Le enc P W fuel tR cs=some (d,ps)) :
 ∃q:akh,SE (I0 W) cs [.lit (.int .i64 q.amI),.str q.al9,.sl 1 (q.anx.map cS),.sl 1 (q.lY.map cS),.lit (.int .i64 q.Body.alC),.lit (.int .i64 q.Body.Num),.str q.Body.amV,.sl 1 (q.Body.aiJ.map cS),.sl 5 (q.Body.ajX.map ak.cells),.sl 8 (q.Ops.map pW.cells)]/\cs.length=10/\∃D,aaD D q:=by
 obtain⟨fs,hfs,hl⟩:=T.r;obtain⟨f,rfl,h10,hx⟩:=trod_struct hfs h;rw[T.cr]at h10;have N:=T.ot.nt;have at_:=ahx hl hx
 obtain⟨d0,p0,h0⟩:=at_ 0 tI 0 rfl
 obtain⟨d1,p1,h1⟩:=at_ 1 tS 1 rfl
 obtain⟨d2,p2,h2⟩:=at_ 2 tL 2 rfl
 obtain⟨d3,p3,h3⟩:=at_ 3 tL 3 rfl
 obtain⟨d4,p4,h4⟩:=at_ 4 tN 4 rfl
 obtain⟨d5,p5,h5⟩:=at_ 5 tP 9 rfl
 rw[N.ci,part (by omega)]at h0;rw[N.cs,part (by omega)]at h1;rw[N.cl,part (by omega)]at h2 h3;rw[T.ot.cp,part (by omega)]at h5;obtain⟨z0,r0,_⟩:=KW N.i h0;obtain⟨z1,r1,m1⟩:=RN N.s h1;obtain⟨z2,r2,m2,q2⟩:=KX N.l N.s N.cs h2;obtain⟨z3,r3,m3,q3⟩:=KX N.l N.s N.cs h3;obtain⟨n,r4,_,q4⟩:=Uc N f h4;obtain⟨z5,v5,e5,r5,m5,q5⟩:=ajq T.ot h5;have hM:=agB;obtain⟨D,hD,hO⟩:=GL.all f q5;rw[ak.gy,N.cn]at r4;refine⟨akh.mk z0 z1 z2 z3 n z5,?_,h10,D,bH m1 hM,⟨bH m2 hM,λs hs=>bH (q2 s hs) hM⟩,⟨bH m3 hM,λs hs=>bH (q3 s hs) hM⟩,q4.mono (aA _) hD,bH m5 hM,hO⟩;have ec:cs=[cs[0]]++([cs[1]]++([cs[2]]++([cs[3]]++((cs.drop 4).take 5++[cs[9]])))):=by
  match cs,h10 with
  |[a,b,c,d,e,f,g,h,i,j],_=>rfl
 rw[ec];have e5':cs[9]=v5:=by simpa using e5
 exact r0.app (r1.app (r2.app (r3.app (r4.app (e5'▸SE.one r5)))))
end
end Go.Ab
