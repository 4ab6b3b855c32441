/- What abstract codes mean (part 3). No conditions. -/
import Derived.Test.YtaodeagfpncomaaGreatDoorY2
set_option linter.unusedVariables false
set_option linter.unusedSimpArgs false
open Array renaming getD_eq_getD_getElem?->dm,length_toList->fE,getElem?_append_left->mO,replicate->o5,getElem_toList->rF,toList_setIfInBounds->sF,getElem?_modify->uT
open Bool renaming and_eq_true->af,or_eq_true->eX,not_eq_true'->gG,false_eq_true->kz,and_true->qH
open Fin renaming val->yh
open Go.Act renaming put->fO
open Go.Code renaming region->vg
open Go.Exit renaming inBlock->rH
open Go.Instr renaming sureAddr->iw,loadAt->kN
open Go.IntKind renaming wrap->ah
open Go.Next renaming value->jy
open Go.Proofs renaming sortWorldK->lM,ltOf->yG
open Go.Result renaming andThen_ok->aO,ok->jG
open Go.Sem renaming run_pure->aZ,run_bind->bC
open Go.Sort renaming insertionSort->uU,insOuter->uq,putCells->uu,size_flatK->wF,insInner->xJ,grow->zH
open Go.Value renaming cells->jD,slice->vz
open Go.World renaming cell?->dY
open List renaming all_eq_true->aB,mem_filter->aC,mem_map->aG,getElem?_map->aP,map->aW,getElem?_append_left->aX,getD_eq_getElem?_getD->aY,getElem?_eq_getElem->ai,mem_cons->au,getElem?_eq_some_iff->ay,mem_cons_of_mem->bU,getElem?_append_right->bZ,map_cons->bf,mem_append->bg,getElem_mem->dB,getElem?_drop->dS,contains_iff_mem->eF,getElem?_eq_none->iq,all_cons->iy,foldl_cons->jL,length_map->jM,length_take->kW,getElem?_set->lI,getElem_of_mem->lX,append_nil->mJ,flatMap_cons->mQ,nodup_cons->rO,finRange->sV,length_reverse->vZ,perm_middle->xM,drop->yS
open List.Perm renaming cons->yI
open Nat renaming le_refl->aA,mul_le_mul_right->aH,zero_add->dF,le_trans->dh,lt_of_lt_of_le->fU,zero_le->kU,mul_comm->lN,add_comm->pG,mod_lt->qV,div_add_mod->rP,div_lt_iff_lt_mul->ry
open Option renaming map_eq_some_iff->aU,map_some->iZ,isSome_none->sJ
open Option.some renaming injEq->aI
namespace Go.Ab
open Go
section
def ND : List (Nat×Nat)->Nat->Option Nat
 |[],_=>none
 |(b,c)::r,x=>if b=x then some c else ND r x
def TT (zs:List Nat)(bx:Nat->Box)(π:Nat->Option Nat)(vs:List Nat)(ts0:List (Nat×Slot)):List (Nat×Slot)->Prop
 |[]=>True
 |(t,s)::r=>NU zs bx π vs (uF ts0 t) s/\TT zs bx π vs ts0 r
def Nu (zs:List Nat)(bx:Nat->Box)(π:Nat->Option Nat)(vs:List Nat):List (Nat×Box)->Prop
 |[]=>True
 |(b,x)::r=>Zo zs bx π vs b x/\Nu zs bx π vs r
def Box.isAbs : Box->Bool
 |.absent=>true
 |_=>false
def nodupB : List Nat->Bool
 |[]=>true
 |x::r=> !r.contains x&&nodupB r
def fst' {α:Type} : List (Nat×α)->List Nat
 |[]=>[]
 |x::r=>x.1::fst' r
def snd' : List (Nat×Nat)->List Nat
 |[]=>[]
 |x::r=>x.2::snd' r
def IU (m:Nat)(BL bs:List (Nat×Box))(pi:List (Nat×Nat))(vs:List Nat):Bool:=
 nodupB (snd' (pi.filter λp=> !(l9 bs p.1).IM))&&nodupB (fst' pi)&&(fst' pi).all (λb=>(fst' bs).contains b)&&vs.all (λb=>(fst' bs).contains b && !(fst' pi).contains b) &&
  (List.range m).all λb=>ND pi b==some b||(!(fst' pi).contains b && !vs.contains b&&(l9 BL b).isAbs)
theorem Me {l:List Nat} : nodupB l=true<->l.Nodup:=by
 induction l with
 |nil=>simp[nodupB]
 |cons x r ih=>simp[nodupB,ih]
theorem Hr : ∀{pi:List (Nat×Nat)} {b c:Nat},ND pi b=some c->(b,c)∈pi
 |[],_,_,h=>by cases h
 | (x,y)::r,b,c,h=>by
   simp only[ND]at h;split at h
   ·rename_i e;subst e;cases h;exact List.mem_cons_self ..
   ·exact bU _ (Hr h)
theorem RD {α:Type} : ∀{l:List (Nat×α)} {b:Nat},b∈fst' l<->∃x,(b,x)∈l
 |[],b=>by simp[fst']
 | (a,y)::r,b=>by
   simp only[fst',au,RD (l:=r)];constructor
   ·rintro(h|⟨x,hx⟩)
    ·subst h;exact⟨y,.inl rfl⟩
    ·exact⟨x,.inr hx⟩
   ·rintro⟨x,h|h⟩
    ·cases h;exact .inl rfl
    ·exact .inr ⟨x,h⟩
theorem Xm : ∀{l:List (Nat×Nat)},snd' l=l.map (·.2)
 |[]=>rfl
 |x::r=>by simp[snd',Xm (l:=r)]
theorem MI {pi:List (Nat×Nat)}{b:Nat}(h:b ∉ fst' pi):ND pi b=none:=by
 cases hp:ND pi b with
 |none=>rfl
 |some c=>exact dO (RD.2 ⟨c,Hr hp⟩) h
theorem TQ {zs vs:List Nat}{bx:Nat->Box}{π:Nat->Option Nat} : ∀{bs:List (Nat×Box)},Nu zs bx π vs bs->∀b x,(b,x)∈bs->Zo zs bx π vs b x
 |[],_,_,_,h=>by cases h
 | (c,y)::r,hw,b,x,h=>by
   rcases au.1 h with h|h
   ·cases h;exact hw.1
   ·exact TQ hw.2 b x h
theorem O7 {zs vs:List Nat}{bx:Nat->Box}{π:Nat->Option Nat}{ts0:List (Nat×Slot)} : ∀{ts:List (Nat×Slot)},TT zs bx π vs ts0 ts->∀t,NU zs bx π vs (uF ts0 t) (uF ts t)
 |[],_,_=>by simp[uF,NU]
 | (c,y)::r,hw,t=>by
   simp only[uF];split
   ·rename_i e;subst e;exact hw.1
   ·exact O7 hw.2 t
theorem Yo {bs:List (Nat×Box)}{b:Nat} : (b,l9 bs b)∈bs\/(b ∉ fst' bs/\l9 bs b = .absent):=by
 induction bs with
 |nil=>right;simp[fst',l9]
 | cons p r ih=>
   obtain⟨c,y⟩:=p;simp only[l9];by_cases h:c=b
   ·subst h;left;simp
   ·rw[aj h];rcases ih with ih|⟨h1,h2⟩
    ·left;exact bU _ ih
    ·right;refine⟨?_,h2⟩;simp only[fst',au,not_or];exact⟨λe=>h e.symm,h1⟩
theorem abV {m:Nat}{BL bs:List (Nat×Box)}(zs:List Nat)(pi:List (Nat×Nat))(vs:List Nat)(hk:IU m BL bs pi vs=true)(hb:Nu zs (l9 BL) (ND pi) vs bs):WkS m (l9 BL) (l9 bs) zs (ND pi) vs:=by
 simp only[IU,af,aB,eX,aK,gG,List.mem_range,Me,eF]at hk;obtain⟨⟨⟨⟨h1,_⟩,h3⟩,h4⟩,h5⟩:=hk;have aap:∀{l:List Nat} {x:Nat},l.contains x=false->x ∉ l:=λh hm=>by rw[eF.2 hm]at h;cases h
 refine⟨λb=>?_,λb b' c hd1 hd2 hb1 hb2=>?_,λb hv=>MI (aap (h4 b hv).2),λb hlt=>?_⟩
 ·rcases Yo (bs:=bs) (b:=b)with h|⟨h,e⟩
  ·exact TQ hb b _ h
  ·rw[e];exact⟨MI λhm=>h (h3 b hm),λhm=>h (h4 b hm).1⟩
 ·have m1:(b,c)∈pi.filter λp=> !(l9 bs p.1).IM:=aC.2 ⟨Hr hb1,by simp[hd1]⟩;have m2:(b',c)∈pi.filter λp=> !(l9 bs p.1).IM:=aC.2 ⟨Hr hb2,by simp[hd2]⟩;rw[Xm]at h1;obtain⟨i,hi,ei⟩:=lX m1;obtain⟨j,hj,ej⟩:=lX m2;have hpw:=List.pairwise_iff_getElem.1 h1;rcases Nat.lt_trichotomy i j with h|h|h
  ·have:=hpw i j (by simpa using hi) (by simpa using hj) h;simp[ei,ej]at this
  ·subst h;rw[ei]at ej;cases ej;rfl
  ·have:=hpw j i (by simpa using hj) (by simpa using hi) h;simp[ei,ej]at this
 ·rcases h5 b hlt with h|⟨⟨h,h'⟩,h''⟩
  ·exact .inl h
  ·refine .inr ⟨MI (aap h),aap h',?_⟩;cases hx:l9 BL b with
   |absent=>rfl
   |_=>rw[hx]at h'';cases h''
theorem FQ (ts:List (Nat×Slot))(bs:List (Nat×Box)):(eH.of ts bs).bx=l9 bs:=funext λb=>xG ts bs b
theorem adA {m:Nat}{ts0 ts:List (Nat×Slot)}{BL bs:List (Nat×Box)}(zs:List Nat)(pi:List (Nat×Nat))(vs:List Nat)(hk:IU m BL bs pi vs=true)
 (hb:Nu zs (l9 BL) (ND pi) vs bs) (ht:TT zs (l9 BL) (ND pi) vs ts0 ts):ER m (eH.of ts0 BL) (eH.of ts bs):=by
 refine⟨zs,ND pi,vs,?_,λt=>?_⟩
 ·rw[FQ,FQ];exact abV zs pi vs hk hb
 ·rw[FQ,BV,BV];exact O7 ht t
def dC (bx:Nat->Box):AC->AC->Prop
 |.c x,.c y=>x=y
 |.wC sz,.c y=>y = .sl sz []
 | .own b n sz,.c y=>match(bx b).arr with
   |some (sz',es)=>sz'=sz/\n<=es.length/\y = .sl sz (es.take n)
   |none=>False
 |_,_=>False
def dCs (bx:Nat->Box):List AC->List AC->Prop
 |[],[]=>True
 |x::xs,y::ys=>dC bx x y/\dCs bx xs ys
 |_,_=>False
def dPs (bx:Nat->Box):List (Bool×List AC)->List (Bool×List AC)->Prop
 |[],[]=>True
 |(g,x)::xs,(g',y)::ys=>g=g'/\dCs bx x y/\dPs bx xs ys
 |_,_=>False
def dV (bx:Nat->Box):AV->AV->Prop
 |.one x,.one y=>dC bx x y
 |.agg xs,.agg ys=>dCs bx xs ys
 |.Bl xs,.Bl ys=>dPs bx xs ys
 |_,_=>False
theorem adQ {bx:Nat->Box}{zs:List Nat}{x y:AC}(h:dC bx x y)(hz:∀b,b∈kL [x]->b∈zs):F8 zs bx (λ_=>none) [] x y:=by
 cases x<;>cases y<;>simp only[dC]at h<;>try exact h
 exact⟨hz _ (by simp[kL]),h⟩
theorem UR {bx:Nat->Box}{zs:List Nat} : ∀{xs ys:List AC},dCs bx xs ys->(∀b,b∈kL xs->b∈zs)->F9 zs bx (λ_=>none) [] xs ys
 |[],[],_,_=>trivial
 |x::xs,y::ys,h,hz=>⟨adQ h.1 λb hb=>hz b (xH.2 (.inl hb)),UR h.2 λb hb=>hz b (xH.2 (.inr hb))⟩
 |[],_::_,h,_=>h.elim
 |_::_,[],h,_=>h.elim
theorem ZR {bx:Nat->Box}{zs:List Nat} : ∀{xs ys:List (Bool×List AC)},dPs bx xs ys->(∀b,b∈(AV.Bl xs).owns->b∈zs)->NT zs bx (λ_=>none) [] xs ys
 |[],[],_,_=>trivial
 | (g,x)::xs,(g',y)::ys,h,hz=>⟨h.1,UR h.2.1 λb hb=>hz b (by simp only[AV.owns,mQ,bg];exact .inl hb),ZR h.2.2 λb hb=>hz b (by simp only[AV.owns,mQ,bg]at hb⊢;exact .inr hb)⟩
 |[],_::_,h,_=>h.elim
 |_::_,[],h,_=>h.elim
theorem afW {bx:Nat->Box}{x y:AV}(h:dV bx x y):Xu x.owns bx (λ_=>none) [] x y:=by
 cases x<;>cases y<;>simp only[dV]at h<;>first|exact h.elim|skip
 ·exact adQ h λb hb=>hb
 ·exact UR h λb hb=>hb
 ·exact ZR h λb hb=>hb
def JE (rs:List qW)(r:AV)(st:eH):Prop:=Au st rs/\dV st.bx (NP st rs) r
def QP (rs:List qW)(r:AV):AQ
 |.normal,st=>JE rs r st
 |.ret,st=>JE rs r st
 |.exit _,_=>False
theorem JE.ret {rs:List qW}{r:AV}{st:eH}(h:JE rs r st):BF rs 0 (λr' bs=>r'=r/\bs=[]) st:=
 ⟨h.1,r,[],_,_,[],⟨rfl,rfl⟩,⟨λb=>by rw[JW];exact⟨rfl,kY⟩,λb b' c _ _ h=>by simp at h,λb _=>rfl,λb hb=>by omega⟩,afW h.2⟩
section
variable {P:Program}
theorem Nv : ∀{l:List iR} {st:eH} {K K':eH->Prop},(∀st,K st->K' st)->wpOps P l st K->wpOps P l st K'
 |[],st,_,_,hk,h=>hk st h
 |x::r,_,_,_,hk,h=>Ij (λ_ _ _ h=>Nv (l:=r) hk h) (show T P x _ (λ_ _ st'=>wpOps P r st' _)from h)
theorem TU : ∀{l:List (iR×List Nat)} {i:Nat} {log:Log} {st:eH} {K K':eH->Prop},(∀st,K st->K' st)->wpD P l i log st K->wpD P l i log st K'
 |[],_,_,st,_,_,hk,h=>hk st h
 |(o,zO)::r,i,log,_,_,_,hk,h=>Ij (λ_ _ _ h=>⟨h.1,TU (l:=r) hk h.2⟩) (show T P o _ (λrd wr st'=>x8 zO rd wr log=true/\wpD P r (i+1) ((i,rd,wr)::log) st' _)from h)
theorem wpC_mono : ∀{c:eG} {Q Q':AQ} {st:eH},(∀e st,Q e st->Q' e st)->wpC P c Q st->wpC P c Q' st
 |.skip,_,_,st,hq,h=>hq .normal st h
 |.reg ops keep,_,_,st,hq,h=>Nv (λst h=>hq .normal _ h) h
 |.wJ ops keep,_,_,st,hq,h=>TU (λst h=>hq .normal _ h) h
 |.seq a b,_,_,st,hq,h=>wpC_mono (c:=a) (λe st h=>by
  cases e with
  |normal=>exact wpC_mono (c:=b) hq h
  |exit id=>exact hq _ _ h
  |ret=>exact hq _ _ h) h
 |.cut a b,_,_,st,hq,⟨X,J,S,h1,h2⟩=>⟨X,J,S,wpC_mono (c:=a) (λe st h=>by
  cases e with
  |normal=>exact h
  |exit id=>exact hq _ _ h
  |ret=>exact hq _ _ h) h1,λx hx=>wpC_mono (c:=b) hq (h2 x hx)⟩
 |.cond c a b,_,_,st,hq,⟨h1,h2⟩=>⟨h1,by
  split at h2
  ·exact⟨λe=>wpC_mono (c:=a) hq (h2.1 e),λe=>wpC_mono (c:=b) hq (h2.2 e)⟩
  ·exact h2.elim⟩
 |.block id a,_,_,st,hq,h=>wpC_mono (c:=a) (λe st h=>by
  cases e with
  |normal=>exact hq _ _ h
  | exit id'=>
    simp only[oO.inBlock]at h⊢;split
    ·rename_i e;rw[aF e]at h;exact hq _ _ h
    ·rename_i e;rw[aj e]at h;exact hq _ _ h
  |ret=>exact hq _ _ h) h
 |.loop a,_,_,st,hq,⟨X,J,S,μ,h0,h1⟩=>⟨X,J,S,μ,h0,λx hx=>wpC_mono (c:=a) (λe st h=>by
  cases e with
  |normal=>exact h
  |exit id=>exact hq _ _ h
  |ret=>exact hq _ _ h) (h1 x hx)⟩
 |.exit id,_,_,st,hq,h=>hq _ _ h
 |.ret,_,_,st,hq,h=>hq _ _ h
theorem dU {f:FuncId}{ac:eG}{rs:List qW}{args:List AV}{r:AV}(hc:nI P f args.length 0 ac rs=true)(hwp:wpC P ac (QP rs r) (st0 args [])):gY P f args r:=by
 refine Yb (fp:=[]) hc (wpC_mono (λe st h=>?_) hwp) ac5;cases e with
 |normal=>exact JE.ret h
 |ret=>exact JE.ret h
 |exit id=>exact h.elim
theorem Cm.intro {body:AQ->eH->Prop}{Q:AQ}{st:eH}{d1:DU body}{d2:DU Q}{X:Type}(J:X->Prop)(S:X->eH)(μ:X->Nat)(x0:X)(h0:J x0)(hw:ER 10 st (S x0))
 (h:∀x,J x->body (oO.then (λst'=>∃x',(J x'/\μ x'<μ x)/\ER 10 st' (S x')) Q) (S x)):Cm body Q st d1 d2:=
 ⟨X,J,S,μ,⟨x0,h0,hw⟩,h⟩
theorem Gi.intro {wa wb:AQ->eH->Prop}{Q:AQ}{st:eH}{d1:DU wa}{d2:DU wb}{d3:DU Q}{X:Type}(J:X->Prop)(S:X->eH)
 (h1:wa (oO.then (λst'=>∃x,J x/\ER 10 st' (S x)) Q) st) (h2:∀x,J x->wb Q (S x)):Gi wa wb Q st d1 d2 d3:=
 ⟨X,J,S,h1,h2⟩
def zD (bx:Nat->Box):AC->AC
 |.wC sz=>.c (.sl sz [])
 | .own b n sz=>match(bx b).arr with
   |some (_,es)=>.c (.sl sz (es.take n))
   |none=>.Ee
 |x=>x
def xZ (bx:Nat->Box):AV->AV
 |.one x=>.one (zD bx x)
 |.agg xs=>.agg (xs.map (zD bx))
 |.Bl xs=>.Bl xs
def tY (bx:Nat->Box):List AV->Prop
 |[]=>True
 |.Bl _::_=>False
 |x::r=>tu bx x.cells/\tY bx r
theorem Ef {bx:Nat->Box} : ∀{xs:List AC},tu bx xs->CvL bx xs (xs.map (zD bx))
 |[],_=>.nil
 | x::r,h=>by
   cases x with
   | own b n sz=>
     obtain⟨h1,h2⟩:=h;refine .cons ?_ (Ef h2);simp only[zD];cases hb:(bx b).arr with
     |none=>rw[hb]at h1;exact h1.elim
     |some p=>obtain⟨sz',es⟩:=p;rw[hb]at h1;obtain⟨rfl,h1⟩:=h1;exact .own b n sz' es hb h1
   |wC sz=>exact .cons (.wC sz) (Ef (xs:=r) h)
   |_=>exact .cons (.refl _) (Ef (xs:=r) h)
theorem G7 {bx:Nat->Box} : ∀{xs:List AV},tY bx xs->Fp bx xs (xs.map (xZ bx))
 |[],_=>.nil
 | x::r,h=>by
   cases x with
   | one x=>
     refine .cons ?_ (G7 h.2);have:=Ef (xs:=[x]) h.1;cases this with
     |cons h t=>exact .one h
   |agg xs=>exact .cons (.agg (Ef h.1)) (G7 h.2)
   |Bl xs=>exact h.elim
variable {f:FuncId} {pz:List AV} {p:Bool} {d:Option Nat} {st:eH} {K:List Nat->List Nat->eH->Prop} {du:DU K}
theorem pM.lit (r:AV)(h:p=true->gY P f (pz.map (xZ st.bx)) r)(hl:p=true->tY st.bx pz)(hd:(pz.map (xZ st.bx)).all (·.all AC.qC)=true)(hr:r.all AC.isLit=true)
 (k:K (pz.flatMap AV.owns) [] (st.uh d (.v p r))):pM P f pz p d st K du:=
 E8.lit _ r (λe=>G7 (hl e)) hd h hr k
theorem pM.pure (r:AV)(hp:p=true)(h:gY P f (pz.map (xZ st.bx)) r)(hl:tY st.bx pz)(hd:(pz.map (xZ st.bx)).all (·.all AC.qC)=true)(hr:r.all AC.qC=true)
 (k:K (pz.flatMap AV.owns) (pz.flatMap AV.owns) ((st.AU (pz.flatMap AV.owns)).uh d (.v true r))):pM P f pz p d st K du:=
 E8.pure _ r hp (G7 hl) hd h hr k
end
end
section
def TK (P:Program)(o:iR)(st:eH)(K:List Nat->List Nat->eH->Prop)(_:DU o)(_:DU K):Prop:=T P o st K
def Jh (P:Program)(ops:List iR)(st:eH)(K:eH->Prop)(_:DU ops)(_:DU K):Prop:=wpOps P ops st K
def Ze (P:Program)(ops:List (iR×List Nat))(i:Nat)(log:List (Nat×List Nat×List Nat))(st:eH)(K:eH->Prop)(_:DU ops)(_:DU K):Prop:=wpD P ops i log st K
def vU (P:Program)(c:eG)(Q:AQ)(st:eH)(_:DU c)(_:DU Q):Prop:=wpC P c Q st
def QK (Q:AQ)(e:oO)(st:eH)(_:DU Q):Prop:=Q e st
def Fj (c:eG)(P:Program)(Q:AQ):AQ:=oO.then (wpC P c Q) Q
section
variable {P:Program} {st:eH} {K:List Nat->List Nat->eH->Prop} {k:eH->Prop} {Q:AQ}
theorem acr {g:Option (Nat×Bool)}{d:Option Nat}{f:FuncId}{args:List jR}{d1:DU (iR.mk g d (.call f args))}{d2:DU K} :
 TK P ⟨g,d,.call f args⟩ st K d1 d2=(xe st.tm g/\(mF st.tm g=true->∀x,x∈args->(x.ev st.tm).g=true)/\pM P f (args.map (bW st.tm)) (mF st.tm g) d st K .mk):=by
 unfold TK T;rfl
def Ii (P:Program)(x:AV)(args:List AV)(p:Bool)(d:Option Nat)(st:eH)(K:List Nat->List Nat->eH->Prop)(_:DU K):Prop:=
 match p,x with
 |false,_=>pM P 0 [] false d st K .mk
 |true,.one (.fn f caps)=>yN P f=true/\pM P f (args++caps.map λb=>.one (.ptr b 0)) true d st K .mk
 |true,_=>False
theorem XF {f:FuncId}{caps:List Nat}{args:List AV}{d:Option Nat}{du:DU K} : Ii P (.one (.fn f caps)) args true d st K du=(yN P f=true/\pM P f (args++caps.map λb=>.one (.ptr b 0)) true d st K .mk):=by unfold Ii;rfl
theorem Zx {x:AV}{args:List AV}{d:Option Nat}{du:DU K} : Ii P x args false d st K du=pM P 0 [] false d st K .mk:=by unfold Ii;rfl
theorem Zy {g:Option (Nat×Bool)}{d:Option Nat}{x:jR}{args:List jR}{d1:DU (iR.mk g d (.DR x args))}{d2:DU K} :
 TK P ⟨g,d,.DR x args⟩ st K d1 d2=(xe st.tm g/\(mF st.tm g=true->(x.ev st.tm).g=true/\∀x,x∈args->(x.ev st.tm).g=true)/\Ii P (bW st.tm x) (args.map (bW st.tm)) (mF st.tm g) d st K .mk):=by
 unfold TK T Ii;rfl
theorem VV {d1:DU ([]:List iR)}{d2:DU k} : Jh P [] st k d1 d2=k st:=by unfold Jh wpOps;rfl
theorem TV {o:iR}{r:List iR}{d1:DU (o::r)}{d2:DU k} : Jh P (o::r) st k d1 d2=TK P o st (λ_ _ st'=>Jh P r st' k .mk .mk) .mk .mk:=by unfold Jh TK;rfl
theorem ab2 {i:Nat}{log:List (Nat×List Nat×List Nat)}{d1:DU ([]:List (iR×List Nat))}{d2:DU k} : Ze P [] i log st k d1 d2=k st:=by unfold Ze wpD;rfl
theorem Zf {i:Nat}{log:List (Nat×List Nat×List Nat)}{o:iR}{zO:List Nat}{r:List (iR×List Nat)}{d1:DU ((o,zO)::r)}{d2:DU k} :
 Ze P ((o,zO)::r) i log st k d1 d2=TK P o st (λrd wr st'=>x8 zO rd wr log=true/\Ze P r (i+1) ((i,rd,wr)::log) st' k .mk .mk) .mk .mk:=by
 unfold Ze TK;rfl
theorem Zd {d1:DU eG.skip}{d2:DU Q} : vU P .skip Q st d1 d2=QK Q .normal st .mk:=by unfold vU wpC;rfl
theorem abX {ops:List iR}{keep:List Nat}{d1:DU (eG.reg ops keep)}{d2:DU Q} : vU P (.reg ops keep) Q st d1 d2=Jh P ops st (λst=>QK Q .normal (st.keep keep) .mk) .mk .mk:=by unfold vU wpC;rfl
theorem Zc {ops:List (iR×List Nat)}{keep:List Nat}{d1:DU (eG.wJ ops keep)}{d2:DU Q} : vU P (.wJ ops keep) Q st d1 d2=Ze P ops 0 [] st (λst=>QK Q .normal (st.keep keep) .mk) .mk .mk:=by unfold vU wpC;rfl
theorem abZ {a b:eG}{d1:DU (eG.seq a b)}{d2:DU Q} : vU P (.seq a b) Q st d1 d2=vU P a (Fj b P Q) st .mk .mk:=by unfold vU;rw[wpC];rfl
theorem abW {a b:eG}{d1:DU (eG.cut a b)}{d2:DU Q} : vU P (.cut a b) Q st d1 d2=Gi (wpC P a) (wpC P b) Q st .mk .mk .mk:=by unfold vU;rw[wpC]
theorem Zb {a:eG}{d1:DU (eG.loop a)}{d2:DU Q} : vU P (.loop a) Q st d1 d2=Cm (wpC P a) Q st .mk .mk:=by unfold vU;rw[wpC]
theorem VS {id:Nat}{a:eG}{d1:DU (eG.block id a)}{d2:DU Q} : vU P (.block id a) Q st d1 d2=vU P a (oO.inBlock id Q) st .mk .mk:=by unfold vU;rw[wpC]
theorem Za {id:Nat}{d1:DU (eG.exit id)}{d2:DU Q} : vU P (.exit id) Q st d1 d2=QK Q (.exit id) st .mk:=by unfold vU wpC;rfl
theorem abY {d1:DU eG.ret}{d2:DU Q} : vU P .ret Q st d1 d2=QK Q .ret st .mk:=by unfold vU wpC;rfl
def Og (P:Program)(c:AV)(a b:eG)(Q:AQ)(st:eH)(_:DU a)(_:DU b)(_:DU Q):Prop:=
 match c with
 |.one (.c (.lit (.bool t)))=>(t=true->wpC P a Q st)/\(t=false->wpC P b Q st)
 |_=>False
theorem Y9 {c:jR}{a b:eG}{d1:DU (eG.cond c a b)}{d2:DU Q} : vU P (.cond c a b) Q st d1 d2=((c.ev st.tm).g=true/\Og P (c.ev st.tm).x a b Q st .mk .mk .mk):=by unfold vU Og;rw[wpC]<;>rfl
theorem acH {a b:eG}{d1:DU a}{d2:DU b}{d3:DU Q} : Og P (.one (.c (.lit (.bool true)))) a b Q st d1 d2 d3=vU P a Q st .mk .mk:=by unfold Og vU;simp
theorem acG {a b:eG}{d1:DU a}{d2:DU b}{d3:DU Q} : Og P (.one (.c (.lit (.bool false)))) a b Q st d1 d2 d3=vU P b Q st .mk .mk:=by unfold Og vU;simp
theorem XC {b:eG}{du:DU (Fj b P Q)} : QK (Fj b P Q) .normal st du=vU P b Q st .mk .mk:=by unfold QK Fj vU;rfl
theorem XB {b:eG}{id:Nat}{du:DU (Fj b P Q)} : QK (Fj b P Q) (.exit id) st du=QK Q (.exit id) st .mk:=by unfold QK Fj;rfl
theorem XD {b:eG}{du:DU (Fj b P Q)} : QK (Fj b P Q) .ret st du=QK Q .ret st .mk:=by unfold QK Fj;rfl
theorem Xz {k:eH->Prop}{du:DU (oO.then k Q)} : QK (oO.then k Q) .normal st du=k st:=by unfold QK;rfl
theorem Xy {k:eH->Prop}{id:Nat}{du:DU (oO.then k Q)} : QK (oO.then k Q) (.exit id) st du=QK Q (.exit id) st .mk:=by unfold QK;rfl
theorem XA {k:eH->Prop}{du:DU (oO.then k Q)} : QK (oO.then k Q) .ret st du=QK Q .ret st .mk:=by unfold QK;rfl
theorem Uk {id:Nat}{du:DU (oO.inBlock id Q)} : QK (oO.inBlock id Q) .normal st du=QK Q .normal st .mk:=by unfold QK;rfl
theorem Uj {id id':Nat}{du:DU (oO.inBlock id Q)} : QK (oO.inBlock id Q) (.exit id') st du=if id'=id then QK Q .normal st .mk else QK Q (.exit id') st .mk:=by unfold QK;rfl
theorem Ul {id:Nat}{du:DU (oO.inBlock id Q)} : QK (oO.inBlock id Q) .ret st du=QK Q .ret st .mk:=by unfold QK;rfl
theorem aco {rs:List qW}{r:AV}{du:DU (QP rs r)} : QK (QP rs r) .normal st du=JE rs r st:=by unfold QK;rfl
theorem acp {rs:List qW}{r:AV}{du:DU (QP rs r)} : QK (QP rs r) .ret st du=JE rs r st:=by unfold QK;rfl
theorem acm {rs:List qW}{m:Nat}{post:AV->List Box->Prop}{du:DU (QF rs m post)} : QK (QF rs m post) .normal st du=BF rs m post st:=by unfold QK;rfl
theorem acn {rs:List qW}{m:Nat}{post:AV->List Box->Prop}{du:DU (QF rs m post)} : QK (QF rs m post) .ret st du=BF rs m post st:=by unfold QK;rfl
theorem vK {c:eG}(h:vU P c Q st .mk .mk):wpC P c Q st:=h
theorem agw {a:eG}{d1:DU (wpC P a)}{d2:DU Q}{X:Type}(J:X->Prop)(S:X->eH)(μ:X->Nat)(x0:X)(h0:J x0)(hw:ER 10 st (S x0))
 (h:∀x,J x->vU P a (oO.then (λst'=>∃x',(J x'/\μ x'<μ x)/\ER 10 st' (S x')) Q) (S x) .mk .mk):Cm (wpC P a) Q st d1 d2:=
 Cm.intro J S μ x0 h0 hw h
theorem ahl {a b:eG}{d1:DU (wpC P a)}{d2:DU (wpC P b)}{d3:DU Q}{X:Type}(J:X->Prop)(S:X->eH)
 (h1:vU P a (oO.then (λst'=>∃x,J x/\ER 10 st' (S x)) Q) st .mk .mk) (h2:∀x,J x->vU P b Q (S x) .mk .mk):Gi (wpC P a) (wpC P b) Q st d1 d2 d3:=
 Gi.intro J S h1 h2
end
end
section
inductive Nd where
 |mk (k w:Int) (s:List UInt8) (ws:List (List UInt8)) (ks:List Nd)
abbrev jE :=List UInt8
def aie (ws:List jE):List (List Cell):=ws.map λw=>[.str w]
mutual
def Nd.cells : Nd->List Cell
 |.mk k w s ws ks=>[.lit (.int .i64 k),.lit (.int .i64 w),.str s,.sl 1 (aie ws),.sl 5 (Nd.CG ks)]
def Nd.CG : List Nd->List (List Cell)
 |[]=>[]
 |x::r=>x.cells::Nd.CG r
end
theorem Nd.Oa (ks:List Nd):Nd.CG ks=ks.map Nd.cells:=by
 induction ks with
 |nil=>rfl
 |cons x r ih=>simp[Nd.CG,ih]
def QH : List AC->Bool
 |[]=>true
 |.c _::r=>QH r
 |_=>false
def EL : List AV->Bool
 |[]=>true
 |.one (.c _)::r=>EL r
 |.agg xs::r=>QH xs&&EL r
 |_=>false
theorem Hz {bx:Nat->Box} : ∀{xs:List AC},QH xs=true->xs.map (zD bx)=xs/\tu bx xs/\xs.all AC.qC=true/\kL xs=[]
 |[],_=>⟨rfl,trivial,rfl,rfl⟩
 | x::r,h=>by
   cases x with
   | c x=>obtain⟨h1,h2,h3,h4⟩:=Hz (bx:=bx) (xs:=r) h;exact⟨by simp[zD,h1],h2,by simp[AC.qC,h3],by simp[kL,h4]⟩
   |_=>cases h
theorem zW {bx:Nat->Box} : ∀{xs:List AV},EL xs=true->xs.map (xZ bx)=xs/\tY bx xs/\xs.all (·.all AC.qC)=true/\xs.flatMap AV.owns=[]
 |[],_=>⟨rfl,trivial,rfl,rfl⟩
 | x::r,h=>by
   cases x with
   | one x=>
     cases x with
     | c x=>obtain⟨h1,h2,h3,h4⟩:=zW (bx:=bx) (xs:=r) h;exact⟨by simp[xZ,zD,h1],⟨trivial,h2⟩,by rw[iy,h3];rfl,by simp[AV.owns,kL,h4]⟩
     |_=>cases h
   | agg xs=>simp only[EL,af]at h;obtain⟨h1,h2,h3,h4⟩:=zW (bx:=bx) (xs:=r) h.2;obtain⟨j1,j2,j3,j4⟩:=Hz (bx:=bx) h.1;refine⟨by simp only[bf,xZ,j1,h1],⟨j2,h2⟩,?_,by simp only[mQ,AV.owns,j4,h4,mJ]⟩;rw[iy,h3,qH];exact j3
   |Bl xs=>cases h
section
variable {P:Program} {f:FuncId} {pz:List AV} {p:Bool} {d:Option Nat} {st:eH} {K:List Nat->List Nat->eH->Prop} {du:DU K}
theorem acT (st:eH):st.AU []=st:=by
 apply eH.ext'
 ·rfl
 ·funext b;simp[eH.AU]
theorem adJ {r:AV}(h:gY P f pz r)(hs:EL pz=true)(hr:r.all AC.qC=true)(k:K [] [] (st.uh d (.v true r))):pM P f pz true d st K du:=by obtain⟨h1,h2,h3,h4⟩:=zW (bx:=st.bx) hs;refine pM.pure r rfl (by rw[h1];exact h) h2 (by rw[h1];exact h3) hr ?_;rw[h4,acT];exact k
theorem adH {r:AV}(h:p=true->gY P f pz r)(hs:EL pz=true)(hr:r.all AC.isLit=true)(k:K [] [] (st.uh d (.v p r))):pM P f pz p d st K du:=by obtain⟨h1,h2,h3,h4⟩:=zW (bx:=st.bx) hs;refine pM.lit r (λe=>by rw[h1];exact h e) (λ_=>h2) (by rw[h1];exact h3) hr ?_;rw[h4];exact k
end
theorem ahk (b:Bool):(b==true)=b:=by cases b<;>rfl
theorem ahj (b:Bool):(b==false) = !b:=by cases b<;>rfl
end
section
def cI (x:Int):List Cell:=[.lit (.int .i64 x)]
def cU (x:Int):List Cell:=[.lit (.int .u8 x)]
def cK (k:IntKind)(x:Int):List Cell:=[.lit (.int k x)]
def cB (x:Bool):List Cell:=[.lit (.bool x)]
def cS (x:jE):List Cell:=[.str x]
def cL {α:Type}(sz:Nat)(f:α->List Cell)(xs:List α):List Cell:=[.sl sz (aW f xs)]
def chk (c:Prop)[Decidable c]{α:Type}(k:Option α):Option α:=if c then k else none
theorem Af {c:Prop}[Decidable c]{α:Type}{k:Option α}{r:α} : chk c k=some r<->c/\k=some r:=by unfold chk;split<;>simp[*]
theorem XY {b:Bool}{α:Type}{x y:Option α}{r:α} : cond b x y=some r<->(b=true/\x=some r)\/(b=false/\y=some r):=by cases b<;>simp
def Gq (xs:List Int):jE:=xs.map λx=>UInt8.ofNat x.toNat
theorem UB (xs:List Int):bytesOf (aW cU xs)=some (Gq xs):=by
 induction xs with
 |nil=>rfl
 |cons x r ih=>simp[cU,bytesOf,ih,Gq]
theorem Rj : bytesOf []=some []:=rfl
theorem Rk (n:Int)(r:List (List Cell)):bytesOf ([.lit (.int .u8 n)]::r)=Option.map (λl=>UInt8.ofNat n.toNat::l) (bytesOf r):=by simp only[bytesOf];cases bytesOf r<;>rfl
theorem zl (xs:List Int):(Gq xs).length=xs.length:=by simp[Gq]
theorem Yc {α:Type}[Inhabited α]{f:α->List Cell}{xs:List α}{i:Nat}(h:i<xs.length):(aW f xs).getD i []=f (xs.getD i default):=by simp[h]
theorem take_len {α:Type}{l:List α}{n:Nat}(h:l.length=n):l.take n=l:=by subst h;simp
theorem EN {α:Type}{x:α}{l:List α}{n:Nat}(h:l.length=n):(x::l).take (1+n)=x::l:=by subst h;rw[pG];simp
theorem EO {α:Type}{x y:α}{l:List α}{n:Nat}(h:l.length=n):(x::y::l).take (2+n)=x::y::l:=by subst h;rw[pG];simp
def LG (l:List Nat):List (Nat×Box)->List (Nat×Box)
 |[]=>[]
 |(b,x)::r=>(b,if l.contains b then Bq x else x)::LG l r
theorem Ya (l:List Nat)(bs:List (Nat×Box))(b:Nat):l9 (LG l bs) b=if b∈l then Bq (l9 bs b)else l9 bs b:=by
 induction bs with
 |nil=>simp[LG,l9,Bq]
 | cons p r ih=>
   obtain⟨c,x⟩:=p;simp only[LG,l9,ih];by_cases h:c=b
   ·subst h;simp
   ·simp[h]
theorem WZ (ts:List (Nat×Slot))(bs:List (Nat×Box))(l:List Nat):(eH.of ts bs).AU l=eH.of ts (LG l bs):=by
 apply eH.ext'
 ·rfl
 ·funext b
  simp only[eH.AU];rw[xG,xG,Ya]
theorem Z8 (bs:List (Nat×Box)):LG [] bs=bs:=by
 induction bs with
 |nil=>rfl
 |cons p r ih=>obtain⟨c,x⟩:=p;simp[LG,ih]
def TGK (g:Bool)(o:kH)(d:Option Nat)(st:eH)(K:List Nat->List Nat->eH->Prop)(_:DU o)(_:DU K):Prop:=TOp o g d st K
def aed (valid:Prop)(rd:List Nat)(r:FR)(d:Option Nat)(st:eH)(K:List Nat->List Nat->eH->Prop)(_:DU K):Prop:=
 valid/\r.vc/\K rd (r.sets.map (·.1)) ((st.mW r.sets).uh d (.v true r.v))
section
variable {P:Program} {st:eH} {K:List Nat->List Nat->eH->Prop}
theorem aec {g:Option (Nat×Bool)}{d:Option Nat}{op:kH}{d1:DU (iR.mk g d (.op op))}{d2:DU K} :
 TK P ⟨g,d,.op op⟩ st K d1 d2=(xe st.tm g/\TGK (mF st.tm g) op d st K .mk .mk):=by
 unfold TK T TGK;rfl
theorem afM {op:kH}{d:Option Nat}{d1:DU op}{d2:DU K} : TGK true op d st K d1 d2=aed (op.valid (jR.ev st.tm)) (op.rd (bW st.tm)) (op.f (bW st.tm) st.bx) d st K .mk:=by unfold TGK TOp aed;simp
theorem afL {op:kH}{d:Option Nat}{d1:DU op}{d2:DU K} : TGK false op d st K d1 d2=K [] [] (st.uh d (.v false (.one .Ee))):=by unfold TGK TOp;simp
theorem aee {valid:Prop}{rd:List Nat}{vc:Prop}{v:AV}{sets:List (Nat×Box)}{d:Option Nat}{du:DU K} :
 aed valid rd ⟨vc,v,sets⟩ d st K du=(valid/\vc/\K rd (sets.map (·.1)) ((st.mW sets).uh d (.v true v))):=rfl
end
section
variable {P:Program} {f:FuncId} {pz:List AV} {d:Option Nat} {st:eH} {K:List Nat->List Nat->eH->Prop} {du:DU K}
theorem afR {Uw:List AV}{r:AV}(h:gY P f Uw r)(he:pz.map (xZ st.bx)=Uw)(hl:tY st.bx pz)(hd:Uw.all (·.all AC.qC)=true)(hr:r.all AC.qC=true)
 (k:K (pz.flatMap AV.owns) (pz.flatMap AV.owns) ((st.AU (pz.flatMap AV.owns)).uh d (.v true r))):pM P f pz true d st K du:=by
 subst he;exact pM.pure r rfl h hl hd hr k
theorem afS {Uw:List AV}{r:AV}(h:gY P f Uw r)(he:pz.map (xZ st.bx)=Uw)(hl:tY st.bx pz)(hd:Uw.all (·.all AC.qC)=true)(hr:r.all AC.isLit=true)
 (k:K (pz.flatMap AV.owns) [] (st.uh d (.v true r))):pM P f pz true d st K du:=by
 subst he;exact pM.lit r (λ_=>h) (λ_=>hl) hd hr k
theorem adI (k:K (pz.flatMap AV.owns) [] (st.uh d (.v false (.one (.c (.lit (.bool true))))))):pM P f pz false d st K du:=
 E8.lit [] (.one (.c (.lit (.bool true)))) (λe=>by cases e) rfl (λe=>by cases e) rfl k
def TC (st:eH)(sg:List Nat):List Box->Nat->Prop
 |[],_=>True
 |x::r,i=>st.bx (sg.getD i 0)=yc (λb=>sg.getD b 0) x/\TC st sg r (i+1)
theorem Xk {st:eH}{sg:List Nat} : ∀{fp:List Box} {i0 i:Nat},TC st sg fp i0->i<fp.length->st.bx (sg.getD (i0+i) 0)=yc (λb=>sg.getD b 0) (fp.getD i .absent)
 |[],_,_,_,h=>by simp at h
 |x::r,i0,0,h,_=>by simpa using h.1
 | x::r,i0,i+1,h,hi=>by have:=Xk (i:=i) h.2 (by simpa using hi);simpa[Nat.add_assoc,pG 1 i]using this
def SH (st:eH):List Nat->Prop
 |[]=>True
 |b::r=>st.bx b = .absent/\10<=b/\SH st r
theorem WY {st:eH} : ∀{nu:List Nat},SH st nu->∀b,b∈nu->st.bx b = .absent/\10<=b
 |[],_,_,h=>by cases h
 | c::r,h,b,hb=>by
   rcases au.1 hb with e|e
   ·subst e;exact⟨h.1,h.2.1⟩
   ·exact WY h.2.2 b e
theorem afT {ds:List AV}{fp BL:List Box}{r0:AV}(sg nu:List Nat)(h:xm P f ds fp (λr bs=>r=r0/\bs=BL))(hl:sg.length=fp.length)(hn:nodupB (sg++nu)=true)(hf:TC st (sg++nu) fp 0)(hv:SH st nu)
 (hra:(ds.all λx=>x.all (AC.qG fp.length))=true) (hrf:fp.all (Box.qG fp.length)=true) (ha:pz=ds.map (zi λb=>(sg++nu).getD b 0)) (hb:BL.length=(sg++nu).length)
 (k:K (sg++nu) (sg++nu) ((st.mW ((sg++nu).zip (BL.map (yc λb=>(sg++nu).getD b 0)))).uh d (.v true (zi (λb=>(sg++nu).getD b 0) r0)))):pM P f pz true d st K du:=by
 refine E8.gen rfl ds fp sg nu _ hl (Me.1 hn) (λi hi=>?_) ⟨r0,BL,rfl,rfl⟩ (WY hv) hra hrf ha h (λr bs hp=>?_)
 ·have:=Xk (i:=i) hf hi;rw[dF]at this;exact this
 ·obtain⟨rfl,rfl⟩:=hp;exact⟨hb,k⟩
end
theorem aaL (zO:List Nat)(log:List (Nat×List Nat×List Nat)):x8 zO [] [] log=true:=by
 induction log with
 |nil=>rfl
 |cons e r ih=>obtain⟨j,a,b⟩:=e;simp[x8,FM,ih]
theorem aaK (zO rd wr:List Nat):x8 zO rd wr []=true:=rfl
theorem aeh (bs:List Box):yU bs=l9 (xW bs 0):=by
 funext b
 rw[Ei];simp[yU]
theorem ae7 {rs:List qW}{ts:List (Nat×Slot)}{BL:List (Nat×Box)}{m:Nat}{r:AV}{bs:List Box}(zs:List Nat)(pi:List (Nat×Nat))(vs:List Nat)(hk:IU m BL (xW bs 0) pi vs=true)
 (hok:Au (eH.of ts BL) rs) (hb:Nu zs (l9 BL) (ND pi) vs (xW bs 0)) (hv:Xu zs (l9 BL) (ND pi) vs (NP (eH.of ts BL) rs) r) :
 BF rs m (λr1 b1=>r1=r/\b1=bs) (eH.of ts BL):=by
 refine⟨hok,r,bs,zs,ND pi,vs,⟨rfl,rfl⟩,?_,?_⟩
 ·rw[FQ,aeh];exact abV zs pi vs hk hb
 ·rw[FQ];exact hv
end
theorem Xx {x:Int}(h0:0<=x)(h1:x<9223372036854775808):ah .i64 x=x:=by simp only[ah,Go.IntKind.bits,Go.IntKind.signed];simp;omega
theorem Fb {α:Type}(f:α->List Cell)(k:Nat)(hf:∀t,(f t).length<=k){l:List α}{i j:Nat}{v:List Cell}(hv:v.length<=k):yS k (((aW f l).set i v).getD j [])=[]:=by
 have key:∀(m:List (List Cell)),(∀y,y∈m->y.length<=k)->yS k (m.getD j [])=[]:=by
  intro m hm;apply List.drop_of_length_le;by_cases hj:j<m.length
  ·rw[show m.getD j []=m[j] by simp[List.getD,hj]];exact hm _ (dB hj)
  ·rw[show m.getD j []=[] by simp[List.getD,iq (Nat.le_of_not_lt hj)]];simp
 apply key;intro y hy;rcases List.mem_or_eq_of_mem_set hy with h|h
 ·obtain⟨t,_,rfl⟩:=aG.1 h;exact hf t
 ·rw[h];exact hv
theorem aep {l:List jE}{i j:Nat}{x:Cell} : yS 1 (((aW cS l).set i [x]).getD j [])=[]:=Fb cS 1 (λt=>by simp[cS]) kY
end Go.Ab
section
namespace Go.Ab
open Go Go.Shelf Go.Proofs
variable {P:Program} {ρ:Go.Shelf.Ren}
theorem aai {I:IH}{r:Ren}{vs:List Value}{x:AV}(h:NF I r vs [x]):∃a,vs=[a]/\GV I r a x:=by
 match vs,h with
 |[a],h=>exact⟨a,rfl,h.2 0 a x rfl rfl⟩
theorem afi {I:IH} {w:World} (hT:Tabs P I) (hA:Agree I w) {g:Nat} (hg:P.globalNamed "internal/strconv.uint64pow10" = some g):Lib.TabIs P w "internal/strconv.uint64pow10" .u64 Go.Lib.pow10Tab:=by
 obtain⟨e,fr,h⟩:=hA g _ (hT.pow g hg);unfold Lib.TabIs World.var?;simp only[hg,Option.bind_some,h]
theorem acs (L:LaysM.n171 P ρ){n:Int}(h0 : -9223372036854775808<=n/\n<=9223372036854775807)(hl:(Go.Lib.itoa n).length<=maxLen){r:List UInt8}(hr:r=Go.Lib.itoa n)(hk:Vg (ρ.f 171) true=true:=by rfl) :
 gY P (ρ.f 171) [.one (.c (.lit (.int .i64 n)))] (.one (.c (.str r))):=by
 subst hr;refine xm.of0 hk ?_;intro I r w vs hT hA hB hG;obtain⟨a,rfl,ha⟩:=aai hG;cases ha;have hB':∀b,yU [] b = .absent:=λb=>KN (kU _);refine(Any.strconv_Itoa L n h0.1 h0.2 w (afi hT hA L.m17)).mono ?_;rintro e w' ⟨rfl,k,os,rfl⟩;have hb:=Lib.below_grow w.heap.size w (aA _) k os;refine⟨_,I,r,_,_,rfl,⟨rfl,rfl⟩,Rd.str _ hl,hA.other λk1 c hc=>hb.block k1 (hA.lt hc),⟨λb=>?_,λb b' k hu=>?_,λb k hu=>?_⟩,IH.le_refl I,⟨rfl,rfl,rfl,hb.size,λk hk _=>hb.block k hk,Nat.le_add_right _ _⟩,λb k hu=>?_,λ_ _ _=>rfl,λ_ _=>rfl⟩
 ·have:=hB.ok b;rw[hB']at this⊢;exact this
 all_goals(rw[hB']at hu;exact hu.elim)
end Go.Ab
end
namespace Go.Ab
open Go
section
inductive MA where
 |int (o:Nat)
 |str (o:Nat)
 |sub (o f:Nat)
 deriving DecidableEq
abbrev yK :=Nat->Option (Nat×Nat×List MA)
inductive Jb where
 |C (f:Nat) (c:Cell) (k:Int) (c':Cell) (k':Int)
 |L (acts:List MA) (es:List (List Cell)) (k:Int) (es':List (List Cell)) (k':Int)
 |E (acts:List MA) (e:List Cell) (k:Int) (e':List Cell) (k':Int)
def Va (k:Int):Prop:=0<=k/\k<4611686018427387904
inductive yA (mt:yK)(tx:Int->List UInt8):Jb->Prop
 |c {f T sz:Nat} {acts:List MA} {es es':List (List Cell)} {k k':Int} (h:mt f=some (T,sz,acts)) (hk:Va k) (hl:yA mt tx (.L acts es k es' k')):yA mt tx (.C f (.sl sz es) k (.sl sz es') k')
 |l0 {acts:List MA} {k:Int} : yA mt tx (.L acts [] k [] k)
 |l1 {acts:List MA} {e e':List Cell} {es es':List (List Cell)} {k k1 k2:Int} (h:yA mt tx (.E acts e k e' k1)) (t:yA mt tx (.L acts es k1 es' k2)):yA mt tx (.L acts (e::es) k (e'::es') k2)
 |e0 {e:List Cell} {k:Int} : yA mt tx (.E [] e k e k)
 |ei {o:Nat} {r:List MA} {e e':List Cell} {k k':Int} (hk:Va k) (hk':Va (k+1)) (ho:o<e.length) (h:yA mt tx (.E r (e.set o (.lit (.int .i64 k))) (k+1) e' k')):yA mt tx (.E (.int o::r) e k e' k')
 |es {o:Nat} {r:List MA} {e e':List Cell} {k k':Int} (hk:Va k) (hk':Va (k+1)) (ho:o<e.length) (h:yA mt tx (.E r (e.set o (.str (tx k))) (k+1) e' k')):yA mt tx (.E (.str o::r) e k e' k')
 |ef {o f:Nat} {r:List MA} {e e':List Cell} {c c1:Cell} {k k1 k2:Int} (hc:e[o]? = some c) (h:yA mt tx (.C f c k c1 k1)) (t:yA mt tx (.E r (e.set o c1) k1 e' k2)):yA mt tx (.E (.sub o f::r) e k e' k2)
def E0 : BG:=[(0,.arr),(1,.cnt),(5,.idx)]
def stR (P:Program)(xx sz m o:Nat)(sv:SV):BG->List Oper->Bool
 | env,[x]=>(match x.guard,x.dst,x.op with
   |none,none,.store t (.tmp p) (.tmp v)=>DF P t false 1&&decide (env.look p=some (.ptr o)/\env.look v=some sv/\o<sz)
   |_,_,_=>false)
 | env,x::r=>(match qop P xx sz env x,x.dst with
   |some env',some d=>decide (d<m)&&stR P xx sz m o sv env' r
   |_,_=>false)
 |_,[]=>false
def TM (P:Program)(xx sz m o f:Nat):BG->List Oper->Bool
 | env,[x,y]=>(match x.guard,x.dst,x.op with
   | none,some d,.call ⟨.value (.func f'),⟨[.tmp v,.tmp c]⟩,_⟩=>decide (f'=f/\env.look v=some (.val o)/\env.look c=some .cnt/\env.look d=none/\d<m/\o<sz)&&yN P f'&&(match y.guard,y.dst,y.op with
     |none,some 1,.assign (.tmp d')=>d'==d
     |_,_,_=>false)
   |_,_,_=>false)
 | env,x::r=>(match qop P xx sz env x,x.dst with
   |some env',some d=>decide (d<m)&&TM P xx sz m o f env' r
   |_,_=>false)
 |_,[]=>false
def Vb (m c:Nat):List Oper->Bool
 | [x,y,z]=>(match x.guard,x.dst,x.op,y.guard,y.dst,y.op with
   | none,some t,.move (.tmp s),none,some t',.binOp .add _ (.tmp u) (.const (.int .i64 1)) _=>s==c&&u==t&&decide (t≠0/\t≠1/\t≠5/\t'≠0/\t'≠1/\t'≠5/\t<m/\t'<m)&&(match z.guard,z.dst,z.op with
     |none,some d,.assign (.tmp s')=>d==c&&s'==t'
     |_,_,_=>false)
   |_,_,_,_,_,_=>false)
 |_=>false
section
variable {P:Program} {xx sz:Nat} {tx:Int->List UInt8} {kb i n c m:Nat} {k:Int}
variable {ops:Array Oper} {Q:Exit->Act->World->Prop} {rest:List Oper} {o:Oper} {a:Act} {w w':World} {v:Value}
theorem ES.base {env:BG}(h:ES tx sz kb i n c m k env a w)(hb:∀t v,E0.look t=some v->env.look t=some v):ES tx sz kb i n c m k E0 a w:=⟨h.size,h.defers,λt v hv=>h.den t v (hb t v hv)⟩
theorem UW (h1:a.tmps.size=m)(h2:a.defers=[])(h3:a.tmps.getD 0 undef = .slice (some ⟨kb,0,none⟩) n c)(h4:a.tmps.getD 1 undef = .int .i64 k)(h5:a.tmps.getD 5 undef = .int .i64 (i:Int)):ES tx sz kb i n c m k E0 a w:=by
 refine⟨h1,h2,λt v hv=>?_⟩;simp only[E0,BG.look]at hv;split at hv
 ·rename_i e;simp at e;subst e;cases hv;exact h3
 ·split at hv
  ·rename_i e;simp at e;subst e;cases hv;exact h4
  ·split at hv
   ·rename_i e;simp at e;subst e;cases hv;exact h5
   ·cases hv
theorem ES.arr (h:ES tx sz kb i n c m k E0 a w):a.tmps.getD 0 undef = .slice (some ⟨kb,0,none⟩) n c:=h.den 0 .arr rfl
theorem ES.cnt (h:ES tx sz kb i n c m k E0 a w):a.tmps.getD 1 undef = .int .i64 k:=h.den 1 .cnt rfl
theorem ES.idx (h:ES tx sz kb i n c m k E0 a w):a.tmps.getD 5 undef = .int .i64 (i:Int):=h.den 5 .idx rfl
theorem adn (t:TypeId)(x:Int)(w:World):(binOp .add t (.int .i64 x) (.int .i64 1)).run P w = .ok (.int .i64 (Go.IntKind.i64.wrap (x+1))) w:=by simp[binOp,Go.Op.intArith]
theorem Oo {cc:Nat}{os:List Oper}(hc:Vb m cc os=true)(hs:a.tmps.size=m)(hd:a.defers=[]){x:Int}(hx:a.tmps.getD cc undef = .int .i64 x)(hr:0<=x+1/\x+1<9223372036854775808)(hcc:cc<m)(aiV:cc=0\/cc=1\/cc=5)
 (hk:∀a',a'.tmps.size=m->a'.defers=[]->a'.tmps.getD cc undef = .int .i64 (x+1)->(∀t,t≠cc->(t=0\/t=1\/t=5)->a'.tmps.getD t undef=a.tmps.getD t undef)->Q .normal a' w):wpList P ops Q os a w:=by
 unfold Vb at hc;split at hc
 ·rename_i x0 y z;split at hc
  ·rename_i t s t' ty1 u ty2 g1 d1 p1 g2 d2 p2;simp only[af,aK,ak]at hc;obtain⟨⟨⟨es,eu⟩,q1,q2,q3,q4,q5,q6,q7,q8⟩,hc⟩:=hc;split at hc
   ·rename_i d s' g3 d3 p3;simp only[af,aK]at hc;obtain⟨ed,es'⟩:=hc;rw[es]at p1;rw[eu]at p2;rw[ed]at d3;rw[es']at p3;have hts:t<a.tmps.size:=(by rw[hs];exact q7);have e1:(a.put (some t) (a.tmps.getD cc undef)).tmps.getD t undef = .int .i64 x:=(by rw[dM hts,hx]);refine mX (v:=a.tmps.getD cc undef) g1 (by unfold execOp;rw[p1];rfl) ?_;rw[d1];refine mX (v:=.int .i64 (x+1)) (w':=w) g2 ?_ ?_
    ·have v1:(a.put (some t) (a.tmps.getD cc undef)).eval (.tmp t) = .int .i64 x:=e1;have hr0:(binOp .add ty1 (.int .i64 x) (.int .i64 1)).run P w = .ok (.int .i64 (x+1)) w:=(by rw[adn,Xx hr.1 hr.2]);have hq:∀v,(eqGuard .add ty1 (.tmp t) (.const (.int .i64 1)) (.int .i64 x) v).run P w = .ok () w:=λv=>xg _ _ _ _ _ _ _ _;have v2:(a.put (some t) (a.tmps.getD cc undef)).eval (.const (.int .i64 1)) = .int .i64 1:=rfl;unfold execOp;rw[p2];simp only[v1,v2,bC,hq,hr0,aO,aZ]
    rw[d2];have ahO:t'<((a.put (some t) (a.tmps.getD cc undef))).tmps.size:=(by simp[fO,hs];exact q8);have e2:((a.put (some t) (a.tmps.getD cc undef)).put (some t') (.int .i64 (x+1))).tmps.getD t' undef = .int .i64 (x+1):=dM ahO;refine mX (v:=.int .i64 (x+1)) (w':=w) g3 (by unfold execOp;rw[p3];exact oW (λv=>jG (jy v) w) e2) ?_;rw[d3];refine hk _ (by simp[fO,hs]) hd (dM (by simp[fO,hs];exact hcc)) (λy hy h3=>?_);have n1:y≠t:=(by rcases h3 with rfl|rfl|rfl<;>first|exact λe=>q1 e.symm|exact λe=>q2 e.symm|exact λe=>q3 e.symm);have n2:y≠t':=(by rcases h3 with rfl|rfl|rfl<;>first|exact λe=>q4 e.symm|exact λe=>q5 e.symm|exact λe=>q6 e.symm);rw[jP hy,jP n2,jP n1]
   ·cases hc
  ·cases hc
 ·cases hc
theorem O5 {oo:Nat}{sv:SV} : ∀{os:List Oper} {env:BG} {a:Act} {w:World},stR P xx sz m oo sv env os=true->ES tx sz kb i n c m k env a w->(∀t v,E0.look t=some v->env.look t=some v)->i<n->Dq P xx tx->0<=k->k<4611686018427387904 ->
 ∀{I0:IH},Tabs P I0->Agree I0 w->∀{cs:Array Value} {e:TypeId},w.heap[kb]? = some (.cells cs e (0,0))->(∀off,off<sz->i*sz+off<cs.size)->(∀x w,sv.den tx sz kb i n c k w x->x.cells = #[x]/\x.oneCell'=true) ->
 (∀a' w1 x,ES tx sz kb i n c m k E0 a' w1->wZ w w1 (λ_=>False)->w1.heap[kb]? = some (.cells cs e (0,0))->sv.den tx sz kb i n c k w1 x->oo<sz->Q .normal a' (w1.setRow kb (splice cs.toList (i*sz+oo) [x]).toArray))->wpList P ops Q os a w
 |[],_,_,_,hc,_,_,_,_,_,_,_,_,_,_,_,_,_,_,_=>by simp[stR]at hc
 | [x],env,a,w,hc,h,hb,hi,ht,h0,h1,I0,hT,hA,cs,e,hw,hfit,hone,hk=>by
   simp only[stR]at hc;split at hc
   ·rename_i t p v g1 d1 p1;simp only[af,ak]at hc;obtain⟨hty,l1,l2,hlt⟩:=hc;have v1:a.eval (.tmp p) = .pointer (some ⟨kb,i*sz+oo,none⟩):=h.den p _ l1;have v2:=h.den v _ l2;obtain⟨o1,o2⟩:=hone _ _ v2;have hst:=Hw (P:=P) (off:=i*sz+oo) (v:=a.tmps.getD v undef) hty (by rw[o1];rfl) hw (by have:=hfit oo hlt;omega) (λj u hu=>by
     rw[o1]at hu
     match j with
     |0=>cases hu;exact o2
     |j+1=>simp at hu)
    rw[o1]at hst;have v3:a.eval (.tmp v)=a.tmps.getD v undef:=rfl;refine step_skip (w':=w.setRow kb (splice cs.toList (i*sz+oo) [a.tmps.getD v undef]).toArray) g1 (by simp only[execOp,p1,v1,v3,bC,hst,aO,aZ]) ?_;rw[d1];exact hk _ w _ (h.base hb) (wZ.refl _ _) hw v2 hlt
   ·cases hc
 | x::y::r,env,a,w,hc,h,hb,hi,ht,h0,h1,I0,hT,hA,cs,e,hw,hfit,hone,hk=>by
   simp only[stR]at hc;split at hc
   ·rename_i env' d hq hd;simp only[af,ak]at hc;have hkb:kb<w.heap.size:=qM hw;refine OI hq (λd' hd'=>by rw[hd]at hd';cases hd';exact hc.1) h hi ht h0 h1 hT hA hkb (λoff ho=>?_) (λa' w1 h' hF=>?_)
    ·exact⟨cs[i*sz+off]'(hfit off ho),by simp only[dY,hw];simp[hfit off ho]⟩
    ·refine O5 hc.2 h' (λt v hv=>Tq hq (hb t v hv)) hi ht h0 h1 hT (hA.other λk' c' hc'=>hF.block k' (hA.lt hc') λh=>h) (by rw[hF.block kb hkb (λh=>h)];exact hw) hfit hone (λa2 w2 x h2 hF2=>hk a2 w2 x h2 (hF.trans hF2 λ_ _ h=>h))
   ·cases hc
theorem Nh {oo f:Nat} : ∀{os:List Oper} {env:BG} {a:Act} {w:World},TM P xx sz m oo f env os=true->ES tx sz kb i n c m k env a w->(∀t v,E0.look t=some v->env.look t=some v)->i<n->Dq P xx tx->0<=k->k<4611686018427387904 ->
 ∀{I0:IH},Tabs P I0->Agree I0 w->∀{cs:Array Value} {e:TypeId},w.heap[kb]? = some (.cells cs e (0,0))->(∀off,off<sz->i*sz+off<cs.size)->5<m->∀{k1:Int} {R:World->World->Prop},
 (∀w1 x,wZ w w1 (λ_=>False)->cs[i*sz+oo]? = some x->oo<sz->Calls P f #[x,.int .i64 k] w1 λe w'=>e = .returned (.int .i64 k1)/\R w1 w') ->
 (∀a' w1 w',ES tx sz kb i n c m k1 E0 a' w'->wZ w w1 (λ_=>False)->R w1 w'->Q .normal a' w')->wpList P ops Q os a w
 |[],_,_,_,hc,_,_,_,_,_,_,_,_,_,_,_,_,_,_,_,_,_,_=>by simp[TM]at hc
 | [x],env,a,w,hc,_,_,_,_,_,_,_,_,_,_,_,_,_,_,_,_,_,_=>by
   simp only[TM]at hc;split at hc
   ·simp at hc
   ·cases hc
 | [x,y],env,a,w,hc,h,hb,hi,ht,h0,h1,I0,hT,hA,cs,e,hw,hfit,hm5,k1,R,hcall,hk=>by
   simp only[TM]at hc;split at hc
   ·rename_i d f' v cc ts g1 d1 p1;simp only[af,ak]at hc;obtain⟨⟨⟨rfl,l1,l2,l3,l4,l5⟩,hok⟩,hc⟩:=hc;split at hc
    ·rename_i d' g2 d2 p2;simp only[aK]at hc;subst hc;have v1:=h.den v _ l1;have v2:a.eval (.tmp cc) = .int .i64 k:=h.den cc _ l2;have hx:cs[i*sz+oo]? = some (a.tmps.getD v undef):=by
      simp only[SV.den,dY,hw]at v1;simpa using v1
     have he:=y5 (w:=w) (a:=a) p1 (f:=f') (x:=.func f') (caps:= #[]) rfl hok;have v3:a.eval (.tmp v)=a.tmps.getD v undef:=rfl;refine EM g1 (f:=f') (args:= #[a.tmps.getD v undef,.int .i64 k]) (by simpa[v2,v3]using he) ((hcall w _ (wZ.refl _ _) hx l5).mono ?_);rintro e w' ⟨rfl,hR⟩;refine⟨_,rfl,?_⟩;rw[d1];have e2:(a.put (some d') (.int .i64 k1)).tmps.getD d' undef = .int .i64 k1:=dM (by rw[h.size];exact l4);refine mX (v:=.int .i64 k1) (w':=w') g2 (by unfold execOp;rw[p2];exact oW (λv=>jG (jy v) w') e2) ?_;rw[d2];have hb0:=h.base hb;have nd:∀{t v},env.look t=some v->t≠d':=λht e=>(by subst e;rw[l3]at ht;cases ht);refine hk _ w w' (UW (by simp[fO,h.size]) h.defers ?_ (dM (by simp[fO,h.size];omega)) ?_) (wZ.refl _ _) hR
     ·rw[jP aQ,jP (nd (hb 0 .arr rfl))];exact hb0.arr
     ·rw[jP aQ,jP (nd (hb 5 .idx rfl))];exact hb0.idx
    ·cases hc
   ·cases hc
 | x::y::z::r,env,a,w,hc,h,hb,hi,ht,h0,h1,I0,hT,hA,cs,e,hw,hfit,hm5,k1,R,hcall,hk=>by
   simp only[TM]at hc;split at hc
   ·rename_i env' d hq hd;simp only[af,ak]at hc;have hkb:kb<w.heap.size:=qM hw;refine OI hq (λd' hd'=>by rw[hd]at hd';cases hd';exact hc.1) h hi ht h0 h1 hT hA hkb (λoff ho=>?_) (λa' w1 h' hF=>?_)
    ·exact⟨cs[i*sz+off]'(hfit off ho),by simp only[dY,hw];simp[hfit off ho]⟩
    ·exact Nh hc.2 h' (λt v hv=>Tq hq (hb t v hv)) hi ht h0 h1 hT (hA.other λk' c' hc'=>hF.block k' (hA.lt hc') λh=>h) (by rw[hF.block kb hkb (λh=>h)];exact hw) hfit hm5
      (λw2 x hF2=>hcall w2 x (hF.trans hF2 λ_ _ h=>h)) (λa2 w2 w3 h2 hF2=>hk a2 w2 w3 h2 (hF.trans hF2 λ_ _ h=>h))
   ·cases hc
end
end
section
def vV (P:Program)(Q:Exit->Act->World->Prop):List (Array Oper)->Act->World->Prop
 |[]=>Q .normal
 |ops::r=>λa w=>wpList P ops (Exit.then (vV P Q r) Q) ops.toList a w
def MM : Code->Option (List (Array Oper))
 |.region _ ops false=>some [ops]
 |.seq (.region _ ops false) c=>(MM c).map (ops :: ·)
 |_=>none
theorem adi {P:Program}{Q:Exit->Act->World->Prop} : ∀{c:Code} {L:List (Array Oper)} {a:Act} {w:World},MM c=some L->vV P Q L a w->c.wp P Q a w:=by
 intro c L a w hc h
 fun_induction MM c generalizing L a w with
 | case1 id ops=>cases hc;have e:Exit.then (Q .normal) Q=Q:=(by funext e;cases e<;>rfl);simp only[vV,e]at h;exact wp_region_list h
 | case2 id ops c ih=>
   simp only[aU]at hc;obtain⟨L',hL,rfl⟩:=hc;simp only[vV]at h;refine wp_seq (wp_mono (wp_region_list h) ?_);intro e a w hq;cases e with
   |normal=>exact ih hL hq
   |_=>exact hq
 |case3=>cases hc
def JH (P:Program)(xx:Nat)(mt:yK)(T sz m:Nat):List MA->List (Array Oper)->Bool
 |[],[]=>true
 |.int o::r,x::y::rs=>stR P xx sz m o .cnt E0 x.toList&&Vb m 1 y.toList&&((kD P T).all λe=>e.1 != o)&&JH P xx mt T sz m r rs
 |.str o::r,x::y::rs=>stR P xx sz m o .txt E0 x.toList&&Vb m 1 y.toList&&((kD P T).all λe=>e.1 != o)&&JH P xx mt T sz m r rs
 | .sub o f::r,x::rs=>TM P xx sz m o f E0 x.toList&&(match mt f with
   |some (T',_,_)=>(kD P T).contains (o,T')&&(kD P T).all λe=>e.1 != o||e.2==T'
   |none=>false)&&JH P xx mt T sz m r rs
 |_,_=>false
structure EX (P:Program)(g:Own)(I0 I:IH)(w:World)(T:Nat)(q:rC)(kb n cap sz:Nat)(es:List (List Cell)):Prop where
 good:Good P g w
 tabs:Tabs P I0
 Gm:Agree I0 w
 old:∀b c,I0 b=some c->g b=none
 ag:Agree I w
 at':g.at kb n T q
 root:Fv g q
 rd:Rd I (.slice (some ⟨kb,0,none⟩) n cap) (.sl sz es)
 ty:Gh P T (.sl sz es)
structure Post (P:Program)(g:Own)(I:IH)(w:World)(q:rC)(u:Value)(T:Nat)(c':Cell)(w':World):Prop where
 good:Good P g w'
 ve:wZ w w' (Under g q)
 rd:∃J,Agree J w'/\(∀b,¬Under g q b->J b=I b)/\Rd J u c'
 ty:Gh P T c'
def Zw (P:Program)(mt:yK)(f:Nat)(c:Cell)(k:Int)(c':Cell)(k':Int):Prop:=∀(g:Own) (I0 I:IH) (w:World) (T:Nat) (q:rC) (u:Value),(∃sz acts,mt f=some (T,sz,acts))->Good P g w->Tabs P I0->Agree I0 w->(∀b c,I0 b=some c->g b=none)->Agree I w ->
 GR g u T q->Fv g q->Rd I u c->Gh P T c->Calls P f #[u,.int .i64 k] w λe w'=>e = .returned (.int .i64 k')/\Post P g I w q u T c' w'
section
variable {P:Program} {g:Own} {I0 I J:IH} {w w':World} {T kb n cap sz i o:Nat} {q:rC} {es:List (List Cell)}
theorem Agree.quiet (h:Agree I w)(hF:wZ w w' λ_=>False):Agree I w':=h.other λk' c' hc'=>hF.block k' (h.lt hc') λh=>h
theorem Good.quiet (h:Good P g w)(hF:wZ w w' λ_=>False):Good P g w':=h.world λk hk=>by
 cases hx:g k with
 |none=>exact dO hx hk
 |some B=>exact hF.block k (h.lt hx) λh=>h
theorem EX.quiet (h:EX P g I0 I w T q kb n cap sz es)(hF:wZ w w' λ_=>False):EX P g I0 I w' T q kb n cap sz es:=
 { h with good:=h.good.quiet hF,Gm:=h.Gm.quiet hF,ag:=h.ag.quiet hF }
theorem EX.row (h:EX P g I0 I w T q kb n cap sz es)(hi:i<n):∃cs e,w.heap[kb]? = some (.cells cs e (0,0))/\(0<sz->I kb=some cs)/\(∀off,off<sz->i*sz+off<cs.size)/\(∀off,off<sz->∃u,cs[i*sz+off]? = some u/\∀c,(es.getD i [])[off]? = some c->Rd I u c):=by
 obtain⟨cs,e,hw,_⟩:=h.good.arr _ _ _ h.at'.1;have hrd:=h.rd;cases hrd with
 |sl _ _ _ _ _ u hlen hcap hmax hsz ha hcl hr=>
 have hI:∀off,off<sz->∃row,I kb=some row/\row[i*sz+off]? = some (u i off):=λoff ho=>by
  have h0:=hcl _ rfl i off hi ho;rw[Addr.mD,dF]at h0;unfold IH.cell at h0;simp only[sJ,kz,if_false]at h0;cases hx:I kb with
  |none=>rw[hx]at h0;cases h0
  |some row=>rw[hx]at h0;exact⟨row,rfl,h0⟩
 have hrow:∀row,I kb=some row->row=cs:=λrow hx=>by obtain⟨e',fr',hw'⟩:=h.ag kb row hx;rw[hw]at hw';cases hw';rfl
 refine⟨cs,e,hw,λhs=>?_,λoff ho=>?_,λoff ho=>?_⟩
 ·obtain⟨row,h1,_⟩:=hI 0 hs;rw[h1,hrow row h1]
 ·obtain⟨row,h1,h2⟩:=hI off ho;rw[hrow row h1]at h2;exact(Array.getElem?_eq_some_iff.1 h2).1
 ·obtain⟨row,h1,h2⟩:=hI off ho;rw[hrow row h1]at h2;exact⟨_,h2,λc hc=>hr i off c hc⟩
theorem IG {α:Type}{es:List (List α)}{i i':Nat}{x:List α}(hi:i<es.length):(es.set i x).getD i' []=if i'=i then x else es.getD i' []:=by
 simp only[aY,lI];by_cases e:i=i'
 ·subst e;simp[hi]
 ·rw[aj e,aj (λh=>e h.symm)]
theorem Gh.set {c':Cell}{T':Nat}(h:Gh P T (.sl sz es))(hi:i<es.length)(hc:∀sz' es',c' = .sl sz' es'->(o,T')∈kD P T/\Gh P T' c')(hu:∀T2,(o,T2)∈kD P T->T2=T'):Gh P T (.sl sz (es.set i ((es.getD i []).set o c'))):=by
 cases h with
 |sl _ _ _ t hs h1 h2=>
 have hget:∀i' j' x,((es.set i ((es.getD i []).set o c')).getD i' [])[j']? = some x->(i'=i/\j'=o/\x=c')\/(es.getD i' [])[j']? = some x:=by
  intro i' j' x hx;rw[IG hi]at hx;by_cases e:i'=i
  ·rw[aF e,lI]at hx;split at hx
   ·rename_i e2;split at hx
    ·cases hx;exact .inl ⟨e,e2.symm,rfl⟩
    ·cases hx
   ·right;rw[e];exact hx
  ·rw[aj e]at hx;exact .inr hx
 refine .sl _ _ _ (λy=>if y=o then T' else t y) hs (λi' j' sz' es' hx=>?_) (λi' j' sz' es' hx=>?_)
 ·rcases hget _ _ _ hx with⟨_,e2,e3⟩|h3
  ·rw[aF e2,e2];exact(hc _ _ e3.symm).1
  ·have:=h1 _ _ _ _ h3;by_cases e:j'=o
   ·subst e;rw[aF rfl,<- hu _ this];exact this
   ·rw[aj e];exact this
 ·rcases hget _ _ _ hx with⟨_,e2,e3⟩|h3
  ·rw[aF e2,e3];exact(hc _ _ e3.symm).2
  ·have:=h2 _ _ _ _ h3;by_cases e:j'=o
   ·subst e;rw[aF rfl,<- hu _ (h1 _ _ _ _ h3)];exact this
   ·rw[aj e];exact this
theorem EX.store (h:EX P g I0 I w T q kb n cap sz es)(hi:i<n)(ho:o<sz)(hno:((kD P T).all λe=>e.1 != o)=true){x:Value}{c':Cell}(h1:x.cells = #[x])(hx:∀J,Rd J x c')(hc':∀sz' es',c' ≠ .sl sz' es'){cs:Array Value}{e:TypeId}(hw:w.heap[kb]? = some (.cells cs e (0,0))) :
 ∃J,EX P g I0 J (w.setRow kb (splice cs.toList (i*sz+o) [x]).toArray) T q kb n cap sz (es.set i ((es.getD i []).set o c'))/\wZ w (w.setRow kb (splice cs.toList (i*sz+o) [x]).toArray) (Under g q)/\∀b,¬Under g q b->J b=I b:=by
 obtain⟨cs',e',hw',hI,hfit,hcell⟩:=h.row hi;rw[hw]at hw';cases hw';have hIk:=hI aQ;have hf:=hfit o ho;have ai4:es.length=n:=by have:=h.rd;cases this with|sl _ _ _ _ _ u hlen _ _ _ _ _ _=>exact hlen
 have hnew:=setRow_heap w kb cs (splice cs.toList (i*sz+o) [x]).toArray e (0,0) hw;have hsp:∀j,(splice cs.toList (i*sz+o) [x]).toArray[j]? = if j=i*sz+o then some x else cs[j]?:= λj=>by
  have:=Aw (cs:=cs) (off:=i*sz+o) (vs:= #[x]) (by simp;omega) j;rw[this];by_cases e1:j=i*sz+o
  ·subst e1;simp
  ·rw[aj e1];by_cases e2:j<i*sz+o
   ·rw[aF e2]
   ·rw[aj e2,aj (by simp;omega)]
 have hsize:kb<w.heap.size:=qM hw;obtain⟨d,m,hkd⟩:=h.root.under (.here h.at'.1)
 let J:IH:=λb=>if b=kb then some (splice cs.toList (i*sz+o) [x]).toArray else I b
 have hJ:∀b,b≠kb->J b=I b:=λb hb=>aj hb;have ahB:wZ w (w.setRow kb (splice cs.toList (i*sz+o) [x]).toArray) (Under g q):=⟨rfl,rfl,rfl,by rw[setRow_size];exact aA _,λb _ hb=>yQ w _ (λe=>hb (e ▸ .here h.at'.1)),aA _⟩;refine⟨J,{ good:=?_,tabs:=h.tabs,Gm:=?_,old:=h.old,ag:=?_,at':=h.at',root:=h.root,rd:=?_,ty:=?_ },ahB,λb hb=>hJ b (λe=>hb (e ▸ .here h.at'.1))⟩
 ·refine(OW.QE (F:=FV) (dp:=0) (Γ :=[]) (a:=⟨#[],[]⟩) ⟨h.good,λf hf=>by cases hf⟩ hw λB hB=>?_).good;rw[h.at'.1]at hB;cases hB;refine⟨_,_,rfl,λj u T' hj hu ht=>?_⟩;rw[hsp]at hu;obtain⟨cs2,e2,hw2,hown⟩:=h.good.arr _ _ _ h.at'.1;rw[hw]at hw2;cases hw2;split at hu
  ·rename_i e1;subst e1;have hs:oD P T=sz:=by
    have:=h.ty;cases this with|sl _ _ _ t hs _ _=>exact hs
   rw[hs,Ak ho]at ht;have:=aB.1 hno _ ht;simp at this
  ·exact hown j u T' hj hu ht
 ·exact h.Gm.other λb c hb=>yQ w _ (λe=>by subst e;have:=h.old _ _ hb;rw[h.at'.1]at this;cases this)
 ·intro b c hb;by_cases e1:b=kb
  ·subst e1;simp only[J,iT]at hb;cases hb;exact⟨e,(0,0),hnew⟩
  ·rw[hJ b e1]at hb;obtain⟨e2,fr,h2⟩:=h.ag b c hb;exact⟨e2,fr,by rw[yQ w _ e1];exact h2⟩
 ·refine h.rd.upd h.good h.ag h.at' h.root h.ty hi ho (u':=x) (c':=c') (λy=>?_) (λy b hy hb=>hJ b (λe1=>?_)) (hx J)
  ·unfold IH.cell;simp only[sJ,kz,if_false,J,iT,hIk];exact hsp y
  ·subst e1;exact hkd.irrefl _ hb
 ·exact h.ty.set (T':=0) aQ (λsz' es' e1=>dO e1 (hc' _ _)) (λT2 h2=>by have:=aB.1 hno _ h2;simp at this)
end
end
section
section
variable {P:Program} {g:Own} {I0 I J:IH} {w w':World} {T kb n cap sz i o:Nat} {q:rC} {es:List (List Cell)}
theorem EX.len (h:EX P g I0 I w T q kb n cap sz es):es.length=n/\oD P T=sz:=by have h1:=h.rd;have h2:=h.ty;cases h1 with|sl _ _ _ _ _ u hlen _ _ _ _ _ _=>cases h2 with|sl _ _ _ t hs _ _=>exact⟨hlen,hs⟩
theorem EX.child (h:EX P g I0 I w T q kb n cap sz es)(hi:i<n)(ho:o<sz){cs:Array Value}{e:TypeId}(hw:w.heap[kb]? = some (.cells cs e (0,0))){x:Value}(hx:cs[i*sz+o]? = some x){T' sz':Nat}{es':List (List Cell)}(hc:(es.getD i [])[o]? = some (.sl sz' es'))(ht:(o,T')∈kD P T)(hu:∀T2,(o,T2)∈kD P T->T2=T') :
 GR g x T' (.blk kb (i*sz+o))/\Fv g (.blk kb (i*sz+o))/\Rd I x (.sl sz' es')/\Gh P T' (.sl sz' es'):=by
 obtain⟨cs',e',hw',hI,hfit,hcell⟩:=h.row hi;rw[hw]at hw';cases hw';obtain⟨u,h1,h2⟩:=hcell o ho;rw[hx]at h1;cases h1;obtain⟨d,m,hkd⟩:=h.root.under (.here h.at'.1);refine⟨KP h.good h.ag h.at' h.len.2 hi ho ?_ ht,.inr ⟨kb,_,d,m,rfl,hkd⟩,h2 _ hc,?_⟩
 ·rw[Addr.mD,dF];unfold IH.cell;simp only[sJ,kz,if_false,hI aQ];exact hx
 ·have h3:=h.ty;cases h3 with
  |sl _ _ _ t hs t1 t2=>
  have:=t2 _ _ _ _ hc
  rwa[hu _ (t1 _ _ _ _ hc)]at this
theorem EX.after (h:EX P g I0 I w T q kb n cap sz es)(hi:i<n)(ho:o<sz){cs:Array Value}{e:TypeId}(hw:w.heap[kb]? = some (.cells cs e (0,0))){x:Value}(hx:cs[i*sz+o]? = some x){T':Nat}{c1:Cell}(ht:(o,T')∈kD P T)(hu:∀T2,(o,T2)∈kD P T->T2=T')
 (hp:Post P g I w (.blk kb (i*sz+o)) x T' c1 w'):∃J,EX P g I0 J w' T q kb n cap sz (es.set i ((es.getD i []).set o c1))/\wZ w w' (Under g q)/\∀b,¬Under g q b->J b=I b:=by
 obtain⟨hg',hF,⟨J,j1,j2,j3⟩,hty⟩:=hp;obtain⟨cs',e',hw',hI,hfit,hcell⟩:=h.row hi;rw[hw]at hw';cases hw';have hIk:=hI aQ;have hl:=h.len;obtain⟨d,m,hkd⟩:=h.root.under (.here h.at'.1);have hup:∀{b},Under g (.blk kb (i*sz+o)) b->Under g q b:=λhb=>hb.trans (.here h.at'.1);have hJk:J kb=I kb:=j2 kb (hkd.irrefl _);refine⟨J,{ good:=hg',tabs:=h.tabs,Gm:=?_,old:=h.old,ag:=j1,at':=h.at',root:=h.root,rd:=?_,ty:=?_ },⟨hF.os,hF.tape,hF.output,hF.size,λb hb hn=>hF.block b hb λhx=>hn (hup hx),hF.drawn⟩,λb hb=>j2 b λhx=>hb (hup hx)⟩
 ·exact h.Gm.other λb c hb=>hF.block b (h.Gm.lt hb) λhx=>by obtain⟨T2,p,h2⟩:=hx.owned;have:=h.old b c hb;rw[h2]at this;cases this
 ·refine h.rd.upd h.good h.ag h.at' h.root h.ty hi ho (u':=x) (c':=c1) (λy=>?_) (λy b hy hb=>j2 b λhx=>hy (hkd.abg hb hx)) j3;unfold IH.cell;simp only[sJ,kz,if_false,hJk,hIk];split
  ·rename_i e1;subst e1;exact hx
  ·rfl
 ·exact h.ty.set (T':=T') aQ (λsz' es' e1=>⟨ht,hty⟩) hu
end
def KC (P:Program)(xx:Nat)(mt:yK)(tx:Int->List UInt8)(acts:List MA)(e:List Cell)(k:Int)(e':List Cell)(k':Int):Prop:=
 ∀ {T sz m:Nat} {rs:List (Array Oper)},JH P xx mt T sz m acts rs=true->∀{g:Own} {I0 I:IH} {w:World} {q:rC} {kb n cap:Nat} {es:List (List Cell)} {i:Nat} {a:Act} {Q:Exit->Act->World->Prop},
   EX P g I0 I w T q kb n cap sz es->i<n->es.getD i []=e->5<m->Dq P xx tx->ES tx sz kb i n cap m k E0 a w ->
   (∀a' w' J,ES tx sz kb i n cap m k' E0 a' w'->EX P g I0 J w' T q kb n cap sz (es.set i e')->wZ w w' (Under g q)->(∀b,¬Under g q b->J b=I b)->Q .normal a' w')->vV P Q rs a w
section
variable {P:Program} {xx:Nat} {mt:yK} {tx:Int->List UInt8} {r:List MA} {e e':List Cell} {k k':Int} {o:Nat}
theorem wZ.any {w w':World}{M:Nat->Prop}(h:wZ w w' λ_=>False):wZ w w' M:=⟨h.os,h.tape,h.output,h.size,λk hk _=>h.block k hk λh=>h,h.drawn⟩
theorem set_self {α:Type}{es:List (List α)}{i:Nat}(hi:i<es.length):es.set i (es.getD i [])=es:=by
 apply List.ext_getElem?;intro j;rw[lI];split
 ·rename_i e1;subst e1;rw[aY,ai hi];simp
 ·rfl
theorem afY : KC P xx mt tx [] e k e k:=by
 intro T sz m rs hc g I0 I w q kb n cap es i a Q hE hi he hm ht hs hk;cases rs with
 |cons _ _=>simp[JH]at hc
 | nil=>refine hk a w I hs ?_ ⟨rfl,rfl,rfl,aA _,λ_ _ _=>rfl,aA _⟩ λb _=>rfl;rw[<- he,set_self (by rw[hE.len.1];exact hi)];exact hE
theorem Wp {sv:SV}{c':Cell}{x0:Value}(h1:x0.cells = #[x0])(hone:x0.oneCell'=true)(hx:∀J,(tx k).length<=maxLen->Rd J x0 c')(hc':∀sz' es',c' ≠ .sl sz' es')(hk:Va k)(hk':Va (k+1))
 (hden:∀{sz kb i n c:Nat} {w:World} {x:Value},sv.den tx sz kb i n c k w x->x=x0/\(sv = .txt->(tx k).length<=maxLen)) (htx:sv ≠ .txt->∀J,Rd J x0 c')
 (ih:KC P xx mt tx r (e.set o c') (k+1) e' k') {T sz m:Nat} {x y:Array Oper} {rs:List (Array Oper)} (s1:stR P xx sz m o sv E0 x.toList=true) (s2:Vb m 1 y.toList=true) (s3:((kD P T).all λe=>e.1 != o)=true) (s4:JH P xx mt T sz m r rs=true)
 {g:Own} {I0 I:IH} {w:World} {q:rC} {kb n cap:Nat} {es:List (List Cell)} {i:Nat} {a:Act} {Q:Exit->Act->World->Prop} (hE:EX P g I0 I w T q kb n cap sz es) (hi:i<n) (he:es.getD i []=e) (hm:5<m) (ht:Dq P xx tx) (hs:ES tx sz kb i n cap m k E0 a w)
 (hK:∀a' w' J,ES tx sz kb i n cap m k' E0 a' w'->EX P g I0 J w' T q kb n cap sz (es.set i e')->wZ w w' (Under g q)->(∀b,¬Under g q b->J b=I b)->Q .normal a' w'):vV P Q (x::y::rs) a w:=by
 obtain⟨cs,ty,hw,_,hfit,_⟩:=hE.row hi;refine O5 (Q:=Exit.then (vV P Q (y::rs)) Q) s1 hs (λ_ _ h=>h) hi ht hk.1 hk.2 hE.tabs hE.Gm hw hfit (λx w hd=>by rw[(hden hd).1];exact⟨h1,hone⟩) (λa' w1 x hs' hF hw1 hd ho=>?_);obtain⟨rfl,hl⟩:=hden hd;have hrd:∀J,Rd J x c':=λJ=>by
  by_cases hsv:sv = .txt
  ·exact hx J (hl hsv)
  ·exact htx hsv J
 obtain⟨J,hE2,hF2,hJ⟩:=(hE.quiet hF).store hi ho s3 h1 hrd hc' hw1;show wpList P y (Exit.then (vV P Q rs) Q) y.toList a' _;refine Oo s2 hs'.size hs'.defers hs'.cnt ⟨hk'.1,by have:=hk'.2;omega⟩ aQ (.inr (.inl rfl)) (λa2 b1 b2 b3 b4=>?_);show vV P Q rs a2 _;have hs2:ES tx sz kb i n cap m (k+1) E0 a2 (w1.setRow kb (splice cs.toList (i*sz+o) [x]).toArray):=UW b1 b2 (by rw[b4 0 aQ (.inl rfl)];exact hs'.arr) b3 (by rw[b4 5 aQ (.inr (.inr rfl))];exact hs'.idx);refine ih s4 hE2 hi ?_ hm ht hs2 (λa3 w3 J3 hs3 hE3 hF3 hJ3=>?_)
 ·rw[IG (by rw[hE.len.1];exact hi),aF rfl,he]
 ·rw[List.set_set]at hE3;exact hK a3 w3 J3 hs3 hE3 ((hF.any.trans hF2 λ_ _ h=>h).trans hF3 λ_ _ h=>h) (λb hb=>(hJ3 b hb).trans (hJ b hb))
theorem afZ {f:Nat}{c c1:Cell}{k1 k2:Int}(hc0:e[o]? = some c)(hsl:∃sz es,c = .sl sz es)(hk:Va k)(hC:Zw P mt f c k c1 k1)(ih:KC P xx mt tx r (e.set o c1) k1 e' k2){T sz m:Nat}{x:Array Oper}{rs:List (Array Oper)}(s1:TM P xx sz m o f E0 x.toList=true)
 {T':Nat} (hmt:∃sz acts,mt f=some (T',sz,acts)) (hin:(o,T')∈kD P T) (hu:∀T2,(o,T2)∈kD P T->T2=T') (s4:JH P xx mt T sz m r rs=true)
 {g:Own} {I0 I:IH} {w:World} {q:rC} {kb n cap:Nat} {es:List (List Cell)} {i:Nat} {a:Act} {Q:Exit->Act->World->Prop} (hE:EX P g I0 I w T q kb n cap sz es) (hi:i<n) (he:es.getD i []=e) (hm:5<m) (ht:Dq P xx tx) (hs:ES tx sz kb i n cap m k E0 a w)
 (hK:∀a' w' J,ES tx sz kb i n cap m k2 E0 a' w'->EX P g I0 J w' T q kb n cap sz (es.set i e')->wZ w w' (Under g q)->(∀b,¬Under g q b->J b=I b)->Q .normal a' w'):vV P Q (x::rs) a w:=by
 obtain⟨cs,ty,hw,_,hfit,_⟩:=hE.row hi;obtain⟨sz',es',rfl⟩:=hsl;refine Nh (Q:=Exit.then (vV P Q rs) Q) s1 hs (λ_ _ h=>h) hi ht hk.1 hk.2 hE.tabs hE.Gm hw hfit hm (k1:=k1) (R:=λw1 w'=>∃J,EX P g I0 J w' T q kb n cap sz (es.set i ((es.getD i []).set o c1))/\wZ w1 w' (Under g q)/\∀b,¬Under g q b->J b=I b) (λw1 x hF hx ho=>?_) (λa' w1 w' hs' hF hR=>?_)
 ·have hE1:=hE.quiet hF;have hw1:w1.heap[kb]? = some (.cells cs ty (0,0)):=by rw[hF.block kb (qM hw) λh=>h];exact hw
  obtain⟨g1,g2,g3,g4⟩:=hE1.child hi ho hw1 hx (by rw[he];exact hc0) hin hu;refine(hC g I0 I w1 T' _ x hmt hE1.good hE1.tabs hE1.Gm hE1.old hE1.ag g1 g2 g3 g4).mono ?_;rintro e w' ⟨rfl,hp⟩;exact⟨rfl,hE1.after hi ho hw1 hx hin hu hp⟩
 ·obtain⟨J,hE2,hF2,hJ⟩:=hR;show vV P Q rs a' w';refine ih s4 hE2 hi ?_ hm ht hs' (λa3 w3 J3 hs3 hE3 hF3 hJ3=>?_)
  ·rw[IG (by rw[hE.len.1];exact hi),aF rfl,he]
  ·rw[List.set_set]at hE3;exact hK a3 w3 J3 hs3 hE3 ((hF.any.trans hF2 λ_ _ h=>h).trans hF3 λ_ _ h=>h) (λb hb=>(hJ3 b hb).trans (hJ b hb))
end
def UI (P:Program)(xx:Nat)(mt:yK)(f:Nat):Bool:=match mt f,P.funcs[f]? with
 | some (T,sz,acts),some fn=>(match fn.body with
   | some (.seq (.region _ r0 false) (.seq (.seq (.region _ r1 false) (.block b0 (.loop (.seq (.seq (.region _ r2 false) (.cond (.tmp c) .skip (.exit b0'))) (.seq (.block b1 body) (.region _ r3 false)))))) (.seq (.region _ r4 false) .ret)))=>
     (match r0.toList,r1.toList,r2.toList,r4.toList with
     | [x0],[x1],[y1,y2,y3,y4],[z1,z2]=>
       (match x0.guard,x0.dst,x0.op,x1.guard,x1.dst,x1.op with
        |none,some 4,.assign (.const (.int .i64 0)),none,some 5,.assign (.const (.int .i64 0))=>true
        |_,_,_,_,_,_=>false) &&
       (match y1.guard,y1.dst,y1.op,y2.guard,y2.dst,y2.op with
        | none,some t1,.move (.tmp 5),none,some t2,.move (.tmp 0)=>decide (5<t1/\5<t2/\t1≠t2/\t1<fn.ntmps/\t2<fn.ntmps)&&(match y3.guard,y3.dst,y3.op,y4.guard,y4.dst,y4.op with
          |none,some t3,.call ⟨.builtin .len,⟨[.tmp t2']⟩,⟨[ts]⟩⟩,none,some t4,.binOp .lss _ (.tmp t1') (.tmp t3') _=>(match P.underlying ts with|some (.slice _)=>true|_=>false)&&t1'==t1&&t2'==t2&&t3'==t3&&t4==c&&decide (5<t3/\t3≠t1/\t3≠t2/\5<t4/\t3<fn.ntmps/\t4<fn.ntmps)
          |_,_,_,_,_,_=>false)
        |_,_,_,_,_,_=>false) &&
       (match z1.guard,z1.dst,z1.op,z2.guard,z2.dst,z2.op with
        |none,some t,.move (.tmp 1),none,some 4,.assign (.tmp t')=>t'==t&&decide (t<fn.ntmps)
        |_,_,_,_,_,_=>false)
     | _,_,_,_=>false)&&b0'==b0&&Vb fn.ntmps 5 r3.toList&&(match MM body with
       |some rs=>JH P xx mt T sz fn.ntmps acts rs
       |none=>false)&&decide (5<fn.ntmps)&&(match fn.results.toList with
       |[.tmp 4]=>true
       |_=>false)
   |_=>false)
 |_,_=>false
end
section
structure BS (u:Value)(i:Nat)(k:Int)(m:Nat)(a:Act):Prop where
 size:a.tmps.size=m
 defers:a.defers=[]
 arr:a.tmps.getD 0 undef=u
 cnt:a.tmps.getD 1 undef = .int .i64 k
 idx:a.tmps.getD 5 undef = .int .i64 (i:Int)
theorem BS.put {u:Value}{i:Nat}{k:Int}{m:Nat}{a:Act}(h:BS u i k m a){d:Nat}(hd:5<d)(v:Value):BS u i k m (a.put (some d) v):=
 ⟨by simp[fO,h.size],h.defers,by rw[jP aQ];exact h.arr,by rw[jP aQ];exact h.cnt,by rw[jP aQ];exact h.idx⟩
theorem BS.es {ad:Addr}{kb n c i m:Nat}{k:Int}{a:Act}{w:World}{tx:Int->List UInt8}{sz:Nat}(h:BS (.slice (some ⟨kb,0,none⟩) n c) i k m a):ES tx sz kb i n c m k E0 a w:=UW h.size h.defers h.arr h.cnt h.idx
theorem ES.bs {kb n c i m:Nat}{k:Int}{a:Act}{w:World}{tx:Int->List UInt8}{sz:Nat}(h:ES tx sz kb i n c m k E0 a w):BS (.slice (some ⟨kb,0,none⟩) n c) i k m a:=⟨h.size,h.defers,h.arr,h.cnt,h.idx⟩
theorem xX (a:Act)(t:Nat):a.eval (.tmp t)=a.tmps.getD t undef:=rfl
section
variable {P:Program} {Q:Exit->Act->World->Prop} {a:Act} {w:World}
theorem U5 {id cc b0 i m n cap t1 t2 t3:Nat}{k:Int}{ad:Option Addr}{r2:Array Oper}{y1 y2 y3 y4:Oper}{ty ty2 e:TypeId}{ts:TypeId}(hr:r2.toList=[y1,y2,y3,y4])(g1:y1.guard=none)(d1:y1.dst=some t1)(p1:y1.op = .move (.tmp 5))(g2:y2.guard=none)(d2:y2.dst=some t2)(p2:y2.op = .move (.tmp 0))
 (g3:y3.guard=none) (d3:y3.dst=some t3) (p3:y3.op = .call ⟨.builtin .len,⟨[.tmp t2]⟩,⟨[ts]⟩⟩) (ht:P.underlying ts=some (.slice e)) (g4:y4.guard=none) (d4:y4.dst=some cc) (p4:y4.op = .binOp .lss ty (.tmp t1) (.tmp t3) ty2)
 (q:5<t1/\5<t2/\t1≠t2/\t1<m/\t2<m) (q':5<t3/\t3≠t1/\t3≠t2/\5<cc/\t3<m/\cc<m) (bs:BS (.slice ad n cap) i k m a)
 (h1:i<n->∀a',BS (.slice ad n cap) i k m a'->Q .normal a' w) (h2:¬i<n->∀a',BS (.slice ad n cap) i k m a'->Q (.exit b0) a' w) :
 (Code.seq (.region id r2 false) (.cond (.tmp cc) .skip (.exit b0))).wp P Q a w:=by
 refine wp_seq (wp_region_list ?_);rw[hr];refine mX (v:=.int .i64 (i:Int)) (w':=w) g1 (by unfold execOp;rw[p1];exact oW (λv=>jG (jy v) w) bs.idx) ?_;rw[d1];have b1:=bs.put q.1 (.int .i64 (i:Int));refine mX (v:=.slice ad n cap) (w':=w) g2 (by unfold execOp;rw[p2];exact oW (λv=>jG (jy v) w) b1.arr) ?_;rw[d2];have b2:=b1.put q.2.1 (.slice ad n cap);have e2:((a.put (some t1) (.int .i64 (i:Int))).put (some t2) (.slice ad n cap)).eval (.tmp t2) = .slice ad n cap:=by rw[xX];exact dM (by rw[b1.size];exact q.2.2.2.2)
 refine mX (v:=.int .i64 (n:Int)) (w':=w) g3 (by simp[execOp,p3,resolve,invoke,builtin,Go.Builtin.len_,run_underlying ht,e2,goInt]) ?_;rw[d3];have b3:=b2.put q'.1 (.int .i64 (n:Int));have e3:(((a.put (some t1) (.int .i64 (i:Int))).put (some t2) (.slice ad n cap)).put (some t3) (.int .i64 (n:Int))).eval (.tmp t3) = .int .i64 (n:Int):=by rw[xX];exact dM (by rw[b2.size];exact q'.2.2.2.2.1)
 have e1:(((a.put (some t1) (.int .i64 (i:Int))).put (some t2) (.slice ad n cap)).put (some t3) (.int .i64 (n:Int))).eval (.tmp t1) = .int .i64 (i:Int):=by rw[xX,jP (Ne.symm q'.2.1),jP q.2.2.1];exact dM (by rw[bs.size];exact q.2.2.2.1)
 refine mX (v:=.bool (decide (i<n))) (w':=w) g4 ?_ ?_
 ·have hq:∀v,(eqGuard .lss ty (.tmp t1) (.tmp t3) (.int .i64 (i:Int)) v).run P w = .ok () w:=λv=>xg _ _ _ _ _ _ _ _;have hr0:(binOp .lss ty (.int .i64 (i:Int)) (.int .i64 (n:Int))).run P w = .ok (.bool (decide (i<n))) w:=by simp[binOp,Op.intCmp]
  unfold execOp;rw[p4];simp only[e1,e3,bC,hq,hr0,aO,aZ]
 rw[d4];have b4:=b3.put q'.2.2.2.1 (.bool (decide (i<n)));refine wp_cond_split (t:=decide (i<n)) (by rw[xX];exact dM (by rw[b3.size];exact q'.2.2.2.2.2)) (λh=>wp_skip (h1 (by simpa using h) _ b4)) (λh=>wp_exit (h2 (by simpa using h) _ b4))
end
structure afK (P:Program)(xx:Nat)(mt:yK)(T sz:Nat)(acts:List MA)(fn:Func)(id0 id1 id2 id3 id4 b0 b1 cc:Nat)(r0 r1 r2 r3 r4:Array Oper)(body:Code):Prop where
 code:fn.body=some (.seq (.region id0 r0 false) (.seq (.seq (.region id1 r1 false) (.block b0 (.loop (.seq (.seq (.region id2 r2 false) (.cond (.tmp cc) .skip (.exit b0))) (.seq (.block b1 body) (.region id3 r3 false)))))) (.seq (.region id4 r4 false) .ret)))
 m5:5<fn.ntmps
 res:fn.results.toList=[.tmp 4]
 first:∃x0,r0.toList=[x0]/\x0.guard=none/\x0.dst=some 4/\x0.op = .assign (.const (.int .i64 0))
 second:∃x1,r1.toList=[x1]/\x1.guard=none/\x1.dst=some 5/\x1.op = .assign (.const (.int .i64 0))
 head:∀{Q:Exit->Act->World->Prop} {a:Act} {w:World} {i n cap:Nat} {k:Int} {ad:Option Addr},BS (.slice ad n cap) i k fn.ntmps a->(i<n->∀a',BS (.slice ad n cap) i k fn.ntmps a'->Q .normal a' w)->(¬i<n->∀a',BS (.slice ad n cap) i k fn.ntmps a'->Q (.exit b0) a' w) ->
  (Code.seq (.region id2 r2 false) (.cond (.tmp cc) .skip (.exit b0))).wp P Q a w
 inc:Vb fn.ntmps 5 r3.toList=true
 steps:∃rs,MM body=some rs/\JH P xx mt T sz fn.ntmps acts rs=true
 last:∃z1 z2 t,r4.toList=[z1,z2]/\z1.guard=none/\z1.dst=some t/\z1.op = .move (.tmp 1)/\z2.guard=none/\z2.dst=some 4/\z2.op = .assign (.tmp t)/\t<fn.ntmps
theorem acD {P:Program}{xx:Nat}{mt:yK}{f T sz:Nat}{acts:List MA}(h:UI P xx mt f=true)(hmt:mt f=some (T,sz,acts)):∃fn,P.funcs[f]? = some fn/\∃id0 id1 id2 id3 id4 b0 b1 cc r0 r1 r2 r3 r4 body,afK P xx mt T sz acts fn id0 id1 id2 id3 id4 b0 b1 cc r0 r1 r2 r3 r4 body:=by
 unfold UI at h;rw[hmt]at h;split at h
 ·rename_i T' sz' afQ fn e1 hf;cases e1;refine⟨fn,hf,?_⟩;split at h
  ·rename_i id0 r0 id1 r1 b0 id2 r2 cc b0' b1 body id3 r3 id4 r4 hb;simp only[af,aK,ak]at h;obtain⟨⟨⟨⟨⟨h1,rfl⟩,h2⟩,h3⟩,h4⟩,h5⟩:=h;refine⟨id0,id1,id2,id3,id4,b0',b1,cc,r0,r1,r2,r3,r4,body,?_⟩;split at h1
   ·rename_i x0 x1 y1 y2 y3 y4 z1 z2 l0 l1 l2 l4;simp only[af]at h1;obtain⟨⟨q1,q2⟩,q3⟩:=h1;refine⟨hb,h4,?_,?_,?_,?_,h2,?_,?_⟩
    ·split at h5
     ·rename_i e;exact e
     ·cases h5
    ·split at q1
     ·exact⟨x0,l0,by assumption,by assumption,by assumption⟩
     ·cases q1
    ·split at q1
     ·exact⟨x1,l1,by assumption,by assumption,by assumption⟩
     ·cases q1
    ·split at q2
     ·rename_i t1 t2 g1 d1 p1 g2 d2 p2;simp only[af,ak]at q2;obtain⟨q2,q4⟩:=q2;split at q4
      ·rename_i t3 t2' ts t4 ty t1' t3' ty2 g3 d3 p3 g4 d4 p4;simp only[af,aK,ak]at q4;obtain⟨⟨⟨⟨⟨hu,rfl⟩,rfl⟩,rfl⟩,rfl⟩,q5⟩:=q4;split at hu
       ·rename_i e hu2;intro Q a w i n cap k ad bs k1 k2;exact U5 l2 g1 d1 p1 g2 d2 p2 g3 d3 p3 hu2 g4 d4 p4 q2 q5 bs k1 k2
       ·cases hu
      ·cases q4
     ·cases q2
    ·split at h3
     ·exact⟨_,by assumption,h3⟩
     ·cases h3
    ·split at q3
     ·rename_i t t' g1 d1 p1 g2 d2 p2;simp only[af,aK,ak]at q3;obtain⟨rfl,q3⟩:=q3;exact⟨z1,z2,_,l4,g1,d1,p1,g2,d2,p2,q3⟩
     ·cases q3
   ·cases h1
  ·cases h
 ·cases h
inductive XE (S:List Cell->Int->List Cell->Int->Prop):List (List Cell)->Int->List (List Cell)->Int->Prop
 |nil {k:Int} : XE S [] k [] k
 |cons {e e':List Cell} {es es':List (List Cell)} {k k1 k2:Int} (h:S e k e' k1) (t:XE S es k1 es' k2):XE S (e::es) k (e'::es') k2
theorem set_mid {α:Type}{D es:List α}{e e':α} : (D++e::es).set D.length e'=(D++[e'])++es:=by rw[List.set_append_right _ _ (aA _)];simp
theorem aab {P:Program}{xx:Nat}{mt:yK}{tx:Int->List UInt8}{f T sz:Nat}{acts:List MA}(hc:UI P xx mt f=true)(hmt:mt f=some (T,sz,acts))(ht:Dq P xx tx){es es':List (List Cell)}{k k':Int}(hk:Va k)
 (hrun:XE (KC P xx mt tx acts) es k es' k'):Zw P mt f (.sl sz es) k (.sl sz es') k':=by
 intro g I0 I w T1 q u hT hg hTb hA0 hold hA hgr hroot hrd hty;obtain⟨sz1,air,hm1⟩:=hT;rw[hmt]at hm1;cases hm1;obtain⟨fn,hf,id0,id1,id2,id3,id4,b0,b1,cc,r0,r1,r2,r3,r4,body,C⟩:=acD hc hmt;obtain⟨ad,n,cap,rfl⟩:∃ad n cap,u = .slice ad n cap:=by rcases hgr with e|⟨_,_,_,e,_⟩<;>exact⟨_,_,_,e⟩
 have hn:es.length=n/\n<=maxLen:=by cases hrd with|sl _ _ _ _ _ _ h1 h2 h3 _ _ _ _=>exact⟨h1,dh h2 h3⟩
 refine calls_of_wp hf C.code ?_;obtain⟨x0,l0,g0,d0,p0⟩:=C.first;obtain⟨x1,l1,g1,d1,p1⟩:=C.second;have hm5:=C.m5
 let a0:Act:={ tmps:= #[vz ad n cap,.int .i64 k]++o5 (fn.ntmps-2) undef,defers:=[] }
 have hs0:a0.tmps.size=fn.ntmps:=by simp[a0];omega
 have ha0:a0.tmps.getD 0 undef = .slice ad n cap/\a0.tmps.getD 1 undef = .int .i64 k:=by constructor<;>(simp only[a0,dm];rw[mO kY];rfl)
 have BL:BS (.slice ad n cap) 0 k fn.ntmps ((a0.put (some 4) (.int .i64 0)).put (some 5) (.int .i64 0)):=
  ⟨by simp[fO,hs0],rfl,by rw[jP aQ,jP aQ];exact ha0.1,by rw[jP aQ,jP aQ];exact ha0.2,dM (by simp[fO,hs0];exact hm5)⟩
 refine wp_seq (wp_region_list ?_);rw[l0];refine mX (v:=.int .i64 0) (w':=w) g0 (by unfold execOp;rw[p0];rfl) ?_;rw[d0];refine wp_seq (wp_seq (wp_region_list ?_));rw[l1];refine mX (v:=.int .i64 0) (w':=w) g1 (by unfold execOp;rw[p1];rfl) ?_;rw[d1];refine wp_block (BA (λj a w'=>∃D es1 acP k1,XE (KC P xx mt tx acts) es1 k1 acP k'/\D++acP=es'/\j=es1.length/\(D++es1).length=n/\BS (.slice ad n cap) D.length k1 fn.ntmps a/\Post P g I w q (.slice ad n cap) T (.sl sz (D++es1)) w') ?_ ?_)
 ·exact⟨es.length,[],es,es',k,hrun,rfl,rfl,hn.1,BL,hg,⟨rfl,rfl,rfl,aA _,λ_ _ _=>rfl,aA _⟩,⟨I,hA,λ_ _=>rfl,hrd⟩,hty⟩
 ·rintro j a w1 ⟨D,es1,acP,k1,hr,hD,rfl,hlen,bs,hp⟩;refine wp_seq (C.head bs (λhlt a' bs'=>?_) (λhge a' bs'=>?_))
  ·
   cases hr with
   |nil=>simp at hlen;omega
   | @cons e e' es2 ahn _ k2 _ hS hr=>
   obtain⟨kb,n',c',e1,hkb⟩:∃kb n' c',vz ad n cap = .slice (some ⟨kb,0,none⟩) n' c'/\g.at kb n' T q:=by
    rcases hgr with e1|⟨kb,n',c',e1,h2⟩
    ·cases e1;omega
    ·exact⟨kb,n',c',e1,h2⟩
   cases e1;obtain⟨pg,pF,⟨J,pJ1,pJ2,pJ3⟩,pty⟩:=hp;have hE:EX P g I0 J w1 T q kb n cap sz (D++e::es2):=
    { good:=pg,tabs:=hTb,Gm:=hA0.other λb c hb=>pF.block b (hA0.lt hb) λhx=>(by obtain⟨T2,p,h2⟩:=hx.owned;have:=hold b c hb;rw[h2]at this;cases this),old:=hold,ag:=pJ1,at':=hkb,root:=hroot,rd:=pJ3,ty:=pty }
   obtain⟨rs,hrs,ahx⟩:=C.steps;refine wp_seq (wp_block (adi hrs (hS ahx hE hlt (by simp[aY]) hm5 ht (BS.es (ad:=⟨0,0,none⟩) bs') (λa2 w2 J2 hs2 hE2 hF2 hJ2=>?_))));refine wp_region_list (Oo C.inc hs2.size hs2.defers hs2.idx (by have:=hn.2;simp only[maxLen]at this;omega) hm5 (.inr (.inr rfl)) (λa3 c1 c2 c3 c4=>?_));refine⟨es2.length,kY,D++[e'],es2,ahn,k2,hr,by rw[<- hD];simp,rfl,by simp at hlen⊢;omega,?_,hE2.good,pF.trans hF2 λ_ _ h=>h,⟨J2,hE2.ag,λb hb=>(hJ2 b hb).trans (pJ2 b hb),?_⟩,?_⟩
   ·exact⟨c1,c2,by rw[c4 0 aQ (.inl rfl)];exact hs2.arr,by rw[c4 1 aQ (.inr (.inl rfl))];exact hs2.cnt,by rw[c3];simp⟩
   ·have:=hE2.rd;rwa[set_mid]at this
   ·have:=hE2.ty;rwa[set_mid]at this
  ·
   have hnil:es1=[]/\acP=[]/\k1=k':=by
    cases hr with
    |nil=>exact⟨rfl,rfl,rfl⟩
    |cons _ _=>simp at hlen;omega
   obtain⟨rfl,rfl,rfl⟩:=hnil;show rH b0 _ (.exit b0) a' w1;simp only[rH,iT];obtain⟨z1,z2,t,l4,g4,d4,p4,g5,d5,p5,Yf⟩:=C.last;refine wp_seq (wp_region_list ?_);rw[l4];refine mX (v:=.int .i64 k1) (w':=w1) g4 (by unfold execOp;rw[p4];exact oW (λv=>jG (jy v) w1) bs'.cnt) ?_;rw[d4];have e2:(a'.put (some t) (.int .i64 k1)).tmps.getD t undef = .int .i64 k1:=dM (by rw[bs'.size];exact Yf);refine mX (v:=.int .i64 k1) (w':=w1) g5 (by unfold execOp;rw[p5];exact oW (λv=>jG (jy v) w1) e2) ?_;rw[d5];refine wp_ret ?_;refine⟨bs'.defers,.int .i64 k1,?_,rfl,?_⟩
   ·have e3:((a'.put (some t) (.int .i64 k1)).put (some 4) (.int .i64 k1)).tmps.getD 4 undef = .int .i64 k1:=dM (by simp[fO,bs'.size];omega);have e4:fn.results = #[.tmp 4]:=(by apply Array.toList_inj.1;rw[C.res]);rw[CZ,e4];simp[JL,e3]
   ·rw[<- hD];simpa using hp
theorem SC {P:Program}{xx:Nat}{mt:yK}{tx:Int->List UInt8}(hall:∀f,(mt f).isSome=true->UI P xx mt f=true)(ht:Dq P xx tx){j:Jb}(h:yA mt tx j):match j with
 |.C f c k c' k'=>Zw P mt f c k c' k'/\Va k/\(∃sz es,c = .sl sz es)
 |.L acts es k es' k'=>XE (KC P xx mt tx acts) es k es' k'
 |.E acts e k e' k'=>KC P xx mt tx acts e k e' k':=by
 induction h with
 |c h hk hl ih=>exact⟨aab (hall _ (by rw[h];rfl)) h ht hk ih,hk,_,_,rfl⟩
 |l0=>exact .nil
 |l1 _ _ ih1 ih2=>exact .cons ih1 ih2
 |e0=>exact afY
 | ei hk hk' ho _ ih=>
   intro T sz m rs hc g I0 I w q kb n cap es i a Q hE hi he hm ht' hs hK
   match rs,hc with
   | x::y::rs,hc=>simp only[JH,af]at hc;exact Wp (sv:=.cnt) rfl rfl (λJ _=>.lit _ rfl) (λ_ _ e=>by cases e) hk hk' (λhd=>⟨hd,λe=>by cases e⟩) (λ_ J=>.lit _ rfl) ih hc.1.1.1 hc.1.1.2 hc.1.2 hc.2 hE hi he hm ht' hs hK
 | es hk hk' ho _ ih=>
   intro T sz m rs hc g I0 I w q kb n cap es i a Q hE hi he hm ht' hs hK
   match rs,hc with
   | x::y::rs,hc=>simp only[JH,af]at hc;exact Wp (sv:=.txt) rfl rfl (λJ hl=>.str _ hl) (λ_ _ e=>by cases e) hk hk' (λhd=>⟨hd.1,λ_=>hd.2⟩) (λe=>dO rfl e) ih hc.1.1.1 hc.1.1.2 hc.1.2 hc.2 hE hi he hm ht' hs hK
 | ef hc0 _ _ ih1 ih2=>
   intro T sz m rs hc g I0 I w q kb n cap es i a Q hE hi he hm ht' hs hK
   match rs,hc with
   | x::rs,hc=>
     simp only[JH,af]at hc;obtain⟨⟨h1,h2⟩,h3⟩:=hc;split at h2
     ·rename_i T' sz' afQ hmt;simp only[af,eF,aB,eX,bne_iff_ne,aK]at h2;exact afZ hc0 ih1.2.2 ih1.2.1 ih1.1 ih2 h1 ⟨_,_,hmt⟩ h2.1 (λT2 h4=>by
       rcases h2.2 _ h4 with h5|h5
       ·exact dO rfl h5
       ·exact h5) h3 hE hi he hm ht' hs hK
     ·cases h2
end
section
inductive Stp where
 |sl (o g:Nat)
 |st (o sz g:Nat)
 deriving DecidableEq
abbrev Um :=Nat->Option (Nat×List Stp)
inductive SR (mt:yK)(sb:Um)(tx:Int->List UInt8):(Nat->Nat)->List Stp->List Cell->Int->List Cell->Int->Prop
 |nil {ty:Nat->Nat} {cs:List Cell} {k:Int} : SR mt sb tx ty [] cs k cs k
 |sl {ty:Nat->Nat} {o g:Nat} {r:List Stp} {cs cs':List Cell} {c c1:Cell} {k k1 k2:Int} (hc:cs[o]? = some c) (hT:∃sz acts,mt g=some (ty o,sz,acts)) (hm:yA mt tx (.C g c k c1 k1)) (t:SR mt sb tx ty r (cs.set o c1) k1 cs' k2):SR mt sb tx ty (.sl o g::r) cs k cs' k2
 |st {ty:Nat->Nat} {o sz g:Nat} {r steps:List Stp} {cs cs2 cs':List Cell} {k k1 k2:Int} (hs:sb g=some (sz,steps)) (hl:o+sz<=cs.length) (h:SR mt sb tx (λj=>ty (o+j)) steps ((cs.drop o).take sz) k cs2 k1) (hl2:cs2.length=sz) (t:SR mt sb tx ty r (cs.take o++cs2++cs.drop (o+sz)) k1 cs' k2):SR mt sb tx ty (.st o sz g::r) cs k cs' k2
structure SX (P:Program)(g:Own)(I0 I:IH)(w:World)(vs:List Value)(cs:List Cell)(L:List Nat)(ty:Nat->Nat)(pid:Nat->rC):Prop where
 good:Good P g w
 tabs:Tabs P I0
 Gm:Agree I0 w
 old:∀b c,I0 b=some c->g b=none
 ag:Agree I w
 len:vs.length=cs.length
 rd:∀(j:Nat) (v:Value) (c:Cell),vs[j]? = some v->cs[j]? = some c->Rd I v c
 WI:∀(j sz:Nat) (es:List (List Cell)),cs[j]? = some (.sl sz es)->j∈L
 own:∀(j:Nat),j∈L->∀(v:Value),vs[j]? = some v->GR g v (ty j) (pid j)
 root:∀j,j∈L->Fv g (pid j)
 typ:∀(j sz:Nat) (es:List (List Cell)),cs[j]? = some (.sl sz es)->Gh P (ty j) (.sl sz es)
 dis:∀i j b,i∈L->j∈L->Under g (pid i) b->Under g (pid j) b->i=j
structure vH (P:Program)(g:Own)(I:IH)(w:World)(vs:List Value)(cs':List Cell)(L:List Nat)(ty:Nat->Nat)(pid:Nat->rC)(w':World):Prop where
 good:Good P g w'
 ve:wZ w w' λb=>∃j,j∈L/\Under g (pid j) b
 rd:∃J,Agree J w'/\(∀b,(∀j,j∈L->¬Under g (pid j) b)->J b=I b)/\∀(j:Nat) (v:Value) (c:Cell),vs[j]? = some v->cs'[j]? = some c->Rd J v c
 len:vs.length=cs'.length
 WI:∀(j sz:Nat) (es:List (List Cell)),cs'[j]? = some (.sl sz es)->j∈L
 typ:∀(j sz:Nat) (es:List (List Cell)),cs'[j]? = some (.sl sz es)->Gh P (ty j) (.sl sz es)
section
variable {P:Program} {g:Own} {I0 I J:IH} {w w':World} {vs:List Value} {cs cs':List Cell} {L:List Nat} {ty:Nat->Nat} {pid:Nat->rC}
theorem SX.quiet (h:SX P g I0 I w vs cs L ty pid)(hF:wZ w w' λ_=>False):SX P g I0 I w' vs cs L ty pid:=
 { h with good:=h.good.quiet hF,Gm:=h.Gm.quiet hF,ag:=h.ag.quiet hF }
theorem vH.next (h:SX P g I0 I w vs cs L ty pid)(hp:vH P g I w vs cs' L ty pid w'):∃J,SX P g I0 J w' vs cs' L ty pid/\∀b,(∀j,j∈L->¬Under g (pid j) b)->J b=I b:=by obtain⟨pg,pF,⟨J,p1,p2,p3⟩,pl,pi,pt⟩:=hp;refine⟨J,{ good:=pg,tabs:=h.tabs,Gm:=h.Gm.other λb c hb=>pF.block b (h.Gm.lt hb) ?_,old:=h.old,ag:=p1,len:=pl,rd:=p3,WI:=pi,own:=h.own,root:=h.root,typ:=pt,dis:=h.dis },p2⟩;rintro⟨j,_,hu⟩;obtain⟨T2,p,h2⟩:=hu.owned;have:=h.old b c hb;rw[h2]at this;cases this
theorem vH.trans {I':IH}{w1:World}(hF:wZ w w1 λb=>∃j,j∈L/\Under g (pid j) b)(hI:∀b,(∀j,j∈L->¬Under g (pid j) b)->I' b=I b)(hp:vH P g I' w1 vs cs' L ty pid w'):vH P g I w vs cs' L ty pid w':=
 { hp with ve:=hF.trans hp.ve λ_ _ h=>h,rd:=let ⟨J,p1,p2,p3⟩:=hp.rd;⟨J,p1,λb hb=>(p2 b hb).trans (hI b hb),p3⟩ }
theorem vH.refl (h:SX P g I0 I w vs cs L ty pid):vH P g I w vs cs L ty pid w:=
 ⟨h.good,⟨rfl,rfl,rfl,aA _,λ_ _ _=>rfl,aA _⟩,⟨I,h.ag,λ_ _=>rfl,h.rd⟩,h.len,h.WI,h.typ⟩
theorem SX.slice (h:SX P g I0 I w vs cs L ty pid){o:Nat}{sz:Nat}{es:List (List Cell)}{c1:Cell}{v:Value}(hc:cs[o]? = some (.sl sz es))(hv:vs[o]? = some v)(hc1:∃sz es,c1 = .sl sz es)(hp:Post P g I w (pid o) v (ty o) c1 w'):vH P g I w vs (cs.set o c1) L ty pid w':=by
 obtain⟨pg,pF,⟨J,p1,p2,p3⟩,pt⟩:=hp;have hoL:=h.WI _ _ _ hc;have ho:o<cs.length:=(ay.1 hc).1;have hget:∀(j:Nat) (c:Cell),(cs.set o c1)[j]? = some c->(j=o/\c=c1)\/(j≠o/\cs[j]? = some c):=λj c hj=>by
  rw[lI]at hj;split at hj
  ·rename_i e;subst e;cases hj;exact .inl ⟨rfl,rfl⟩
  ·rename_i e;exact .inr ⟨λe'=>e e'.symm,hj⟩
 refine⟨pg,⟨pF.os,pF.tape,pF.output,pF.size,λb hb hn=>pF.block b hb λhx=>hn ⟨o,hoL,hx⟩,pF.drawn⟩,⟨J,p1,λb hb=>p2 b (hb o hoL),λj x c hx hj=>?_⟩,by simpa using h.len,λj sz' es' hj=>?_,λj sz' es' hj=>?_⟩
 ·rcases hget j c hj with⟨rfl,rfl⟩|⟨hne,hj⟩
  ·rw[hv]at hx;cases hx;exact p3
  ·have hr:=h.rd j x c hx hj;cases c with
   |lit _=>exact hr.G8
   |str _=>exact hr.H7
   | sl sz' es'=>have hjL:=h.WI _ _ _ hj;exact hr.under h.good h.ag (h.own j hjL x hx) (h.typ _ _ _ hj) λb hb=>p2 b λhb2=>hne (h.dis j o b hjL hoL hb hb2)
 ·rcases hget j _ hj with⟨rfl,_⟩|⟨_,hj⟩
  ·exact hoL
  ·exact h.WI _ _ _ hj
 ·rcases hget j _ hj with⟨rfl,e⟩|⟨_,hj⟩
  ·rw[e];exact pt
  ·exact h.typ _ _ _ hj
def Tf (L:List Nat)(o sz:Nat):List Nat:=(List.range sz).filter λj=>L.contains (o+j)
theorem uX {o sz j:Nat} : j∈Tf L o sz<->j<sz/\o+j∈L:=by simp[Tf]
theorem MG {α:Type}(l:List α)(o sz j:Nat):((l.drop o).take sz)[j]? = if j<sz then l[o+j]? else none:=by
 by_cases h:j<sz
 ·rw[aF h,List.getElem?_take_of_lt h,dS]
 ·rw[aj h,iq];rw[kW];omega
theorem Aa {α:Type}{l:List α}{o sz j:Nat}{x:α}(h:((l.drop o).take sz)[j]? = some x):j<sz/\l[o+j]? = some x:=by
 rw[MG]at h;split at h
 ·rename_i h1;exact⟨h1,h⟩
 ·cases h
theorem SX.part (h:SX P g I0 I w vs cs L ty pid){o sz:Nat}(hl:o+sz<=cs.length):SX P g I0 I w ((vs.drop o).take sz) ((cs.drop o).take sz) (Tf L o sz) (λj=>ty (o+j)) λj=>pid (o+j) where
 good:=h.good
 tabs:=h.tabs
 Gm:=h.Gm
 old:=h.old
 ag:=h.ag
 len:=by have:=h.len;simp;omega
 rd:=λj v c hv hc=>h.rd _ v c (Aa hv).2 (Aa hc).2
 WI:=λj sz' es hj=>uX.2 ⟨(Aa hj).1,h.WI _ _ _ (Aa hj).2⟩
 own:=λj hj v hv=>h.own _ (uX.1 hj).2 v (Aa hv).2
 root:=λj hj=>h.root _ (uX.1 hj).2
 typ:=λj sz' es hj=>h.typ _ _ _ (Aa hj).2
 dis:=λi j b hi hj h1 h2=>by have:=h.dis _ _ b (uX.1 hi).2 (uX.1 hj).2 h1 h2;omega
theorem SX.afk (h:SX P g I0 I w vs cs L ty pid){o sz:Nat}{cs2:List Cell}(hl:o+sz<=cs.length)(hl2:cs2.length=sz)(hp:vH P g I w ((vs.drop o).take sz) cs2 (Tf L o sz) (λj=>ty (o+j)) (λj=>pid (o+j)) w') :
 vH P g I w vs (cs.take o++cs2++cs.drop (o+sz)) L ty pid w':=by
 obtain⟨pg,pF,⟨J,p1,p2,p3⟩,pl,pi,pt⟩:=hp;have hsub:∀{b},(∃j,j∈Tf L o sz/\Under g (pid (o+j)) b)->∃j,j∈L/\Under g (pid j) b:=λ⟨j,hj,hu⟩=>⟨o+j,(uX.1 hj).2,hu⟩;have hto:(cs.take o).length=o:=by rw[kW];omega
 have hget:∀(j:Nat) (c:Cell),(cs.take o++cs2++cs.drop (o+sz))[j]? = some c->(∃i,j=o+i/\i<sz/\cs2[i]? = some c)\/((j<o\/o+sz<=j)/\cs[j]? = some c):=λj c hj=>by
  by_cases h1:j<o
  ·rw[List.append_assoc,aX aQ,List.getElem?_take_of_lt h1]at hj;exact .inr ⟨.inl h1,hj⟩
  ·by_cases h2:j<o+sz
   ·rw[aX (by simp[hl2];omega),bZ aQ,hto]at hj;exact .inl ⟨j-o,aQ,aQ,hj⟩
   ·have hl3:(cs.take o++cs2).length=o+sz:=(by rw[List.length_append,hto,hl2]);rw[bZ aQ,hl3,dS,show o+sz+(j-(o+sz))=j by omega]at hj;exact .inr ⟨.inr aQ,hj⟩
 refine⟨pg,⟨pF.os,pF.tape,pF.output,pF.size,λb hb hn=>pF.block b hb λhx=>hn (hsub hx),pF.drawn⟩,⟨J,p1,λb hb=>p2 b λj hj hu=>hb _ (uX.1 hj).2 hu,λj x c hx hj=>?_⟩,?_,λj sz' es' hj=>?_,λj sz' es' hj=>?_⟩
 ·rcases hget j c hj with⟨i,rfl,hi,hc⟩|⟨hne,hj⟩
  ·exact p3 i x c (by rw[MG,aF hi];exact hx) hc
  ·have hr:=h.rd j x c hx hj;cases c with
   |lit _=>exact hr.G8
   |str _=>exact hr.H7
   | sl sz' es'=>
     have hjL:=h.WI _ _ _ hj;exact hr.under h.good h.ag (h.own j hjL x hx) (h.typ _ _ _ hj) λb hb=>p2 b λi hi hb2=>by have:=h.dis j (o+i) b hjL (uX.1 hi).2 hb hb2;have:=(uX.1 hi).1;omega
 ·have:=h.len;simp[hl2];omega
 ·rcases hget j _ hj with⟨i,rfl,hi,hc⟩|⟨_,hj⟩
  ·exact(uX.1 (pi _ _ _ hc)).2
  ·exact h.WI _ _ _ hj
 ·rcases hget j _ hj with⟨i,rfl,hi,hc⟩|⟨_,hj⟩
  ·exact pt _ _ _ hc
  ·exact h.typ _ _ _ hj
end
def stepS (P:Program)(s:Stp)(m:Nat):List Oper->Bool
 | [x,y,z,u,v]=>(match x.guard,x.dst,x.op,y.guard,y.dst,y.op with
   | none,some t1,.fieldAddr S (.tmp 2) fi,none,some t2,.load t (.tmp t1')=>t1'==t1&&decide (2<t1/\2<t2/\t1<m/\t2<m)&&(match z.guard,z.dst,z.op,u.guard,u.dst,u.op with
     | none,some t3,.move (.tmp 1),none,some t4,.call ⟨.value (.func f),⟨[.tmp t2',.tmp t3']⟩,_⟩=>t2'==t2&&t3'==t3&&decide (2<t3/\t3≠t2/\t3<m/\2<t4/\t4<m)&&yN P f&&(match v.guard,v.dst,v.op with
       |none,some 1,.assign (.tmp t4')=>t4'==t4
       |_,_,_=>false)&&(match s with
       |.sl o g=>f==g&&xY P S fi o&&DF P t false 1
       |.st o sz g=>f==g&&xY P S fi o&&DF P t true sz)
     |_,_,_,_,_,_=>false)
   |_,_,_,_,_,_=>false)
 |_=>false
def Qv : Code->Option (List (Array Oper)×Array Oper)
 |.seq (.region _ ops false) .ret=>some ([],ops)
 |.seq (.region _ ops false) c=>(Qv c).map λp=>(ops::p.1,p.2)
 |_=>none
def MZ (P:Program)(m:Nat):List Stp->List (Array Oper)->Bool
 |[],[]=>true
 |s::r,x::rs=>stepS P s m x.toList&&MZ P m r rs
 |_,_=>false
def acE (P:Program)(sb:Um)(f:Nat):Bool:=match sb f,P.funcs[f]? with
 | some (sz,steps),some fn=>(match fn.body with
   | some (.seq (.region _ r0 false) rest)=>(match r0.toList with
     | [x,y]=>(match x.guard,x.dst,x.op,y.guard,y.dst,y.op with
       |none,some 2,.box _ (.tmp 0),none,some 4,.assign (.const (.int .i64 0))=>true
       |_,_,_,_,_,_=>false)
     |_=>false)&&(match Qv rest with
     | some (rs,last)=>MZ P fn.ntmps steps rs&&(match last.toList with
       | [z1,z2]=>(match z1.guard,z1.dst,z1.op,z2.guard,z2.dst,z2.op with
         |none,some t,.move (.tmp 1),none,some 4,.assign (.tmp t')=>t'==t&&decide (t<fn.ntmps)
         |_,_,_,_,_,_=>false)
       |_=>false)
     |none=>false)&&decide (4<fn.ntmps)&&(match fn.results.toList with
     |[.tmp 4]=>true
     |_=>false)
   |_=>false)
 |_,_=>false
end
section
structure TS (kx:Nat)(k:Int)(m:Nat)(a:Act):Prop where
 size:a.tmps.size=m
 defers:a.defers=[]
 cnt:a.tmps.getD 1 undef = .int .i64 k
 ptr:a.tmps.getD 2 undef = .pointer (some ⟨kx,0,none⟩)
theorem TS.put {kx m:Nat}{k:Int}{a:Act}(h:TS kx k m a){d:Nat}(hd:2<d)(v:Value):TS kx k m (a.put (some d) v):=
 ⟨by simp[fO,h.size],h.defers,by rw[jP aQ];exact h.cnt,by rw[jP aQ];exact h.ptr⟩
def Stp.arg (vs:List Value):Stp->Option Value
 |.sl o _=>vs[o]?
 |.st o sz _=>if o+sz<=vs.length then some (.agg ((vs.drop o).take sz).toArray)else none
def Stp.fn : Stp->Nat
 |.sl _ g=>g
 |.st _ _ g=>g
section
variable {P:Program} {Q:Exit->Act->World->Prop} {a:Act} {w:World} {ops:Array Oper}
theorem YO {o:Oper}{S:TypeId}{t fi off kx base:Nat}(ho:o.op = .fieldAddr S (.tmp t) fi)(hf:xY P S fi off=true)(hv:a.tmps.getD t undef = .pointer (some ⟨kx,base,none⟩)) :
 (execOp a.eval o).run P w = .ok (.value (.pointer (some ⟨kx,base+off,none⟩))) w:=by
 unfold xY at hf;split at hf
 ·rename_i fs hs;split at hf
  ·rename_i Jo hfld;simp only[af,aK]at hf;obtain⟨rfl,hf⟩:=hf;split at hf
   ·rename_i ti hti;simp at hf;have v1:a.eval (.tmp t) = .pointer (some ⟨kx,base,none⟩):=hv;simp[execOp,ho,Go.Instr.fieldAt,run_underlying hs,hfld,v1,iw,fieldPlace,sizeOf,typeInfo,hti,hf,Addr.mD]
   ·cases hf
  ·cases hf
 ·cases hf
theorem Jw {s:Stp}{m kx:Nat}{k k1:Int}{os:List Oper}{vs:List Value}{e:TypeId}{x:Value}{R:World->Prop}(hc:stepS P s m os=true)(ts:TS kx k m a)(hm:2<m)(hw:w.heap[kx]? = some (.cells vs.toArray e (0,0)))(hx:s.arg vs=some x)
 (hcall:Calls P s.fn #[x,.int .i64 k] w λe w'=>e = .returned (.int .i64 k1)/\R w') (hk:∀a' w',TS kx k1 m a'->R w'->Q .normal a' w'):wpList P ops Q os a w:=by
 unfold stepS at hc;split at hc
 ·rename_i x1 y z u v;split at hc
  ·rename_i t1 S fi t2 t t1' g1 d1 p1 g2 d2 p2;simp only[af,aK,ak]at hc;obtain⟨⟨e1,q1,q2,q3,q4⟩,hc⟩:=hc;rw[e1]at p2;split at hc
   ·rename_i t3 t4 f t2' t3' ts' g3 d3 p3 g4 d4 p4;simp only[af,aK,ak]at hc;obtain⟨⟨⟨⟨⟨e2,e3⟩,q5,q6,q7,q8,q9⟩,hok⟩,hc5⟩,hs⟩:=hc;rw[e2,e3]at p4;split at hc5
    ·rename_i t4' g5 d5 p5;simp only[aK]at hc5;rw[hc5]at p5;have hload:∃off,xY P S fi off=true/\(loadVar t ⟨kx,off,none⟩).run P w = .ok x w/\f=s.fn:=by
      cases s with
      | sl o g=>simp only[af,aK]at hs;refine⟨o,hs.1.2,C9 hs.2 ?_,hs.1.1⟩;simp only[dY,hw];simpa[Stp.arg]using hx
      | st o sz g=>
        simp only[af,aK]at hs;refine⟨o,hs.1.2,?_,hs.1.1⟩;simp only[Stp.arg]at hx;split at hx
        ·rename_i hl;cases hx;obtain⟨h1,h2⟩:=Ac hs.2 w;have h3:=run_loadCells_list (P:=P) w ⟨kx,o,none⟩ ((vs.drop o).take sz) (λj u hu=>by
          rw[MG]at hu;split at hu
          ·rw[Addr.mD];simp only[dY,hw];simpa using hu
          ·cases hu)
         rw[show((vs.drop o).take sz).length=sz by simp;omega]at h3;simp[loadVar,h1,h2,h3]
        ·cases hx
     obtain⟨off,hf,hl,rfl⟩:=hload;refine mX (v:=.pointer (some ⟨kx,off,none⟩)) (w':=w) g1 (by have:=YO (P:=P) (w:=w) p1 hf ts.ptr;rwa[dF]at this) ?_;rw[d1];have b1:=ts.put q1 (.pointer (some ⟨kx,off,none⟩));have v1:(a.put (some t1) (.pointer (some ⟨kx,off,none⟩))).eval (.tmp t1) = .pointer (some ⟨kx,off,none⟩):=(by rw[xX];exact dM (by rw[ts.size];exact q3));refine mX (v:=x) (w':=w) g2 (by simp[execOp,p2,v1,iw,kN,hl]) ?_;rw[d2];have b2:=b1.put q2 x;refine mX (v:=.int .i64 k) (w':=w) g3 (by unfold execOp;rw[p3];exact oW (λv=>jG (jy v) w) b2.cnt) ?_;rw[d3];have b3:=b2.put q5 (.int .i64 k);have v2:(((a.put (some t1) (.pointer (some ⟨kx,off,none⟩))).put (some t2) x).put (some t3) (.int .i64 k)).eval (.tmp t2)=x:=(by rw[xX,jP (Ne.symm q6)];exact dM (by rw[b1.size];exact q4));have v3:(((a.put (some t1) (.pointer (some ⟨kx,off,none⟩))).put (some t2) x).put (some t3) (.int .i64 k)).eval (.tmp t3) = .int .i64 k:=(by rw[xX];exact dM (by rw[b2.size];exact q7));have he:=y5 (w:=w) (a:=(((a.put (some t1) (.pointer (some ⟨kx,off,none⟩))).put (some t2) x).put (some t3) (.int .i64 k))) p4 (x:=.func s.fn) (caps:= #[]) rfl hok;refine EM g4 (f:=s.fn) (args:= #[x,.int .i64 k]) (by simpa[v2,v3]using he) (hcall.mono ?_);rintro e w' ⟨rfl,hR⟩;refine⟨_,rfl,?_⟩;rw[d4];have b4:=b3.put q8 (.int .i64 k1);have v4:((((a.put (some t1) (.pointer (some ⟨kx,off,none⟩))).put (some t2) x).put (some t3) (.int .i64 k)).put (some t4) (.int .i64 k1)).tmps.getD t4 undef = .int .i64 k1:=dM (by rw[b3.size];exact q9);refine mX (v:=.int .i64 k1) (w':=w') g5 (by unfold execOp;rw[p5];exact oW (λv=>jG (jy v) w') v4) ?_;rw[d5];exact hk _ w' ⟨by simp[fO,b4.size]<;>(have:=b4.size;simpa[fO]using this),b4.defers,dM (by rw[b4.size];omega),by rw[jP aQ];exact b4.ptr⟩ hR
    ·cases hc5
   ·cases hc
  ·cases hc
 ·cases hc
end
theorem abe {P:Program}{Q:Exit->Act->World->Prop}{K:Act->World->Prop} : ∀{c:Code} {rs:List (Array Oper)} {last:Array Oper} {a:Act} {w:World},Qv c=some (rs,last) ->
 (∀a w,K a w->wpList P last (Exit.then (Q .ret) Q) last.toList a w)->vV P (Exit.then K Q) rs a w->c.wp P Q a w:=by
 intro c rs last a w hc hK h
 fun_induction Qv c generalizing rs a w with
 | case1 id ops=>
   cases hc;refine wp_seq (wp_mono (wp_region_list (hK a w h)) λe a w hq=>?_);cases e with
   |normal=>exact wp_ret hq
   |_=>exact hq
 | case2 id ops c hne ih=>
   simp only[aU]at hc;obtain⟨⟨rs',l'⟩,hp,e⟩:=hc;cases e;simp only[vV]at h;refine wp_seq (wp_mono (wp_region_list h) λe a w hq=>?_);cases e with
   |normal=>exact ih hp hq
   |_=>exact hq
 |case3=>cases hc
def adF (P:Program)(ty:Nat->Nat)(steps:List Stp)(cs:List Cell)(k:Int)(cs':List Cell)(k':Int):Prop:=
 ∀ {g:Own} {I0 I:IH} {w:World} {vs:List Value} {L:List Nat} {pid:Nat->rC},SX P g I0 I w vs cs L ty pid->∀{m kx:Nat} {rs:List (Array Oper)} {e:TypeId} {a:Act} {Q:Exit->Act->World->Prop},MZ P m steps rs=true->2<m->TS kx k m a ->
   w.heap[kx]? = some (.cells vs.toArray e (0,0))->g kx=none->(∀a' w',TS kx k' m a'->vH P g I w vs cs' L ty pid w'->Q .normal a' w')->vV P Q rs a w
def QY (P:Program)(f:Nat)(ty:Nat->Nat)(cs:List Cell)(k:Int)(cs':List Cell)(k':Int):Prop:=
 ∀{g:Own} {I0 I:IH} {w:World} {vs:List Value} {L:List Nat} {pid:Nat->rC},SX P g I0 I w vs cs L ty pid->Calls P f #[.agg vs.toArray,.int .i64 k] w λe w'=>e = .returned (.int .i64 k')/\vH P g I w vs cs' L ty pid w'
theorem LH {P:Program}{sb:Um}{f sz:Nat}{steps:List Stp}{ty:Nat->Nat}{cs cs':List Cell}{k k':Int}(hc:acE P sb f=true)(hs:sb f=some (sz,steps))(hr:adF P ty steps cs k cs' k'):QY P f ty cs k cs' k':=by
 intro g I0 I w vs L pid hX;unfold acE at hc;rw[hs]at hc;split at hc
 ·rename_i sz' steps' fn e1 hf;cases e1;split at hc
  ·rename_i id r0 rest hb;simp only[af,ak]at hc;obtain⟨⟨⟨h1,h2⟩,hm⟩,h3⟩:=hc;refine calls_of_wp hf hb (wp_seq (wp_region_list ?_));split at h1
   ·rename_i x y l0;split at h1
    ·rename_i S g1 d1 p1 g2 d2 p2;rw[l0]
     let a0:Act:={ tmps:= #[Value.agg vs.toArray,.int .i64 k]++o5 (fn.ntmps-2) undef,defers:=[] }
     have hs0:a0.tmps.size=fn.ntmps:=(by simp[a0];omega);have ha0:a0.tmps.getD 0 undef = .agg vs.toArray/\a0.tmps.getD 1 undef = .int .i64 k:=(by constructor<;>(simp only[a0,dm];rw[mO kY];rfl));have v0:a0.eval (.tmp 0) = .agg vs.toArray:=ha0.1;refine mX (v:=.pointer (some ⟨w.heap.size,0,none⟩)) (w':=w.alloc (.cells vs.toArray S)) g1 ?_ ?_
     ·have e1:(Value.agg vs.toArray).cells=vs.toArray:=rfl;show(execOp a0.eval x).run P w=_;simp only[execOp,p1,v0,Go.Instr.box,bC,aO,yP,aZ,e1]
     rw[d1];refine mX (v:=.int .i64 0) (w':=w.alloc (.cells vs.toArray S)) g2 (by unfold execOp;rw[p2];rfl) ?_;rw[d2];have ts:TS w.heap.size k fn.ntmps ((a0.put (some 2) (.pointer (some ⟨w.heap.size,0,none⟩))).put (some 4) (.int .i64 0)):=
      ⟨by simp[fO,hs0],rfl,by rw[jP aQ,jP aQ];exact ha0.2,by rw[jP aQ];exact dM (by rw[hs0];omega)⟩
     have hF:wZ w (w.alloc (.cells vs.toArray S)) λ_=>False:=⟨rfl,rfl,rfl,by show _<=(w.heap.push _).size;simp,λb hb _=>Oj w _ b hb,aA _⟩;split at h2
     ·rename_i rs last hp;simp only[af]at h2;obtain⟨h4,h5⟩:=h2;have hgk:g w.heap.size=none:=by
       cases hx:g w.heap.size with
       |none=>rfl
       |some B=>exact dO (hX.good.lt hx) (Nat.lt_irrefl _)
      show rest.wp P _ _ _;refine abe (K:=λa w'=>TS w.heap.size k' fn.ntmps a/\vH P g I w vs cs' L ty pid w') hp (λa w' hK=>?_) (hr (hX.quiet hF) h4 aQ ts (heap_alloc_new w _) hgk (λa' w' ts' hp'=>⟨ts',vH.trans hF.any (λ_ _=>rfl) hp'⟩));obtain⟨ts',hP⟩:=hK;split at h5
      ·rename_i z1 z2 l4;split at h5
       ·rename_i t t' g4 d4 p4 g5 d5 p5;simp only[af,aK,ak]at h5;obtain⟨e5,Yf⟩:=h5;rw[e5]at p5;rw[l4];refine mX (v:=.int .i64 k') (w':=w') g4 (by unfold execOp;rw[p4];exact oW (λv=>jG (jy v) w') ts'.cnt) ?_;rw[d4];have e2:(a.put (some t) (.int .i64 k')).tmps.getD t undef = .int .i64 k':=dM (by rw[ts'.size];exact Yf);refine mX (v:=.int .i64 k') (w':=w') g5 (by unfold execOp;rw[p5];exact oW (λv=>jG (jy v) w') e2) ?_;rw[d5];refine⟨ts'.defers,.int .i64 k',?_,rfl,hP⟩;have e3:((a.put (some t) (.int .i64 k')).put (some 4) (.int .i64 k')).tmps.getD 4 undef = .int .i64 k':=dM (by simp[fO,ts'.size];omega);split at h3
        ·rename_i er;have e4:fn.results = #[.tmp 4]:=(by apply Array.toList_inj.1;rw[er]);rw[CZ,e4];simp[JL,e3]
        ·cases h3
       ·cases h5
      ·cases h5
     ·cases h2
    ·cases h1
   ·cases h1
  ·cases hc
 ·cases hc
theorem abA {P:Program}{xx:Nat}{mt:yK}{sb:Um}{tx:Int->List UInt8}(hall:∀f,(mt f).isSome=true->UI P xx mt f=true)(hst:∀f,(sb f).isSome=true->acE P sb f=true)(ht:Dq P xx tx)
 {ty:Nat->Nat} {steps:List Stp} {cs cs':List Cell} {k k':Int} (h:SR mt sb tx ty steps cs k cs' k'):adF P ty steps cs k cs' k':=by
 induction h with
 | nil=>
   intro g I0 I w vs L pid hX m kx rs e a Q hc hm ts hw hg hk
   match rs,hc with
   |[],_=>exact hk a w ts (vH.refl hX)
 | @sl ty o g r cs cs' c c1 k k1 k2 hc0 hT hmk _ ih=>
   intro gh I0 I w vs L pid hX m kx rs e a Q hc hm ts hw hg hk
   match rs,hc with
   | x::rs,hc=>
     simp only[MZ,af]at hc;have hsl:(∃sz es,c = .sl sz es)/\∃sz es,c1 = .sl sz es:=by cases hmk with|c _ _ _=>exact⟨⟨_,_,rfl⟩,_,_,rfl⟩
     obtain⟨⟨sz',es,rfl⟩,hc1⟩:=hsl;have ho:o<vs.length:=(by rw[hX.len];exact(ay.1 hc0).1);have hv:=ai ho;have hoL:=hX.WI _ _ _ hc0;have hC:=(SC hall ht hmk).1;refine Jw (Q:=Exit.then (vV P Q rs) Q) hc.1 ts hm hw (x:=vs[o]) hv (k1:=k1) (R:=λw'=>vH P gh I w vs (cs.set o c1) L ty pid w') ?_ (λa' w' ts' hP=>?_)
     ·refine(hC gh I0 I w (ty o) (pid o) _ hT hX.good hX.tabs hX.Gm hX.old hX.ag (hX.own o hoL _ hv) (hX.root o hoL) (hX.rd o _ _ hv hc0) (hX.typ o _ _ hc0)).mono ?_;rintro e w' ⟨rfl,hp⟩;exact⟨rfl,hX.slice hc0 hv hc1 hp⟩
     ·obtain⟨J,hX2,hJ⟩:=vH.next hX hP;refine ih (e:=e) hX2 hc.2 hm ts' ?_ hg (λa2 w2 ts2 hP2=>hk a2 w2 ts2 (vH.trans hP.ve hJ hP2));rw[hP.ve.block kx (qM hw) (λ⟨j,_,hu⟩=>by obtain⟨T2,p,h2⟩:=hu.owned;rw[hg]at h2;cases h2)];exact hw
 | @st ty o sz g r steps cs cs2 cs' k k1 k2 hs hl _ hl2 _ ih1 ih2=>
   intro gh I0 I w vs L pid hX m kx rs e a Q hc hm ts hw hg hk
   match rs,hc with
   | x::rs,hc=>
     simp only[MZ,af]at hc;have hF:QY P g (λj=>ty (o+j)) ((cs.drop o).take sz) k cs2 k1:=LH (hst g (by rw[hs];rfl)) hs ih1;refine Jw (Q:=Exit.then (vV P Q rs) Q) hc.1 ts hm hw (x:=.agg ((vs.drop o).take sz).toArray) (by simp only[Stp.arg];rw[aF (by rw[hX.len];exact hl)]) (k1:=k1) (R:=λw'=>vH P gh I w vs (cs.take o++cs2++cs.drop (o+sz)) L ty pid w') ?_ (λa' w' ts' hP=>?_)
     ·refine(hF (hX.part hl)).mono ?_;rintro e w' ⟨rfl,hp⟩;exact⟨rfl,hX.afk hl hl2 hp⟩
     ·obtain⟨J,hX2,hJ⟩:=vH.next hX hP;refine ih2 (e:=e) hX2 hc.2 hm ts' ?_ hg (λa2 w2 ts2 hP2=>hk a2 w2 ts2 (vH.trans hP.ve hJ hP2));rw[hP.ve.block kx (qM hw) (λ⟨j,_,hu⟩=>by obtain⟨T2,p,h2⟩:=hu.owned;rw[hg]at h2;cases h2)];exact hw
end
section
def takeA : Nat->eG->eG
 |n+1,.seq x y=>.seq x (takeA n y)
 |_,_=>.skip
def GI : Nat->eG->eG
 |n+1,.seq _ y=>GI n y
 |_,c=>c
def DZ : Nat->Code->Code
 |n+1,.seq _ b=>DZ n b
 |_,c=>c
def Aq (P:Program)(pl:List Nat):Nat->Code->eG->List OF->Option (List OF)
 |0,_,_,Γ =>some Γ
 | n+1,.seq a b,.seq x y,Γ =>(match oC P pl (λ_=>true) a x Γ with
   |some (some BC,_)=>Aq P pl n b y BC
   |_=>none)
 |_,_,_,_=>none
def QA (K R:eH->Prop):AQ
 |.normal,st=>K st
 |.ret,st=>R st
 |.exit _,_=>False
section
variable {P:Program} {E:Env P} {N:Nat} {g0:Own} {dp:Nat} {pa:List (Nat×Value)} {pl:List Nat}
theorem A8 (hm:E.m<=10)(hpl:∀e,e∈pa->e.1∈pl){K R:eH->Prop}{Q:Exit->Act->World->Prop} : ∀{n:Nat} {c:Code} {ac:eG} {Γ uA:List OF} {a:Act} {w:World},oG P N E.m c ac=true->Aq P pl n c ac Γ = some uA ->
 AO E g0 pa dp N (wpC P (takeA n ac) (QA K R)) Γ a w->(∀a w,AO E g0 pa dp N K uA a w->(DZ n c).wp P Q a w)->(∀a w,AK E N R a w->Q .ret a w)->c.wp P Q a w
 | 0,c,ac,Γ,uA,a,w,hc,ho,h,hk,hr=>by simp only[Aq,aI]at ho;subst ho;exact hk a w (by simpa[takeA,wpC,QA]using h)
 | n+1,c,ac,Γ,uA,a,w,hc,ho,h,hk,hr=>by
   cases c<;>cases ac<;>try(simp[Aq]at ho;done)
   rename_i p q x y;simp only[oG,af]at hc;simp only[Aq]at ho;split at ho
   ·rename_i BC xs hq;have h':AO E g0 pa dp N (wpC P x (oO.then (wpC P (takeA n y) (QA K R)) (QA K R))) Γ a w:=h;refine wp_seq (wp_mono (pI hm hpl hc.1 hq h') λe a' w' he=>?_);cases e with
    | normal=>obtain⟨Ug,e1,h2⟩:=he;cases e1;exact A8 hm hpl hc.2 ho h2 hk hr
    | ret=>obtain⟨Ug,_,h2⟩:=he;exact hr a' w' h2.1.1
    | exit id=>obtain⟨Ug,_,h2⟩:=he;obtain⟨_,_,_,h3,_⟩:=h2.1.1;exact h3.elim
    |goto l=>exact he.elim
    |panic ch=>exact he.elim
    |outgrown=>exact he.elim
   ·cases ho
end
def Ph : Ren:=λ_=>none
def QX (J:IH)(a:Act)(ts:List (Nat×Slot)):Prop:=∀t s,(t,s)∈ts->Ub J Ph (a.tmps.getD t undef) s
theorem QX.mono {I J:IH}{a:Act}{ts:List (Nat×Slot)}(h:QX I a ts)(hle:I.le J):QX J a ts:=λt s hs=>(h t s hs).mono hle (λ_ _ h=>h)
theorem Ox : ∀{ts:List (Nat×Slot)} {t:Nat},uF ts t = .none\/(t,uF ts t)∈ts
 |[],t=>.inl rfl
 | (x,s)::r,t=>by
   simp only[uF];by_cases h:x=t
   ·subst h;simp
   ·rw[aj h];rcases Ox (ts:=r) (t:=t)with h2|h2
    ·exact .inl h2
    ·exact .inr (bU _ h2)
noncomputable def IH.with (I:IH)(w:World)(V:Nat->Prop):IH:=λk=>open Classical in if V k then(match w.heap[k]? with
 |some (.cells c _ _)=>some c
 |_=>I k)else I k
theorem abT {I:IH}{w:World}{V:Nat->Prop}{k:Nat}{c:Array Value}{e:TypeId}{fr:Nat×Nat}(hk:V k)(hw:w.heap[k]? = some (.cells c e fr)):I.with w V k=some c:=by unfold IH.with;rw[aF hk,hw]
theorem Kt {I:IH}{w:World}{V:Nat->Prop}(hA:Agree I w):I.le (I.with w V):=λk c h=>by
 obtain⟨e,fr,hw⟩:=hA k c h;unfold IH.with
 split
 ·rw[hw]
 ·exact h
theorem F7 {I:IH}{w:World}{V:Nat->Prop}(hA:Agree I w):Agree (I.with w V) w:=λk c h=>by
 unfold IH.with at h;split at h
 ·split at h
  ·rename_i c' e fr hw;cases h;exact⟨e,fr,hw⟩
  ·exact hA k c h
 ·exact hA k c h
section
variable {P:Program} {N:Nat} {a:Act} {w:World} {J:IH}
abbrev E1 (w:World)(J:IH)(hT:Tabs P J):Env P:=⟨w,J,λk=>∃b,(yU ([]:List Box) b).uses (Ph b) k,Ph,([]:List Box).length,hT⟩
theorem aaj (hT:Tabs P J)(hA:Agree J w){ts:List (Nat×Slot)}(hs:QX J a ts)(hn:a.tmps.size=N)(hd:a.defers=[]):GX (E1 w J hT) J Ph N (eH.of ts []) a w where
 agree:=hA
 bx:=⟨λb=>by rw[xG];exact rfl,λb b' k h _=>by rw[xG]at h;exact h.elim,λb k h=>by rw[xG]at h;exact h.elim⟩
 tm:=λt _=>by
  rw[BV];rcases Ox (ts:=ts) (t:=t)with h|h
  ·rw[h];trivial
  ·exact hs t _ h
 size:=hn
 defers:=hd
 ve:=wZ.refl _ _
 own:=λb k h=>by rw[xG]at h;exact h.elim
 Ec:=IH.le_refl _
 Aj:=λ_ _ _=>rfl
 ru:=λb hb=>dO hb (Nat.not_lt_zero b)
theorem UT {w':World}{hT:Tabs P J}(h:wZ w w' (E1 w J hT).M):wZ w w' λ_=>False:=⟨h.os,h.tape,h.output,h.size,λk hk _=>h.block k hk (by rintro⟨b,hb⟩;exact hb),h.drawn⟩
def Jr : Own:=⟨λ_=>none,λ_=>0⟩
theorem Qs {dp:Nat} : OW P FV Jr dp [] a w:=⟨⟨λk T p h=>(by cases h),λk row d b h=>(by cases h)⟩,λf hf=>(by cases hf)⟩
end
theorem OH {P:Program}{f:FuncId}{args:List AV}(hk:Vg f true=true)(h:∀(I:IH) (w:World) (vs:List Value),Tabs P I->Agree I w->NF I Ph vs args->Calls P f vs.toArray w λe w'=>e = .returned (.bool true)/\wZ w w' λ_=>False):gY P f args (oV true):=by
 refine xm.of0 hk λI ρ w vs hT hA hB hV=>?_;have hρ:ρ=Ph:=by
  funext b
  have:=hB.ok b;exact this
 subst hρ;refine(h I w vs hT hA hV).mono ?_;rintro e w' ⟨rfl,hF⟩;refine⟨.bool true,I,Ph,_,_,rfl,⟨rfl,rfl⟩,Rd.lit _ rfl,hA.quiet hF,⟨λb=>rfl,λb b' k h=>h.elim,λb k h=>h.elim⟩,IH.le_refl I,hF.any,λb k h=>h.elim,λ_ _ _=>rfl,λ_ _=>rfl⟩
theorem acX {P:Program}{Q:Exit->Act->World->Prop}{id:Nat}{ops:Array Oper}{c r:Code}{a:Act}{w:World}(h:c = .seq (.region id ops false) r)(hw:(vg id ops false).wp P (Exit.then (r.wp P Q) Q) a w):c.wp P Q a w:=by subst h;exact wp_seq hw
end
def Vd (P:Program)(N:Nat):List Oper->Option (Option Nat×Nat×Nat×Nat×List Nat)
 | [o1,o2,o3,o4]=>(match o1.guard,o1.dst,o2.guard,o2.dst,o2.op with
   | none,some t1,none,some t2,.move (.tmp y)=>(match o3.guard,o3.dst,o3.op,o4.guard,o4.dst,o4.op with
     | none,some t3,.call ⟨.value (.func f),⟨[.tmp u1,.tmp u2]⟩,_⟩,none,some y',.assign (.tmp u3)=>
       if u1=t1/\u2=t2/\u3=t3/\y'=y/\t1≠t2/\y≠t1/\t1<N/\t2<N/\t3<N/\y<N/\yN P f=true then(match o1.op with
        | .load t (.tmp x)=>(match P.info? t with
          |some i=>if DF P t true i.size=true then some (some i.size,x,y,f,[t1,t2,t3,y])else none
          |none=>none)
        |.move (.tmp x)=>some (none,x,y,f,[t1,t2,t3,y])
        |_=>none)
       else none
     |_,_,_,_,_,_=>none)
   |_,_,_,_,_=>none)
 |_=>none
def Held (a:Act)(w:World)(x:Nat)(vs:List Value):Option Nat->Prop
 |some sz=>∃kx e,a.tmps.getD x undef = .pointer (some ⟨kx,0,none⟩)/\w.heap[kx]? = some (.cells vs.toArray e (0,0))/\vs.length=sz
 |none=>∃v,vs=[v]/\a.tmps.getD x undef=v
def Fa (vs:List Value):Option Nat->Value
 |some _=>.agg vs.toArray
 |none=>vs.headD undef
theorem Yy {P:Program}{N id x y f:Nat}{k k':Int}{s:Option Nat}{tms:List Nat}{ops:Array Oper}{Q:Exit->Act->World->Prop}{a:Act}{w:World}{vs:List Value}{R:World->Prop}(hm:Vd P N ops.toList=some (s,x,y,f,tms))(hN:a.tmps.size=N)(hd:a.defers=[])
 (hv:Held a w x vs s) (hk:a.tmps.getD y undef = .int .i64 k) (hcall:Calls P f #[Fa vs s,.int .i64 k] w λe w'=>e = .returned (.int .i64 k')/\R w')
 (hQ:∀a' w',a'.tmps.size=N->a'.defers=[]->a'.tmps.getD y undef = .int .i64 k'->(∀t,t ∉ tms->a'.tmps.getD t undef=a.tmps.getD t undef)->R w'->Q .normal a' w'):(vg id ops false).wp P Q a w:=by
 refine wp_region_list ?_;generalize ops.toList=os at hm;unfold Vd at hm;split at hm
 ·rename_i o1 o2 o3 o4;split at hm
  ·rename_i t1 t2 y' g1 d1 g2 d2 p2;split at hm
   ·rename_i t3 f' u1 u2 ts y2 u3 g3 d3 p3 g4 d4 p4;split at hm
    ·rename_i hc;obtain⟨rfl,rfl,rfl,rfl,n1,n2,l1,l2,l3,l4,hok⟩:=hc;have fin:∀{x0:Nat},(execOp a.eval o1).run P w = .ok (.value (Fa vs s)) w->(s,x0,y2,f',[u1,u2,u3,y2])=(s,x,y,f,tms)->wpList P ops Q [o1,o2,o3,o4] a w:=λhr e=>by
      cases e;refine mX g1 hr ?_;rw[d1];refine mX (v:=.int .i64 k) (w':=w) g2 (by unfold execOp;rw[p2];exact oW (λv=>jG (jy v) w) ((jP n2).trans hk)) ?_;rw[d2];have v1:((a.put (some u1) (Fa vs s)).put (some u2) (.int .i64 k)).eval (.tmp u1)=Fa vs s:=(by rw[xX,jP n1];exact dM (by rw[hN];exact l1));have v2:((a.put (some u1) (Fa vs s)).put (some u2) (.int .i64 k)).eval (.tmp u2) = .int .i64 k:=(by rw[xX];exact dM (by simp[fO,hN];exact l2));have he:=y5 (w:=w) (a:=((a.put (some u1) (Fa vs s)).put (some u2) (.int .i64 k))) p3 (x:=.func f) (caps:= #[]) rfl hok;refine EM g3 (f:=f) (args:= #[Fa vs s,.int .i64 k]) (by simpa[v1,v2]using he) (hcall.mono ?_);rintro e w' ⟨rfl,hR⟩;refine⟨_,rfl,?_⟩;rw[d3];have v3:(((a.put (some u1) (Fa vs s)).put (some u2) (.int .i64 k)).put (some u3) (.int .i64 k')).tmps.getD u3 undef = .int .i64 k':=dM (by simp[fO,hN];exact l3);refine mX (v:=.int .i64 k') (w':=w') g4 (by unfold execOp;rw[p4];exact oW (λv=>jG (jy v) w') v3) ?_;rw[d4];refine hQ _ w' (by simp[fO,hN]) hd (dM (by simp[fO,hN];exact l4)) (λt ht=>?_) hR;simp only[au,List.not_mem_nil,or_false,not_or]at ht;rw[jP ht.2.2.2,jP ht.2.2.1,jP ht.2.1,jP ht.1]
     split at hm
     ·rename_i t x0 p1;split at hm
      ·rename_i i hi;split at hm
       ·rename_i hty;have e:s=some i.size/\x0=x:=by cases hm;exact⟨rfl,rfl⟩
        obtain⟨rfl,rfl⟩:=e;obtain⟨kx,e,h1,h2,h3⟩:=hv;refine fin (x0:=x0) ?_ (by simpa using hm);obtain⟨q1,q2⟩:=Ac hty w;have q3:=run_loadCells_list (P:=P) w ⟨kx,0,none⟩ vs (λj u hu=>by rw[Addr.mD,dF];simp only[dY,h2];simpa using hu)
        rw[h3]at q3;have v1:a.eval (.tmp x0) = .pointer (some ⟨kx,0,none⟩):=h1;simp[execOp,p1,v1,iw,kN,loadVar,q1,q2,q3,Fa]
       ·cases hm
      ·cases hm
     ·rename_i x0 p1;have e:s=none/\x0=x:=by cases hm;exact⟨rfl,rfl⟩
      obtain⟨rfl,rfl⟩:=e;obtain⟨v,rfl,h1⟩:=hv;refine fin (x0:=x0) ?_ (by simpa using hm);unfold execOp;rw[p1];exact oW (λv=>jG (jy v) w) h1
     ·cases hm
    ·cases hm
   ·cases hm
  ·cases hm
 ·cases hm
section
section
variable {P:Program} {E:Env P} {I I0 J:IH} {ρ:Ren} {N dp:Nat} {st:eH} {a:Act} {w w':World} {g:Own} {Γ : List OF}
theorem Wi {I:IH}{ρ:Ren}{cells:Array Value}{xs:List AC}{cs:List Cell}(hxs:xs=cs.map .c)(hg:∀(j:Nat) (u:Value) (x:AC),cells[j]? = some u->xs[j]? = some x->GC I ρ u x)(j:Nat)(v:Value)(c:Cell)(hv:cells.toList[j]? = some v)(hc:cs[j]? = some c):Rd I v c:=
 hg j v (.c c) (by simpa using hv) (by rw[hxs,aP,hc];rfl)
theorem Y4 (hG:GX E I ρ N st a w)(hO:OW P FV g dp Γ a w){x b:Nat}{xs:List AC}{cs:List Cell}{rows:List (Nat×Nat×Nat)}(hx:x<N)(Yf:st.tm x = .v true (.one (.ptr b 0)))(hb:st.bx b = .var xs)(hxs:xs=cs.map .c)(hvp:OF.vp x x 0 ∈ Γ)
 (hr:∀r,r∈rows->OF.row x ⟨r.1,r.2.1,r.2.2⟩ ∈ Γ) :
 ∃ (kx:Nat) (vs:List Value) (e:TypeId),a.tmps.getD x undef = .pointer (some ⟨kx,0,none⟩)/\w.heap[kx]? = some (.cells vs.toArray e (0,0))/\vs.length=cs.length/\(∀(j:Nat) (v:Value) (c:Cell),vs[j]? = some v->cs[j]? = some c->Rd I v c) /\
   (∃row d b,g kx=some (.var row d b))/\∀r,r∈rows->∀v,vs[r.1]? = some v->GR g v r.2.1 (.tag dp r.2.2):=by
 obtain⟨kx,row,h1,_,h2⟩:=hO.fs _ hvp;have h3:=hG.tm x hx;rw[Yf]at h3;obtain⟨k,cap,h4,h5⟩:=h3.1 rfl;have h6:=hG.bx.ok b;rw[hb]at h6;obtain⟨k',cap',cells,h7,h8,h9,h10⟩:=h6;rw[h4]at h7;cases h7;rw[h1]at h5;cases h5;refine⟨kx,cells.toList,_,h1,by simpa using h8,by rw[fE,h9,hxs];simp,λj v c hv hc=>Wi hxs h10 j v c hv hc,⟨_,_,_,h2⟩,λr hrr v hv=>?_⟩;obtain⟨k2,EY,q1,q2,q3⟩:=hO.fs _ (hr r hrr);rw[h1]at q1;cases q1;obtain⟨cells2,e2,q4,q5⟩:=hO.good.var _ _ _ _ q2;rw[h8]at q4;cases q4;obtain⟨u,q6,q7⟩:=q5 _ q3;rw[show cells.toList[r.1]? = cells[r.1]? by simp,q6]at hv;cases hv;exact q7
theorem O6 (hG:GX E I ρ N st a w)(hO:OW P FV g dp Γ a w){x T m:Nat}{c:Cell}(hx:x<N)(Yf:st.tm x = .v true (.one (.c c)))(hr:OF.ref x ⟨0,T,m⟩ ∈ Γ):Rd I (a.tmps.getD x undef) c/\GR g (a.tmps.getD x undef) T (.tag dp m):=by
 have h3:=hG.tm x hx;rw[Yf]at h3;obtain⟨u,h1,h2⟩:=hO.fs _ hr;refine⟨h3.1 rfl,?_⟩;have h4:u=a.tmps.getD x undef:=by
  have hs:∃b n c,u = .slice b n c:=by rcases h2 with e|⟨k,n,c,e,_⟩<;>exact⟨_,_,_,e⟩
  have h5:=Rd.one (h3.1 rfl)
  dsimp only at h1
  cases hq:a.tmps.getD x undef<;>rw[hq]at h1 h5<;>simp[jD]at h1<;>first|exact h1.symm|(simp[Value.oneCell']at h5)
 rwa[h4]at h2
def tyR (rows:List (Nat×Nat×Nat))(j:Nat):Nat:=match rows.find? (λr=>r.1==j)with
 |some r=>r.2.1
 |none=>0
def Qw (dp:Nat)(rows:List (Nat×Nat×Nat))(j:Nat):rC:=match rows.find? (λr=>r.1==j)with
 |some r=>.tag dp r.2.2
 |none=>.dead
def FW (rows:List (Nat×Nat×Nat)):Bool:=Am (rows.map (·.1))&&Am (rows.map (·.2.2))
theorem Ah {rows:List (Nat×Nat×Nat)}(h:FW rows=true){r:Nat×Nat×Nat}(hr:r∈rows):rows.find? (λq=>q.1==r.1)=some r:=by
 unfold FW at h;simp only[af]at h;have hn:=Ap h.1;clear h
 induction rows with
 |nil=>cases hr
 | cons q rows ih=>
   simp only[bf,rO]at hn;rw[List.find?_cons];rcases au.1 hr with rfl|hr
   ·simp
   ·have:(q.1==r.1)=false:=by
     simp only[beq_eq_false_iff_ne,ne_eq];intro e;exact hn.1 (e▸aG.2 ⟨r,hr,rfl⟩)
    rw[this];exact ih hr hn.2
theorem adu {rows:List (Nat×Nat×Nat)}(h:FW rows=true){r q:Nat×Nat×Nat}(hr:r∈rows)(hq:q∈rows)(e:r.2.2=q.2.2):r=q:=by
 unfold FW at h;simp only[af]at h;have hn:=Ap h.2;clear h
 induction rows with
 |nil=>cases hr
 | cons z rows ih=>
   simp only[bf,rO]at hn;rcases au.1 hr with e1|hr'<;>rcases au.1 hq with e2|hq'
   ·rw[e1,e2]
   ·subst e1;exact dO (show _∈rows.map (·.2.2)from aG.2 ⟨q,hq',e.symm⟩) hn.1
   ·subst e2;exact dO (show _∈rows.map (·.2.2)from aG.2 ⟨r,hr',e⟩) hn.1
   ·exact ih hr' hq' hn.2
theorem abI (hg:Good P g w)(hT:Tabs P I0)(hA0:Agree I0 w)(hold:∀b c,I0 b=some c->g b=none)(hA:Agree I w){vs:List Value}{cs:List Cell}(hlen:vs.length=cs.length)(hrd:∀(j:Nat) (v:Value) (c:Cell),vs[j]? = some v->cs[j]? = some c->Rd I v c)
 {rows:List (Nat×Nat×Nat)} (hok:FW rows=true) (hgr:∀r,r∈rows->∀v,vs[r.1]? = some v->GR g v r.2.1 (.tag dp r.2.2)) (hcov:∀(j sz:Nat) (es:List (List Cell)),cs[j]? = some (.sl sz es)->∃r,r∈rows/\r.1=j/\Gh P r.2.1 (.sl sz es)) :
 SX P g I0 I w vs cs (rows.map (·.1)) (tyR rows) (Qw dp rows) where
 good:=hg
 tabs:=hT
 Gm:=hA0
 old:=hold
 ag:=hA
 len:=hlen
 rd:=hrd
 WI:=λj sz es h=>by obtain⟨r,h1,h2,_⟩:=hcov j sz es h;exact aG.2 ⟨r,h1,h2⟩
 own:=λj hj v hv=>by obtain⟨r,h1,rfl⟩:=aG.1 hj;simp only[tyR,Qw,Ah hok h1];exact hgr r h1 v hv
 root:=λj hj=>by obtain⟨r,h1,rfl⟩:=aG.1 hj;simp only[Qw,Ah hok h1];exact .inl ⟨_,_,rfl⟩
 typ:=λj sz es h=>by obtain⟨r,h1,rfl,h2⟩:=hcov j sz es h;simp only[tyR,Ah hok h1];exact h2
 dis:=λi j b hi hj h1 h2=>by obtain⟨r,q1,rfl⟩:=aG.1 hi;obtain⟨q,q2,rfl⟩:=aG.1 hj;simp only[Qw,Ah hok q1]at h1;simp only[Qw,Ah hok q2]at h2;rw[adu hok q1 q2 (h1.abL h2).2]
theorem apart {rA rB:List (Nat×Nat×Nat)}(hA:FW rA=true)(hB:FW rB=true)(h:∀r,r∈rA->∀q,q∈rB->r.2.2≠q.2.2)(i:Nat)(hi:i∈rA.map (·.1))(j:Nat)(hj:j∈rB.map (·.1))(b:Nat)(h1:Under g (Qw dp rA i) b):¬Under g (Qw dp rB j) b:=λh2=>by obtain⟨r,q1,rfl⟩:=aG.1 hi;obtain⟨q,q2,rfl⟩:=aG.1 hj;simp only[Qw,Ah hA q1]at h1;simp only[Qw,Ah hB q2]at h2;exact h r q1 q q2 (h1.abL h2).2
theorem SX.keep {vs:List Value}{cs:List Cell}{L LA:List Nat}{ty:Nat->Nat}{pid abf:Nat->rC}(h:SX P g I0 I w vs cs L ty pid)(hg:Good P g w')(hF:wZ w w' λb=>∃j,j∈LA/\Under g (abf j) b)(hA:Agree J w')(hJ:∀b,(∀j,j∈LA->¬Under g (abf j) b)->J b=I b)
 (hd:∀i,i∈LA->∀j,j∈L->∀b,Under g (abf i) b->¬Under g (pid j) b):SX P g I0 J w' vs cs L ty pid:=
 { h with
   good:=hg
   Gm:=h.Gm.other λb c hb=>hF.block b (h.Gm.lt hb) (by rintro⟨j,_,hu⟩;obtain⟨T2,p,h2⟩:=hu.owned;have:=h.old b c hb;rw[h2]at this;cases this)
   ag:=hA
   rd:=λj v c hv hc=>by
    have hr:=h.rd j v c hv hc;cases c with
    |lit _=>exact hr.G8
    |str _=>exact hr.H7
    | sl sz es=>have hj:=h.WI _ _ _ hc;exact hr.under h.good h.ag (h.own j hj v hv) (h.typ _ _ _ hc) λb hb=>hJ b λi hi h2=>hd i hi j hj b h2 hb }
theorem aeW {IA:IH}{LA:List Nat}{abf:Nat->rC}(hold:∀b c,IA b=some c->g b=none)(hle:IA.le I)(hJ:∀b,(∀j,j∈LA->¬Under g (abf j) b)->J b=I b):IA.le J:=λb c h=>by
 rw[hJ b (λj _ hu=>by obtain⟨T2,p,h2⟩:=hu.owned;have:=hold b c h;rw[h2]at this;cases this)]
 exact hle b c h
theorem YY {kx:Nat}{vs:List Value}{cs:List Cell}{x:Nat}(h1:a.tmps.getD x undef = .pointer (some ⟨kx,0,none⟩))(h2:J kx=some vs.toArray)(hl:vs.length=cs.length)(hrd:∀(j:Nat) (v:Value) (c:Cell),vs[j]? = some v->cs[j]? = some c->Rd J v c) :
 Ub J Ph (a.tmps.getD x undef) (.v true (.one (.zQ cs))):=by
 refine⟨λ_=>⟨⟨kx,0,none⟩,h1,λj c hc=>?_⟩,λe=>by cases e⟩;have hj:j<vs.length:=by rw[hl];exact(ay.1 hc).1
 refine⟨vs[j],?_,hrd j _ c (ai hj) hc⟩;rw[Addr.mD,dF];unfold IH.cell;simp[h2,hj]
def afm (ρ:Ren)(st:eH)(k:Nat):Prop:=∃b xs cap,st.bx b = .var xs/\ρ b=some (k,cap)
theorem abx (hG:GX E I ρ N st a w){x b:Nat}{xs:List AC}{cs:List Cell}(hx:x<N)(Yf:st.tm x = .v true (.one (.ptr b 0)))(hb:st.bx b = .var xs)(hxs:xs=cs.map .c):Ub (I.with w (afm ρ st)) Ph (a.tmps.getD x undef) (.v true (.one (.zQ cs))):=by have h3:=hG.tm x hx;rw[Yf]at h3;obtain⟨k,cap,h4,h5⟩:=h3.1 rfl;have h6:=hG.bx.ok b;rw[hb]at h6;obtain⟨k',cap',cells,h7,h8,h9,h10⟩:=h6;rw[h4]at h7;cases h7;exact YY (vs:=cells.toList) h5 (by rw[abT ⟨b,xs,_,hb,h4⟩ h8]) (by rw[fE,h9,hxs];simp) λj v c hv hc=>(Wi hxs h10 j v c hv hc).mono (Kt hG.agree)
theorem abw (hG:GX E I ρ N st a w){x:Nat}{c:Cell}(hx:x<N)(Yf:st.tm x = .v true (.one (.c c)))(hle:I.le J):Ub J Ph (a.tmps.getD x undef) (.v true (.one (.c c))):=by have h3:=hG.tm x hx;rw[Yf]at h3;exact⟨λ_=>Rd.mono hle (h3.1 rfl),λe=>by cases e⟩
end
end
section
abbrev RL (rt:Nat):eH->Prop:=BF [.tmp rt] 0 (λr bs=>r=oV true/\bs=[])
abbrev Bd (P:Program)(fn:Func)(w0:World):Exit->Act->World->Prop:=bodyPost P fn λe w'=>e = .returned (.bool true)/\wZ w0 w' λ_=>False
structure Zq (K:eH->Prop)(S:eH):Prop where
 f:K S
section
variable {P:Program} {fn:Func} {w0 w w' wA:World} {I J JA:IH} {a a':Act} {g:Own} {c:Code} {ac:eG} {rt:Nat}
theorem G6 (hcr:xP P fn.ntmps fn.results.toList [.tmp rt]=true){hT:Tabs P J}(hF:wZ w0 w λ_=>False)(h:AK (E1 w J hT) fn.ntmps (RL rt) a w'):Bd P fn w0 .ret a w':=by obtain⟨h1,v,h2,v',J',σ,r,bs,e,⟨rfl,rfl⟩,h3,_,_,_,h4,_⟩:=Wx (fp:=[]) hcr h;refine⟨h1,v,h2,?_,hF.trans (UT (hT:=hT) h4) λ_ _ h=>h⟩;cases e;cases h3;rfl
structure Mid (P:Program)(N:Nat)(w0:World)(J:IH)(ts:List (Nat×Slot))(a:Act)(w:World):Prop where
 tabs:Tabs P J
 ag:Agree J w
 sl:QX J a ts
 size:a.tmps.size=N
 defers:a.defers=[]
 ve:wZ w0 w λ_=>False
structure Aft (P:Program)(N:Nat)(w0 wA:World)(JA:IH)(I:IH)(ρ:Ren)(g:Own)(pa:List (Nat×Value))(Γ : List OF)(st:eH)(a:Act)(w:World):Prop where
 tabs:Tabs P JA
 gx:∃hT:Tabs P JA,GX (E1 wA JA hT) I ρ N st a w
 ow:OW P FV g 0 Γ a w
 new:∀k,k<wA.heap.size->g k=none
 old:∀b c,JA b=some c->g b=none
 Gm:Agree JA w
 ag:Agree I w
 pa:PA pa a
 acS:wZ wA w λ_=>False
 ve:wZ w0 w λ_=>False
 Ec:JA.le I
theorem Hg {N:Nat}(h:Rel 0 N Jr g)(k:Nat)(hk:k<N):g k=none:=by
 cases hx:g k with
 |none=>rfl
 |some B=>obtain⟨B',h1,_⟩:=h.old k B hk hx;cases h1
theorem Ou (hcr:xP P fn.ntmps fn.results.toList [.tmp rt]=true){ts:List (Nat×Slot)}{S:eH}{pa:List (Nat×Value)}{pl:List Nat}{n:Nat}{Γ : List OF}(h:Mid P fn.ntmps w0 JA ts a wA)(hpl:∀e,e∈pa->e.1∈pl)(hpa:PA pa a)
 (hc:oG P fn.ntmps 0 c ac=true) (ho:Aq P pl n c ac []=some Γ) (hw:∀K,Zq K S->wpC P (takeA n ac) (QA K (RL rt)) (eH.of ts []))
 (hk:∀{I ρ g a w},Aft P fn.ntmps w0 wA JA I ρ g pa Γ S a w->(DZ n c).wp P (Bd P fn w0) a w):c.wp P (Bd P fn w0) a wA:=by
 have hG:=aaj h.tabs h.ag h.sl h.size h.defers;refine A8 (E:=E1 wA JA h.tabs) (g0:=Jr) (dp:=0) (pa:=pa) (K:=λst=>st=S) (R:=(RL rt)) (kU 10) hpl hc ho ⟨⟨⟨JA,Ph,_,hw _ ⟨rfl⟩,hG⟩,⟨Jr,Rel.refl _ _ _,Qs⟩⟩,hpa⟩ (λa w hA=>?_) λa w hA=>G6 hcr h.ve hA;obtain⟨⟨⟨I,ρ,st,rfl,hG⟩,g,hR,hO⟩,hPA⟩:=hA;have hF:=UT hG.ve;refine hk ⟨h.tabs,⟨_,hG⟩,hO,Hg hR,λb c hb=>Hg hR b (h.ag.lt hb),h.ag.quiet hF,hG.agree,hPA,hF,h.ve.trans hF λ_ _ h=>h,hG.Ec⟩
theorem aaF (hcr:xP P fn.ntmps fn.results.toList [.tmp rt]=true){ts:List (Nat×Slot)}(h:Mid P fn.ntmps w0 J ts a w)(hc:oG P fn.ntmps 0 c ac=true)(hw:wpC P ac (QF [.tmp rt] 0 (λr bs=>r=oV true/\bs=[])) (eH.of ts [])):c.wp P (Bd P fn w0) a w:=by
 have hG:=aaj h.tabs h.ag h.sl h.size h.defers;refine wp_mono (qY (E:=E1 w J h.tabs) (kU 10) hc ⟨J,Ph,_,hw,hG⟩) λe a w' hq=>?_;cases e with
 |normal=>exact G6 hcr h.ve hq
 |ret=>exact G6 hcr h.ve hq
 |exit id=>obtain⟨_,_,_,h,_⟩:=hq;exact h.elim
 |goto l=>exact hq.elim
 |panic ch=>exact hq.elim
 |outgrown=>exact hq.elim
theorem Yk {f:FuncId}{args:List AV}(hf:P.funcs[f]? = some fn)(hb:fn.body=some c)(hk:Vg f true=true)(hl:args.length<=fn.ntmps)(hcr:xP P fn.ntmps fn.results.toList [.tmp rt]=true){S:eH}{n:Nat}{Γ : List OF}(hc:oG P fn.ntmps 0 c ac=true)(ho:Aq P [] n c ac []=some Γ)
 (hw:∀K,Zq K S->wpC P (takeA n ac) (QA K (RL rt)) (st0 args []))
 (hk':∀{w0 wA JA I ρ g a w},Aft P fn.ntmps w0 wA JA I ρ g [] Γ S a w->(DZ n c).wp P (Bd P fn w0) a w):gY P f args (oV true):=by
 refine OH hk λI w vs hT hA hV=>?_;have hB:BX I Ph w (yU []):=Qp I w;have hG:=IE (fn:=fn) hl hT hA hB hV;refine calls_of_wp hf hb ?_;refine A8 (E:=E1 w I hT) (g0:=Jr) (dp:=0) (pa:=[]) (K:=λst=>st=S) (R:=(RL rt)) (kU 10) (λe he=>by cases he) hc ho ⟨⟨⟨I,Ph,_,hw _ ⟨rfl⟩,hG⟩,⟨Jr,Rel.refl _ _ _,Qs⟩⟩,λe he=>by cases he⟩ (λa w' hA'=>?_) λa w' hA'=>G6 hcr (wZ.refl _ _) hA';obtain⟨⟨⟨I',ρ,st,rfl,hG⟩,g,hR,hO⟩,hPA⟩:=hA';have hF:=UT hG.ve;exact hk' ⟨hT,⟨_,hG⟩,hO,Hg hR,λb c hb=>Hg hR b (hA.lt hb),hA.quiet hF,hG.agree,hPA,hF,hF,hG.Ec⟩
theorem Yj {f:FuncId}{args:List AV}(hf:P.funcs[f]? = some fn)(hb:fn.body=some c)(hk:Vg f true=true)(hl:args.length<=fn.ntmps)(hcr:xP P fn.ntmps fn.results.toList [.tmp rt]=true){n:Nat}{Γ : List OF}(hc:oG P fn.ntmps 0 c ac=true)(ho:Aq P [] n c ac []=some Γ)
 (hw:wpC P (takeA n ac) (QA (λ_=>False) (RL rt)) (st0 args [])):gY P f args (oV true):=by
 refine OH hk λI w vs hT hA hV=>?_;have hG:=IE (fn:=fn) hl hT hA (Qp I w) hV;refine calls_of_wp hf hb ?_;refine A8 (E:=E1 w I hT) (g0:=Jr) (dp:=0) (pa:=[]) (K:=λ_=>False) (R:=(RL rt)) (kU 10) (λe he=>by cases he) hc ho ⟨⟨⟨I,Ph,_,hw,hG⟩,⟨Jr,Rel.refl _ _ _,Qs⟩⟩,λe he=>by cases he⟩ (λa w' hA'=>?_) λa w' hA'=>G6 hcr (wZ.refl _ _) hA';obtain⟨⟨⟨I',ρ,st,h,hG⟩,_⟩,hPA⟩:=hA';exact h.elim
structure Mks (P:Program)(N:Nat)(w0 wA:World)(JA J:IH)(g:Own)(a:Act)(w:World):Prop where
 new:∀k,k<wA.heap.size->g k=none
 sz:wA.heap.size<=w.heap.size
 old:∀b c,JA b=some c->g b=none
 Ec:JA.le J
 ag:Agree J w
 size:a.tmps.size=N
 defers:a.defers=[]
 ve:wZ w0 w λ_=>False
 sz0:w0.heap.size<=wA.heap.size
def Zv (P:Program)(s:Option Nat)(f:Nat)(ty:Nat->Nat)(cs:List Cell)(k:Int)(cs':List Cell)(k':Int):Prop:=
 ∀{g:Own} {I0 I:IH} {w:World} {vs:List Value} {L:List Nat} {pid:Nat->rC},SX P g I0 I w vs cs L ty pid->Calls P f #[Fa vs s,.int .i64 k] w λe w'=>e = .returned (.int .i64 k')/\vH P g I w vs cs' L ty pid w'
theorem QY.any {f n:Nat}{ty:Nat->Nat}{cs cs':List Cell}{k k':Int}(h:QY P f ty cs k cs' k'):Zv P (some n) f ty cs k cs' k':=h
def LZ (P:Program)(N:Nat):Code->Option (Option Nat×Nat×Nat×Nat×List Nat)
 |.seq (.region _ ops false) _=>Vd P N ops.toList
 |_=>none
theorem acY {x kx:Nat}{vs:List Value}{e:TypeId}{n:Nat}(h1:a.tmps.getD x undef = .pointer (some ⟨kx,0,none⟩))(h2:w.heap[kx]? = some (.cells vs.toArray e (0,0)))(h3:vs.length=n):Held a w x vs (some n):=⟨kx,e,h1,h2,h3⟩
theorem WE {x:Nat}{v:Value}(h:a.tmps.getD x undef=v):Held a w x [v] none:=⟨v,rfl,h⟩
theorem TD {xx:Nat}{mt:yK}{tx:Int->List UInt8}(hall:∀f,(mt f).isSome=true->UI P xx mt f=true)(ht:Dq P xx tx){f:Nat}{ty:Nat->Nat}{c c1:Cell}{k k':Int}(hmk:yA mt tx (.C f c k c1 k'))(hT:∃sz acts,mt f=some (ty 0,sz,acts)):Zv P none f ty [c] k [c1] k':=by
 intro g I0 I w vs L pid hX;obtain⟨v,rfl⟩:=List.length_eq_one_iff.1 hX.len;have hsl:(∃sz es,c = .sl sz es)/\∃sz es,c1 = .sl sz es:=by cases hmk with|c _ _ _=>exact⟨⟨_,_,rfl⟩,_,_,rfl⟩
 obtain⟨⟨sz',es,rfl⟩,hc1⟩:=hsl;have hoL:=hX.WI 0 _ _ rfl;have hC:=(SC hall ht hmk).1;refine(hC g I0 I w (ty 0) (pid 0) _ hT hX.good hX.tabs hX.Gm hX.old hX.ag (hX.own 0 hoL _ rfl) (hX.root 0 hoL) (hX.rd 0 _ _ rfl rfl) (hX.typ 0 _ _ rfl)).mono ?_;rintro e w' ⟨rfl,hp⟩;exact⟨rfl,hX.slice rfl rfl hc1 hp⟩
theorem abn {J:IH}{v:Value}{c:Cell}(h:Rd J v c)(j:Nat)(u:Value)(d:Cell)(hu:[v][j]? = some u)(hd:[c][j]? = some d):Rd J u d:=by
 match j,hu,hd with
 |0,hu,hd=>cases hu;cases hd;exact h
theorem aag {T m dp:Nat}{v:Value}(h:GR g v T (.tag dp m))(r:Nat×Nat×Nat)(hr:r∈[(0,T,m)])(u:Value)(hu:[v][r.1]? = some u):GR g u r.2.1 (.tag dp r.2.2):=by obtain rfl:=List.mem_singleton.1 hr;cases hu;exact h
theorem Xl {J:IH}{v:Value}{c:Cell}{x:Nat}(h:Rd J v c)(hx:a.tmps.getD x undef=v):Ub J Ph (a.tmps.getD x undef) (.v true (.one (.c c))):=by rw[hx];exact⟨λ_=>h,λe=>by cases e⟩
theorem LV {N x y f:Nat}{k k':Int}{s:Option Nat}{tms:List Nat}{Q:Exit->Act->World->Prop}{vs:List Value}{cs cs':List Cell}{L:List Nat}{ty:Nat->Nat}{pid:Nat->rC}
 (hM:Mks P N w0 wA JA J g a w) (hS:SX P g JA J w vs cs L ty pid) (hm:LZ P N c=some (s,x,y,f,tms)) (hv:Held a w x vs s) (hk:a.tmps.getD y undef = .int .i64 k) (hf:Zv P s f ty cs k cs' k')
 (hQ:∀{a' w' J'},Mks P N w0 wA JA J' g a' w'->SX P g JA J' w' vs cs' L ty pid->a'.tmps.getD y undef = .int .i64 k'->(∀t,t ∉ tms->a'.tmps.getD t undef=a.tmps.getD t undef) ->
  (∀b row d m,g b=some (.var row d m)->w'.heap[b]? = w.heap[b]?) ->
  (∀{vs2 cs2 L2 ty2 ae1},SX P g JA J w vs2 cs2 L2 ty2 ae1->(∀i,i∈L->∀j,j∈L2->∀b,Under g (pid i) b->¬Under g (ae1 j) b)->SX P g JA J' w' vs2 cs2 L2 ty2 ae1)->(DZ 1 c).wp P Q a' w'):c.wp P Q a w:=by
 unfold LZ at hm;split at hm
 case h_2=>cases hm
 refine acX rfl (Yy (R:=vH P g J w vs cs' L ty pid) hm hM.size hM.defers hv hk (hf hS) λa' w' h1 h2 h3 h4 hp=>?_);obtain⟨J',hS',hJ'⟩:=vH.next hS hp;have hF:wZ w w' λb=>wA.heap.size<=b:=⟨hp.ve.os,hp.ve.tape,hp.ve.output,hp.ve.size,λk hk hn=>hp.ve.block k hk (by rintro⟨j,_,hu⟩;obtain⟨T2,p,h2⟩:=hu.owned;rw[hM.new k aQ]at h2;cases h2),hp.ve.drawn⟩
 refine hQ ⟨hM.new,dh hM.sz hF.size,hM.old,aeW hM.old hM.Ec hJ',hS'.ag,h1,h2,hM.ve.trans hF λb hb hn=>by have:=hM.sz0;omega,hM.sz0⟩ hS' h3 h4 (λb row d m hb=>hp.ve.block b (by obtain⟨_,e,hw,_⟩:=hS.good.var b row d m hb;exact qM hw) ?_) λh2 hd=>h2.keep hp.good hp.ve hS'.ag hJ' hd
 rintro⟨j,_,hu⟩;obtain⟨T2,p,h2⟩:=hu.owned;rw[hb]at h2;cases h2
end
end
section
section
variable {α β:Type} (lt:α->α->Bool)
def DD : List α->α->List α->List α
 |[],x,S=>x::S
 |r::R,x,S=>if lt x r then DD R x (r::S)else(r::R).reverse++x::S
def H6 (l:List α)(x:α):List α:=DD lt l.reverse x []
def NS (l:List α):List α:=l.foldl (H6 lt) []
theorem O4 : ∀(R:List α) (x:α) (S:List α),(DD lt R x S).Perm (x::(R++S))
 |[],x,S=>List.Perm.refl _
 | r::R,x,S=>by
   rw[DD];split
   ·refine(O4 R x (r::S)).trans (yI x ?_);exact xM
   ·refine xM.trans (yI x ?_);exact List.Perm.append_right S (List.reverse_perm _)
theorem O3 (l:List α)(x:α):(H6 lt l x).Perm (x::l):=by unfold H6;refine(O4 lt _ x []).trans (yI x ?_);rw[mJ];exact List.reverse_perm _
theorem O1 : ∀(l a:List α),(l.foldl (H6 lt) a).Perm (a++l)
 |[],a=>by simp
 | x::l,a=>by rw[jL];refine(O1 l _).trans ?_;exact(List.Perm.append_right l (O3 lt a x)).trans (by simpa using(xM (a:=x) (l₁:=a) (l₂:=l)).symm)
theorem Y0 (l:List α):(NS lt l).Perm l:=by simpa[NS]using O1 lt l []
variable {lt}
theorem TG {lt':β->β->Bool}(f:α->β)(h:∀x y,lt x y=lt' (f x) (f y)):∀(R:List α) (x:α) (S:List α),(DD lt R x S).map f=DD lt' (R.map f) (f x) (S.map f)
 |[],x,S=>rfl
 | r::R,x,S=>by
   rw[DD,bf,DD,<- h];split
   ·exact TG f h R x (r::S)
   ·simp
theorem TE {lt':β->β->Bool}(f:α->β)(h:∀x y,lt x y=lt' (f x) (f y)):∀(l a:List α),(l.foldl (H6 lt) a).map f=(l.map f).foldl (H6 lt') (a.map f)
 |[],a=>rfl
 | x::l,a=>by
   rw[jL,bf,jL,TE f h l]
   congr 1
   unfold H6;rw[TG f h,List.map_reverse];rfl
theorem abD {lt':β->β->Bool}(f:α->β)(h:∀x y,lt x y=lt' (f x) (f y))(l:List α):(NS lt l).map f=NS lt' (l.map f):=TE f h l []
theorem TF : ∀(R:List α) {x:α} {S T:List α},DD lt R x (S++T)=DD lt R x S++T
 |[],_,_,_=>rfl
 | r::R,x,S,T=>by
   rw[DD,DD];split
   ·rw[<- List.cons_append,TF R]
   ·simp
variable [Inhabited α]
theorem JZ {d:Array α}{A B:List α}{x:α}(h:d.toList=A++x::B):d[A.length]! = x:=by
 have hl:A.length<d.size:=by rw[<- fE,h];simp
 rw[getElem!_pos d _ hl,<- rF];simp[h]
theorem ads {d:Array α}{A B:List α}{r x:α}(h:d.toList=A++r::x::B):(Sort.swp d (A.length+1) A.length).toList=A++x::r::B:=by
 have h0:d[A.length]! = r:=JZ h;have h1:d[A.length+1]! = x:=by have:=JZ (d:=d) (A:=A++[r]) (B:=B) (x:=x) (by simp[h]);simpa using this
 unfold Sort.swp;rw[h0,h1,sF,sF,h];simp
theorem Oq : ∀(R:List α) (x:α) (T:List α) (d:Array α),d.toList=R.reverse++x::T->(xJ lt 0 R.length d).toList=DD lt R x T
 |[],x,T,d,h=>by simpa[xJ,DD]using h
 | r::R,x,T,d,h=>by
   have h':d.toList=R.reverse++r::x::T:=(by simpa using h);have g0:d[R.length]! = r:=(by have:=JZ h';simpa using this);have g1:d[R.length+1]! = x:=by have:=JZ (d:=d) (A:=R.reverse++[r]) (B:=T) (x:=x) (by simp[h']);simpa using this
   have hs:=ads h';rw[vZ]at hs;rw[List.length_cons,xJ,g0,g1,DD];cases lt x r with
   | true=>simp only[gt_iff_lt,Nat.zero_lt_succ,decide_true,qH,iT];exact Oq R x (r::T) _ hs
   |false=>simpa using h
theorem OE : ∀(k i:Nat) (A T:List α) (d:Array α),A.length=i->T.length=k->d.toList=A++T->(uq lt 0 (i+k) i d).toList=T.foldl (H6 lt) A
 | 0,i,A,T,d,ha,ht,h=>by have:T=[]:=List.eq_nil_of_length_eq_zero ht;subst this;rw[uq,aj aQ];simpa using h
 | k+1,i,A,T,d,ha,ht,h=>by
   cases T with
   |nil=>simp at ht
   | cons x T=>rw[uq,aF aQ,jL];have hi:=Oq (lt:=lt) A.reverse x T d (by simpa using h);rw[vZ,ha]at hi;have e:DD lt A.reverse x T=H6 lt A x++T:=(by unfold H6;rw[<- TF,List.nil_append]);rw[e]at hi;have hl:(H6 lt A x).length=i+1:=(by rw[(O3 lt A x).length_eq];simp[ha]);have:=OE k (i+1) (H6 lt A x) T _ hl (by simpa using ht) hi;rw[show i+1+k=i+(k+1) by omega]at this;exact this
theorem aby (d:Array α):(uU lt d 0 d.size).toList=NS lt d.toList:=by
 unfold uU NS;cases h:d.toList with
 | nil=>have:d.size=0:=(by rw[<- fE,h];rfl);rw[this,uq,aj aQ,h];rfl
 | cons x l=>have hs:d.size=1+l.length:=(by rw[<- fE,h];simp;omega);have:=OE (lt:=lt) l.length 1 [x] l d rfl rfl h;rw[hs,jL];exact this
end
end
section
section
variable {α:Type} [Inhabited α] {enc:α->List Value} {k:Nat} {w:World} {blk m:Nat} {dk:Array α} {os:Array Obj}
abbrev afg (enc:α->List Value)(k:Nat)(w:World)(blk m:Nat)(dk:Array α)(os:Array Obj):World:=lM enc k w blk 0 m dk os
abbrev QJ (enc:α->List Value)(k:Nat)(dk:Array α)(cs:Array Value):Array Value:=uu id 0 (Go.Sort.flatK enc k dk) cs
theorem afh {cs:Array Value}{e:TypeId}{fr:Nat×Nat}(hb:w.heap[blk]? = some (.cells cs e fr)):(afg enc k w blk m dk os).heap[blk]? = some (.cells (QJ enc k dk cs) e fr):=by have hlt:=qM hb;simp only[lM,zH,Go.Sort.putRowK,Go.Sort.putRow,Go.Sort.mapBlock,Go.Sort.ahead];rw[mO (by simpa using hlt),uT,aF rfl,hb];rfl
theorem abH {j:Nat}(hj:j<w.heap.size)(hne:j≠blk):(afg enc k w blk m dk os).heap[j]? = w.heap[j]?:=by simp only[lM,zH,Go.Sort.putRowK,Go.Sort.putRow,Go.Sort.mapBlock,Go.Sort.ahead];rw[mO (by simpa using hj),uT,aj aQ]
theorem adr : w.heap.size<=(afg enc k w blk m dk os).heap.size:=Go.Proofs.size_sortWorldK_c enc k w blk 0 m dk os
theorem ado {cs:Array Value} : (QJ enc k dk cs).size=cs.size:=by simp[QJ,uu]
theorem aff {cs:Array Value}{t:Nat}(h:dk.size*k<=t):(QJ enc k dk cs)[t]? = cs[t]?:=by simp only[QJ,uu,Array.getElem?_mapIdx,wF];rw[show(λx=>if 0<=t/\t<0+dk.size*k then id (Go.Sort.flatK enc k dk)[t-0]! else x)=λx=>x from funext λx=>aj aQ];simp
theorem VE {i c n k:Nat}(hi:i<n)(hc:c<k):i*k+c<n*k:=by have:=aH k (show i+1<=n from hi);rw[Nat.add_mul,Nat.one_mul]at this;omega
theorem Xj {i c k:Nat}(hc:c<k):(i*k+c)/k=i/\(i*k+c)%k=c:=by
 have h0:0<k:=by omega
 refine⟨?_,Ak hc⟩;rw[lN,Nat.mul_add_div h0,Nat.div_eq_of_lt hc,Nat.add_zero]
theorem agV (hk:∀x,(enc x).length=k){cs:Array Value}{i c:Nat}(hi:i<dk.size)(hc:c<k)(hs:i*k+c<cs.size):(QJ enc k dk cs)[i*k+c]? = (enc dk[i]!)[c]?:=by
 have hlt:=VE hi hc;obtain⟨e1,e2⟩:=Xj (i:=i) hc;simp only[QJ,uu,Array.getElem?_mapIdx,wF,Array.getElem?_eq_getElem hs,iZ];rw[aF ⟨kU _,aQ⟩,Nat.sub_zero,Go.Sort.get_flatK _ _ _ _ hlt,e1,e2];have:c<(enc dk[i]!).length:=by rw[hk];exact hc
 rw[ai this,getElem!_pos (enc dk[i]!) c this];rfl
end
theorem grown_of {w w':World}(h:wZ w w' λ_=>False):∃q os,w'=zH (w.drewN q) os:=by
 refine⟨w'.drawn-w.drawn,w'.heap.extract w.heap.size w'.heap.size,?_⟩;have h1:w'.heap=w.heap++w'.heap.extract w.heap.size w'.heap.size:=by
  apply Array.ext_getElem?;intro i;rw[Array.getElem?_append];split
  ·rename_i hi;exact h.block i hi (λh=>h)
  ·rename_i hi;have hs:=h.size;rw[Array.getElem?_extract];rw[show w.heap.size+(i-w.heap.size)=i by omega];split
   ·rfl
   ·rename_i hx;rw[Array.getElem?_eq_none aQ]
 have h2:w'.drawn=w.drawn+(w'.drawn-w.drawn):=by have:=h.drawn;omega
 have h3:=h.os;have h4:=h.tape;have h5:=h.output;generalize w'.heap.extract w.heap.size w'.heap.size=X at h1⊢;generalize w'.drawn-w.drawn=Y at h2⊢;cases w;cases w';simp only at h1 h2 h3 h4 h5;subst h1 h2 h3 h4 h5;rfl
def Fh (kb sz n:Nat)(inv:Nat->Nat):rC->rC
 |.blk b j=>if b=kb/\j<n*sz then .blk kb (inv (j/sz)*sz+j%sz)else .blk b j
 |p=>p
theorem adg {P:Program}{g:Own}{w w':World}{kb T n d m sz:Nat}{cs cs':Array Value}{e:TypeId}(hg:Good P g w)(hT:oD P T=sz)(hk:g.at kb n T (.tag d m))(hw:w.heap[kb]? = some (.cells cs e (0,0)))(hw':w'.heap[kb]? = some (.cells cs' e (0,0)))
 (ho:∀j,j<w.heap.size->j≠kb->w'.heap[j]? = w.heap[j]?) {π inv:Nat->Nat} (hπ:∀i,i<n->π i<n/\inv (π i)=i) (hc:∀i c,i<n->c<sz->cs'[i*sz+c]? = cs[π i*sz+c]?) (hout:∀t,n*sz<=t->cs'[t]? = cs[t]?) :
 Good P (g.re (λ_=>false) (Fh kb sz n inv)) w':=by
 have far:∀{u T p},GR g u T p->Fh kb sz n inv p=p->GR (g.re (λ_=>false) (Fh kb sz n inv)) u T p:=λ{u T p} h e=>by
  have:=h.re (dr:=λ_=>false) rfl (Fh kb sz n inv)
  rwa[e]at this
 refine⟨λk T' p hx=>?_,λk row d' b hx=>?_⟩
 ·rw[Tu]at hx;split at hx
  ·rename_i T1 p1 h1;simp only[kz,if_false,aI,Zj.arr.injEq]at hx;obtain⟨rfl,_⟩:=hx;by_cases hkk:k=kb
   ·subst hkk;have hT1:T1=T:=(by have:=hk.1;rw[h1]at this;cases this;rfl);subst hT1;subst hT;refine⟨cs',e,hw',λj u T' hj hu ht=>?_⟩;obtain⟨cs2,e2,hw2,hgr⟩:=hg.arr _ _ _ h1;rw[hw]at hw2;cases hw2;by_cases hjn:j<n*oD P T1
    ·have h0:0<oD P T1:=by
      rcases Nat.eq_zero_or_pos (oD P T1)with h|h
      ·rw[h]at hjn;omega
      ·exact h
     have hi:j/oD P T1<n:=(ry h0).2 hjn;have hr:j%oD P T1<oD P T1:=qV _ h0;have ej:j/oD P T1*oD P T1+j%oD P T1=j:=(by rw[lN];exact rP j _);have h2:=hc _ _ hi hr;rw[ej,hu]at h2;obtain⟨q1,q2⟩:=hπ _ hi;obtain⟨q3,q4⟩:=Xj (i:=π (j/oD P T1)) hr;have hlt:=VE q1 hr;have h3:=hgr _ u T' (fU hlt (aH _ hk.2)) h2.symm (by rw[q4];exact ht);have h4:=h3.re (dr:=λ_=>false) rfl (Fh k (oD P T1) n inv);rw[show Fh k (oD P T1) n inv (.blk k (π (j/oD P T1)*oD P T1+j%oD P T1)) = .blk k j by rw[Fh,aF ⟨rfl,hlt⟩,q3,q4,q2,ej]]at h4;exact h4
    ·rw[hout _ aQ]at hu;exact far (hgr j u T' hj hu ht) (by simp only[Fh];rw[aj aQ])
   ·obtain⟨cs2,e2,hw2,hgr⟩:=hg.arr _ _ _ h1;refine⟨cs2,e2,by rw[ho k (qM hw2) hkk];exact hw2,λj u T' hj hu ht=>far (hgr j u T' hj hu ht) (by simp only[Fh];rw[aj aQ])⟩
  ·cases hx
  ·cases hx
 ·rw[Tu]at hx;split at hx
  ·split at hx<;>cases hx
  ·rename_i agN d1 b1 h1;cases hx;have hne:k≠kb:=λh=>(by subst h;have:=hk.1;rw[h1]at this;cases this);obtain⟨cs2,e2,hw2,hgr⟩:=hg.var _ _ _ _ h1;exact⟨cs2,e2,by rw[ho k (qM hw2) hne];exact hw2,λr hr=>let ⟨u,hu,h⟩:=hgr r (aC.1 hr).1;⟨u,hu,far h rfl⟩⟩
  ·cases hx
end
section
def abC (P:Program)(f sz:Nat):Bool:=match kindOf f with
 |.none=>true
 |.rd=>false
 | .ow sg=>(match sg.ps with
   |[.slw T,.any]=>decide (sg.rs=[])&&oD P T==sz
   |_=>false)
theorem Xn {P:Program}{f sz:Nat}(h:abC P f sz=true){sg:QV}(hk:kindOf f = .ow sg):∃T,sg=⟨[.slw T,.any],[]⟩/\oD P T=sz:=by
 unfold abC at h;rw[hk]at h
 dsimp only at h
 split at h
 ·rename_i T e;simp only[af,ak,aK]at h;cases sg;simp only at e h;obtain⟨rfl,h2⟩:=h;subst e;exact⟨T,rfl,h2⟩
 ·cases h
theorem ZB {P:Program} {f:FuncId} {B:Func} (h:P.funcs[f]? = some { B with name:=((P.funcs[f]?).map Func.name).getD "" }) (hn:(((P.funcs[f]?).map Func.name).getD "" == "runtime.NumGoroutine")=false):Go.Proofs.Bears P f B:=⟨_,hn,h⟩
def Ws (P:Program)(f:FuncId):Bool:=match P.funcs[f]? with
 |some fn=> !(fn.name == "runtime.NumGoroutine")&&fn.body.isSome
 |none=>false
theorem PZ {P:Program}{f:FuncId}(h:Ws P f=true):∀args w,(callFunc f args).run P w = .ok (.enter f args) w:=by
 unfold Ws at h;split at h
 ·rename_i fn hf;simp only[af,gG]at h;obtain⟨c,hc⟩:=Option.isSome_iff_exists.1 h.2;exact Go.Proofs.enters_of hf h.1 hc
 ·cases h
theorem acQ {β:Type}(l:List β):(sV l.length).map l.get=l:=by
 apply List.ext_getElem
 ·simp
 ·intro i h1 h2;simp
section
variable {P:Program} {ρk:Go.Shelf.Ren} {β:Type} {ec:β->List Cell} {cf:β->β->Int} {l:List β} {fc sz:Nat}
theorem acu (L:Go.Proofs.SlLaysF0.n6 P ρk)(hf:abC P (ρk.f 6) sz=true)(h0:0<sz)(hec:∀x,(ec x).length=sz)(aE:∀w,(isAgg (ρk.t 24)).run P w = .ok true w)(zE:∀w,(Go.sizeOf (ρk.t 24)).run P w = .ok sz w)
 (eg:∀args w,(callFunc fc args).run P w = .ok (.enter fc args) w) (hl:l.length<=12) (hcmp:∀a b,a∈l->b∈l->gY P fc [.agg ((ec a).map .c),.agg ((ec b).map .c)] (.one (.c (.lit (.int .i64 (cf a b)))))) :
 xm P (ρk.f 6) [.one (.own 0 l.length sz),.one (.fn fc [])] [.dat sz (l.map ec)] (λr b=>r = .Bl []/\b=[.dat sz ((NS (λa b=>decide (cf a b<0)) l).map ec)]):=by
 intro I ρ w vs hT hA hB hV X hX;obtain⟨hvl,hvg⟩:=hV;obtain⟨v0,v1,rfl⟩:∃v0 v1,vs=[v0,v1]:=by
  match vs,hvl with
  |[v0,v1],_=>exact⟨v0,v1,rfl⟩
 have q0:=hvg 0 v0 _ rfl rfl;have q1:=hvg 1 v1 _ rfl rfl;obtain⟨k0,cap,a,c,aeI,rfl,hn,hc,ha⟩:=q0;have e1:v1 = .func (.func fc) #[] #[]:=by
  obtain⟨ks,h1,_,rfl⟩:=q1;cases ks with
  |nil=>rfl
  |cons _ _=>cases h1
 subst e1;obtain⟨ls,l1,l2,l3,l4⟩:=acM (show vG I ρ w 0 (.dat sz (l.map ec))from hB.ok 0);rw[jM]at l1;by_cases hnil:l=[]
 ·subst hnil;refine(Go.Proofs.AnyF.slices_SortFunc_none L a c _ w).mono ?_;rintro e w' ⟨rfl,rfl⟩;refine⟨⟨.tuple #[],I,ρ,_,_,rfl,⟨rfl,rfl⟩,⟨#[],rfl,rfl,λj v p h=>by simp at h⟩,hA,hB,λ_ _ h=>h,wZ.refl _ _,λb k h=>.inr ⟨b,h⟩,λ_ _ _=>rfl,λ_ _=>rfl⟩,?_⟩;cases hX with
  |QN=>trivial
  |rd hr=>unfold abC at hf;rw[hr]at hf;cases hf
  | ow sg hkd hlv g dp hin hlw=>obtain⟨T,rfl,_⟩:=Xn hf hkd;exact⟨_,g,rfl,Rel.refl _ _ _,hin.good,λf hf=>by cases hf⟩
 have hn0:0<l.length:=List.length_pos_iff.2 hnil;have hcap:cap≠0:=by omega
 have ea:=ha hcap;subst ea;obtain⟨k1,cap1,r1,r2,r3,r4,r5⟩:=l3;rw[aeI]at r1;cases r1;obtain⟨cs,e,hw,hcs,h1c,hcell⟩:=r5 hcap;have hcl:∀i j u,(ls.getD i [])[j]? = some u->cs[i*sz+j]? = some u:=λi j u hu=>by obtain⟨u',hu',ahE⟩:=hcell i j (.lit u) (by rw[lits_get,hu];rfl);cases ahE;exact hu'
 have af8:l.length<=cap:=by omega
 haveI:Inhabited (Fin l.length):=⟨⟨0,hn0⟩⟩
 let enc:Fin l.length->List Value:=λi=>ls.getD i.val []
 have hk:∀x,(enc x).length=sz:=λx=>by show(ls.getD x.val []).length=sz;rw[aY,ai (by rw[l1];exact x.2)];exact l2 _ (dB _)
 have ahC:∀i j,i<l.length->j<sz->i*sz+j<cs.size:=λi j hi hj=>by rw[hcs];exact VE (fU hi af8) hj
 have henc:∀(x:Fin l.length) (j:Nat),j<sz->(enc x)[j]? = cs[x.val*sz+j]?:= λx j hj=>by
  have h1:j<(enc x).length:=by rw[hk];exact hj
  rw[hcl x.val j _ (ai h1),ai h1]
 have h1:∀x,∀v∈enc x,v.oneCell'=true:=λx v hv=>by obtain⟨j,hj,rfl⟩:=lX hv;exact h1c _ _ (hcl x.val j _ (ai hj))
 obtain⟨d,hd1,hd2⟩:∃d:Array (Fin l.length),d.toList=sV l.length/\d.size=l.length:=⟨(sV _).toArray,rfl,kY⟩;have hdi:∀i (hi:i<l.length),d[i]! = ⟨i,hi⟩:=λi hi=>by rw[getElem!_pos d i (by rw[hd2];exact hi),<- rF];simp[hd1]
 have hus:(yU [Box.dat sz (l.map ec)] 0).uses (ρ 0) k0:=⟨cap,aeI,hcap⟩;have hbk:I k0=none:=hB.fresh 0 k0 hus;have hblk:k0<w.heap.size:=qM hw;have hH:Go.Sort.HoldsK enc sz w k0 0 d:=by
  intro t ht;rw[wF,hd2]at ht;rw[Go.Sort.get_flatK _ _ _ _ (by rw[hd2];exact ht)];have hi:t/sz<l.length:=(ry h0).2 ht;have hr:t%sz<sz:=qV _ h0;have et:t/sz*sz+t%sz=t:=by rw[lN];exact rP t _
  have h2:t%sz<(enc ⟨t/sz,hi⟩).length:=by rw[hk];exact hr
  have h3:=henc ⟨t/sz,hi⟩ _ hr;rw[ai h2]at h3;simp only[et]at h3;rw[hdi _ hi,getElem!_pos (enc ⟨t/sz,hi⟩) _ h2,dF];refine⟨?_,?_⟩
  ·simp only[dY,hw];exact h3.symm
  ·simp[Go.World.frozen?,hw]
 have af9:Go.Proofs.CmpLays P fc #[] enc sz (λx y=>cf (l.get x) (l.get y)) k0 0 d.size w:=by
  intro m os dk hdk x y;have hA':Agree I (lM enc sz w k0 0 m dk os):=λb c hb=>by obtain⟨e,fr,h⟩:=hA b c hb;have hne:b≠k0:=λh=>(by subst h;rw[hbk]at hb;cases hb);exact⟨e,fr,by rw[abH (qM h) hne];exact h⟩
  have hBx:BX I (λ_=>none) (lM enc sz w k0 0 m dk os) (yU []):=⟨λb=>by rw[JW];rfl,λb b' k h=>(yV b k h).elim,λb k h=>(yV b k h).elim⟩;have hGV:∀x:Fin l.length,GV I (λ_=>none) (.agg (enc x).toArray) (.agg ((ec (l.get x)).map .c)):=λx=>by
   refine⟨_,rfl,by simp[hk,hec],λj v y hv hy=>?_⟩;rw[aP,aU]at hy;obtain⟨c0,hc0,rfl⟩:=hy;obtain⟨u,hu,hr⟩:=l4 x.val j c0 (by rw[aY,aP,ai x.2];exact hc0)
   have hv':(ls.getD x.val [])[j]? = some v:=hv;rw[hu]at hv';cases hv';exact hr
  have key:=hcmp (l.get x) (l.get y) (List.get_mem _ _) (List.get_mem _ _) I (λ_=>none) _ [.agg (enc x).toArray,.agg (enc y).toArray] hT hA' hBx ⟨rfl,λj v z hv hz=>by
   match j with
   |0=>cases hv;cases hz;exact hGV x
   |1=>cases hv;cases hz;exact hGV y
   |j+2=>cases hv⟩ (λ_ _=>True) .QN
  refine key.mono ?_;rintro e' w' ⟨⟨v,J,σ,r,bs,rfl,⟨rfl,rfl⟩,hgv,_,_,_,hfr,_⟩,_⟩;have hv:v = .int .i64 (cf (l.get x) (l.get y)):=by cases hgv;rfl
  subst hv;exact⟨rfl,grown_of ⟨hfr.os,hfr.tape,hfr.output,hfr.size,λk hk _=>hfr.block k hk (by rintro⟨b,hb⟩;exact yV b k hb),hfr.drawn⟩⟩
 have hlen:∀(n:Nat) (W:World),n<=12->Calls P (ρk.f 15) #[.int .u64 n] W λe w'=>(∃l:Int,e = .returned (.int .i64 l))/\w'=W:=λn W h=>(Go.Proofs.Any.bits_Len (Go.Proofs.SlLaysF0.n15.bits (P:=P) (ρ:=ρk) { L with }) n W aQ aQ).mono λ_ _ ⟨he,hw⟩=>⟨⟨_,he⟩,hw⟩;have main:=Go.Proofs.AnyQ.slices_SortFunc_small L sz aE zE enc hk h1 (λx y=>cf (l.get x) (l.get y)) fc #[] k0 0 c d w eg af9 hH hblk aQ hlen;have hD:=aby (lt:=yG λx y=>cf (l.get x) (l.get y)) d;rw[hd2,hd1]at hD;rw[hd2]at main;generalize uU (yG λx y=>cf (l.get x) (l.get y)) d 0 l.length=D at main hD;have hperm:D.toList.Perm (sV l.length):=by rw[hD];exact Y0 _ _
 have hDs:D.size=l.length:=by rw[<- fE,hperm.length_eq];simp
 have hnd:D.toList.Nodup:=hperm.nodup_iff.2 (List.nodup_finRange _);have hres:NS (λa b=>decide (cf a b<0)) l=D.toList.map l.get:=by have:=abD (lt:=yG λx y=>cf (l.get x) (l.get y)) (lt':=λa b=>decide (cf a b<0)) l.get (λx y=>rfl) (sV l.length);rw[acQ]at this;rw[hD,this]
 refine main.mono ?_;rintro e' w' ⟨rfl,m,os,rfl⟩;rw[hres];have hw':=afh (enc:=enc) (k:=sz) (m:=m) (dk:=D) (os:=os) hw;have hin:∀i j,i<l.length->j<sz->(QJ enc sz D cs)[i*sz+j]? = cs[(D[i]!).val*sz+j]?:= λi j hi hj=>by rw[agV hk (by rw[hDs];exact hi) hj (ahC i j hi hj),henc _ _ hj]
 have hout:∀t,l.length*sz<=t->(QJ enc sz D cs)[t]? = cs[t]?:= λt ht=>aff (by rw[hDs];exact ht);have Ai:∀b x k,(yU [Box.dat sz ((D.toList.map l.get).map ec)] b).uses x k=(yU [Box.dat sz (l.map ec)] b).uses x k:=λb x k=>match b with
  |0=>rfl
  |b+1=>rfl
 have hoth:∀j,j<w.heap.size->j≠k0->(lM enc sz w k0 0 m D os).heap[j]? = w.heap[j]?:= λj hj hne=>abH hj hne;have hok:vG I ρ (lM enc sz w k0 0 m D os) 0 (.dat sz ((D.toList.map l.get).map ec)):=by
  refine⟨k0,cap,aeI,by simp only[jM,fE];omega,r3,λx hx=>?_,λ_=>⟨_,e,hw',by rw[ado];exact hcs,λj u hu=>?_,λi j c' hc'=>?_⟩⟩
  ·rw[aG]at hx;obtain⟨y,_,rfl⟩:=hx;exact hec y
  ·by_cases hj:j<l.length*sz
   ·have hi:j/sz<l.length:=(ry h0).2 hj;have hr:j%sz<sz:=qV _ h0;have et:j/sz*sz+j%sz=j:=(by rw[lN];exact rP j _);rw[<- et,hin _ _ hi hr]at hu;exact h1c _ _ hu
   ·rw[hout j aQ]at hu;exact h1c _ _ hu
  ·rw[aY,aP,aP]at hc';have hi:i<D.toList.length:=by
    rcases Nat.lt_or_ge i D.toList.length with h|h
    ·exact h
    ·rw[iq h]at hc';simp at hc'
   rw[ai hi]at hc';simp only[iZ,Option.getD_some]at hc';have hiD:i<D.size:=(by simpa using hi);have hDi:D.toList[i]=D[i]!:=(by rw[getElem!_pos D i hiD,<- rF]);rw[hDi]at hc';obtain⟨u,hu,hr⟩:=l4 (D[i]!).val j c' (by rw[aY,aP,ai (D[i]!).2];exact hc')
   have hj:j<sz:=by
    have:=(ay.1 hc').1
    rwa[hec]at this
   exact⟨u,by rw[hin i j aQ hj];exact hcl _ _ _ hu,hr⟩
 refine⟨⟨.tuple #[],I,ρ,_,_,rfl,⟨rfl,rfl⟩,⟨#[],rfl,rfl,λj v p h=>by simp at h⟩,λb c' hb=>?_,⟨λb=>match b with
  |0=>hok
  |b+1=>hB.ok (b+1),λb b' k h h'=>hB.inj b b' k (by rw[<- Ai];exact h) (by rw[<- Ai];exact h'),λb k h=>hB.fresh b k (by rw[<- Ai];exact h)⟩,λ_ _ h=>h,⟨rfl,rfl,rfl,adr,λk hk hM=>hoth k hk (λh=>hM ⟨0,h▸hus⟩),Nat.le_add_right _ _⟩,
  λb k h=>.inr ⟨b,by rw[<- Ai];exact h⟩,λ_ _ _=>rfl,λ_ _=>rfl⟩,?_⟩
 ·obtain⟨e2,fr,h⟩:=hA b c' hb;have hne:b≠k0:=λh=>by subst h;rw[hbk]at hb;cases hb
  exact⟨e2,fr,by rw[hoth b (qM h) hne];exact h⟩
 ·cases hX with
  |QN=>trivial
  |rd hr=>unfold abC at hf;rw[hr]at hf;cases hf
  | ow sg hkd hlv g dp hin' hlw=>
    obtain⟨T,rfl,hTs⟩:=Xn hf hkd;obtain⟨d',m',x,hx,hgr⟩:=hlw 0 T _ rfl rfl;have hx':x = .slice (some ⟨k0,0,none⟩) l.length c:=by simp only[jD]at hx;cases hx;rfl
    subst hx';rcases hgr with h|⟨kx,nx,cx,h,hat⟩
    ·cases h
    cases h;refine⟨_,g.re (λ_=>false) (Fh k0 sz l.length λq=>(D.toList.map yh).idxOf q),rfl,Rel.re λ_ _ _=>⟨rfl,rfl⟩,?_,λf hf=>by cases hf⟩;refine adg (π:=λi=>(D[i]!).val) hin'.good hTs hat hw hw' hoth (λi hi=>⟨(D[i]!).2,?_⟩) hin hout;have hnd':(D.toList.map yh).Nodup:=List.Pairwise.map yh (λ_ _ h hv=>h (Fin.ext hv)) hnd;have hi2:i<(D.toList.map yh).length:=(by simp;omega);have:=hnd'.idxOf_getElem i hi2;have hg:(D.toList.map yh)[i]=(D[i]!).val:=by rw[List.getElem_map,getElem!_pos D i aQ,<- rF]
    rwa[hg]at this
end
end
end Go.Ab
