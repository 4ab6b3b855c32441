/- The functions of the program that the laws reach: what they compute, the proofs that they do, the laws of the data (part 3). No conditions. -/
import Derived.Test.YtghoohcdipegcaaGreatDoorC2
set_option linter.unusedVariables false
set_option linter.unusedSimpArgs false
set_option maxRecDepth 100000
set_option maxHeartbeats 4000000
set_option linter.defProp false
set_option linter.unusedSectionVars false
open Array renaming getElem?_eq_some_iff->oC,replicate_succ->yO,replicate_zero->yP
open Bool renaming and_eq_true->ai,true_and->bU,or_eq_true->iT,and_true->oJ,eq_iff_iff->pU,false_and->uH,and_eq_false_iff->uq
open ByteArray renaming size_extract->qK,empty->vF
open Go.Boxed renaming new->vK
open Go.ByteArray renaming toList_eq->yh
open Go.Fence renaming wide->lM
open Go.IntKind renaming wrap->af
open Go.KeepsOthers renaming setCell->yl
open Go.Lib renaming indexByte_ge->CO,indexByte->eY,hasPrefix->iW,splitK->oK,join->uf,parseUint10->xx,atoiAll->zn
open Go.Value renaming ownBlock->uC,string->ug
open Go.World renaming ownsRow_nil->BZ,size_alloc->sQ,setCell->uS,putObj_heap_other->uz
open Int renaming toNat_natCast->ah,tmod->iR,tdiv->lJ
open List renaming push_toArray->Ag,map_map->Ar,singleton_append->BH,foldl_nil->BQ,append_eq_nil_iff->Bf,drop_left->EW,intercalate->En,intersperse->Eo,take_of_length_le->aC,range'->aQ,mem_append->aV,all_eq_true->aZ,map->ag,drop_of_length_le->ak,length_append->au,mem_cons_self->bC,length_singleton->bF,length_cons->bH,mem_singleton->bJ,append_nil->bM,drop_zero->bW,cons_append->bY,map_cons->bf,getD->bu,flatMap_cons->bz,mem_cons->cu,append_assoc->dA,length_nil->dB,eq_nil_of_length_eq_zero->dD,all_cons->dI,getElem_mem->dJ,mem_cons_of_mem->dL,nil_append->dN,mem_of_mem_take->dS,length_take->dm,length_drop->fE,length_map->iE,map_append->jO,take_succ_eq_append_getElem->jW,range'_succ->kH,mem_append_right->kK,length->kN,mem_iff_getElem->lI,size_toArray->lV,foldl_cons->lZ,length_set->nC,mem_map->pI,take_append_of_le_length->pJ,getElem?_eq_none->pg,not_mem_nil->uT,all_nil->vM,drop_append_of_le_length->vN,foldl_append->vT,take_append_drop->vZ,drop_succ_cons->wV,getElem_map->yC,append_toArray->yX
open List.cons renaming inj->kW
open Nat renaming mul_le_mul_left->CW,le_of_lt->F9,zero_le->aO,le_refl->ax,mul_le_mul_right->bG,strongRecOn->dH,le_trans->iP,add_sub_cancel->jo,mod_lt->tH,le_succ->wz,lt_or_ge->xk,pow_succ->yJ,succ_pos->yK
open Option renaming getD_some->Ba,bind_some->gJ,bind->iM,map_some->lD,filter->oN,map_eq_some_iff->qM
open Option.some renaming injEq->aH
open Prod renaming ext->sH
open Prod.mk renaming injEq->aJ
open UInt8 renaming ofNat_toNat->Ai,ofNat->eU,toNat_inj->oq,toNat_ofNat'->xB
namespace Go.Ab
open Go
def AB (z:Int):aK:=if z<0 then 45::yE (-z).toNat else yE z.toNat
def DD (b:UInt8):aK:=if b=34\/b=92 then [92,b]else [b]
def EC (s:aK):aK:=34::(s.flatMap DD++[34])
def Ep (F:aj->aK)(n:aj)(i:Nat):aK:=((if 0<i then [44]else [])++(if n.Kind=4 then EC (n.Names.getD i default)++[58]else []))++F (n.Kids.getD i default)
def nX : Nat->aj->aK
 |0,_=>[]
 | d+1,n=>if n.Kind=1 then AB n.Num else if n.Kind=2 then EC n.Text else if n.Kind=0 then [110,117,108,108]else
   if n.Kind=4 then([123]++(aQ 0 n.Kids.length).flatMap (Ep (nX d) n))++[125]else([91]++(aQ 0 n.Kids.length).flatMap (Ep (nX d) n))++[93]
theorem sJ {d:Nat}{n:aj} : nX (d+1) n=if n.Kind=1 then AB n.Num else if n.Kind=2 then EC n.Text else if n.Kind=0 then [110,117,108,108]else
 if n.Kind=4 then([123]++(aQ 0 n.Kids.length).flatMap (Ep (nX d) n))++[125]else([91]++(aQ 0 n.Kids.length).flatMap (Ep (nX d) n))++[93]:=by rw[nX]
theorem maxL : 4000000000<=maxLen:=by decide
theorem U4 (s:aK):(EC s).length<=2*s.length+2:=by
 have:(s.flatMap DD).length<=2*s.length:=by
  induction s with
  |nil=>simp
  | cons b s ih=>rw[bz,au,bH];have:(DD b).length<=2:=(by unfold DD;split<;>simp);omega
 unfold EC;simp only[bH,au,dB];omega
theorem SL {s:aK}{i:Nat}(h:i<s.length):(s.take (i+1)).drop i=[s.getD i 0]:=by rw[jW h,vN (by simp;omega),ak (by rw[dm];omega),dN,gu _ h]
theorem T.nP (s:aK)(hs:s.length<=1000000):Ev (λf=>G.nP f s) (EC s):=by
 have hM:=maxL;have L:∀(k i:Nat) (z:aK),i+k=s.length->z.length<=2*i+1->Ev (λf=>G.nP.L1 f s z i) (z++((s.drop i).flatMap DD++[34])):=by
  intro k
  induction k with
  | zero=>intro i z hi hz;refine Ev.up ?_;simp only[G.nP.L1];refine Ev.cf (decide_eq_false (by omega)) (Ev.chk (by omega) (Ev.ret' ?_));rw[ak (by omega)];rfl
  | succ k ih=>
    intro i z hi hz;have hil:i<s.length:=(by omega);have e1:=SL hil;have two:s.getD i 0=34\/s.getD i 0=92->Ev (λf=>G.nP.L1 f s ((z++[92])++[s.getD i 0]) ((i+1:Nat):Int)) (z++((s.drop i).flatMap DD++[34])):=λhq=>by refine(ih (i+1) _ (by omega) (by simp;omega)).eq ?_;rw[dP (0:UInt8) hil,bz];have:DD (s.getD i 0)=[92,s.getD i 0]:=if_pos hq;rw[this];simp
    have byt:∀c:UInt8,(((s.getD i 0).toNat:Int)==(c.toNat:Int))=(s.getD i 0==c):=λc=>by rw[pU,beq_iff_eq,beq_iff_eq];exact⟨λh=>oq.1 (by omega),λh=>by rw[h]⟩
    refine Ev.up ?_;simp only[G.nP.L1,ah,dF (show i+1<9223372036854775808 by omega),e1];refine Ev.ct (decide_eq_true (by omega)) (Ev.chk (by omega) (Ev.ite (λh=>?_) (λh=>?_)))
    ·have h:s.getD i 0=34:=(by rw[show((34:Int))=((34:UInt8).toNat:Int)from rfl,byt]at h;simpa using h);exact Ev.chk (by omega) (Ev.chk (by omega) (Ev.chk (by simp only[bF];omega) (two (.inl h))))
    ·have h:s.getD i 0≠34:=(by rw[show((34:Int))=((34:UInt8).toNat:Int)from rfl,byt]at h;simpa using h);refine Ev.chk (by omega) (Ev.ite (λh2=>?_) (λh2=>?_))
     ·have h2:s.getD i 0=92:=(by rw[show((92:Int))=((92:UInt8).toNat:Int)from rfl,byt]at h2;simpa using h2);exact Ev.chk (by omega) (Ev.chk (by omega) (Ev.chk (by simp only[bF];omega) (two (.inr h2))))
     ·have h2:s.getD i 0≠92:=(by rw[show((92:Int))=((92:UInt8).toNat:Int)from rfl,byt]at h2;simpa using h2);refine Ev.chk (by omega) (Ev.chk (by simp only[bF];omega) ?_);refine(ih (i+1) _ (by omega) (by simp;omega)).eq ?_;rw[dP (0:UInt8) hil,bz];have:DD (s.getD i 0)=[s.getD i 0]:=if_neg (λq=>q.elim h h2);rw[this];simp
 refine Ev.up ?_;simp only[G.nP];exact(L s.length 0 [34] (by omega) (by simp)).eq (by rw[bW];rfl)
theorem Fj : ∀{i:Nat},i<=999999->(yE i).length<=6:=by
 have step:∀{i m:Nat},(yE (i/10)).length<=m->(yE i).length<=m+1:=λ{i m} h=>by
  rw[yE];split
  ·simp
  ·simp;omega
 intro i h;have h1:(yE (i/10/10/10/10/10)).length<=1:=by rw[yD (by omega)];simp
 exact step (step (step (step (step h1))))
theorem Jt {z:Int}(h1 : -999999<=z)(h2:z<=999999):(AB z).length<=7:=by
 unfold AB;split
 ·have:=Fj (i:=(-z).toNat) (by omega);simp;omega
 ·have:=Fj (i:=z.toNat) (by omega);omega
theorem T.OV {z:Int}(h1 : -999999<=z)(h2:z<=999999):Ev (λf=>G.kz f z) (AB z):=by
 have hM:=maxL;unfold AB;by_cases h:z<0
 ·rw[if_pos h];have w:af .i64 (0-z)=((-z).toNat:Int):=wrapN (by omega) (by omega);have hl:=Fj (i:=(-z).toNat) (by omega);refine Ev.up ?_;simp only[G.kz,w];exact Ev.ct (decide_eq_true h) (Ev.cf (by simp only[beq_eq_false_iff_ne];omega) (Ev.bind (T.decimal (by unfold lim;omega)) (Ev.chk (by omega) (Ev.ret' rfl))))
 ·rw[if_neg h];obtain⟨k,rfl⟩:∃k:Nat,z=k:=⟨z.toNat,by omega⟩;rw[ah];exact T.decimal (by unfold lim;omega)
theorem Ij {n:aj}(h:Parts n=true)(hk:n.Kind=1) : -999999<=n.Num/\n.Num<=999999:=by unfold Parts at h;simp[hk]at h;omega
theorem LC {n:aj}(h:Parts n=true):n.Text.length<=12:=by
 by_cases hk:n.Kind=2
 ·unfold Parts at h;simp[hk]at h;exact Rf h.2.1
 ·unfold Parts at h;simp only[ai,iT,beq_iff_eq]at h;have:=h.1.1.2.resolve_left hk;rw[this];simp
theorem YX {α:Type}{g:Nat->List α}{m:Nat} : ∀(k i:Nat),(∀j,i<=j->j<i+k->(g j).length<=m)->((aQ i k).flatMap g).length<=k*m:=by
 intro k
 induction k with
 |zero=>intro i _;simp
 | succ k ih=>intro i h;have h1:=h i (by omega) (by omega);have h2:=ih (i+1) (λj h1 h2=>h j (by omega) (by omega));rw[kH,bz,au,Nat.add_mul];omega
theorem UC : ∀(d:Nat) {n:aj},Shape d n=true->(nX d n).length<=200*7^d
 |0,_,h=>by cases h
 | d+1,n,h=>by
   have hp:=kT h;have h6:=Eh h;have agU:1<=7^d:=Nat.one_le_pow _ _ (by omega);rw[sJ,yJ];have hb:((aQ 0 n.Kids.length).flatMap (Ep (nX d) n)).length<=6*(28+200*7^d):=by
    refine iP (YX (m:=28+200*7^d) _ _ (λj _ hj=>?_)) (bG _ h6);have hj':j<n.Kids.length:=(by omega);have hk:=UC d (BK h hj');unfold Ep;rw[au,au];have a1:(if 0<j then([44]:aK)else []).length<=1:=(by split<;>simp);have a2:(if n.Kind=4 then EC (n.Names.getD j default)++[58]else []).length<=27:=by
     split
     ·rename_i h4;obtain⟨mn,_,hn⟩:=Ns hp h4;have:=hn _ (getD_mem default (show j<n.Names.length by rw[<- mn.len];exact hj'));have:=U4 (n.Names.getD j default);simp only[au,bF];omega
     ·simp
    omega
   split
   ·rename_i h1;obtain⟨b1,b2⟩:=Ij hp h1;have:=Jt b1 b2;omega
   ·split
    ·have:=LC hp;have:=U4 n.Text;omega
    ·split
     ·simp only[bH,dB];omega
     ·split
      ·simp only[au,bF];omega
      ·simp only[au,bF];omega
theorem T.eX : ∀(d:Nat) {n:aj},d<=5->Shape d n=true->Ev (λf=>G.eX f n) (nX d n)
 |0,_,_,h=>by cases h
 | d+1,n,hd,h=>by
   have hM:=maxL;have hp:=kT h;have h6:=Eh h;have agU:=U1 hd;rw[yJ]at agU;have L:∀(k i:Nat) (z:aK),i+k=n.Kids.length->z.length<=i*1000000->Ev (λf=>G.eX.L5 f n z i)
    (if n.Kind=4 then([123]++(z++(aQ i k).flatMap (Ep (nX d) n)))++[125]else([91]++(z++(aQ i k).flatMap (Ep (nX d) n)))++[93]):=by
    intro k
    induction k with
    | zero=>
      intro i z hi hz;refine Ev.up ?_;simp only[G.eX.L5];refine Ev.cf (decide_eq_false (by omega)) (Ev.ite (λe=>Ev.chk (by omega) (Ev.chk (by omega) (Ev.ret' ?_))) (λe=>Ev.chk (by omega) (Ev.chk (by omega) (Ev.ret' ?_))))
      ·rw[if_pos (by simpa using e)];simp
      ·rw[if_neg (by simpa using e)];simp
    | succ k ih=>
      intro i z hi hz;have hil:i<n.Kids.length:=(by omega);have hk:=BK h hil;have hkl:=UC d hk;have K7:∀z':aK,z'.length<=i*1000000+28->z'++nX d (n.Kids.getD i default)=z++Ep (nX d) n i->Ev (λf=>G.eX.K7 f n (i:Int) z')
       (if n.Kind=4 then([123]++(z++(aQ i (k+1)).flatMap (Ep (nX d) n)))++[125]else([91]++(z++(aQ i (k+1)).flatMap (Ep (nX d) n)))++[93]):=λz' hz' he=>by
       refine Ev.up ?_;simp only[G.eX.K7,ah,dF (show i+1<9223372036854775808 by omega)];refine Ev.chk (by omega) (Ev.bind (T.eX d (by omega) hk) (Ev.chk (by omega) ?_));refine(ih (i+1) _ (by omega) (by rw[au];omega)).eq ?_;rw[kH,bz,<- dA z,<- he]
      have K6:∀z':aK,z'=z++(if 0<i then [44]else [])->Ev (λf=>G.eX.K6 f n (i:Int) z')
       (if n.Kind=4 then([123]++(z++(aQ i (k+1)).flatMap (Ep (nX d) n)))++[125]else([91]++(z++(aQ i (k+1)).flatMap (Ep (nX d) n)))++[93]):=λz' he=>by
       have hz':z'.length<=i*1000000+1:=by rw[he,au];have:(if 0<i then([44]:aK)else []).length<=1:=(by split<;>simp);omega
       refine Ev.up ?_;simp only[G.eX.K6,ah];by_cases h4:n.Kind=4
       ·obtain⟨mn,_,hn⟩:=Ns hp h4;have hin:i<n.Names.length:=(by rw[<- mn.len];exact hil);have h12:=hn _ (getD_mem default hin);have hq:=U4 (n.Names.getD i default);refine Ev.ct (by simpa using h4) (Ev.chk (by omega) (Ev.bind (T.nP _ (by omega)) (Ev.chk (by omega) (Ev.chk (by omega) (K7 _ (by simp only[au,bF];omega) ?_)))));rw[he];unfold Ep;rw[if_pos h4];simp
       ·refine Ev.cf (by simpa using h4) (K7 z' (iP hz' (Nat.add_le_add_left (by decide) _)) ?_);rw[he];unfold Ep;rw[if_neg h4];simp
      refine Ev.up ?_;simp only[G.eX.L5];refine Ev.ct (decide_eq_true (by omega)) ?_;by_cases h0:0<i
      ·exact Ev.ct (decide_eq_true (by omega)) (Ev.chk (by omega) (K6 _ (by rw[if_pos h0])))
      ·exact Ev.cf (decide_eq_false (by omega)) (K6 _ (by rw[if_neg h0,bM]))
   refine Ev.up ?_;simp only[G.eX];rw[sJ];refine Ev.ite (λe=>?_) (λe1=>?_)
   ·have e:n.Kind=1:=(by simpa using e);rw[if_pos e];obtain⟨b1,b2⟩:=Ij hp e;exact Ev.bind (T.OV b1 b2) (Ev.ret _)
   rw[if_neg (by simpa using e1)];refine Ev.ite (λe=>?_) (λe2=>?_)
   ·rw[if_pos (by simpa using e)];have:=LC hp;exact Ev.bind (T.nP _ (by omega)) (Ev.ret _)
   rw[if_neg (by simpa using e2)];refine Ev.ite (λe=>?_) (λe3=>?_)
   ·rw[if_pos (by simpa using e)];exact Ev.ret _
   rw[if_neg (by simpa using e3)];exact(L n.Kids.length 0 [] (by omega) (by simp)).eq (by simp)
def aa0 (s:aK):Nat:=s.foldl (λn b=>(131*n+b.toNat)%65521) 17
def aai (k:Nat):UInt8:=hexD.getD k 0
def Sv (n:Nat):aK:=[aai (n/4096),aai (n/256%16),aai (n/16%16),aai (n%16)]
def Fh (n:aj):aK:=if Val n then Sv (aa0 (nX 5 n))else []
theorem T.qj (s:aK)(hs:s.length<big):Ev (λf=>G.qj f s) ((aa0 s:Nat):Int):=by
 unfold big at hs;have L:∀(k i m:Nat),i+k=s.length->m<65521->Ev (λf=>G.qj.L1 f s (m:Int) i) (((s.drop i).foldl (λn b=>(131*n+b.toNat)%65521) m:Nat):Int):=by
  intro k
  induction k with
  | zero=>intro i m hi _;refine Ev.up ?_;simp only[G.qj.L1];refine Ev.cf (decide_eq_false (by omega)) (Ev.ret' ?_);rw[ak (by omega)];rfl
  | succ k ih=>intro i m hi hm;have hb:=(s.getD i 0).toNat_lt;refine Ev.up ?_;simp only[G.qj.L1,ah,Ia,dF (show i+1<9223372036854775808 by omega),wrapN (x:=131*(m:Int)) (m:=131*m) (by omega) (by omega)];rw[wrapN (x:=((131*m:Nat):Int)+((s.getD i 0).toNat:Int)) (m:=131*m+(s.getD i 0).toNat) (by omega) (by omega),show(65521:Int)=((65521:Nat):Int)from rfl,FI];rw[dP (0:UInt8) (by omega:i<s.length),lZ];exact Ev.ct (decide_eq_true (by omega)) (Ev.chk (by omega) (ih (i+1) _ (by omega) (tH _ (by omega))))
 refine Ev.up ?_;simp only[G.qj];exact L s.length 0 17 (by omega) (by omega)
theorem sum_lt (s:aK):aa0 s<65521:=by
 unfold aa0;have:∀(s:aK) (m:Nat),m<65521->s.foldl (λn b=>(131*n+b.toNat)%65521) m<65521:=by
  intro s
  induction s with
  |nil=>intro m hm;exact hm
  |cons b s ih=>intro m hm;exact ih _ (tH _ (by omega))
 exact this s 17 (by omega)
theorem T.zT {n:Nat}(h:n<65536):Ev (λf=>G.zT f (n:Int)) (Sv n):=by
 have hM:=maxL;have w1:af .i64 (lJ (n:Int) 4096)=((n/4096:Nat):Int):=by rw[show(4096:Int)=((4096:Nat):Int)from rfl,Iw];exact wrapN rfl (by omega)
 have w2:af .i64 (lJ (n:Int) 256)=((n/256:Nat):Int):=by rw[show(256:Int)=((256:Nat):Int)from rfl,Iw];exact wrapN rfl (by omega)
 have w3:af .i64 (lJ (n:Int) 16)=((n/16:Nat):Int):=by rw[show(16:Int)=((16:Nat):Int)from rfl,Iw];exact wrapN rfl (by omega)
 have t2:iR ((n/256:Nat):Int) 16=((n/256%16:Nat):Int):=by rw[show(16:Int)=((16:Nat):Int)from rfl,FI]
 have t3:iR ((n/16:Nat):Int) 16=((n/16%16:Nat):Int):=by rw[show(16:Int)=((16:Nat):Int)from rfl,FI]
 have t4:iR (n:Int) 16=((n%16:Nat):Int):=by rw[show(16:Int)=((16:Nat):Int)from rfl,FI]
 refine Ev.up ?_;simp only[G.zT,w1,w2,w3,t2,t3,t4,ah,Ai];exact Ev.chk (by omega) (Ev.chk (by omega) (Ev.chk (by omega) (Ev.chk (by omega) (Ev.chk (by omega) (Ev.ret' rfl)))))
theorem ae4 (n:aj):(Fh n).length<=4:=by
 unfold Fh;split
 ·simp[Sv]
 ·simp
def ahQ : bI:=bI.mk [] 0 ve
def ag8 : Option bI->bI×Bool
 |some it=>(it,true)
 |none=>(ahQ,false)
def LZ (s:StoreT)(t:aK):Option bI:=if N7 s then(Sj s.Items t).map λj=>s.Items.getD j default else none
theorem Oy {s:StoreT}{t:aK}{it:bI}(h:LZ s t=some it):Si s/\it∈s.Items/\it.Name=t/\Val it.Node=true:=by
 unfold LZ at h;split at h
 ·rename_i hs;obtain⟨j,hj,rfl⟩:=qM.1 h;obtain⟨h1,h2,_⟩:=Ic.1 hj;have:=BN.1 hs;exact⟨this,getD_mem default h1,h2,(this.it h1).nod⟩
 ·cases h
theorem V3 : xC 60 []:=⟨by simp,λs h=>by cases h⟩
theorem T.wb {b:iJ}{c:Int}(hc:0<=c/\c<256)(hl:b.buf.length+1<=140737488355328):Ev (λf=>G.aS f b c) ((),iJ.mk (b.buf++[eU c.toNat])):=by refine Ev.up ?_;simp only[G.aS];exact Ev.chk ⟨hc,hl⟩ (Ev.ret _)
theorem T.ws {b:iJ}{s:aK}(hl:b.buf.length+s.length<=140737488355328):Ev (λf=>G.gz f b s) ((s.length:Int),(),iJ.mk (b.buf++s)):=by refine Ev.up ?_;simp only[G.gz];exact Ev.chk hl (Ev.ret _)
theorem T.bs' {b:iJ}(hl:b.buf.length<=140737488355328):Ev (λf=>G.jC f b) b.buf:=by refine Ev.up ?_;simp only[G.jC];exact Ev.chk hl (Ev.ret _)
theorem Zl (b:UInt8):eU (b.toNat:Int).toNat=b:=by simp
theorem T.gW {s z:aK}(h:z.length+2*s.length+2<=4000000000):Ev (λf=>G.gW f (iJ.mk z) s) (iJ.mk (z++EC s)):=by
 have EF:∀(z:aK) (b:UInt8),z.length<5000000000->Ev (λf=>G.aS f (iJ.mk z) (b.toNat:Int)) ((),iJ.mk (z++[b])):=λz b hz=>by
  have:=T.wb (b:=iJ.mk z) (c:=(b.toNat:Int)) (by have:=b.toNat_lt;omega) (by show z.length+1<=_;omega)
  rwa[Zl]at this
 have L:∀(k i:Nat) (z:aK),i+k=s.length->z.length+2*k+1<=4000000001->Ev (λf=>G.gW.L3 f s (i:Int) z) (iJ.mk (z++((s.drop i).flatMap DD++[34]))):=by
  intro k
  induction k with
  | zero=>intro i z hi hz;rw[List.drop_eq_nil_of_le (by omega)];refine Ev.up ?_;simp only[G.gW.L3];exact Ev.cf (decide_eq_false (by omega)) (Ev.bind (EF z 34 (by omega)) (Ev.ret' rfl))
  | succ k ih=>
    intro i z hi hz;have hlt:i<s.length:=(by omega);have hd:s.drop i=s.getD i 0::s.drop (i+1):=(by rw[List.drop_eq_getElem_cons hlt];simp[bu,hlt]);have hK:∀z:aK,z.length+2*k+2<=4000000001->Ev (λf=>G.gW.K4 f s (i:Int) z) (iJ.mk (z++(s.getD i 0::((s.drop (i+1)).flatMap DD++[34])))):=λz hz=>by refine Ev.up ?_;simp only[G.gW.K4];rw[ah];refine Ev.chk (by omega) (Ev.bind (EF z (s.getD i 0) (by omega)) ?_);rw[dF (by omega)];have:=ih (i+1) (z++[s.getD i 0]) (by omega) (by simp;omega);simpa using this
    rw[hd];refine Ev.up ?_;simp only[G.gW.L3];rw[ah];refine Ev.ct (decide_eq_true (by omega)) (Ev.chk (by omega) (Ev.ite (λe=>?_) (λe=>Ev.chk (by omega) (Ev.ite (λe2=>?_) (λe2=>?_)))))
    ·have hb:s.getD i 0=34:=oq.1 (by have:=beq_iff_eq.1 e;show(s.getD i 0).toNat=34;omega);refine Ev.bind (EF z 92 (by omega)) ?_;have:=hK (z++[92]) (by simp;omega);rw[hb]at this⊢;simpa[DD]using this
    ·have hb:s.getD i 0=92:=oq.1 (by have:=beq_iff_eq.1 e2;show(s.getD i 0).toNat=92;omega);refine Ev.bind (EF z 92 (by omega)) ?_;have:=hK (z++[92]) (by simp;omega);rw[hb]at this⊢;simpa[DD]using this
    ·have:=hK z (by omega);have hq:DD (s.getD i 0)=[s.getD i 0]:=by
      unfold DD;rw[if_neg];rintro(h|h)
      ·rw[h]at e;simp at e
      ·rw[h]at e2;simp at e2
     rw[bz,hq];simpa using this
 refine Ev.up ?_;simp only[G.gW];refine Ev.bind (EF z 34 (by omega)) ?_;have:=L s.length 0 (z++[34]) (by omega) (by simp;omega);simpa[EC]using this
theorem Wu (z:Int):Go.Lib.itoa z=AB z:=by
 unfold Go.Lib.itoa AB;split
 ·rw[XY (z.natAbs+1) z.natAbs (by omega),show z.natAbs=(-z).toNat from by omega]
 ·rw[XY (z.toNat+1) z.toNat (by omega)]
theorem T.itoa {z:Int}(h : -900000000000000<=z/\z<=900000000000000):Ev (λf=>G.strconv_Itoa f z) (AB z):=by rw[<- Wu];exact T.Itoa h
theorem IJ {n:aj}(h:Parts n=true):n.Kind=0\/n.Kind=1\/n.Kind=2\/n.Kind=3\/n.Kind=4:=by
 by_cases h0:n.Kind=0\/n.Kind=1\/n.Kind=2\/n.Kind=3\/n.Kind=4
 ·exact h0
 ·simp only[not_or]at h0;obtain⟨a,b,c,d,e⟩:=h0;unfold Parts at h;rw[if_neg a,if_neg b,if_neg c,if_neg d,if_neg e]at h;simp at h
theorem EF {z:aK}(b:UInt8)(hz:z.length<5000000000):Ev (λf=>G.aS f (iJ.mk z) (b.toNat:Int)) ((),iJ.mk (z++[b])):=by
 have:=T.wb (b:=iJ.mk z) (c:=(b.toNat:Int)) (by have:=b.toNat_lt;omega) (by show z.length+1<=_;omega)
 rwa[Zl]at this
theorem MQ (F:aj->aK)(n:aj)(i:Nat):Ep F n i=(if 0<i then [44]else [])++((if n.Kind=4 then EC (n.Names.getD i default)++[58]else [])++F (n.Kids.getD i default)):=by unfold Ep;rw[dA]
theorem T.bV : ∀(d:Nat) {n:aj} {z:aK},Shape d n=true->z.length+(nX d n).length<=2000000000->Ev (λf=>G.bV f (iJ.mk z) n) (iJ.mk (z++nX d n))
 |0,_,_,h,_=>by cases h
 | d+1,n,z,h,hz=>by
   have hp:=kT h;have h6:=Eh h;rw[sJ]at hz⊢;have L3:n.Kind=3->∀(k i:Nat) (z:aK),i+k=n.Kids.length->z.length+((aQ i k).flatMap (Ep (nX d) n)++[93]).length<=2000000000 ->
    Ev (λf=>G.bV.L3 f n (i:Int) z) (iJ.mk (z++((aQ i k).flatMap (Ep (nX d) n)++[93]))):=by
    intro hk3 k
    induction k with
    | zero=>intro i z hi hz;refine Ev.up ?_;simp only[G.bV.L3];refine Ev.cf (decide_eq_false (by omega)) (Ev.bind (EF 93 (by omega)) (Ev.ret' ?_));simp
    | succ k ih=>
      intro i z hi hz;have hil:i<n.Kids.length:=(by omega);rw[kH,bz]at hz⊢;simp only[au]at hz;have ez:Ep (nX d) n i=(if 0<i then [44]else [])++nX d (n.Kids.getD i default):=(by rw[MQ,if_neg (by omega:¬n.Kind=4),dN]);have hK:∀z':aK,z'=z++(if 0<i then [44]else [])->Ev (λf=>G.bV.K4 f n (i:Int) z') (iJ.mk (z++((Ep (nX d) n i++(aQ (i+1) k).flatMap (Ep (nX d) n))++[93]))):=λz' he=>by have e2:z'++nX d (n.Kids.getD i default)=z++Ep (nX d) n i:=(by rw[he,ez,dA]);have e3:=congrArg kN e2;simp only[au]at e3;refine Ev.up ?_;simp only[G.bV.K4,ah,dF (show i+1<9223372036854775808 by omega)];refine Ev.bind (T.bV d (BK h hil) (by omega)) ?_;refine(ih (i+1) _ (by omega) (by simp only[au];omega)).eq ?_;rw[e2];simp only[dA]
      refine Ev.up ?_;simp only[G.bV.L3];refine Ev.ct (decide_eq_true (by omega)) (Ev.chk (by omega) ?_);by_cases h0:0<i
      ·exact Ev.ct (decide_eq_true (by omega)) (Ev.bind (EF 44 (by omega)) (hK _ (by rw[if_pos h0])))
      ·exact Ev.cf (decide_eq_false (by omega)) (hK _ (by rw[if_neg h0,bM]))
   have L7:n.Kind=4->∀(k i:Nat) (z:aK),i+k=n.Kids.length->z.length+((aQ i k).flatMap (Ep (nX d) n)++[125]).length<=2000000000 ->
    Ev (λf=>G.bV.L7 f n (i:Int) z) (iJ.mk (z++((aQ i k).flatMap (Ep (nX d) n)++[125]))):=by
    intro hk4 k;obtain⟨mn,_,hn⟩:=Ns hp hk4
    induction k with
    | zero=>intro i z hi hz;refine Ev.up ?_;simp only[G.bV.L7];refine Ev.cf (decide_eq_false (by omega)) (Ev.bind (EF 125 (by omega)) (Ev.ret' ?_));simp
    | succ k ih=>
      intro i z hi hz;have hil:i<n.Kids.length:=(by omega);have hin:i<n.Names.length:=(by rw[<- mn.len];exact hil);have h12:=hn _ (getD_mem default hin);rw[kH,bz]at hz⊢;simp only[au]at hz;have ez:Ep (nX d) n i=(if 0<i then [44]else [])++((EC (n.Names.getD i default)++[58])++nX d (n.Kids.getD i default)):=(by rw[MQ,if_pos hk4]);have hK:∀z':aK,z'=z++(if 0<i then [44]else [])->Ev (λf=>G.bV.K8 f n (i:Int) z') (iJ.mk (z++((Ep (nX d) n i++(aQ (i+1) k).flatMap (Ep (nX d) n))++[125]))):=λz' he=>by have e2:((z'++EC (n.Names.getD i default))++[58])++nX d (n.Kids.getD i default)=z++Ep (nX d) n i:=(by rw[he,ez];simp only[dA]);have e3:=congrArg kN e2;simp only[au]at e3;refine Ev.up ?_;simp only[G.bV.K8,ah,dF (show i+1<9223372036854775808 by omega)];refine Ev.chk (by omega) (Ev.bind (T.gW (by omega)) (Ev.bind (EF 58 (by simp only[au];omega)) ?_));refine Ev.bind (T.bV d (BK h hil) (by simp only[au];omega)) ?_;refine(ih (i+1) _ (by omega) (by simp only[au];omega)).eq ?_;rw[e2];simp only[dA]
      refine Ev.up ?_;simp only[G.bV.L7];refine Ev.ct (decide_eq_true (by omega)) (Ev.chk (by omega) ?_);by_cases h0:0<i
      ·exact Ev.ct (decide_eq_true (by omega)) (Ev.bind (EF 44 (by omega)) (hK _ (by rw[if_pos h0])))
      ·exact Ev.cf (decide_eq_false (by omega)) (hK _ (by rw[if_neg h0,bM]))
   refine Ev.up ?_;simp only[G.bV];rcases IJ hp with e|e|e|e|e<;>simp only[e,reduceIte,Int.reduceEq]at hz⊢
   ·exact Ev.ct rfl (Ev.bind (T.ws (by simp only[bH,dB]at hz⊢;omega)) (Ev.ret _))
   ·obtain⟨b1,b2⟩:=Ij hp e;exact Ev.cf rfl (Ev.ct rfl (Ev.bind (T.itoa (by omega)) (Ev.bind (T.ws (by show z.length+_<=_;omega)) (Ev.ret _))))
   ·have:=LC hp;exact Ev.cf rfl (Ev.cf rfl (Ev.ct rfl (Ev.bind (T.gW (by omega)) (Ev.ret _))))
   ·refine Ev.cf rfl (Ev.cf rfl (Ev.cf rfl (Ev.ct rfl (Ev.bind (EF 91 (by omega)) ?_))));refine(L3 e n.Kids.length 0 (z++[91]) (by omega) (by simp only[au,bH,dB]at hz⊢;omega)).eq ?_;simp only[dA]
   ·refine Ev.cf rfl (Ev.cf rfl (Ev.cf rfl (Ev.cf rfl (Ev.ct rfl (Ev.bind (EF 123 (by omega)) ?_)))));refine(L7 e n.Kids.length 0 (z++[123]) (by omega) (by simp only[au,bH,dB]at hz⊢;omega)).eq ?_;simp only[dA]
theorem fmt5 {n:aj}(h:Val n=true):(nX 5 n).length<=4000000:=by have:=UC 5 (lN h);have:=U1 (ax 5);omega
def TQ (n:aj):aK:=if Val n then nX 5 n else []
theorem T.jY {B D:Nat}{n:aj}(hB:B<=lim)(h:Fine B D n):Ev (λf=>G.jY f n) (TQ n):=by refine Ev.up ?_;simp only[G.jY];unfold TQ;refine Ev.bind (T.aX hB h) (Ev.ite (λe=>?_) (λe=>Ev.ret' (by rw[e];rfl)));have hl:=fmt5 e;rw[e];exact Ev.bind (T.bV 5 (lN e) (by simp only[dB];omega)) (Ev.bind (T.bs' (by show(_:aK).length<=_;simp only[dN];omega)) (Ev.ret _))
theorem T.jy (s:aK)(hs:s.length<big):Ev (λf=>G.jy f s) (Sv (aa0 s)):=by
 unfold big at hs;have hM:=maxL;have L2:∀m:Nat,m<65521->Ev (λf=>G.jy.L2 f (m:Int) 3 (List.replicate 4 0)) (Sv m):=λm hm=>by
  have st:∀m:Nat,m<65521->af .i64 (lJ (m:Int) 16)=((m/16:Nat):Int):=λm hm=>by rw[show(16:Int)=((16:Nat):Int)from rfl,Iw];exact wrapN rfl (by omega)
  have tm:∀m:Nat,iR (m:Int) 16=((m%16:Nat):Int):=λm=>by rw[show(16:Int)=((16:Nat):Int)from rfl,FI]
  refine Ev.up ?_;simp only[G.jy.L2,tm,st m hm,ah];refine Ev.ct rfl (Ev.chk (by omega) (Ev.chk (by simp) (Ev.chk (by omega) ?_)));refine Ev.up ?_;simp only[G.jy.L2,tm,st (m/16) (by omega),ah];refine Ev.ct rfl (Ev.chk (by omega) (Ev.chk (by simp;decide) (Ev.chk (by decide) ?_)));refine Ev.up ?_;simp only[G.jy.L2,tm,st (m/16/16) (by omega),ah];refine Ev.ct rfl (Ev.chk (by omega) (Ev.chk (by simp;decide) (Ev.chk (by decide) ?_)));refine Ev.up ?_;simp only[G.jy.L2,tm,st (m/16/16/16) (by omega),ah];refine Ev.ct rfl (Ev.chk (by omega) (Ev.chk (by simp;decide) (Ev.chk (by decide) ?_)));refine Ev.up ?_;simp only[G.jy.L2];refine Ev.cf rfl (Ev.chk (by simp) (Ev.chk (by simp;omega) (Ev.ret' ?_)));unfold Sv aai;rw[show m/4096=m/16/16/16%16 by omega,show m/256%16=m/16/16%16 by omega];show zJ [((hexD.getD (m/16/16/16%16) 0).toNat:Int),((hexD.getD (m/16/16%16) 0).toNat:Int),((hexD.getD (m/16%16) 0).toNat:Int),((hexD.getD (m%16) 0).toNat:Int)]=_;simp[zJ]
 have L:∀(k i m:Nat),i+k=s.length->m<65521->Ev (λf=>G.jy.L1 f s (m:Int) i) (Sv ((s.drop i).foldl (λn b=>(131*n+b.toNat)%65521) m)):=by
  intro k
  induction k with
  | zero=>intro i m hi hm;refine Ev.up ?_;simp only[G.jy.L1];rw[ak (by omega)];exact Ev.cf (decide_eq_false (by omega)) (L2 m hm)
  | succ k ih=>intro i m hi hm;have hb:=(s.getD i 0).toNat_lt;refine Ev.up ?_;simp only[G.jy.L1,ah,Ia,dF (show i+1<9223372036854775808 by omega),wrapN (x:=131*(m:Int)) (m:=131*m) (by omega) (by omega)];rw[wrapN (x:=((131*m:Nat):Int)+((s.getD i 0).toNat:Int)) (m:=131*m+(s.getD i 0).toNat) (by omega) (by omega),show(65521:Int)=((65521:Nat):Int)from rfl,FI];rw[dP (0:UInt8) (by omega:i<s.length),lZ];exact Ev.ct (decide_eq_true (by omega)) (Ev.chk (by omega) (ih (i+1) _ (by omega) (tH _ (by omega))))
 refine Ev.up ?_;simp only[G.jy];exact L s.length 0 17 (by omega) (by omega)
theorem T.uY {B D:Nat}{n:aj}(hB:B<=lim)(h:Fine B D n):Ev (λf=>G.uY f n) (Fh n):=by refine Ev.up ?_;simp only[G.uY];unfold Fh;refine Ev.bind (T.aX hB h) (Ev.ite (λe=>?_) (λe=>Ev.ret' (by rw[e];rfl)));have hl:=fmt5 e;have hf:=T.jY hB h;unfold TQ at hf;rw[e]at hf⊢;exact Ev.bind hf (Ev.bind (T.jy _ (by show(nX 5 n).length<_;unfold big;omega)) (Ev.ret _))
theorem aaM {n:aj}{s:aK} : Dn n [s]=ED n s:=by unfold Dn Gf;rfl
theorem T.jL : ∀(d:Nat) {E:Nat} {n p:aj},d<=5->Shape d p=true->ShN E n->Ev (λf=>G.jL f n p) (J7 d n p)
 |0,_,_,_,_,h,_=>by cases h
 | d+1,E,n,p,hd,hp,hn=>by
   refine Ev.up ?_;simp only[G.jL];rw[QY];refine Ev.ite (λc=>?_) (λc=>?_)
   ·have:¬p.Kind=4:=(by simpa using c);rw[if_neg this];exact Ev.bind (T.aY BU (yU hp)) (Ev.ret _)
   ·have kp:p.Kind=4:=(by simpa using c);rw[if_pos kp];have mp:=Y6 hp kp;obtain⟨e,he,hb,hq⟩:=Xz hn;have hl:=mp.len;have hk:=mp.mp.map.len;have hF:=λ(o q:aj) (ho:ShN e o) (hq:Shape d q=true)=>Nv d hq ho;have facts:=λi hi=>OG (F:=J7 d) mp (Nu hb (by omega:e<=d+e+1) (ax _)) (Q:=ShN e) (.inr rfl) hq hF i hi;have L:∀(t i:Nat),i+t=p.Kids.length->Ev (λf=>G.jL.L2 f p (i:Int) ((aQ 0 i).foldl (PG (J7 d) p) (Oe n)).Kind ((aQ 0 i).foldl (PG (J7 d) p) (Oe n)).Num ((aQ 0 i).foldl (PG (J7 d) p) (Oe n)).Text ((aQ 0 i).foldl (PG (J7 d) p) (Oe n)).Names ((aQ 0 i).foldl (PG (J7 d) p) (Oe n)).Kids) ((aQ 0 p.Kids.length).foldl (PG (J7 d) p) (Oe n)):=by
     intro t
     induction t with
     | zero=>intro i hi;have:i=p.Kids.length:=(by omega);subst this;refine Ev.up ?_;simp only[G.jL.L2];exact Ev.cf (decide_eq_false (by omega)) (Ev.ret' (aj.eta _))
     | succ t ih=>
       intro i hi;have hnx:=ih (i+1) (by omega);rw[IL,vT,lZ,BQ]at hnx;obtain⟨h1,h2⟩:=facts i (by omega);generalize (aQ 0 i).foldl (PG (J7 d) p) (Oe n)=m at h1 h2 hnx⊢;have hi':i<p.Kids.length:=(by omega);have hx:=BK mp.sh hi';have hc:=h1.cnt;have hms:lk m (p.Names.getD i default)=lk (Oe n) (p.Names.getD i default):=(by rw[h2,if_neg (OL mp.mp.map hi')]);have hfm:=h1.fine (by omega);refine Ev.up ?_;simp only[G.jL.L2,ah,dF (show i+1<9223372036854775808 by omega),aj.eta];unfold PG at hnx;refine Ev.ct (decide_eq_true (by omega)) (Ev.chk (by omega) (Ev.bind (T.jM _ BU hfm) (Ev.chk (by omega) ?_)));cases hpl:EL m (p.Names.getD i default)with
       | none=>
         have neg:decide (0<=Ik none)=false:=(by decide);have hlk:lk m (p.Names.getD i default)=none:=(by unfold lk;rw[hpl];rfl);by_cases c:(p.Kids.getD i default).Kind=0
         ·rw[if_pos c]at hnx;have:(ED m (p.Names.getD i default)).getD m=m:=(by unfold ED;rw[hpl];rfl);rw[this]at hnx;exact Ev.ct (by simpa using c) (Ev.cf neg (Ev.chk (by omega) (Ev.cf (by simpa using c) (Ev.chk (by omega) hnx))))
         ·rw[if_neg c,hlk]at hnx;have hf:=hF ve _ (.inr rfl) hx;obtain⟨g1,_⟩:=Yp h1 (mp.name hi') hf;have g3:=T.qy (p.Names.getD i default) (show 12<lim by decide) hfm hf;rw[g1]at g3;exact Ev.cf (by simpa using c) (Ev.chk (by omega) (Ev.ct (by simpa using c) (Ev.cf neg (Ev.chk (by omega) (Ev.chk (by omega) (Ev.bind (T.jL d (by omega) hx (.inr rfl:ShN 0 ve)) (Ev.bind g3 hnx)))))))
       | some j=>
         have pos:decide (0<=Ik (some j))=true:=decide_eq_true (by show(0:Int)<=(j:Int);omega);have hjl:=zF hpl;have hlk:lk m (p.Names.getD i default)=some (m.Kids.getD j default):=(by unfold lk;rw[hpl];rfl);by_cases c:(p.Kids.getD i default).Kind=0
         ·rw[if_pos c]at hnx;have g3:=T.kM [p.Names.getD i default] (show 12+1<lim by decide) (by unfold big;simp) hfm;rw[aaM]at g3;obtain⟨m',hm'⟩:∃m',ED m (p.Names.getD i default)=some m':=(by unfold ED;rw[hpl];exact⟨_,rfl⟩);rw[hm']at g3 hnx;exact Ev.ct (by simpa using c) (Ev.ct pos (Ev.bind g3 hnx))
         ·rw[if_neg c,hlk]at hnx;have hso:ShN e (m.Kids.getD j default):=by
           rw[hms]at hlk;exact hq _ (Yg hlk)
          have hf:=hF _ _ hso hx;have e1:WQ m (p.Names.getD i default) (J7 d (m.Kids.getD j default) (p.Kids.getD i default))=Gz m j (J7 d (m.Kids.getD j default) (p.Kids.getD i default)):=(by unfold WQ;rw[TV h1.mp.map hpl];rfl);rw[Ba,e1]at hnx;refine Ev.cf (by simpa using c) (Ev.chk (by omega) (Ev.ct (by simpa using c) (Ev.ct pos ?_)));show Ev (λf=>Ab.chk _ _) _;simp only[Ik,ah];exact Ev.chk (by omega) (Ev.chk (by omega) (Ev.bind (T.jL d (by omega) hx hso) (Ev.bind (T.oW BU hfm hf hjl) hnx)))
    have L':Ev (λf=>G.jL.K1 f p (Oe n).Kind (Oe n).Num (Oe n).Text (Oe n).Names (Oe n).Kids) ((aQ 0 p.Kids.length).foldl (PG (J7 d) p) (Oe n)):=by refine Ev.up ?_;simp only[G.jL.K1];exact L p.Kids.length 0 (by omega)
    unfold Oe at L'⊢;refine Ev.ite (λc=>?_) (λc=>?_)
    ·have kn:n.Kind=4:=(by simpa using c);rw[if_pos kn]at L'⊢;have hf:Fine 12 E n:=by
      rcases hn with h|h
      ·exact yU h
      ·rw[h]at kn;cases kn
     exact Ev.bind (T.aY BU hf) L'
    ·have kn:¬n.Kind=4:=(by simpa using c);rw[if_neg kn]at L'⊢;exact L'
def Zv (n p:aj):Option aj:=if Val n&&Val p then(some (J7 5 n p)).filter Val else none
theorem T.qh {D E:Nat}{n p:aj}(hn:Fine 60 D n)(hp:Fine 60 E p):Ev (λf=>G.qh f n p) (oQ (Zv n p)):=by refine Ev.up ?_;simp only[G.qh];unfold Zv;refine Ev.bind (T.fB zQ hn) (Ev.ite (λe1=>?_) (λe1=>Ev.ret' (by rw[e1];rfl)));refine Ev.bind (T.fB zQ hp) (Ev.ite (λe2=>?_) (λe2=>Ev.ret' (by rw[e1,e2];rfl)));have gp:=T.jL 5 (by omega) (lN e2) (.inl (lN e1));have gc:=T.pR (o:=some (J7 5 n p)) BU (λm hm=>by cases hm;exact Nv 5 (lN e2) (.inl (lN e1)));rw[e1,e2];exact Ev.bind gp (Ev.bind gc (Ev.ret _))
def Zw (l:List aK)(t:aK):Bool:=decide (t∈l)||decide (([42]:aK)∈l)
theorem T.mZ {l:List aK}{t:aK}(hl:l.length<=1000):Ev (λf=>G.mZ f l t) (Zw l t):=by
 have L:∀(k i:Nat),i+k=l.length->Ev (λf=>G.mZ.L1 f l t i) (Zw (l.drop i) t):=by
  intro k
  induction k with
  | zero=>intro i hi;refine Ev.up ?_;simp only[G.mZ.L1];refine Ev.cf (decide_eq_false (by omega)) (Ev.ret' ?_);rw[ak (by omega)];rfl
  | succ k ih=>
    intro i hi;have e:Zw (l.drop i) t=(l.getD i default==t||(l.getD i default==[42]||Zw (l.drop (i+1)) t)):=by
     rw[dP default (by omega:i<l.length)];unfold Zw;rw[pU];simp only[iT,decide_eq_true_eq,cu,beq_iff_eq];constructor
     ·rintro((h|h)|(h|h))
      ·exact .inl h.symm
      ·exact .inr (.inr (.inl h))
      ·exact .inr (.inl h.symm)
      ·exact .inr (.inr (.inr h))
     ·rintro(h|h|h|h)
      ·exact .inl (.inl h.symm)
      ·exact .inr (.inl h.symm)
      ·exact .inl (.inr h)
      ·exact .inr (.inr h)
    refine Ev.up ?_;simp only[G.mZ.L1,ah,dF (show i+1<9223372036854775808 by omega)];rw[e];refine Ev.ct (decide_eq_true (by omega)) (Ev.chk (by omega) (Ev.ite (λe1=>Ev.ret' (by rw[e1];rfl)) (λe1=>Ev.chk (by omega) (Ev.ite (λe2=>Ev.ret' (by rw[e1,e2];rfl)) (λe2=>?_)))));rw[e1,e2];exact ih (i+1) (by omega)
 refine Ev.up ?_;simp only[G.mZ];exact L l.length 0 (by omega)
theorem T.Contains {l:List aK}{t:aK}(hl:l.length<=1000):Ev (λf=>G.slices_Contains_string f l t) (decide (t∈l)):=by
 have L:∀(k i:Nat),i+k=l.length->∃r:Int,Ev (λf=>G.slices_Index_string.L1 f l t i) r/\decide (0<=r)=decide (t∈l.drop i):=by
  intro k
  induction k with
  | zero=>intro i hi;refine⟨-1,Ev.up ?_,by rw[ak (by omega)];simp⟩;simp only[G.slices_Index_string.L1];exact Ev.cf (decide_eq_false (by omega)) (Ev.ret _)
  | succ k ih=>
    intro i hi;rw[dP default (by omega:i<l.length)];by_cases c:t=l.getD i default
    ·refine⟨i,Ev.up ?_,by rw[<- c];simp⟩;simp only[G.slices_Index_string.L1,ah];exact Ev.ct (decide_eq_true (by omega)) (Ev.chk (by omega) (Ev.ct (beq_iff_eq.2 c) (Ev.ret _)))
    ·obtain⟨r,h1,h2⟩:=ih (i+1) (by omega);refine⟨r,Ev.up ?_,by rw[h2];simp only[cu,c,false_or]⟩;simp only[G.slices_Index_string.L1,ah,dF (show i+1<9223372036854775808 by omega)];exact Ev.ct (decide_eq_true (by omega)) (Ev.chk (by omega) (Ev.cf (beq_eq_false_iff_ne.2 c) h1))
 obtain⟨r,h1,h2⟩:=L l.length 0 (by omega);rw[bW]at h2;refine Ev.up ?_;simp only[G.slices_Contains_string];refine Ev.bind (a:=r) (Ev.up ?_) (Ev.ret' h2);simp only[G.slices_Index_string];exact h1
theorem T.pX {l:List aK}{t:aK}(hl:l.length<=1000):Ev (λf=>G.pX f l t) (Zw l t):=by refine Ev.up ?_;simp only[G.pX];unfold Zw;exact Ev.bind (T.Contains hl) (Ev.ite (λe=>Ev.ret' (by rw[e];rfl)) (λe=>Ev.bind (T.Contains hl) (Ev.ret' (by rw[e];rfl))))
def GH (w a:List aK)(t:aK)(rd:Bool):Int:=
 if !w.isEmpty&&(t==[] || !Zw w t)then 412 else if !a.isEmpty&&(!(t==[])&&Zw a t)then(if rd then 304 else 412)else 200
theorem Y5 {α:Type}(l:List α):decide ((0:Int)<(l.length:Int)) = !l.isEmpty:=by cases l<;>simp
theorem T.vJ {w a:List aK}{t:aK}{rd:Bool}(hw:w.length<=1000)(ha:a.length<=1000):Ev (λf=>G.vJ f w a t rd) (GH w a t rd):=by refine Ev.up ?_;simp only[G.vJ,Y5];unfold GH;have A:=T.mZ (t:=t) ha;have W:=T.mZ (t:=t) hw;generalize Zw a t=na at *;generalize Zw w t=nw at *;generalize w.isEmpty=ew;generalize a.isEmpty=ea;generalize (t==[])=et;cases ew<;>cases ea<;>cases et<;>cases na<;>cases nw<;>cases rd<;>exact evd
theorem T.kP {w a:List aK}{t:aK}{rd:Bool}(hw:Aj w=true)(ha:Aj a=true)(sw:Sm w)(sa:Sm a)(ht:t=[]\/(G6 t=true/\t.length<big))(lw:w.length<=1000)(la:a.length<=1000):Ev (λf=>G.kP f w a t rd) (GH w a t rd):=by
 have K:Ev (λf=>G.kP.K1 f w a t rd) (GH w a t rd):=by refine Ev.up ?_;simp only[G.kP.K1,Y5];unfold GH;have A:=T.pX (t:=t) la;have W:=T.pX (t:=t) lw;clear ht;generalize Zw a t=na at *;generalize Zw w t=nw at *;generalize w.isEmpty=ew;generalize a.isEmpty=ea;generalize (t==[])=et;cases ew<;>cases ea<;>cases et<;>cases na<;>cases nw<;>cases rd<;>exact evd
 refine Ev.up ?_;simp only[G.kP];have h1:=T.jk sw;have h2:=T.jk sa;rw[hw]at h1;rw[ha]at h2;refine Ev.bind h1 (Ev.ct rfl (Ev.bind h2 (Ev.ct rfl (Ev.ite (λ_=>K) (λe=>?_)))));rcases ht with h|⟨h,hl⟩
 ·rw[h]at e;cases e
 ·have h3:=T.nN t hl;rw[h]at h3;exact Ev.bind h3 (Ev.ct rfl K)
section
theorem VZ {l:List bI}{t:aK}{p:Nat}(hA:Asc (uZ l)=true)(hp:LB (uZ l) t p):Sj l t=if decide (p<l.length)&&(l.getD p default).Name==t then some p else none:=by
 have at_:∀q,q<l.length->(uZ l).getD q default=(l.getD q default).Name:=λq h=>Ey h
 by_cases c:p<l.length/\(l.getD p default).Name=t
 ·rw[if_pos (by simpa using c)];refine Ic.2 ⟨c.1,c.2,λq hq=>?_⟩;have:=hp.lo q hq;rw[at_ q (by omega)]at this;exact GM this
 ·rw[if_neg (by simpa using c)];refine V7.2 λit hit e=>?_;obtain⟨q,hq,rfl⟩:=lI.1 hit;have e:(l.getD q default).Name=t:=by rw[gu _ hq];exact e
  by_cases h1:q<p
  ·have:=hp.lo q h1;rw[at_ q hq,e,KY]at this;cases this
  ·by_cases h2:q=p
   ·subst h2;exact c ⟨hq,e⟩
   ·have h3:=FK hA p q (by omega) (by rw[yN];exact hq);have h4:=hp.hi p (ax _) (by rw[yN];omega);rw[at_ q hq,e]at h3;rw[h3]at h4;cases h4
theorem VY {l:List bI}{t:aK}{j:Nat}(hA:Asc (uZ l)=true)(h:Sj l t=some j):(l.filter λit=> !(it.Name==t))=l.take j++l.drop (j+1):=by
 obtain⟨h1,h2,h3⟩:=Ic.1 h;have e:l=l.take j++l.getD j default::l.drop (j+1):=by rw[<- dP default h1,vZ]
 have a1:(l.take j).filter (λit=> !(it.Name==t))=l.take j:=List.filter_eq_self.2 λit hit=>by obtain⟨q,hq,rfl⟩:=lI.1 hit;rw[dm]at hq;have:=h3 q (by omega);rw[gu _ (by omega)]at this;rw[List.getElem_take];simpa using this
 have a2:(l.drop (j+1)).filter (λit=> !(it.Name==t))=l.drop (j+1):=List.filter_eq_self.2 λit hit=>by obtain⟨q,hq,rfl⟩:=lI.1 hit;rw[fE]at hq;have:=FK hA j (j+1+q) (by omega) (by rw[yN];omega);rw[Ey h1,Ey (by omega),h2]at this;have:=GM this;rw[gu _ (by omega)]at this;rw[List.getElem_drop];simpa using λe=>this e.symm
 conv=>lhs;rw[e]
 rw[List.filter_append,List.filter_cons,a1,a2,h2];simp
section
variable {B:Nat} {s:StoreT} (t:aK) (hB:B<=lim) (h:Jl B s)
include hB h
theorem T.uJ : Ev (λf=>G.uJ f s t) (ag8 (LZ s t)):=by
 have hl:=h.len;unfold lim at hB;refine Ev.up ?_;simp only[G.uJ];unfold LZ;refine Ev.bind (T.dw hB h) (Ev.ite (λe=>?_) (λe=>Ev.ret' (by rw[e];rfl)));have hs:=BN.1 e;obtain⟨p,g,hp⟩:=T.nR t (by unfold big;omega) hs.Md;rw[if_pos e,VZ hs.Md hp];refine Ev.bind g (Ev.ite (λc=>?_) (λc=>?_))
 ·have c:decide (p<s.Items.length)&&(s.Items.getD p default).Name==t:=c;rw[if_pos c];have c1:p<s.Items.length:=by simp only[ai,decide_eq_true_eq]at c;exact c.1
  obtain⟨D,hD⟩:=(h.at_ c1).2;refine Ev.chk (by show(0:Int)<=(p:Int)/\(p:Int)<_;omega) (Ev.bind (Ev.up ?_) (Ev.ret _));simp only[G.qR,ah];exact Ev.bind (T.aP hB hD) (Ev.ret _)
 ·have c:(decide (p<s.Items.length)&&(s.Items.getD p default).Name==t)=false:=c;rw[if_neg (by rw[c];simp)];exact Ev.ret _
theorem T.sW : Ev (λf=>G.sW f s t) (WI (LX s t)):=by
 have hl:=h.len;unfold lim at hB;refine Ev.up ?_;simp only[G.sW];unfold LX;refine Ev.bind (T.dw hB h) (Ev.ite (λe=>?_) (λe=>Ev.ret' (by rw[e];rfl)));have hs:=BN.1 e;have hsl:=hs.len;have hlo:=hs.lo;have hhi:=hs.hi;obtain⟨p,g,hp⟩:=T.nR t (by unfold big;omega) hs.Md;have hf:=VZ hs.Md hp;refine Ev.ite (λe2=>Ev.ret' (by rw[e2];simp;rfl)) (λe2=>?_);refine Ev.bind g (Ev.ite (λc=>?_) (λc=>?_))
 ·have c:(decide (p<s.Items.length)&&(s.Items.getD p default).Name==t)=true:=c;rw[if_pos c]at hf;have c1:p<s.Items.length:=by simp only[ai,decide_eq_true_eq]at c;exact c.1
  have w:af .i64 (s.Clock+1)=s.Clock+1:=by rw[Fg (by omega) (by omega)]
  refine Ev.bind (T.eu hB h) (Ev.bind (a:=s.Items.take p++s.Items.drop (p+1)) (Ev.up ?_) (Ev.ret' ?_))
  ·simp only[G.nS,dF (show p+1<9223372036854775808 by omega),ah];exact Ev.chk (by omega) (Ev.ret _)
  ·rw[w,<- VY hs.Md hf,e,e2,hf];rfl
 ·have c:(decide (p<s.Items.length)&&(s.Items.getD p default).Name==t)=false:=c;rw[if_neg (by rw[c];simp)]at hf;exact Ev.ret' (by rw[e,e2,hf];rfl)
end
structure RqF (q:RequestT):Prop where
 lo:1<=q.Method
 hi:q.Method<=5
 Nw:Vu q.Name=true
 want:Aj q.Want=true
 avoid:Aj q.oP=true
 body:Val q.Body=true
 ops:FM q.Ops=true
theorem LG {q:RequestT} : Pq q=true<->RqF q:=by unfold Pq;simp only[ai,decide_eq_true_eq];exact⟨λ⟨⟨a,b⟩,c,d,e,f,g⟩=>⟨a,b,c,d,e,f,g⟩,λ⟨a,b,c,d,e,f,g⟩=>⟨⟨a,b⟩,c,d,e,f,g⟩⟩
theorem adu {t:aK}(h:G6 t=true):t.length=4:=by unfold G6 at h;simp only[ai,decide_eq_true_eq]at h;exact h.2
theorem adA {t:aK}(h:G7 t=true):t.length<=4:=by
 unfold G7 at h;simp only[iT,beq_iff_eq]at h;rcases h with h|h
 ·rw[h];simp
 ·rw[adu h];exact ax _
theorem JU {l:List aK}(h:Aj l=true):l.length<=4/\∀t,t∈l->G7 t=true:=by unfold Aj at h;simp only[ai,decide_eq_true_eq,aZ]at h;exact⟨h.2,h.1⟩
theorem P6 {l:List aK}(h:Aj l=true):Sm l:=by obtain⟨h1,h2⟩:=JU h;refine⟨by unfold big;omega,λt ht=>?_⟩;have:=adA (h2 t ht);unfold big;omega
theorem P5 : ∀k:Nat,k<16->okH (aai k)=true:=by decide
theorem ach {n:Nat}(h:n<65521):G6 (Sv n)=true:=by unfold G6 Sv;simp only[dI,vM,oJ,ai,bH,dB,decide_true];exact⟨P5 _ (by omega),P5 _ (by omega),P5 _ (by omega),P5 _ (by omega)⟩
theorem NT {n:aj}(h:Val n=true):G6 (Fh n)=true:=by unfold Fh;rw[if_pos h];exact ach (sum_lt _)
def ans (c:Int):gI:=gI.mk c [] 0 ve
def LP (s:StoreT)(t:aK)(n:aj)(c:Int):StoreT×gI:=match L6 s t n with
 |some m=>(m,gI.mk c (Fh n) m.Clock ve)
 |none=>(s,ans 422)
noncomputable def OH (old:aj)(q:RequestT):Option aj:=if q.Method=4 then Jm old q.Ops else if q.Method=5 then Zv old q.Body else some q.Body
noncomputable def X7 (s:StoreT)(q:RequestT)(it:bI):StoreT×gI:=
 if q.Method=1 then(s,gI.mk 200 (Fh it.Node) it.Version it.Node)else if q.Method=3 then(match LX s q.Name with
  |some m=>(m,gI.mk 200 [] m.Clock ve)
  |none=>(s,ans 422))else match OH it.Node q with
  |some n=>LP s q.Name n 200
  |none=>(s,ans 422)
noncomputable def Dc (s:StoreT)(q:RequestT):StoreT×gI:=match LZ s q.Name with
 |none=>if q.Method=2 then(if GH q.Want q.oP [] false=200 then LP s q.Name q.Body 201 else(s,ans (GH q.Want q.oP [] false)))else(s,ans 404)
 |some it=>if GH q.Want q.oP (Fh it.Node) (q.Method==1)=200 then X7 s q it else(s,ans (GH q.Want q.oP (Fh it.Node) (q.Method==1)))
noncomputable def ad8 (s:StoreT)(q:RequestT):StoreT×gI:=if N7 s&&Pq q then Dc s q else(aaE,ans 400)
theorem YC {j:Nat} : decide (Ik (some j)<0)=false:=decide_eq_false (by show ¬(j:Int)<0;omega)
theorem aeC {s:StoreT}{t:aK}(hs:N7 s=true):LZ s t=(Sj s.Items t).map λj=>s.Items.getD j default:=by unfold LZ;rw[if_pos hs]
theorem WJ {n m:aj}{l:List oz}(h:Jm n l=some m):Val m=true:=by
 unfold Jm at h;split at h
 ·rename_i c;exact adf (by simp at c;exact c.1) h
 ·cases h
theorem Wy {n p m:aj}(h:Zv n p=some m):Val m=true:=by
 unfold Zv at h;split at h
 ·exact(Option.filter_eq_some_iff.1 h).2
 ·cases h
theorem WB {q:RequestT}{old n:aj}(hr:Pq q=true)(h:OH old q=some n):Val n=true:=by
 unfold OH at h;split at h
 ·exact WJ h
 ·split at h
  ·exact Wy h
  ·cases h;exact(LG.1 hr).body
theorem T.uN {q:RequestT}{old:aj}(hq:KF 60 q)(ho:Val old=true):Ev (λf=>G.uN f old q) (oQ (OH old q)):=by
 refine Ev.up ?_;simp only[G.uN];unfold OH;have hp:=T.pY zQ (zO ho) hq.ops;obtain⟨D,hD⟩:=hq.body;have hm:=T.rG (zO ho) hD;refine Ev.ite (λe=>?_) (λe=>Ev.ite (λe2=>?_) (λe2=>?_))
 ·rw[if_pos (by simpa using e)];exact Ev.bind hp (Ev.ret _)
 ·rw[if_neg (by simpa using e),if_pos (by simpa using e2)];exact Ev.bind hm (Ev.ret _)
 ·rw[if_neg (by simpa using e),if_neg (by simpa using e2)];exact Ev.ret _
section
variable {s:StoreT} {q:RequestT} (hs:Si s) (hq:KF 60 q)
theorem T.oG (c:Int):Ev (λf=>G.oG f c) (ans c):=by refine Ev.up ?_;simp only[G.oG];exact Ev.ret _
theorem copyS (s:StoreT)(hs:Si s):Ev (λf=>G.eu f s) s/\Ev (λf=>G.fK f s) s:=⟨T.eu zQ hs.fine,T.fK zQ hs.fine⟩
include hs hq
theorem T.nD {old:aj}{b:Bool}(hr:RqF q)(ho:Val old=true):Ev (λf=>G.nD f s q old b) (match OH old q with
 |some n=>LP s q.Name n (if b then 200 else 201)
 |none=>(s,ans 422)):=by
 obtain⟨c1,_⟩:=copyS s hs;refine Ev.up ?_;simp only[G.nD];refine Ev.bind (T.uN hq ho) ?_;cases hn:OH old q with
 |none=>exact Ev.cf rfl (Ev.bind c1 (Ev.ret _))
 | some n=>
   have hv:=WB (LG.2 hr) hn;refine Ev.ct rfl (Ev.bind (T.uK zQ hs.fine hq.Nw (zO hv)) ?_);show Ev _ (LP s q.Name n (if b then 200 else 201));unfold LP;simp only[oQ];cases L6 s q.Name n with
   |none=>exact Ev.cf rfl (Ev.bind c1 (Ev.ret _))
   | some m=>refine Ev.ct rfl (Ev.bind (T.uY BU (nZ hv)) ?_);cases b<;>exact evd
theorem T.gY : Ev (λf=>G.gY f s q) (ad8 s q):=by
 obtain⟨c1,_⟩:=copyS s hs;have hsv:=BN.2 hs;refine Ev.up ?_;simp only[G.gY];unfold ad8;refine Ev.bind (T.dw zQ hs.fine) (Ev.ite (λ_=>?_) (λe=>by rw[hsv]at e;cases e));refine Ev.bind (T.lT zQ hq) (Ev.ite (λe=>?_) (λe=>Ev.ret' (by rw[e,Bool.and_false];rfl)));have hr:=LG.1 e;have hw:=JU hr.want;have ha:=JU hr.avoid;rw[hsv,e];show Ev _ (Dc s q);unfold Dc;refine Ev.bind (T.uJ q.Name zQ hs.fine) ?_;cases hg:LZ s q.Name with
 | none=>
   refine Ev.cf rfl (Ev.ite (λe2=>?_) (λe2=>?_))
   ·exact Ev.bind c1 (Ev.ret' (by show _=if q.Method=2 then _ else _;rw[if_neg (by simpa using e2)];rfl))
   have e2:q.Method=2:=(by simpa using e2);show Ev _ (if q.Method=2 then _ else _);rw[if_pos e2];refine Ev.up ?_;simp only[G.gY.K2,e2];refine Ev.bind (T.kP hr.want hr.avoid (P6 hr.want) (P6 hr.avoid) (.inl rfl) (by omega) (by omega)) (Ev.ite (λe3=>?_) (λe3=>?_))
   ·exact Ev.bind c1 (Ev.ret' (by rw[if_neg (by simpa using e3)];rfl))
   ·have e3:GH q.Want q.oP [] false=200:=(by simpa using e3);rw[if_pos e3];have:=T.nD (old:=ve) (b:=false) hs hq hr OX;have hn:OH ve q=some q.Body:=(by unfold OH;rw[if_neg (by omega),if_neg (by omega)]);rw[hn]at this;exact Ev.cf rfl (Ev.cf rfl (Ev.bind this (Ev.ret _)))
 | some it=>
   obtain⟨_,_,_,hv⟩:=Oy hg;have hct:=T.kP (t:=Fh it.Node) (rd:=q.Method==1) hr.want hr.avoid (P6 hr.want) (P6 hr.avoid) (.inr ⟨NT hv,by have:=ae4 it.Node;unfold big;omega⟩) (by omega) (by omega);refine Ev.ct rfl (Ev.bind (T.uY BU (nZ hv)) (Ev.up ?_));simp only[G.gY.K1];refine Ev.bind hct (Ev.ite (λe3=>?_) (λe3=>?_))
   ·exact Ev.bind c1 (Ev.ret' (by show _=if _=_ then _ else _;rw[if_neg (by simpa using e3)];rfl))
   show Ev _ (if _=_ then _ else _);rw[if_pos (by simpa using e3)];unfold X7;refine Ev.ite (λe4=>?_) (λe4=>?_)
   ·rw[if_pos (by simpa using e4)];exact Ev.bind c1 (Ev.ret _)
   rw[if_neg (by simpa using e4)];refine Ev.ite (λe5=>?_) (λe5=>?_)
   ·rw[if_pos (by simpa using e5)];refine Ev.bind (Ev.up ?_) (Ev.ret _);simp only[G.qf];refine Ev.bind (T.sW q.Name zQ hs.fine) ?_;cases LX s q.Name with
    |none=>exact Ev.cf rfl (Ev.bind c1 (Ev.ret _))
    |some m=>exact Ev.ct rfl (Ev.ret _)
   ·rw[if_neg (by simpa using e5)];exact Ev.bind (T.nD hs hq hr hv) (Ev.ret _)
omit hq
theorem T.sN (t:aK):Ev (λf=>G.sN f s t) (match Sj s.Items t with
 |some j=>Fh (s.Items.getD j default).Node
 |none=>[]):=by
 have hl:=hs.len;refine Ev.up ?_;simp only[G.sN];refine Ev.bind (T.oV t (by unfold lim;omega)) ?_;cases hj:Sj s.Items t with
 |none=>exact Ev.ct (by decide) (Ev.ret _)
 | some j=>have hjl:=(Ic.1 hj).1;have hv:=(hs.it hjl).nod;have h5:=fmt5 hv;have:=sum_lt (nX 5 (s.Items.getD j default).Node);have e:Fh (s.Items.getD j default).Node=Sv (aa0 (nX 5 (s.Items.getD j default).Node)):=(by unfold Fh;rw[if_pos hv]);refine Ev.cf YC (Ev.chk (by show(0:Int)<=(j:Int)/\(j:Int)<_;omega) ?_);rw[show(Ik (some j)).toNat=j from ah j];show Ev _ (Fh _);rw[e];exact Ev.bind (T.eX 5 (by omega) (lN hv)) (Ev.bind (T.qj _ (by unfold big;omega)) (Ev.bind (T.zT (by omega)) (Ev.ret _)))
theorem ac9 {x:bI} : ∃j,Sj (IK x s.Items) x.Name=some j/\(IK x s.Items).getD j default=x:=by
 cases hj:Sj (IK x s.Items) x.Name with
 |none=>exact absurd rfl (V7.1 hj x ((Gx hs.Md).2 (.inl rfl)))
 | some j=>
   obtain⟨h1,h2,_⟩:=Ic.1 hj;refine⟨j,rfl,?_⟩;rcases(Gx hs.Md).1 (getD_mem default h1)with e|⟨_,e⟩
   ·exact e
   ·exact absurd h2 e
theorem T.lY {t:aK}{n:aj}(ht:Vu t=true)(hn:Val n=true):Ev (λf=>G.lY f s t n) (LP s t n (if(Sj s.Items t).isSome then 200 else 201)):=by
 obtain⟨_,c2⟩:=copyS s hs;have hl:=hs.len;have K:∀c:Int,Ev (λf=>G.lY.K1 f s t n c) (LP s t n c):=λc=>by
  have e:L6 s t n=(some (Ri s t n)).filter N7:=by unfold L6;rw[BN.2 hs,ht,hn];rfl
  refine Ev.up ?_;simp only[G.lY.K1];unfold LP;rw[e];refine Ev.bind (T.mg zQ hs.fine (zO hn) hs) (Ev.bind (T.iw zQ (ada zQ hs.fine hs ht hn)) (Ev.ite (λe1=>?_) (λe1=>?_)))
  ·obtain⟨j,hj,hx⟩:=ac9 (x:=bI.mk t (s.Clock+1) n) hs;have ht:=T.sN (s:=Ri s t n) (BN.1 e1) t;have hj:Sj (Ri s t n).Items t=some j:=hj;have hx:(Ri s t n).Items.getD j default=bI.mk t (s.Clock+1) n:=hx;rw[hj]at ht;simp only[hx]at ht;refine Ev.bind ht (Ev.ret' ?_);simp[oN,e1];rfl
  ·refine Ev.bind c2 (Ev.bind (T.oG 422) (Ev.ret' ?_));simp[oN,e1]
 refine Ev.up ?_;simp only[G.lY];refine Ev.bind (T.oV t (by unfold lim;omega)) ?_;cases Sj s.Items t with
 |none=>exact Ev.ct (by decide) (K _)
 |some j=>exact Ev.cf YC (K _)
include hq
theorem T.kE (hr:RqF q):Ev (λf=>G.kE f s q) (Dc s q):=by
 obtain⟨_,c2⟩:=copyS s hs;have hl:=hs.len;have hf:=T.oV (s:=s) q.Name (by unfold lim;omega);have htag:=T.sN hs q.Name;have hw:=JU hr.want;have ha:=JU hr.avoid;have chk:∀t,Ev (λf=>G.vJ f q.Want q.oP t (q.Method==1)) (GH q.Want q.oP t (q.Method==1)):=λt=>T.vJ (by omega) (by omega);have an:=T.oG;obtain⟨D,hD⟩:=hq.body;have hwr:=λ{n:aj} (hn:Val n=true)=>T.lY hs hr.Nw hn;have K:∀(o:Option aj),(∀n,o=some n->Val n=true)->Ev (λf=>G.kE.K1 f s q (oQ o).2 (oQ o).1.Kind (oQ o).1.Num (oQ o).1.Text (oQ o).1.Names (oQ o).1.Kids) (match o with
  |some n=>LP s q.Name n (if(Sj s.Items q.Name).isSome then 200 else 201)
  |none=>(s,ans 422))/\Ev (λf=>G.kE.K2 f s q (oQ o).2 (oQ o).1.Kind (oQ o).1.Num (oQ o).1.Text (oQ o).1.Names (oQ o).1.Kids) (match o with
  |some n=>LP s q.Name n (if(Sj s.Items q.Name).isSome then 200 else 201)
  |none=>(s,ans 422)):=λo ho=>by
  cases o with
  | none=>
    constructor<;>refine Ev.up ?_
    ·simp only[G.kE.K1];exact Ev.cf rfl (Ev.bind c2 (Ev.bind (an _) (Ev.ret _)))
    ·simp only[G.kE.K2];exact Ev.cf rfl (Ev.bind c2 (Ev.bind (an _) (Ev.ret _)))
  | some n=>
    constructor<;>refine Ev.up ?_
    ·simp only[G.kE.K1,aj.eta];exact Ev.ct rfl (Ev.bind (hwr (ho n rfl)) (Ev.ret _))
    ·simp only[G.kE.K2,aj.eta];exact Ev.ct rfl (Ev.bind (hwr (ho n rfl)) (Ev.ret _))
 refine Ev.up ?_;simp only[G.kE];unfold Dc;rw[aeC (BN.2 hs)];refine Ev.bind hf ?_;cases hj:Sj s.Items q.Name with
 | none=>
   rw[hj]at htag hwr;refine Ev.ct (by decide) (Ev.ite (λe=>?_) (λe=>?_))
   ·refine Ev.bind c2 (Ev.bind (an _) (Ev.ret' ?_));show _=if q.Method=2 then _ else _
    rw[if_neg (by simpa using e)]
   have e:q.Method=2:=(by simpa using e);show Ev _ (if q.Method=2 then _ else _);rw[if_pos e];have hc:=chk [];simp only[e]at hc⊢;refine Ev.bind htag (Ev.bind hc (Ev.ite (λe3=>?_) (λe3=>?_)))
   ·exact Ev.bind c2 (Ev.bind (an _) (Ev.ret' (by rw[if_neg (by simpa using e3)];rfl)))
   ·rw[if_pos (by simpa using e3)];exact Ev.cf rfl (Ev.ct rfl (Ev.bind (hwr hr.body) (Ev.ret _)))
 | some j=>
   rw[hj]at htag hwr K;have hjl:=(Ic.1 hj).1;have hit:=hs.it hjl;have hv:=hit.nod;have jn:(Ik (some j)).toNat=j:=ah j;have jr:0<=Ik (some j)/\Ik (some j)<(s.Items.length:Int):=(by show(0:Int)<=(j:Int)/\(j:Int)<_;omega);have hap:=T.jH zQ (zO hv) hq.ops;have hmg:=T.qh (zO hv) hD;have k1:=K (Jm (s.Items.getD j default).Node q.Ops) (λn h=>WJ h);have k2:=K (Zv (s.Items.getD j default).Node q.Body) (λn h=>Wy h);refine Ev.cf YC (Ev.bind htag (Ev.bind (chk _) (Ev.ite (λe3=>?_) (λe3=>?_))))
   ·refine Ev.bind c2 (Ev.bind (an _) (Ev.ret' ?_));show _=if _=_ then _ else _
    rw[if_neg (by simpa using e3)]
   have e3:GH q.Want q.oP (Fh (s.Items.getD j default).Node) (q.Method==1)=200:=(by simpa using e3);show Ev _ (if _=_ then _ else _);rw[if_pos e3];unfold X7;simp only[jn,e3];refine Ev.ite (λe4=>?_) (λe4=>?_)
   ·rw[if_pos (by simpa using e4)];exact Ev.bind c2 (Ev.bind htag (Ev.chk jr (Ev.chk jr (Ev.bind (T.aY BU (nZ hv)) (Ev.ret _)))))
   have e4:¬q.Method=1:=(by simpa using e4);rw[if_neg e4];refine Ev.ite (λe5=>?_) (λe5=>?_)
   ·have e5:q.Method=2:=(by simpa using e5);rw[if_neg (by omega)];unfold OH;rw[if_neg (by omega),if_neg (by omega)];exact Ev.bind (hwr hr.body) (Ev.ret _)
   refine Ev.ite (λe6=>?_) (λe6=>?_)
   ·rw[if_pos (by simpa using e6)];unfold LX;rw[BN.2 hs,hj];refine Ev.ite (λe7=>?_) (λe7=>?_)
    ·exact Ev.bind c2 (Ev.bind (an _) (Ev.ret' (by rw[e7];rfl)))
    ·have hlo:=hs.lo;have hhi:=hs.hi;have w:af .i64 (s.Clock+1)=s.Clock+1:=(by rw[Fg (by omega) (by omega)]);rw[w,e7];exact Ev.bind (T.ry zQ hs.fine hs) (Ev.ret _)
   rw[if_neg (by simpa using e6)];unfold OH;refine Ev.chk jr (Ev.bind hap (Ev.ite (λe7=>?_) (λe7=>?_)))
   ·have e7:q.Method=5:=(by simpa using e7);rw[if_neg (by omega),if_pos e7];refine Ev.chk jr (Ev.bind hmg ?_)
    first|exact k2.1|exact k2.2
   ·have e7:¬q.Method=5:=(by simpa using e7);have e5:¬q.Method=2:=(by simpa using e5);have e6:¬q.Method=3:=(by simpa using e6);have:=hr.lo;have:=hr.hi;rw[if_pos (by omega)]
    first|exact k1.1|exact k1.2
end
end
theorem Oo (w a:List aK)(t:aK)(b:Bool):GH w a t b=200\/GH w a t b=304\/GH w a t b=412:=by
 unfold GH;split
 ·exact .inr (.inr rfl)
 ·split
  ·split
   ·exact .inr (.inl rfl)
   ·exact .inr (.inr rfl)
  ·exact .inl rfl
inductive Zu (s:StoreT)(q:RequestT):StoreT×gI->Prop
 |no (c:Int) (h1:c≠200) (h2:c≠201) (h3:c≠400) (h4:c=404<->(LZ s q.Name=none/\q.Method≠2)):Zu s q (s,ans c)
 |get (it:bI) (h1:q.Method=1) (h2:LZ s q.Name=some it) (h3:GH q.Want q.oP (Fh it.Node) true=200):Zu s q (s,gI.mk 200 (Fh it.Node) it.Version it.Node)
 |drop (it:bI) (m:StoreT) (h1:q.Method=3) (h2:LZ s q.Name=some it) (h3:LX s q.Name=some m):Zu s q (m,gI.mk 200 [] m.Clock ve)
 |made (m:StoreT) (h1:q.Method=2) (h2:LZ s q.Name=none) (h3:L6 s q.Name q.Body=some m):Zu s q (m,gI.mk 201 (Fh q.Body) m.Clock ve)
 |put (it:bI) (n:aj) (m:StoreT) (h1:q.Method=2\/q.Method=4\/q.Method=5) (h2:LZ s q.Name=some it) (h3:OH it.Node q=some n) (h4:L6 s q.Name n=some m) (h5:GH q.Want q.oP (Fh it.Node) false=200):Zu s q (m,gI.mk 200 (Fh n) m.Clock ve)
theorem aaf {s:StoreT}{q:RequestT}(hr:RqF q):Zu s q (Dc s q):=by
 have h1:=hr.lo;have h5:=hr.hi;unfold Dc;cases hg:LZ s q.Name with
 | none=>
   show Zu s q (if q.Method=2 then _ else _);split
   ·rename_i e;rcases Oo q.Want q.oP [] false with h|h|h
    ·rw[if_pos h];unfold LP;cases hp:L6 s q.Name q.Body with
     |none=>exact .no _ (by decide) (by decide) (by decide) ⟨λh=>by omega,λh=>absurd e h.2⟩
     |some m=>exact .made m e hg hp
    ·rw[if_neg (by omega),h];exact .no _ (by decide) (by decide) (by decide) ⟨λh=>by omega,λh=>absurd e h.2⟩
    ·rw[if_neg (by omega),h];exact .no _ (by decide) (by decide) (by decide) ⟨λh=>by omega,λh=>absurd e h.2⟩
   ·rename_i e;exact .no _ (by decide) (by decide) (by decide) ⟨λ_=>⟨hg,e⟩,λ_=>rfl⟩
 | some it=>
   have no:∀c:Int,c≠200->c≠201->c≠400->c≠404->Zu s q (s,ans c):=λc a b d e=>.no c a b d ⟨λh=>absurd h e,λh=>by rw[hg]at h;cases h.1⟩;show Zu s q (if GH q.Want q.oP (Fh it.Node) (q.Method==1)=200 then X7 s q it else(s,ans (GH q.Want q.oP (Fh it.Node) (q.Method==1))));rcases Oo q.Want q.oP (Fh it.Node) (q.Method==1)with h|h|h
   ·rw[if_pos h];unfold X7;split
    ·rename_i e;rw[show(q.Method==1)=true by simpa using e]at h;exact .get it e hg h
    ·split
     ·rename_i e;cases hd:LX s q.Name with
      |none=>exact no _ (by decide) (by decide) (by decide) (by decide)
      |some m=>exact .drop it m e hg hd
     ·rename_i e1 e3;rw[show(q.Method==1)=false by simpa using e1]at h;cases hn:OH it.Node q with
      |none=>exact no _ (by decide) (by decide) (by decide) (by decide)
      | some n=>
        unfold LP;cases hp:L6 s q.Name n with
        | none=>
          show Zu s q (match L6 s q.Name n with
           |some m=>(m,gI.mk 200 (Fh n) m.Clock ve)
           |none=>(s,ans 422))
          rw[hp];exact no _ (by decide) (by decide) (by decide) (by decide)
        | some m=>
          show Zu s q (match L6 s q.Name n with
           |some m=>(m,gI.mk 200 (Fh n) m.Clock ve)
           |none=>(s,ans 422))
          rw[hp];exact .put it n m (by omega) hg hn hp h
   ·rw[if_neg (by omega),h];exact no _ (by decide) (by decide) (by decide) (by decide)
   ·rw[if_neg (by omega),h];exact no _ (by decide) (by decide) (by decide) (by decide)
theorem aeG {s:StoreT}{q:RequestT}{p:StoreT×gI}(hs:Si s)(h:Zu s q p):N7 p.1=true/\Val p.2.Body=true:=by
 cases h with
 |no c=>exact⟨BN.2 hs,OX⟩
 |get it h1 h2=>exact⟨BN.2 hs,(Oy h2).2.2.2⟩
 |drop it m h1 h2 h3=>exact⟨(abW h3).2.2.2.2,OX⟩
 |made m h1 h2 h3=>exact⟨(WO h3).2.2.2.2,OX⟩
 |put it n m h1 h2 h3 h4=>exact⟨(WO h4).2.2.2.2,OX⟩
theorem Iq {t:aK}(h:G6 t=true):t.length=4:=by unfold G6 at h;simp only[ai,decide_eq_true_eq]at h;exact h.2
theorem Ir {t:aK}(h:G7 t=true):t.length<=4:=by
 unfold G7 at h;simp only[iT,beq_iff_eq]at h;rcases h with h|h
 ·rw[h];simp
 ·rw[Iq h];exact ax _
theorem AP {l:List aK}(h:Aj l=true):l.length<=4/\∀t,t∈l->G7 t=true:=by unfold Aj at h;simp only[ai,decide_eq_true_eq,aZ]at h;exact⟨h.2,h.1⟩
theorem aeX {t:aK}(h:G6 t=true):EC t=34::(t++[34]):=by
 unfold G6 at h;simp only[ai,aZ]at h;have:∀l:aK,(∀b,b∈l->okH b=true)->l.flatMap DD=l:=by
  intro l
  induction l with
  |nil=>intro _;rfl
  | cons b l ih=>
    intro hb;have h1:=hb b (bC ..);have:DD b=[b]:=by unfold DD;rw[if_neg];rintro(e|e)<;>(rw[e]at h1;exact absurd h1 (by decide))
    rw[bz,this,ih (λc hc=>hb c (dL _ hc))];rfl
 unfold EC;rw[this t h.1]
def Gq (t:aK):aK:=if t=[42]then [42]else 34::(t++[34])
def Vk (l:List aK)(i:Nat):aK:=(if 0<i then [44]else [])++Gq (l.getD i default)
def EM (l:List aK):aK:=if Aj l then(aQ 0 l.length).flatMap (Vk l)else []
theorem Vl {l:List aK}(h:Aj l=true)(i:Nat):(Vk l i).length<=7:=by
 have h1:(if 0<i then([44]:aK)else []).length<=1:=by split<;>simp
 have h2:(l.getD i default).length<=4:=by
  by_cases hi:i<l.length
  ·exact Ir ((AP h).2 _ (getD_mem default hi))
  ·rw[bu,pg (by omega)];simp;decide
 have h3:(Gq (l.getD i default)).length<=6:=by
  unfold Gq;split
  ·simp
  ·simp only[bH,au,dB];omega
 unfold Vk;rw[au];omega
theorem P8 (l:List aK):(EM l).length<=28:=by
 unfold EM;split
 ·rename_i h;have:=YX (g:=Vk l) (m:=7) l.length 0 (λj _ _=>Vl h j);have:=(AP h).1;omega
 ·simp
theorem T.gK {l:List aK}(hs:Sm l):Ev (λf=>G.gK f l) (EM l):=by
 refine Ev.up ?_;simp only[G.gK];unfold EM;refine Ev.bind (T.jk hs) (Ev.ite (λe=>?_) (λe=>Ev.ret' (by rw[e];rfl)));obtain⟨h4,ht⟩:=AP e;rw[e];have L:∀(k i:Nat) (z:aK),i+k=l.length->z.length+7*k<=1000->Ev (λf=>G.gK.L3 f l i z) (z++(aQ i k).flatMap (Vk l)):=by
  intro k
  induction k with
  | zero=>intro i z hi hz;refine Ev.up ?_;simp only[G.gK.L3];exact Ev.cf (decide_eq_false (by omega)) (Ev.bind (T.bs' (by show z.length<=_;omega)) (Ev.ret' (by simp)))
  | succ k ih=>
    intro i z hi hz;have hil:i<l.length:=(by omega);have hl:=Vl e i;have hv:=ht _ (getD_mem default hil);have h4:=Ir hv;have ez:Vk l i=(if 0<i then [44]else [])++Gq (l.getD i default):=rfl;have K:∀z':aK,z'=z++(if 0<i then [44]else [])->Ev (λf=>G.gK.K4 f l i z') (z++(aQ i (k+1)).flatMap (Vk l)):=λz' he=>by
     have e2:z'++Gq (l.getD i default)=z++Vk l i:=(by rw[he,ez,dA]);have e3:=congrArg kN e2;simp only[au]at e3;have hn:=ih (i+1) (z'++Gq (l.getD i default)) (by omega) (by rw[e2,au];omega);refine Ev.up ?_;simp only[G.gK.K4,ah,dF (show i+1<9223372036854775808 by omega)];have fin:(z'++Gq (l.getD i default))++(aQ (i+1) k).flatMap (Vk l)=z++(aQ i (k+1)).flatMap (Vk l):=(by rw[e2,kH,bz,dA]);rw[<- fin];refine Ev.ite (λc=>?_) (λc=>?_)
     ·have c':l.getD i default=[42]:=(by simpa using c);have:Gq (l.getD i default)=l.getD i default:=(by unfold Gq;rw[if_pos c',c']);rw[this]at hn e3⊢;exact Ev.bind (T.ws (by show z'.length+_<=_;omega)) hn
     ·have c':¬l.getD i default=[42]:=(by simpa using c);have hsv:G6 (l.getD i default)=true:=by
       unfold G7 at hv;simp only[iT,beq_iff_eq]at hv;exact hv.resolve_left c'
      have:Gq (l.getD i default)=EC (l.getD i default):=(by unfold Gq;rw[if_neg c',aeX hsv]);rw[this]at hn e3⊢;exact Ev.bind (T.gW (by omega)) hn
    refine Ev.up ?_;simp only[G.gK.L3];refine Ev.ct (decide_eq_true (by omega)) (Ev.chk (by omega) ?_);by_cases h0:0<i
    ·exact Ev.ct (decide_eq_true (by omega)) (Ev.bind (EF 44 (by omega)) (K _ (by rw[if_pos h0])))
    ·exact Ev.cf (decide_eq_false (by omega)) (K _ (by rw[if_neg h0,bM]))
 exact(L l.length 0 [] (by omega) (by simp;omega)).eq (by simp)
theorem T.fO {l:List aK}(hs:Sm l):Ev (λf=>G.fO f l) (EM l):=by
 have hM:=maxL;refine Ev.up ?_;simp only[G.fO];unfold EM;refine Ev.bind (T.iy hs) (Ev.ite (λe=>?_) (λe=>Ev.ret' (by rw[e];rfl)));obtain⟨h4,ht⟩:=AP e;rw[e];have L:∀(k i:Nat) (z:aK),i+k=l.length->z.length+7*k<=1000->Ev (λf=>G.fO.L3 f l z i) (z++(aQ i k).flatMap (Vk l)):=by
  intro k
  induction k with
  | zero=>intro i z hi hz;refine Ev.up ?_;simp only[G.fO.L3];exact Ev.cf (decide_eq_false (by omega)) (Ev.ret' (by simp))
  | succ k ih=>
    intro i z hi hz;have hil:i<l.length:=(by omega);have hl:=Vl e i;have h4:=Ir (ht _ (getD_mem default hil));have ez:Vk l i=(if 0<i then [44]else [])++Gq (l.getD i default):=rfl;have K:∀z':aK,z'=z++(if 0<i then [44]else [])->Ev (λf=>G.fO.K4 f l i z') (z++(aQ i (k+1)).flatMap (Vk l)):=λz' he=>by
     have e2:z'++Gq (l.getD i default)=z++Vk l i:=(by rw[he,ez,dA]);have e3:=congrArg kN e2;simp only[au]at e3;have hn:=ih (i+1) (z'++Gq (l.getD i default)) (by omega) (by rw[e2,au];omega);refine Ev.up ?_;simp only[G.fO.K4,ah,dF (show i+1<9223372036854775808 by omega)];have fin:(z'++Gq (l.getD i default))++(aQ (i+1) k).flatMap (Vk l)=z++(aQ i (k+1)).flatMap (Vk l):=(by rw[e2,kH,bz,dA]);rw[<- fin];refine Ev.chk (by omega) (Ev.ite (λc=>?_) (λc=>?_))
     ·have c':l.getD i default=[42]:=(by simpa using c);have:Gq (l.getD i default)=[42]:=(by unfold Gq;rw[if_pos c']);rw[this]at hn e3⊢;simp only[bF]at e3;exact Ev.chk (by omega) hn
     ·have c':¬l.getD i default=[42]:=(by simpa using c);have:Gq (l.getD i default)=34::(l.getD i default++[34]):=(by unfold Gq;rw[if_neg c']);rw[this]at hn e3⊢;simp only[bH,au,dB]at e3;refine Ev.chk (by omega) (Ev.chk (by omega) (Ev.chk (by omega) (Ev.chk (by omega) ?_)));simpa using hn
    refine Ev.up ?_;simp only[G.fO.L3];refine Ev.ct (decide_eq_true (by omega)) ?_;by_cases h0:0<i
    ·exact Ev.ct (decide_eq_true (by omega)) (Ev.chk (by omega) (K _ (by rw[if_pos h0])))
    ·exact Ev.cf (decide_eq_false (by omega)) (K _ (by rw[if_neg h0,bM]))
 exact(L l.length 0 [] (by omega) (by simp;omega)).eq (by simp)
def Hr (s:aK):aj:=aj.mk 2 0 s [] []
def FH (p:List aK):aj:=aj.mk 3 0 [] [] (p.map Hr)
def Hl : List aK:=[[],[97,100,100],[114,101,109,111,118,101],[114,101,112,108,97,99,101],[109,111,118,101],[99,111,112,121],[116,101,115,116]]
def Q3 : List aK:=[[102,114,111,109],[111,112],[112,97,116,104],[118,97,108,117,101]]
def II (o:oz):aj:=aj.mk 4 0 [] Q3 [FH o.From,Hr (Hl.getD o.Kind.toNat default),FH o.Path,o.Value]
theorem Xi {s:aK}(h:s.length<=12):Fine 12 2 (Hr s):=⟨h,aO _,(λs h=>by cases h),aO _,(λh=>by cases h),(λk h=>by cases h)⟩
theorem WY {p:List aK}(h:PP p=true):Fine 12 3 (FH p):=by
 have hp:=vV h;refine⟨by simp[FH],by simp[FH],(λs h=>by cases h),?_,(λh=>by cases h),λk hk=>?_⟩
 ·show(p.map Hr).length<=12;rw[iE];exact hp.1
 ·obtain⟨s,hs,rfl⟩:=pI.1 (show k∈p.map Hr from hk);exact Xi (hp.2 s hs)
theorem UT {o:oz}(h:JX o):o.Kind=1\/o.Kind=2\/o.Kind=3\/o.Kind=4\/o.Kind=5\/o.Kind=6:=by have:=h.k1;have:=h.k6;omega
theorem WE {o:oz}(h:KG o=true):Fine 12 6 (II o):=by
 have hf:=vO h;refine⟨by simp[II],by simp[II,Q3],?_,by simp[II],λ_=>by simp[II,Q3],λk hk=>?_⟩
 ·intro s hs;simp[II,Q3]at hs;rcases hs with rfl|rfl|rfl|rfl<;>simp
 ·have hk:k∈[FH o.From,Hr (Hl.getD o.Kind.toNat default),FH o.Path,o.Value]:=hk;simp only[cu,uT,or_false]at hk;rcases hk with rfl|rfl|rfl|rfl
  ·exact(WY hf.from_).mono (ax _) (by decide)
  ·refine(Xi ?_).mono (ax _) (by decide);rcases UT hf with e|e|e|e|e|e<;>rw[e]<;>decide
  ·exact(WY hf.path).mono (ax _) (by decide)
  ·exact nZ hf.val
theorem T.ahc {p:List aK}(h:p.length<=1000):Ev (λf=>G.kS f p) (FH p):=by
 have L:∀(k i:Nat) (z:List aj),i+k=p.length->z.length<=i->Ev (λf=>G.kS.L1 f p i z) (aj.mk 3 0 [] [] (z++(p.drop i).map Hr)):=by
  intro k
  induction k with
  | zero=>intro i z hi hz;refine Ev.up ?_;simp only[G.kS.L1];exact Ev.cf (decide_eq_false (by omega)) (Ev.ret' (by rw[ak (by omega)];simp))
  | succ k ih=>intro i z hi hz;have hn:=ih (i+1) (z++[Hr (p.getD i default)]) (by omega) (by simp;omega);refine Ev.up ?_;simp only[G.kS.L1,ah,dF (show i+1<9223372036854775808 by omega)];refine Ev.ct (decide_eq_true (by omega)) (Ev.chk (by omega) (Ev.chk (by omega) (hn.eq ?_)));rw[dP default (by omega:i<p.length),dA];rfl
 refine Ev.up ?_;simp only[G.kS];exact(L p.length 0 [] (by omega) (by simp)).eq (by simp[FH])
theorem T.ahd {p:List aK}(h:p.length<=1000):Ev (λf=>G.rq f p) (FH p):=by
 have W:∀s:aK,Ev (λf=>G.xM f s) (Hr s):=λs=>by refine Ev.up ?_;simp only[G.xM];exact Ev.ret _
 have L:∀(k i:Nat) (z:List aj),i+k=p.length->z.length<=i->Ev (λf=>G.rq.L1 f p i z) (aj.mk 3 0 [] [] (z++(p.drop i).map Hr)):=by
  intro k
  induction k with
  | zero=>intro i z hi hz;refine Ev.up ?_;simp only[G.rq.L1];exact Ev.cf (decide_eq_false (by omega)) (Ev.ret' (by rw[ak (by omega)];simp))
  | succ k ih=>intro i z hi hz;have hn:=ih (i+1) (z++[Hr (p.getD i default)]) (by omega) (by simp;omega);refine Ev.up ?_;simp only[G.rq.L1,ah,dF (show i+1<9223372036854775808 by omega)];refine Ev.ct (decide_eq_true (by omega)) (Ev.chk (by omega) (Ev.bind (W _) (Ev.chk (by omega) (hn.eq ?_))));rw[dP default (by omega:i<p.length),dA];rfl
 refine Ev.up ?_;simp only[G.rq];exact(L p.length 0 [] (by omega) (by simp)).eq (by simp[FH])
theorem T.qJ {o:oz}(h:KG o=true):Ev (λf=>G.qJ f o) (II o):=by
 have hf:=vO h;have h1:=(vV hf.from_).1;have h2:=(vV hf.path).1;have k1:=hf.k1;have k6:=hf.k6;refine Ev.up ?_;simp only[G.qJ];refine Ev.bind (T.ahd (by omega)) (Ev.bind (a:=Hl) (Ev.up ?_) (Ev.chk (by show 0<=o.Kind/\o.Kind<((7:Nat):Int);omega) (Ev.bind (a:=Hr (Hl.getD o.Kind.toNat default)) (Ev.up ?_) (Ev.bind (T.ahd (by omega)) (Ev.bind (T.aY BU (nZ hf.val)) (Ev.ret _))))))
 ·simp only[G.uO];exact Ev.ret _
 ·simp only[G.xM];exact Ev.ret _
theorem T.tq {o:oz}(hfo:∃D,O1 60 D o):Ev (λf=>G.tq f o) (oQ (if KG o then(some (II o)).filter Val else none)):=by
 obtain⟨D,hD⟩:=hfo;refine Ev.up ?_;simp only[G.tq];refine Ev.bind (T.rW zQ hD) (Ev.ite (λe=>?_) (λe=>Ev.ret' (by rw[e];rfl)));have hf:=vO e;have h1:=(vV hf.from_).1;have h2:=(vV hf.path).1;have hw:Ev (λf=>G.uD f o.Kind) (Hl.getD o.Kind.toNat default):=by refine Ev.up ?_;simp only[G.uD];rcases UT hf with e|e|e|e|e|e<;>rw[e]<;>exact evd
 have gc:=T.ni (o:=some (II o)) BU (λm hm=>by cases hm;exact WE e);rw[e];exact Ev.bind (T.ahc (by omega)) (Ev.bind hw (Ev.bind (T.ahc (by omega)) (Ev.bind (T.aP BU (nZ hf.val)) (Ev.bind gc (Ev.ret _)))))
section
def opP (o:oz):aK:=nX 5 (II o)++[59]
def okO (l:List oz):Bool:=l.all λo=>Val (II o)
def opsT (l:List oz):aK:=l.flatMap opP
theorem aeU {o:oz}(h:Val (II o)=true):(opP o).length<=4000001:=by unfold opP;have:=fmt5 h;rw[au,bF];omega
theorem Q7 {l:List oz}(h:FM l=true):l.length<=12/\∀o,o∈l->KG o=true:=by unfold FM at h;simp only[ai,decide_eq_true_eq,aZ]at h;exact⟨h.2,h.1⟩
theorem T.kQ {l:List oz}(hl:KE l)(h:FM l=true):Ev (λf=>G.kQ f l) (if okO l then(opsT l,true)else([],false)):=by
 obtain⟨h12,hv⟩:=Q7 h;have L:∀(k i:Nat) (z:aK),i+k=l.length->z.length+4000001*k<=60000000->Ev (λf=>G.kQ.L1 f l i z) (if okO (l.drop i)then(z++opsT (l.drop i),true)else([],false)):=by
  intro k
  induction k with
  | zero=>intro i z hi hz;refine Ev.up ?_;simp only[G.kQ.L1];rw[ak (by omega)];exact Ev.cf (decide_eq_false (by omega)) (Ev.bind (T.bs' (by show z.length<=_;omega)) (Ev.ret' (by simp[okO,opsT])))
  | succ k ih=>
    intro i z hi hz;have hil:i<l.length:=(by omega);have hm:=getD_mem default hil;have hov:=hv _ hm;have hO:=T.tq (o:=l.getD i default) (hl.2 _ hm);rw[hov]at hO;rw[dP default hil];refine Ev.up ?_;simp only[G.kQ.L1,ah,oz.eta,dF (show i+1<9223372036854775808 by omega)];refine Ev.ct (decide_eq_true (by omega)) (Ev.chk (by omega) (Ev.bind hO ?_));cases hn:Val (II (l.getD i default))with
    | false=>have e:okO (l.getD i default::l.drop (i+1))=false:=(by unfold okO;rw[dI,hn];rfl);rw[e];simp only[oN,hn,if_true,if_false,Bool.false_eq_true];exact Ev.cf rfl (Ev.ret _)
    | true=>have e:okO (l.getD i default::l.drop (i+1))=okO (l.drop (i+1)):=(by unfold okO;rw[dI,hn];rfl);have hf:=fmt5 hn;rw[e];simp only[oN,hn,if_true,oQ];refine Ev.ct rfl (Ev.bind (T.bV 5 (lN hn) (by omega)) (Ev.bind (EF 59 (by rw[au];omega)) ?_));refine(ih (i+1) _ (by omega) (by rw[au,au,bF];omega)).eq ?_;have:opsT (l.getD i default::l.drop (i+1))=opP (l.getD i default)++opsT (l.drop (i+1)):=(by unfold opsT;rw[bz]);rw[this];unfold opP;simp only[dA]
 refine Ev.up ?_;simp only[G.kQ];exact(L l.length 0 [] (by omega) (by simp;omega)).eq (by rw[bW,dN])
def Hq : List aK:=[[],[103,101,116],[112,117,116],[100,101,108,101,116,101],[112,97,116,99,104],[109,101,114,103,101]]
def hdT (q:RequestT):aK:=Hq.getD q.Method.toNat default++[32]++q.Name++[32]++EM q.Want++[32]++EM q.oP++[32]
def IY (q:RequestT):aK:=hdT q++(if q.Method=4 then opsT q.Ops else nX 5 q.Body)
def lean (q:RequestT):Bool:=(q.Body.Kind==0||q.Method==2||q.Method==5)&&(q.Ops.isEmpty||q.Method==4)
def yt (q:RequestT):aK:=if Pq q&&(lean q&&okO q.Ops)then IY q else []
structure RqP (q:RequestT):Prop where
 lo:1<=q.Method
 hi:q.Method<=5
 Nw:Vu q.Name=true
 want:Aj q.Want=true
 avoid:Aj q.oP=true
 body:Val q.Body=true
 ops:FM q.Ops=true
theorem U6 {q:RequestT}(h:Pq q=true):RqP q:=by unfold Pq at h;simp only[ai,decide_eq_true_eq]at h;obtain⟨⟨a,b⟩,c,d,e,f,g⟩:=h;exact⟨a,b,c,d,e,f,g⟩
theorem meth {q:RequestT}(h:RqP q):q.Method=1\/q.Method=2\/q.Method=3\/q.Method=4\/q.Method=5:=by have:=h.lo;have:=h.hi;omega
theorem Zn {q:RequestT}(h:RqP q):(Hq.getD q.Method.toNat default).length<=6:=by rcases meth h with e|e|e|e|e<;>rw[e]<;>decide
theorem NU {l:List aK}(h:Aj l=true):Sm l:=by obtain⟨h1,h2⟩:=AP h;refine⟨by unfold big;omega,λt ht=>?_⟩;have:=Ir (h2 t ht);unfold big;omega
theorem aeV {l:List oz}(h:okO l=true):(opsT l).length<=l.length*4000001:=by
 unfold okO at h
 induction l with
 |nil=>simp[opsT]
 | cons o l ih=>rw[dI,ai]at h;have h1:=aeU h.1;have h2:=ih h.2;unfold opsT at *;rw[bz,au,bH,Nat.add_mul];omega
theorem ag3 (a b c d e:aK):uf [a,b,c,d,e] [32]=a++[32]++b++[32]++c++[32]++d++[32]++e:=by simp[uf,En,Eo,List.flatten]
section
variable {q:RequestT} (hq:KF 60 q)
include hq
theorem T.aT : Ev (λf=>G.aT f q) (yt q):=by
 refine Ev.up ?_;simp only[G.aT];unfold yt;refine Ev.bind (T.lT zQ hq) (Ev.ite (λe=>?_) (λe=>Ev.ret' (by rw[e];rfl)));have hr:=U6 e;obtain⟨D,hD⟩:=hq.body;have hF:=T.jY zQ hD;have eF:TQ q.Body=nX 5 q.Body:=by unfold TQ;rw[if_pos hr.body]
 rw[eF]at hF;have h5:=fmt5 hr.body;have hn:=(JH hr.Nw).2;have hv:=Zn hr;have t1:=P8 q.Want;have t2:=P8 q.oP;have hm:Ev (λf=>G.nH f q.Method) (Hq.getD q.Method.toNat default):=by refine Ev.up ?_;simp only[G.nH];rcases meth hr with e|e|e|e|e<;>rw[e]<;>exact evd
 have hT1:=T.gK (NU hr.want);have hT2:=T.gK (NU hr.avoid);have hJ:∀c:aK,c.length<=60000000->Ev (λf=>G.strings_Join f [Hq.getD q.Method.toNat default,q.Name,EM q.Want,EM q.oP,c] [32]) (hdT q++c):=λc hc=>by refine Ev.up ?_;simp only[G.strings_Join];rw[ag3];refine Ev.chk ⟨by simp,?_⟩ (Ev.ret' rfl);simp only[au,bF];omega
 have K2:∀c:aK,c.length<=60000000->Ev (λf=>G.aT.K2 f q c) (hdT q++c)/\Ev (λf=>G.aT.K4 f q c) (hdT q++c):=λc hc=>by
  constructor<;>refine Ev.up ?_
  ·simp only[G.aT.K2];exact Ev.bind hm (Ev.bind hT1 (Ev.bind hT2 (Ev.bind (hJ c hc) (Ev.ret _))))
  ·simp only[G.aT.K4];exact Ev.bind hm (Ev.bind hT1 (Ev.bind hT2 (Ev.bind (hJ c hc) (Ev.ret _))))
 have hO:=T.kQ hq.ops hr.ops;have hol:=(Q7 hr.ops).1;have K1:(q.Ops.isEmpty||q.Method==4)=true->Ev (λf=>G.aT.K1 f q) (if okO q.Ops then IY q else [])/\Ev (λf=>G.aT.K3 f q) (if okO q.Ops then IY q else []):=λhc=>by
  unfold IY;by_cases c4:q.Method=4
  ·rw[if_pos c4];cases ho:okO q.Ops with
   | true=>
     rw[ho]at hO;have:=aeV ho;have hlen:(opsT q.Ops).length<=60000000:=by have:q.Ops.length*4000001<=12*4000001:=bG _ hol;omega
     constructor<;>refine Ev.up ?_
     ·simp only[G.aT.K1];exact Ev.bind hF (Ev.ct (by simpa using c4) (Ev.bind hO (Ev.ct rfl (K2 _ hlen).1)))
     ·simp only[G.aT.K3];exact Ev.bind hF (Ev.ct (by simpa using c4) (Ev.bind hO (Ev.ct rfl (K2 _ hlen).2)))
   | false=>
     rw[ho]at hO;constructor<;>refine Ev.up ?_
     ·simp only[G.aT.K1];exact Ev.bind hF (Ev.ct (by simpa using c4) (Ev.bind hO (Ev.cf rfl (Ev.ret _))))
     ·simp only[G.aT.K3];exact Ev.bind hF (Ev.ct (by simpa using c4) (Ev.bind hO (Ev.cf rfl (Ev.ret _))))
  ·rw[if_neg c4];have he:q.Ops=[]:=by
    have:q.Ops.isEmpty=true:=(by simpa[c4]using hc);simpa using this
   have ho:okO q.Ops=true:=(by rw[he];rfl);rw[ho];constructor<;>refine Ev.up ?_
   ·simp only[G.aT.K1];exact Ev.bind hF (Ev.cf (by simpa using c4) (K2 _ (by omega)).1)
   ·simp only[G.aT.K3];exact Ev.bind hF (Ev.cf (by simpa using c4) (K2 _ (by omega)).2)
 have eo:decide ((0:Int)<(q.Ops.length:Int)) = !q.Ops.isEmpty:=by cases q.Ops<;>simp
 rw[e];unfold lean;simp only[eo];have fin:∀b:Bool,(b&&(q.Ops.isEmpty||q.Method==4))=true->((if(true&&((b&&(q.Ops.isEmpty||q.Method==4))&&okO q.Ops))=true then IY q else [])=if okO q.Ops then IY q else []):=λb hb=>by rw[hb];simp
 have g:∀(b:Bool) (g:Nat->Option aK),b=true->((q.Ops.isEmpty||q.Method==4)=true->Ev g (if okO q.Ops then IY q else [])) ->
  Ev (λf=>cond (q.Method != 4) (cond (!q.Ops.isEmpty) (some []) (g f)) (g f)) (if(true&&((b&&(q.Ops.isEmpty||q.Method==4))&&okO q.Ops))=true then IY q else []):=λb g hb hg=>by
  subst hb;refine Ev.ite (λc4=>Ev.ite (λco=>Ev.ret' ?_) (λco=>?_)) (λc4=>?_)
  ·have h1:q.Ops.isEmpty=false:=(by simpa using co);have h2:(q.Method==4)=false:=(by simpa using c4);rw[h1,h2];rfl
  ·have h1:q.Ops.isEmpty=true:=(by simpa using co);have h2:(q.Ops.isEmpty||q.Method==4)=true:=(by rw[h1];rfl);rw[fin true (by rw[h2];rfl)];exact hg h2
  ·have h1:(q.Method==4)=true:=(by simpa using c4);have h2:(q.Ops.isEmpty||q.Method==4)=true:=(by rw[h1];simp);rw[fin true (by rw[h2];rfl)];exact hg h2
 refine Ev.ite (λc2=>g _ _ (by rw[c2];simp) (λh=>(K1 h).1)) (λc2=>Ev.ite (λc5=>g _ _ (by rw[c5];simp) (λh=>(K1 h).2)) (λc5=>Ev.ite (λc0=>Ev.ret' ?_) (λc0=>?_)))
 ·have h0:(q.Body.Kind==0)=false:=by simpa using c0
  rw[h0,c2,c5];rfl
 ·have h0:(q.Body.Kind==0)=true:=by simpa using c0
  exact g _ _ (by rw[h0];rfl) (λh=>(K1 h).2)
theorem T.dG : Ev (λf=>G.dG f q) (yt q):=by
 have hM:=maxL;refine Ev.up ?_;simp only[G.dG];unfold yt;refine Ev.bind (T.kY zQ hq) (Ev.ite (λe=>?_) (λe=>Ev.ret' (by rw[e];rfl)));have hr:=U6 e;have h5:=fmt5 hr.body;have hn:=(JH hr.Nw).2;have hv:=Zn hr;have t1:=P8 q.Want;have t2:=P8 q.oP;obtain⟨h12,hov⟩:=Q7 hr.ops;have hT1:=T.fO (NU hr.want);have hT2:=T.fO (NU hr.avoid);have lo:=hr.lo;have hi:=hr.hi;have hd:(hdT q).length<=100:=by unfold hdT;simp only[au,bF];omega
 have L1:okO q.Ops=true->∀(k i:Nat) (z:aK),i+k=q.Ops.length->z.length+4000001*k<=60000000->Ev (λf=>G.jE.L1 f q z i) (z++opsT (q.Ops.drop i)):=by
  intro ho k
  induction k with
  | zero=>intro i z hi hz;refine Ev.up ?_;simp only[G.jE.L1];rw[ak (by omega)];exact Ev.cf (decide_eq_false (by omega)) (Ev.ret' (by simp[opsT]))
  | succ k ih=>
    intro i z hi hz;have hil:i<q.Ops.length:=(by omega);have hm:=getD_mem default hil;have hn:Val (II (q.Ops.getD i default))=true:=by unfold okO at ho;exact aZ.1 ho _ hm
    have hf:=fmt5 hn;rw[dP default hil];refine Ev.up ?_;simp only[G.jE.L1,ah,oz.eta,dF (show i+1<9223372036854775808 by omega)];refine Ev.ct (decide_eq_true (by omega)) (Ev.chk (by omega) (Ev.bind (T.qJ (hov _ hm)) (Ev.bind (T.eX 5 (by omega) (lN hn)) (Ev.chk (by omega) (Ev.chk (by omega) ?_)))));refine(ih (i+1) _ (by omega) (by rw[au,au,bF];omega)).eq ?_;have:opsT (q.Ops.getD i default::q.Ops.drop (i+1))=opP (q.Ops.getD i default)++opsT (q.Ops.drop (i+1)):=(by unfold opsT;rw[bz]);rw[this];unfold opP;simp only[dA]
 have F:okO q.Ops=true->Ev (λf=>G.jE f q) (IY q):=λho=>by
  refine Ev.up ?_;simp only[G.jE];have hmn:(q.Method.toNat:Int)=q.Method:=by omega
  refine Ev.bind (a:=Hq) (Ev.up ?_) (Ev.chk (by show 0<=q.Method/\q.Method<((6:Nat):Int);omega) (Ev.chk (by omega) (Ev.chk (by omega) (Ev.chk (by omega) (Ev.bind hT1 (Ev.chk (by omega) (Ev.chk (by omega) (Ev.bind hT2 (Ev.chk (by omega) (Ev.chk (by omega) (Ev.ite (λc4=>?_) (λc4=>?_))))))))))))
  ·simp only[G.wQ];exact Ev.ret _
  ·unfold IY;rw[if_pos (by simpa using c4)];have:=bG 4000001 h12;exact(L1 ho q.Ops.length 0 (hdT q) (by omega) (by omega)).eq (by rw[bW])
  ·unfold IY;rw[if_neg (by simpa using c4)];exact Ev.bind (T.eX 5 (by omega) (lN hr.body)) (Ev.chk (by omega) (Ev.ret' rfl))
 have L2:∀(k i:Nat),i+k=q.Ops.length->okO q.Ops=okO (q.Ops.drop i)->Ev (λf=>G.dG.L2 f q i) (if okO q.Ops then IY q else []):=by
  intro k
  induction k with
  | zero=>intro i hi ho;rw[ak (by omega)]at ho;have ho:okO q.Ops=true:=ho;refine Ev.up ?_;simp only[G.dG.L2];rw[ho];exact Ev.cf (decide_eq_false (by omega)) (Ev.bind (F ho) (Ev.ret _))
  | succ k ih=>
    intro i hi ho;have hil:i<q.Ops.length:=(by omega);have hm:=getD_mem default hil;rw[dP default hil]at ho;refine Ev.up ?_;simp only[G.dG.L2,ah,oz.eta,dF (show i+1<9223372036854775808 by omega)];refine Ev.ct (decide_eq_true (by omega)) (Ev.chk (by omega) (Ev.bind (T.qJ (hov _ hm)) (Ev.bind (T.fB BU (WE (hov _ hm))) (Ev.ite (λhn=>?_) (λhn=>Ev.ret' ?_)))))
    ·refine ih (i+1) (by omega) ?_;rw[ho];unfold okO;rw[dI,hn];rfl
    ·have:okO q.Ops=false:=(by rw[ho];unfold okO;rw[dI,hn];rfl);rw[this];rfl
 have K1:Ev (λf=>G.dG.K1 f q) (if okO q.Ops then IY q else []):=by refine Ev.up ?_;simp only[G.dG.K1];exact L2 q.Ops.length 0 (by omega) (by rw[bW])
 have eo:decide ((0:Int)<(q.Ops.length:Int)) = !q.Ops.isEmpty:=by cases q.Ops<;>simp
 have e2:(q.Method != 2) = !(q.Method==2):=rfl;have e5:(q.Method != 5) = !(q.Method==5):=rfl;have e4:(q.Method != 4) = !(q.Method==4):=rfl;have e0:(q.Body.Kind != 0) = !(q.Body.Kind==0):=rfl;rw[e];unfold lean;simp only[eo,e2,e5,e4,e0];clear L1 F L2 eo e2 e5 e4 e0;generalize (q.Body.Kind==0)=b0;generalize (q.Method==2)=b2;generalize (q.Method==5)=b5;generalize (q.Method==4)=b4;generalize q.Ops.isEmpty=bo;cases b0<;>cases b2<;>cases b5<;>cases b4<;>cases bo<;>exact evd
end
end
theorem ReaderT.eta' (r:ReaderT):ReaderT.mk r.b r.p=r:=rfl
def mx : Nat:=9223372036854775807
theorem RX {x:Int}(h0 : -9223372036854775808<=x)(h1:x<9223372036854775808):af .i64 x=x:=by simp only[af,Go.IntKind.bits,Go.IntKind.signed];simp;omega
structure Jf (B D:Nat)(o:oz):Prop where
 path:o.Path.length<=B/\∀s,s∈o.Path->s.length<=B
 from_:o.From.length<=B/\∀s,s∈o.From->s.length<=B
 val:wE B D o.Value
theorem Jf.mono {B D D':Nat}{o:oz}(h:Jf B D o)(hD:D<=D'):Jf B D' o:=⟨h.path,h.from_,h.val.mono (ax _) hD⟩
theorem Jf.all {B:Nat} : ∀{l:List oz} (D:Nat),(∀o,o∈l->∃D,Jf B D o)->∃D',D<=D'/\∀o,o∈l->Jf B D' o
 |[],D,_=>⟨D,ax _,λo h=>by cases h⟩
 | o::l,D,h=>by
   obtain⟨d,hd⟩:=h o (bC ..);obtain⟨D',h1,h2⟩:=Jf.all (l:=l) (max D d) (λo ho=>h o (dL _ ho));refine⟨D',by omega,λx hx=>?_⟩;rcases cu.1 hx with e|e
   ·rw[e];exact hd.mono (by omega)
   ·exact h2 x e
theorem aeN : 1048576<=lim:=by decide
def LY (l:List oz):Prop:=l.length<=1048576/\∀o,o∈l->∃D,Jf 1048576 D o
theorem T0.oh {B D:Nat}{o:oz}(hB:B<=lim)(h:Jf B D o):Ev (λf=>G.oh f o) (KG o):=by refine Ev.up ?_;simp only[G.oh];unfold KG;refine Ev.bind (T.fZ _ _ _) (Ev.ite (λe1=>?_) (λe1=>Ev.ret' (by rw[e1];rfl)));refine Ev.bind (T.jB _ (WM hB h.path.1 h.path.2)) (Ev.ite (λe2=>?_) (λe2=>Ev.ret' (by rw[e1,e2];rfl)));refine Ev.bind (T.jB _ (WM hB h.from_.1 h.from_.2)) (Ev.ite (λe3=>?_) (λe3=>Ev.ret' (by rw[e1,e2,e3];rfl)));exact Ev.bind (T0.fB hB h.val) (Ev.ret' (by rw[e1,e2,e3];rfl))
theorem T0.rW {B D:Nat}{o:oz}(hB:B<=lim)(h:Jf B D o):Ev (λf=>G.rW f o) (KG o):=by refine Ev.up ?_;simp only[G.rW];unfold KG;refine Ev.ite (λe0=>?_) (λe0=>Ev.ret' (by rw[e0];rfl));refine Ev.ite (λe1=>?_) (λe1=>Ev.ret' (by rw[e0,e1];rfl));refine Ev.bind (T.iQ _ (WM hB h.path.1 h.path.2)) (Ev.ite (λe2=>?_) (λe2=>Ev.ret' (by rw[e0,e1,e2];rfl)));refine Ev.bind (T.iQ _ (WM hB h.from_.1 h.from_.2)) (Ev.ite (λe3=>?_) (λe3=>Ev.ret' (by rw[e0,e1,e2,e3];rfl)));exact Ev.bind (T0.aX hB h.val) (Ev.ret' (by rw[e0,e1,e2,e3];rfl))
theorem T0.fH.L1 {l:List oz}(h:LY l):∀(k i:Nat),i+k=l.length->Ev (λf=>G.fH.L1 f l i) ((l.drop i).all KG):=by
 obtain⟨hl,ho⟩:=h;intro k
 induction k with
 | zero=>intro i hi;refine Ev.up ?_;simp only[G.fH.L1];refine Ev.cf (by simp;omega) (Ev.ret' ?_);rw[ak (by omega)];rfl
 | succ k ih=>
   intro i hi;have hlt:i<l.length:=(by omega);refine Ev.up ?_;simp only[G.fH.L1,ah,oz.eta,dF (show i+1<9223372036854775808 by omega)];obtain⟨E,hf⟩:=ho _ (getD_mem default hlt);refine Ev.ct (by simpa using hlt) (Ev.chk (by omega) (Ev.bind (T0.rW aeN hf) ?_));rw[dP (default:oz) hlt,dI];refine Ev.ite (λe=>?_) (λe=>?_)
   ·rw[e,bU];exact ih (i+1) (by omega)
   ·rw[e,uH];exact Ev.ret _
theorem T0.fH {l:List oz}(h:LY l):Ev (λf=>G.fH f l) (FM l):=by
 refine Ev.up ?_;simp only[G.fH];have hL:=T0.fH.L1 h l.length 0 (by omega);unfold FM;refine Ev.ite (λe=>Ev.ret' ?_) (λe=>?_)
 ·have:¬l.length<=12:=by simp at e;omega
  simp[this]
 ·have:l.length<=12:=by simp at e;omega
  simp only[this,decide_true,oJ];exact hL
theorem T0.gG.L1 {l:List oz}(h:LY l):∀(k i:Nat),i+k=l.length->Ev (λf=>G.gG.L1 f l i) ((l.drop i).all KG&&decide (l.length<=12)):=by
 obtain⟨hl,ho⟩:=h;intro k
 induction k with
 | zero=>intro i hi;refine Ev.up ?_;simp only[G.gG.L1];refine Ev.cf (by simp;omega) (Ev.ret' ?_);rw[ak (by omega),vM,bU];simp;omega
 | succ k ih=>
   intro i hi;have hlt:i<l.length:=(by omega);refine Ev.up ?_;simp only[G.gG.L1,ah,oz.eta,dF (show i+1<9223372036854775808 by omega)];obtain⟨E,hf⟩:=ho _ (getD_mem default hlt);refine Ev.ct (by simpa using hlt) (Ev.chk (by omega) (Ev.bind (T0.oh aeN hf) ?_));rw[dP (default:oz) hlt,dI];refine Ev.ite (λe=>?_) (λe=>?_)
   ·rw[e,bU];exact ih (i+1) (by omega)
   ·rw[e,uH];exact Ev.ret _
theorem T0.gG {l:List oz}(h:LY l):Ev (λf=>G.gG f l) (FM l):=by refine Ev.up ?_;simp only[G.gG];exact T0.gG.L1 h l.length 0 (by omega)
section
def afB (B:Nat)(n:aj):Prop:=∃D,wE B D n
structure afC (B:Nat)(s:StoreT):Prop where
 len:s.Items.length<=B
 Nw:∀it,it∈s.Items->it.Name.length<=B
 nod:∀it,it∈s.Items->afB B it.Node
structure abv (B:Nat)(q:RequestT):Prop where
 Nw:q.Name.length<=B
 want:xC B q.Want
 avoid:xC B q.oP
 body:afB B q.Body
 ops:LY q.Ops
theorem afC.at_ {B:Nat}{s:StoreT}(h:afC B s){i:Nat}(hi:i<s.Items.length):(s.Items.getD i default).Name.length<=B/\afB B (s.Items.getD i default).Node:=
 ⟨h.Nw _ (getD_mem default hi),h.nod _ (getD_mem default hi)⟩
section
variable {B:Nat} {s:StoreT} (hB:B<=lim) (h:afC B s)
include hB h
theorem T0.iw.L1 : ∀(k i:Nat),i+k=s.Items.length->Ev (λf=>G.iw.L1 f s i) (((s.Items.drop i).all (LV s.Clock)&&Asc ((uZ s.Items).drop (i-1)))&&(decide (s.Items.length<=10)&&(decide (0<=s.Clock)&&decide (s.Clock<=999)))):=by
 have hl:=h.len;unfold lim at hB;intro k
 induction k with
 | zero=>
   intro i hi;refine Ev.up ?_;simp only[G.iw.L1];rw[ak (by omega),PS (by rw[yN];omega)];refine Ev.cf (decide_eq_false (by omega)) (Ev.ite (λe=>?_) (λe=>Ev.ret' ?_))
   ·refine Ev.bind (T.fZ _ _ _) (Ev.ret' ?_);rw[decide_eq_true (show s.Items.length<=10 by simp only[decide_eq_true_eq]at e;omega)];simp
   ·rw[decide_eq_false (show ¬s.Items.length<=10 by simp only[decide_eq_false_iff_not]at e;omega)];simp
 | succ k ih=>
   intro i hi;have hil:i<s.Items.length:=(by omega);obtain⟨hn,⟨D,hd⟩⟩:=h.at_ hil;refine Ev.up ?_;simp only[G.iw.L1,ah,dF (show i+1<9223372036854775808 by omega)];rw[dP (default:bI) hil,dI];refine Ev.ct (decide_eq_true (by omega)) (Ev.chk (by omega) ?_);unfold LV;refine Ev.bind (T.jc _ (by unfold big;omega)) (Ev.ite (λe1=>?_) (λe1=>Ev.ret' (by rw[e1];simp)));refine Ev.bind (T0.fB (by unfold lim;omega) hd) (Ev.ite (λe2=>?_) (λe2=>Ev.ret' (by rw[e2];simp)));refine Ev.bind (T.fZ _ _ _) (Ev.ite (λe3=>?_) (λe3=>Ev.ret' (by rw[e3];simp)));rw[e1,e2,e3];have ih':=ih (i+1) (by omega);unfold LV at ih';rw[jo]at ih';by_cases h0:0<i
   ·have e:af .i64 ((i:Int)-1)=((i-1:Nat):Int):=wrapN (by omega) (by omega);rw[e,ah];rw[Me h0 (by rw[yN];exact hil),Ey hil,Ey (by omega:i-1<s.Items.length)];refine Ev.ct (decide_eq_true (by omega)) (Ev.chk (by omega) (Ev.ite (λh1=>Ev.ret' ?_) (λh1=>Ev.ite (λh2=>Ev.ret' ?_) (λh2=>?_))))
    ·rw[show bl (s.Items.getD (i-1) default).Name (s.Items.getD i default).Name=false from MB h1];simp
    ·rw[beq_iff_eq]at h2;rw[show bl (s.Items.getD (i-1) default).Name (s.Items.getD i default).Name=false by rw[h2];exact KY _];simp
    ·have hb:bl (s.Items.getD (i-1) default).Name (s.Items.getD i default).Name=true:=by
      cases hb:bl (s.Items.getD (i-1) default).Name (s.Items.getD i default).Name with
      |true=>rfl
      |false=>rw[Js h1 hb]at h2;simp at h2
     rw[hb];exact ih'.eq (by simp)
   ·have:i=0:=(by omega);subst this;exact Ev.cf (by decide) (ih'.eq (by simp))
theorem T0.iw : Ev (λf=>G.iw f s) (N7 s):=by refine Ev.up ?_;simp only[G.iw];exact T0.iw.L1 hB h s.Items.length 0 (by omega)
theorem T0.dw.L1 : ∀(k i:Nat),i+k=s.Items.length->Ev (λf=>G.dw.L1 f s i) ((s.Items.drop i).all (LV s.Clock)&&Asc ((uZ s.Items).drop (i-1))):=by
 have hl:=h.len;unfold lim at hB;intro k
 induction k with
 | zero=>intro i hi;refine Ev.up ?_;simp only[G.dw.L1];rw[ak (by omega),PS (by rw[yN];omega)];exact Ev.cf (decide_eq_false (by omega)) (Ev.ret _)
 | succ k ih=>
   intro i hi;have hil:i<s.Items.length:=(by omega);obtain⟨hn,⟨D,hd⟩⟩:=h.at_ hil;refine Ev.up ?_;simp only[G.dw.L1,ah,dF (show i+1<9223372036854775808 by omega)];rw[dP (default:bI) hil,dI];have ih':=ih (i+1) (by omega);rw[jo]at ih';refine Ev.ct (decide_eq_true (by omega)) (Ev.chk (by omega) ?_);refine Ev.bind (T.jV _ (by unfold big;omega)) (Ev.ite (λe1=>?_) (λe1=>Ev.ret' (by unfold LV;rw[e1];simp)));have tail:∀q:Bool,(q=true->Asc ((uZ s.Items).drop (i-1))=Asc ((uZ s.Items).drop i))->q=true->Ev (λf=>cond (decide ((s.Items.getD i default).Version<1)) (some false) (cond (decide (s.Clock<(s.Items.getD i default).Version)) (some false)
    (iM (G.aX f (s.Items.getD i default).Node) λv=>cond v (G.dw.L1 f s ((i+1:Nat):Int)) (some false)))) (LV s.Clock (s.Items.getD i default)&&(s.Items.drop (i+1)).all (LV s.Clock)&&Asc ((uZ s.Items).drop (i-1))):=λq hq hq'=>by
    rw[hq hq'];refine Ev.ite (λv1=>Ev.ret' ?_) (λv1=>Ev.ite (λv2=>Ev.ret' ?_) (λv2=>?_))
    ·simp only[decide_eq_true_eq]at v1;unfold LV;rw[decide_eq_false (show ¬ 1<=(s.Items.getD i default).Version by omega)];simp
    ·simp only[decide_eq_true_eq]at v2;unfold LV;rw[decide_eq_false (show ¬(s.Items.getD i default).Version<=s.Clock by omega)];simp
    ·simp only[decide_eq_false_iff_not]at v1 v2;refine Ev.bind (T0.aX (by unfold lim;omega) hd) (Ev.ite (λe2=>?_) (λe2=>Ev.ret' (by unfold LV;rw[e2];simp)));refine ih'.eq ?_;have:LV s.Clock (s.Items.getD i default)=true:=by
      unfold LV;rw[e1,e2,decide_eq_true (show 1<=(s.Items.getD i default).Version by omega),decide_eq_true (show(s.Items.getD i default).Version<=s.Clock by omega)];rfl
     rw[this];rfl
   by_cases h0:0<i
   ·have e:af .i64 ((i:Int)-1)=((i-1:Nat):Int):=wrapN (by omega) (by omega);rw[e,ah];have hst:=Me h0 (l:=uZ s.Items) (by rw[yN];exact hil);rw[Ey hil,Ey (by omega:i-1<s.Items.length)]at hst;refine Ev.ct (decide_eq_true (by omega)) (Ev.chk (by omega) (Ev.ite (λh1=>?_) (λh1=>Ev.ret' ?_)))
    ·exact tail true (λ_=>by rw[hst,show bl (s.Items.getD (i-1) default).Name (s.Items.getD i default).Name=true from h1];rfl) rfl
    ·rw[hst,show bl (s.Items.getD (i-1) default).Name (s.Items.getD i default).Name=false from h1];simp
   ·have:i=0:=(by omega);subst this;exact Ev.cf (by decide) (tail true (λ_=>rfl) rfl)
theorem T0.dw : Ev (λf=>G.dw f s) (N7 s):=by
 refine Ev.up ?_;simp only[G.dw];unfold N7;refine Ev.ite (λe=>Ev.ret' ?_) (λe=>Ev.ite (λe2=>Ev.ret' ?_) (λe2=>Ev.ite (λe3=>Ev.ret' ?_) (λe3=>?_)))
 ·rw[decide_eq_false (show ¬s.Items.length<=10 by simp only[decide_eq_true_eq]at e;omega)];simp
 ·rw[decide_eq_false (show ¬ 0<=s.Clock by simp only[decide_eq_true_eq]at e2;omega)];simp
 ·rw[decide_eq_false (show ¬s.Clock<=999 by simp only[decide_eq_true_eq]at e3;omega)];simp
 ·simp only[decide_eq_false_iff_not]at e e2 e3;refine(T0.dw.L1 hB h s.Items.length 0 (by omega)).eq ?_;rw[decide_eq_true (show s.Items.length<=10 by omega),decide_eq_true (show 0<=s.Clock by omega),decide_eq_true (show s.Clock<=999 by omega),bW];simp
end
section
variable {B:Nat} {q:RequestT} (hB:B<=lim) (h:abv B q)
include hB h
theorem T0.kY : Ev (λf=>G.kY f q) (Pq q):=by obtain⟨E,hb⟩:=h.body;have hn:=h.Nw;unfold lim at hB;refine Ev.up ?_;simp only[G.kY];unfold Pq;refine Ev.bind (T.fZ _ _ _) (Ev.ite (λe1=>?_) (λe1=>Ev.ret' (by rw[e1];rfl)));refine Ev.bind (T.jc _ (by unfold big;omega)) (Ev.ite (λe2=>?_) (λe2=>Ev.ret' (by rw[e1,e2];rfl)));refine Ev.bind (T.iy (h.want.sm (by unfold lim;omega))) (Ev.ite (λe3=>?_) (λe3=>Ev.ret' (by rw[e1,e2,e3];rfl)));refine Ev.bind (T.iy (h.avoid.sm (by unfold lim;omega))) (Ev.ite (λe4=>?_) (λe4=>Ev.ret' (by rw[e1,e2,e3,e4];rfl)));refine Ev.bind (T0.fB (by unfold lim;omega) hb) (Ev.ite (λe5=>?_) (λe5=>Ev.ret' (by rw[e1,e2,e3,e4,e5];rfl)));exact Ev.bind (T0.gG h.ops) (Ev.ret' (by rw[e1,e2,e3,e4,e5];rfl))
theorem T0.lT : Ev (λf=>G.lT f q) (Pq q):=by obtain⟨E,hb⟩:=h.body;have hn:=h.Nw;unfold lim at hB;refine Ev.up ?_;simp only[G.lT];unfold Pq;refine Ev.ite (λe0=>?_) (λe0=>Ev.ret' (by rw[e0];rfl));refine Ev.ite (λe1=>?_) (λe1=>Ev.ret' (by rw[e0,e1];rfl));refine Ev.bind (T.jV _ (by unfold big;omega)) (Ev.ite (λe2=>?_) (λe2=>Ev.ret' (by rw[e0,e1,e2];rfl)));refine Ev.bind (T.jk (h.want.sm (by unfold lim;omega))) (Ev.ite (λe3=>?_) (λe3=>Ev.ret' (by rw[e0,e1,e2,e3];rfl)));refine Ev.bind (T.jk (h.avoid.sm (by unfold lim;omega))) (Ev.ite (λe4=>?_) (λe4=>Ev.ret' (by rw[e0,e1,e2,e3,e4];rfl)));refine Ev.bind (T0.aX (by unfold lim;omega) hb) (Ev.ite (λe5=>?_) (λe5=>Ev.ret' (by rw[e0,e1,e2,e3,e4,e5];rfl)));exact Ev.bind (T0.fH h.ops) (Ev.ret' (by rw[e0,e1,e2,e3,e4,e5];rfl))
end
end
structure At (s:aK)(a:Nat):Prop where
 le:a<=s.length
 len:s.length<=1000000
theorem X9 {s p:aK} : iW s p=true<->p <+: s:=by unfold iW;exact List.isPrefixOf_iff_prefix
theorem Lh (p r:aK):iW (p++r) p=true:=X9.2 (List.prefix_append p r)
theorem T.hasPrefix (s p:aK):Ev (λf=>G.strings_HasPrefix f s p) (iW s p):=by refine Ev.up ?_;simp only[G.strings_HasPrefix];exact Ev.ret _
def YE (s:aK)(a:Nat)(p:aK):Bool×bn:=if iW (s.drop a) p then(true,bn.mk s ((a+p.length:Nat):Int))else(false,bn.mk s (a:Int))
theorem JA {s p:aK}{a:Nat}(ha:a<=s.length)(h:iW (s.drop a) p=true):a+p.length<=s.length:=by have:=(X9.1 h).length_le;rw[fE]at this;omega
theorem T.take {s p:aK}{a:Nat}(h:At s a):Ev (λf=>G.iL f (bn.mk s (a:Int)) p) (YE s a p):=by
 have h1:=h.le;have h2:=h.len;refine Ev.up ?_;simp only[G.iL,ah];unfold YE;refine Ev.chk ⟨by omega,by omega,by omega⟩ (Ev.bind (T.hasPrefix _ _) (Ev.ite (λe=>?_) (λe=>?_)))
 ·rw[if_pos e];have:=JA h1 e;exact Ev.ret' (by rw[wrapN (m:=a+p.length) (by omega) (by omega)])
 ·rw[if_neg (by rw[e];simp)];exact Ev.ret _
theorem drop_tail {s x r:aK}{a:Nat}(h:s.drop a=x++r):s.drop (a+x.length)=r:=by rw[<- List.drop_drop,h,EW]
theorem YT {s x r:aK}{a:Nat}(ha:a<=s.length)(h:s.drop a=x++r):a+x.length<=s.length:=by have:=congrArg kN h;rw[fE,au]at this;omega
theorem x9 {s r:aK}{a:Nat}{b:UInt8}(h:s.drop a=b::r):a<s.length/\s.getD a 0=b/\s.drop (a+1)=r:=by
 have hl:a<s.length:=by have:=congrArg kN h;rw[fE,bH]at this;omega
 refine⟨hl,?_,?_⟩
 ·rw[dP (0:UInt8) hl]at h;exact(kW h).1
 ·rw[dP (0:UInt8) hl]at h;exact(kW h).2
theorem zh (b:UInt8)(c:UInt8):(((b.toNat:Int))==(c.toNat:Int))=(b==c):=by rw[pU,beq_iff_eq,beq_iff_eq];exact⟨λh=>oq.1 (by omega),λh=>by rw[h]⟩
theorem Ub (b:UInt8)(c:UInt8):(((b.toNat:Int)) != (c.toNat:Int)) = !(b==c):=by show(!(((b.toNat:Int))==(c.toNat:Int)))=_;rw[zh]
structure RdQ (s:aK)(a:Nat)(v:aK×Bool×bn):Prop where
 pos:∃b:Nat,v.2.2=bn.mk s (b:Int)/\a<=b/\b<=s.length/\(v.2.1=true->a<b)
 len:v.1.length<=s.length
 all:∀t r,s.drop a=EC t++r->v=(t,true,bn.mk s ((a+(EC t).length:Nat):Int))
theorem Fv {t r q:aK}{b:UInt8}(h:b::q=t.flatMap DD++34::r):(b=34/\t=[]/\q=r) \/
 (b=92/\∃c t',(c=34\/c=92)/\t=c::t'/\q=c::(t'.flatMap DD++34::r))\/(b≠34/\b≠92/\∃t',t=b::t'/\q=t'.flatMap DD++34::r):=by
 cases t with
 | nil=>simp at h;exact .inl ⟨h.1,rfl,h.2⟩
 | cons c t'=>
   rw[bz]at h;by_cases hc:c=34\/c=92
   ·have e:DD c=[92,c]:=if_pos hc;rw[e]at h;simp at h;exact .inr (.inl ⟨h.1,c,t',hc,rfl,h.2⟩)
   ·have e:DD c=[c]:=if_neg hc;rw[e]at h;simp at h;obtain⟨rfl,h2⟩:=h;exact .inr (.inr ⟨λe=>hc (.inl e),λe=>hc (.inr e),t',rfl,h2⟩)
theorem T.NI.L3 {s:aK}{v1:Bool×bn}(hv:v1.2.text=s)(hl:s.length<=1000000):∀(k y:Nat) (z:aK),y+k=s.length->z.length<=y ->
 Tot (λv=>(∃b:Nat,v.2.2=bn.mk s (b:Int)/\y<=b/\b<=s.length/\(v.2.1=true->y<b))/\v.1.length<=s.length/\∀t r,s.drop y=t.flatMap DD++34::r->v=(z++t,true,bn.mk s ((y+(t.flatMap DD).length+1:Nat):Int)))
  (λf=>G.bP.L3 f v1 (y:Int) z):=by
 intro k
 induction k using dH with|_ k ih=>
 intro y z hy hz;refine Tot.up ?_;simp only[G.bP.L3,hv,ah];refine Tot.ite (λe=>?_) (λe=>?_)
 ·have hyl:y<s.length:=by simp only[decide_eq_true_eq]at e;omega
  have w1:af .i64 ((y:Int)+1)=((y+1:Nat):Int):=dF (by omega);have w2:af .i64 (((y+1:Nat):Int)+1)=((y+2:Nat):Int):=dF (by omega);have hd:=dP (0:UInt8) hyl;have wr:∀(b:UInt8) (y':Nat),y<y'->y'<=s.length->Tot (λv=>(∃b:Nat,v.2.2=bn.mk s (b:Int)/\y<=b/\b<=s.length/\(v.2.1=true->y<b))/\v.1.length<=s.length /\
   ∀t r,s.drop y'=t.flatMap DD++34::r->v=(z++b::t,true,bn.mk s ((y'+(t.flatMap DD).length+1:Nat):Int))) (λf=>G.bP.K4 f v1 z ((b.toNat:Int)) (y':Int)):=λb y' h1 h2=>by
   refine Tot.up ?_;simp only[G.bP.K4];refine Tot.tK (EF b (by omega)) ((ih (s.length-y') (by omega) y' (z++[b]) (by omega) (by simp;omega)).mono ?_);rintro v ⟨⟨p,e1,e2,e3,e4⟩,e5,e6⟩;refine⟨⟨p,e1,by omega,e3,λh=>by have:=e4 h;omega⟩,e5,λt r h=>?_⟩;rw[e6 t r h];simp
  refine Tot.chk ⟨by omega,by omega⟩ ?_;rw[show(34:Int)=((34:UInt8).toNat:Int)from rfl,show(92:Int)=((92:UInt8).toNat:Int)from rfl];refine Tot.ite (λe1=>?_) (λe1=>Tot.ite (λe2=>?_) (λe2=>?_))
  ·rw[zh,beq_iff_eq]at e1;refine Tot.tK (T.bs' (by show z.length<=_;omega)) (Tot.ret ?_);rw[w1];refine⟨⟨y+1,rfl,by omega,by omega,λ_=>by omega⟩,by show z.length<=_;omega,λt r h=>?_⟩;rw[hd]at h;rcases Fv h with⟨_,rfl,_⟩|⟨Xn,_⟩|⟨Tn,_⟩
   ·simp
   ·rw[e1]at Xn;exact absurd Xn (by decide)
   ·exact absurd e1 Tn
  ·rw[zh,beq_iff_eq]at e2;rw[w1];refine Tot.ite (λe3=>Tot.ret ?_) (λe3=>?_)
   ·have e3 : y + 1 = s.length := by have:((y+1:Nat):Int)=(s.length:Int):=by simpa using e3
                                     omega
    refine⟨⟨y+1,rfl,by omega,by omega,λh=>by cases h⟩,aO _,λt r h=>?_⟩;rw[hd]at h;rcases Fv h with⟨Tn,_⟩|⟨_,c,t',_,_,hq⟩|⟨_,Xn,_⟩
    ·rw[e2]at Tn;exact absurd Tn (by decide)
    ·rw[ak (by omega)]at hq;cases hq
    ·exact absurd e2 Xn
   ·have hy1:y+1<s.length:=by
     have:¬((y+1:Nat):Int)=(s.length:Int):=(by simpa using e3);omega
    simp only[w2,ah];have hd1:=dP (0:UInt8) hy1;have good:(s.getD (y+1) 0=34\/s.getD (y+1) 0=92)->Tot (λv=>(∃b:Nat,v.2.2=bn.mk s (b:Int)/\y<=b/\b<=s.length/\(v.2.1=true->y<b))/\v.1.length<=s.length/\∀t r,s.drop y=t.flatMap DD++34::r->v=(z++t,true,bn.mk s ((y+(t.flatMap DD).length+1:Nat):Int)))
     (λf=>G.bP.K4 f v1 z (((s.getD (y+1) 0).toNat:Int)) ((y+2:Nat):Int)):=λhc=>(wr (s.getD (y+1) 0) (y+2) (by omega) (by omega)).mono λv ⟨p1,p2,p3⟩=>⟨p1,p2,λt r h=>by
     rw[hd]at h;rcases Fv h with⟨Tn,_⟩|⟨_,c,t',hc',rfl,hq⟩|⟨_,Xn,_⟩
     ·rw[e2]at Tn;exact absurd Tn (by decide)
     ·rw[hd1]at hq;obtain⟨rfl,hq2⟩:=kW hq;rw[p3 t' r hq2,bz,show DD (s.getD (y+1) 0)=[92,s.getD (y+1) 0]from if_pos hc'];simp;omega
     ·exact absurd e2 Xn⟩
    refine Tot.chk ⟨by omega,by omega⟩ ?_;refine Tot.ite (λe4=>?_) (λe4=>?_)
    ·refine Tot.chk ⟨by omega,by omega⟩ (Tot.ite (λe5=>Tot.ret ?_) (λe5=>?_))
     ·rw[Ub]at e4 e5;refine⟨⟨y+1,rfl,by omega,by omega,λh=>by cases h⟩,aO _,λt r h=>?_⟩;rw[hd]at h;rcases Fv h with⟨Tn,_⟩|⟨_,c,t',hc',_,hq⟩|⟨_,Xn,_⟩
      ·rw[e2]at Tn;exact absurd Tn (by decide)
      ·rw[hd1]at hq;obtain⟨rfl,_⟩:=kW hq;rcases hc' with h|h<;>rw[h]at e4 e5
       ·exact absurd e4 (by decide)
       ·exact absurd e5 (by decide)
      ·exact absurd e2 Xn
     ·rw[Ub]at e5;exact Tot.chk ⟨by omega,by omega⟩ (good (.inr (by simpa using e5)))
    ·rw[Ub]at e4;exact Tot.chk ⟨by omega,by omega⟩ (good (.inl (by simpa using e4)))
  ·rw[zh]at e1 e2;have n1:s.getD y 0≠34:=(by simpa using e1);have n2:s.getD y 0≠92:=(by simpa using e2);rw[w1];refine(wr (s.getD y 0) (y+1) (by omega) (by omega)).mono λv ⟨p1,p2,p3⟩=>⟨p1,p2,λt r h=>?_⟩;rw[hd]at h;rcases Fv h with⟨Tn,_⟩|⟨Xn,_⟩|⟨_,_,t',rfl,hq⟩
   ·exact absurd Tn n1
   ·exact absurd Xn n2
   ·rw[p3 t' r hq,bz,show DD (s.getD y 0)=[s.getD y 0]from if_neg (λh=>h.elim n1 n2)];simp;omega
 ·have hyl:y=s.length:=by simp only[decide_eq_false_iff_not]at e;omega
  refine Tot.ret ⟨⟨y,rfl,ax _,by omega,λh=>by cases h⟩,aO _,λt r h=>?_⟩;rw[ak (by omega)]at h;have:=congrArg kN h;simp at this
theorem T.NI {s:aK}{a:Nat}(h:At s a):Tot (RdQ s a) (λf=>G.bP f (bn.mk s (a:Int))):=by
 have h1:=h.le;have h2:=h.len;refine Tot.up ?_;simp only[G.bP];refine Tot.tK (T.take h) ?_;unfold YE;by_cases e:iW (s.drop a) [34]=true
 ·rw[if_pos e];have hb:=JA h1 e;refine Tot.ite (λ_=>?_) (λh=>by cases h);refine(T.NI.L3 (s:=s) (v1:=(true,bn.mk s ((a+[34].length:Nat):Int))) rfl h2 (s.length-(a+1)) (a+1) [] (by simp at hb;omega) (by simp)).mono ?_;rintro v ⟨⟨p,e1,e2,e3,e4⟩,e5,e6⟩;refine⟨⟨p,e1,by omega,e3,λh=>by have:=e4 h;omega⟩,e5,λt r h=>?_⟩;unfold EC at h⊢;have hd:=x9 (h.trans (bY ..));rw[e6 t r (by rw[hd.2.2];simp)];simp;omega
 ·rw[if_neg e];refine Tot.ite (λh=>by cases h) (λ_=>Tot.ret ⟨⟨a,rfl,ax _,h1,λh=>by cases h⟩,aO _,λt r h=>?_⟩);exfalso;apply e;rw[h];unfold EC;exact Lh [34] _
def Jg (b:UInt8):Bool:=b==45||(decide (48<=b.toNat)&&decide (b.toNat<=57))
def okR (r:aK):Prop:=∀b,r.head? = some b->Jg b=false
theorem Za : okR []:=λb h=>by cases h
theorem NC {b:UInt8}{r:aK}(h:Jg b=false):okR (b::r):=λc hc=>by cases hc;exact h
theorem abT : ∀k:Nat,k<10->Jg (eU (48+k))=true:=by decide
theorem VT (i:Nat):∀b,b∈yE i->Jg b=true:=by
 induction i using dH with|_ i ih=>
 intro b hb;by_cases h:i<10
 ·rw[yD h,bJ]at hb;rw[hb];exact abT i h
 ·rw[Du h]at hb;rcases aV.1 hb with e|e
  ·exact ih (i/10) (by omega) b e
  ·rw[bJ]at e;rw[e];exact abT (i%10) (by omega)
theorem QD (z:Int):∀b,b∈AB z->Jg b=true:=by
 intro b hb;unfold AB at hb;split at hb
 ·rcases cu.1 hb with e|e
  ·rw[e];rfl
  ·exact VT _ b e
 ·exact VT _ b hb
theorem MJ (i:Nat):yE i≠[]:=by
 by_cases h:i<10
 ·rw[yD h];simp
 ·rw[Du h];simp
theorem YS (z:Int):AB z≠[]:=by
 unfold AB;split
 ·simp
 ·exact MJ _
theorem aaG (acc:Nat):∀i:Nat,acc*10^(yE i).length+i<1000000000->∀r,xx acc (yE i++r)=xx (acc*10^(yE i).length+i) r:=by
 intro i
 induction i using dH generalizing acc with|_ i ih=>
 intro hb r;have dig:∀k:Nat,k<10->(eU (48+k)).toNat=48+k:=λk hk=>by rw[xB];omega
 have one:∀(acc k:Nat) (r:aK),k<10->acc*10+k<1000000000->xx acc (eU (48+k)::r)=xx (acc*10+k) r:=λacc k r hk hb=>by
  rw[xx];simp only[dig k hk];rw[if_pos (by omega),if_neg (by omega),if_neg (by omega)]
  congr 1;omega
 by_cases h:i<10
 ·rw[yD h]at hb⊢;simp only[bF,Nat.pow_one]at hb⊢;exact one acc i r h hb
 ·rw[Du h]at hb⊢;rw[au,bF,yJ]at hb⊢;have e:acc*(10^(yE (i/10)).length*10)+i=(acc*10^(yE (i/10)).length+i/10)*10+i%10:=by rw[<- Nat.mul_assoc];omega
  rw[e]at hb⊢;rw[dA,ih (i/10) (by omega) acc (by omega)];exact one _ _ r (by omega) hb
theorem Qj {z:Int}(h1 : -999999<=z)(h2:z<=999999):H7 (AB z)=(z,false):=by
 have hP:∀i:Nat,i<=999999->Lib.parseMag (yE i) = .ok i:=λi hi=>by unfold Lib.parseMag;rw[if_neg (MJ i)];have:=aaG 0 i (by omega) [];rw[bM,Nat.zero_mul,Nat.zero_add]at this;rw[this];rfl
 have h0:∀(i:Nat) b,(yE i).head? = some b->48<=b.toNat:=λi=>by
  induction i using dH with|_ i ih=>
  intro b hb;by_cases h:i<10
  ·rw[yD h]at hb;cases hb;rw[xB];omega
  ·rw[Du h]at hb;refine ih (i/10) (by omega) b ?_;cases hd:yE (i/10)with
   |nil=>exact absurd hd (MJ _)
   |cons c l=>rw[hd]at hb;exact hb
 unfold H7 AB;by_cases hz:z<0
 ·rw[if_pos hz];have e:zn (45::yE (-z).toNat) = .ok z:=by
   rw[Lib.atoiAll_minus,hP (-z).toNat (by omega)];unfold Lib.signed
   dsimp only
   rw[if_neg (by omega)]
   congr 1;omega
  rw[e]
 ·rw[if_neg hz];cases hd:yE z.toNat with
  |nil=>exact absurd hd (MJ _)
  | cons c l=>
    have hc:=h0 z.toNat c (by rw[hd];rfl);have e:zn (c::l) = .ok z:=by
     rw[Lib.atoiAll_plain c l (by omega) (by omega),<- hd,hP z.toNat (by omega)];unfold Lib.signless
     dsimp only
     rw[if_neg (by omega)]
     congr 1;omega
    rw[e]
theorem Ff {p:UInt8->Bool} : ∀{x r:aK},(∀b,b∈x->p b=true)->(∀b,r.head? = some b->p b=false)->(x++r).takeWhile p=x
 |[],[],_,_=>rfl
 | [],b::r,_,h=>by have:=h b rfl;simp[List.takeWhile,this]
 | a::x,r,h,k=>by rw[bY,List.takeWhile_cons,if_pos (h a (bC ..)),Ff (λb hb=>h b (dL _ hb)) k]
structure RdN (s:aK)(a:Nat)(v:aj×Bool×bn):Prop where
 pos:∃b:Nat,v.2.2=bn.mk s (b:Int)/\a<=b/\b<=s.length/\(v.2.1=true->a<b)
 fin:∃z,v.1=aj.mk 0 0 [] [] []\/v.1=aj.mk 1 z [] [] []
 all:∀z r,-999999<=z->z<=999999->okR r->s.drop a=AB z++r->v=(aj.mk 1 z [] [] [],true,bn.mk s ((a+(AB z).length:Nat):Int))
theorem T.atoi (s:aK)(hl:s.length<=1000000):Ev (λf=>G.strconv_Atoi f s) (H7 s):=by refine Ev.up ?_;simp only[G.strconv_Atoi];exact Ev.chk (by omega) (Ev.ret _)
theorem ZL (s:aK)(h:(H7 s).2=false) : -9223372036854775808<=(H7 s).1/\(H7 s).1<=9223372036854775807/\s≠[]:=by
 unfold H7 at h⊢;cases e:zn s with
 | ok v=>have:=Lib.atoiAll_bounds e;refine⟨this.1,this.2,λh0=>?_⟩;subst h0;cases e
 |range=>rw[e]at h;cases h
 | _ =>rw[e]at h;cases h
theorem T.PY {z:Int}(h : -9223372036854775808<=z/\z<=9223372036854775807):Ev (λf=>G.strconv_Itoa f z) (AB z):=by rw[<- Wu];refine Ev.up ?_;simp only[G.strconv_Itoa];exact Ev.chk ⟨h,iP (Lib.itoa_length_le z (by omega) (by omega)) (by decide)⟩ (Ev.ret _)
theorem T.Yq {s:aK}{a:Nat}(h:At s a):Tot (RdN s a) (λf=>G.dR f (bn.mk s (a:Int))):=by
 have h1:=h.le;have h2:=h.len;have W:∀x:Nat,a<=x->x<=s.length->((s.drop a).takeWhile Jg=(s.take x).drop a)->Tot (RdN s a) (λn=>iM (G.strconv_Atoi n ((s.take x).drop a)) λv3=>cond v3.2 (some ((aj.mk 0 0 [] [] []),false,bn.mk s (a:Int)))
  (iM (G.strconv_Itoa n v3.1) λv4=>cond (v4==((s.take x).drop a)) (some ((aj.mk 1 v3.1 [] [] []),true,(bn.mk s (x:Int)))) (some ((aj.mk 0 0 [] [] []),false,bn.mk s (a:Int))))):=λx hx hxl hw=>by
  have hlen:((s.take x).drop a).length=x-a:=by rw[fE,dm];omega
  have cmp:∀z r,-999999<=z->z<=999999->okR r->s.drop a=AB z++r->(s.take x).drop a=AB z:=λz r _ _ hr hd=>by rw[<- hw,hd,Ff (QD z) hr]
  refine Tot.tK (T.atoi _ (by omega)) (Tot.ite (λe=>Tot.ret ?_) (λe=>?_))
  ·refine⟨⟨a,rfl,ax _,h1,λh=>by cases h⟩,⟨0,.inl rfl⟩,λz r z1 z2 hr hd=>?_⟩;rw[cmp z r z1 z2 hr hd,Qj z1 z2]at e;cases e
  ·obtain⟨b1,b2,b3⟩:=ZL _ e;refine Tot.tK (T.PY ⟨b1,b2⟩) (Tot.ite (λe2=>Tot.ret ?_) (λe2=>Tot.ret ?_))
   ·have e2:AB (H7 ((s.take x).drop a)).1=(s.take x).drop a:=(by simpa using e2);have hpos:a<x:=by
     have:(s.take x).drop a≠[]:=b3;have:=List.length_pos_iff.2 this;omega
    refine⟨⟨x,rfl,by omega,hxl,λ_=>hpos⟩,⟨_,.inr rfl⟩,λz r z1 z2 hr hd=>?_⟩;have hc:=cmp z r z1 z2 hr hd;rw[hc,Qj z1 z2];rw[hc]at hlen;have:x=a+(AB z).length:=(by omega);rw[this]
   ·refine⟨⟨a,rfl,ax _,h1,λh=>by cases h⟩,⟨0,.inl rfl⟩,λz r z1 z2 hr hd=>?_⟩;have hc:=cmp z r z1 z2 hr hd;rw[hc,Qj z1 z2]at e2;simp at e2
 have L:∀(k x:Nat),x+k=s.length->a<=x->(∀b,b∈(s.take x).drop a->Jg b=true)->Tot (RdN s a) (λf=>G.dR.L1 f (bn.mk s (a:Int)) (x:Int)):=by
  intro k
  induction k with
  | zero=>
    intro x hx ha hdg;refine Tot.up ?_;simp only[G.dR.L1,ah];refine Tot.ite (λe=>by simp only[decide_eq_true_eq]at e;omega) (λ_=>Tot.chk ⟨by omega,by omega,by omega⟩ (W x ha (by omega) ?_));have hs:s.take x=s:=aC (by omega);rw[hs]at hdg⊢;have:=Ff (r:=[]) hdg (λb h=>by cases h)
    rwa[bM]at this
  | succ k ih=>
    intro x hx ha hdg;have hxl:x<s.length:=(by omega);have hsplit:(s.drop a)=(s.take x).drop a++(s.getD x 0::s.drop (x+1)):=by
     rw[<- dP (0:UInt8) hxl]
     conv=>lhs;rw[<- vZ x s]
     rw[vN (by rw[dm];omega)]
    have stp:(s.take (x+1)).drop a=(s.take x).drop a++[s.getD x 0]:=(by rw[jW hxl,vN (by rw[dm];omega),gu (0:UInt8) hxl]);have go:Jg (s.getD x 0)=true->Tot (RdN s a) (λf=>G.dR.L1 f (bn.mk s (a:Int)) ((x+1:Nat):Int)):=λhb=>ih (x+1) (by omega) (by omega) (λb hm=>by
     rw[stp]at hm;rcases aV.1 hm with e|e
     ·exact hdg b e
     ·rw[bJ]at e;rw[e];exact hb)
    have no:Jg (s.getD x 0)=false->(s.drop a).takeWhile Jg=(s.take x).drop a:=λhb=>by rw[hsplit];exact Ff hdg (λb h=>by cases h;exact hb)
    refine Tot.up ?_;simp only[G.dR.L1,ah,dF (show x+1<9223372036854775808 by omega)];refine Tot.ite (λ_=>?_) (λe=>by simp only[decide_eq_false_iff_not]at e;omega);refine Tot.chk ⟨by omega,by omega⟩ ?_;rw[show(45:Int)=((45:UInt8).toNat:Int)from rfl];refine Tot.ite (λe=>?_) (λe=>?_)
    ·rw[zh]at e;exact go (by unfold Jg;rw[e];rfl)
    ·rw[zh]at e;refine Tot.chk ⟨by omega,by omega⟩ (Tot.ite (λe1=>Tot.chk ⟨by omega,by omega⟩ (Tot.ite (λe2=>?_) (λe2=>?_))) (λe1=>?_))
     ·simp only[decide_eq_true_eq]at e1 e2;exact go (by unfold Jg;rw[e,decide_eq_true (show 48<=(s.getD x 0).toNat by omega),decide_eq_true (show(s.getD x 0).toNat<=57 by omega)];rfl)
     ·simp only[decide_eq_true_eq,decide_eq_false_iff_not]at e1 e2;exact Tot.chk ⟨by omega,by omega,by omega⟩ (W x ha (by omega) (no (by unfold Jg;rw[e,decide_eq_false (show ¬(s.getD x 0).toNat<=57 by omega)];simp)))
     ·simp only[decide_eq_false_iff_not]at e1;exact Tot.chk ⟨by omega,by omega,by omega⟩ (W x ha (by omega) (no (by unfold Jg;rw[e,decide_eq_false (show ¬ 48<=(s.getD x 0).toNat by omega)];simp)))
 refine Tot.up ?_;simp only[G.dR];refine L (s.length-a) a (by omega) (ax _) (λb hb=>?_);rw[ak (by rw[dm];omega)]at hb;cases hb
section
theorem Tot.ct {α:Type}{Q:α->Prop}{F F':Nat->Option α}{c:Bool}(hc:c=true)(h:Tot Q F):Tot Q (λn=>cond c (F n) (F' n)):=by subst hc;exact h
theorem Tot.cf {α:Type}{Q:α->Prop}{F F':Nat->Option α}{c:Bool}(hc:c=false)(h:Tot Q F'):Tot Q (λn=>cond c (F n) (F' n)):=by subst hc;exact h
def eAt (s r:aK):bn:=bn.mk s ((s.length-r.length:Nat):Int)
theorem QE {s x r:aK}{a:Nat}(ha:a<=s.length)(h:s.drop a=x++r):bn.mk s ((a+x.length:Nat):Int)=eAt s r:=by
 have:=congrArg kN h;rw[fE,au]at this;unfold eAt
 congr 2;omega
theorem Jv {s x r:aK}{a:Nat}(ha:a<=s.length)(h:s.drop a=x++r):s.drop (s.length-r.length)=r/\s.length-r.length<=s.length/\a+x.length=s.length-r.length:=by
 have hl:=congrArg kN h;rw[fE,au]at hl;have e:s.length-r.length=a+x.length:=by omega
 rw[e];exact⟨drop_tail h,by omega,rfl⟩
structure RdT (d:Nat)(s:aK)(a:Nat)(v:aj×Bool×bn):Prop where
 pos:∃b:Nat,v.2.2=bn.mk s (b:Int)/\a<=b/\b<=s.length/\(v.2.1=true->a<b)
 fin:wE 1000000 (d+1) v.1
 all:∀n r,Shape d n=true->okR r->s.drop a=nX d n++r->v=(n,true,eAt s r)
theorem Ci {d:Nat}{k z:Int}{t:aK}(ht:t.length<=1000000):wE 1000000 (d+1) (aj.mk k z t [] []):=
 ⟨ht,aO _,λs h=>(by cases h),aO _,trivial,λk h=>(by cases h)⟩
theorem Dz (n:aj):aj.mk n.Kind n.Num n.Text n.Names n.Kids=n:=by cases n;rfl
def Gu (F:aj->aK)(n:aj)(i:Nat):aK:=(if n.Kind=4 then EC (n.Names.getD i default)++[58]else [])++F (n.Kids.getD i default)
def xH (F:aj->aK)(n:aj)(i:Nat)(cl r:aK):aK:=(aQ i (n.Kids.length-i)).flatMap (Ep F n)++(cl++r)
theorem E8 {F:aj->aK}{n:aj}{i:Nat}{cl r:aK}(h:n.Kids.length<=i):xH F n i cl r=cl++r:=by unfold xH;rw[show n.Kids.length-i=0 by omega];rfl
theorem Fa {F:aj->aK}{n:aj}{i:Nat}{cl r:aK}(h:i<n.Kids.length)(h0:0<i):xH F n i cl r=44::(Gu F n i++xH F n (i+1) cl r):=by unfold xH;obtain⟨k,hk⟩:∃k,n.Kids.length-i=k+1:=⟨n.Kids.length-i-1,by omega⟩;rw[hk,kH,bz,MQ,if_pos h0,show n.Kids.length-(i+1)=k by omega];unfold Gu;simp
theorem IW {F:aj->aK}{n:aj}{cl r:aK}(h:0<n.Kids.length):xH F n 0 cl r=Gu F n 0++xH F n 1 cl r:=by unfold xH;obtain⟨k,hk⟩:∃k,n.Kids.length-0=k+1:=⟨n.Kids.length-1,by omega⟩;rw[hk,kH,bz,MQ,if_neg (Nat.lt_irrefl 0),show n.Kids.length-(0+1)=k by omega];unfold Gu;simp
theorem RG {F:aj->aK}{n:aj}{i:Nat}{c:UInt8}{r:aK}(hc:c=93\/c=125)(h0:0<i):okR (xH F n i [c] r):=by
 by_cases h:i<n.Kids.length
 ·rw[Fa h h0];exact NC rfl
 ·rw[E8 (by omega)];rcases hc with rfl|rfl<;>exact NC rfl
structure Big (d:Nat)(k:Int)(n:aj):Prop where
 kd:n.Kind=k
 num:n.Num=0
 text:n.Text=[]
 Nw:k=3->n.Names=[]
 len:k=4->n.Names.length=n.Kids.length
 kids:∀k,k∈n.Kids->Shape d k=true
theorem take_snoc {α:Type}{l:List α}{i:Nat}(d:α)(h:i<l.length):l.take i++[l.getD i d]=l.take (i+1):=by rw[gu d h,jW h]
theorem Kv {s p:aK}{a:Nat}(h:iW (s.drop a) p=false):YE s a p=(false,bn.mk s (a:Int)):=by unfold YE;rw[if_neg (by rw[h];simp)]
theorem Iu {s p:aK}{a:Nat}(h:iW (s.drop a) p=true):YE s a p=(true,bn.mk s ((a+p.length:Nat):Int)):=by unfold YE;rw[if_pos h]
theorem acp {a b:UInt8}{r:aK}(h:a≠b):iW (a::r) [b]=false:=by
 cases e:iW (a::r) [b]with
 |false=>rfl
 | true=>have:=X9.1 e;rw[List.cons_prefix_cons]at this;exact absurd this.1.symm h
theorem Q4 {n:aj}(h:Parts n=true)(hk:n.Kind≠1):n.Num=0:=by unfold Parts at h;simp only[ai,iT,beq_iff_eq]at h;exact h.1.1.1.resolve_left hk
theorem Q5 {n:aj}(h:Parts n=true)(hk:n.Kind≠2):n.Text=[]:=by unfold Parts at h;simp only[ai,iT,beq_iff_eq]at h;exact h.1.1.2.resolve_left hk
theorem LD {n:aj}(h:Parts n=true)(hk:n.Kind=0):n.Num=0/\n.Text=[]:=⟨Q4 h (by omega),Q5 h (by omega)⟩
theorem QM {d:Nat}{n:aj}(h:Shape d n=true):∃b q,nX d n=b::q/\b≠93/\b≠125:=by
 cases d with
 |zero=>cases h
 | succ d=>
   rcases IJ (kT h)with k|k|k|k|k
   ·rw[sJ,if_neg (by omega),if_neg (by omega),if_pos k];exact⟨_,_,rfl,by decide,by decide⟩
   ·rw[sJ,if_pos k];cases hz:AB n.Num with
    |nil=>exact absurd hz (YS _)
    | cons b q=>have hb:=QD n.Num b (by rw[hz];exact bC ..);exact⟨b,q,rfl,λe=>by rw[e]at hb;exact absurd hb (by decide),λe=>by rw[e]at hb;exact absurd hb (by decide)⟩
   ·rw[sJ,if_neg (by omega),if_pos k];exact⟨_,_,rfl,by decide,by decide⟩
   ·rw[sJ,if_neg (by omega),if_neg (by omega),if_neg (by omega),if_neg (by omega)];exact⟨_,_,rfl,by decide,by decide⟩
   ·rw[sJ,if_neg (by omega),if_neg (by omega),if_neg (by omega),if_pos k];exact⟨_,_,rfl,by decide,by decide⟩
structure RdP (d:Nat)(kind:Int)(c:UInt8)(s:aK)(y:Nat)(z5:List aK)(z6:List aj)(v:aj×Bool×bn):Prop where
 pos:∃b:Nat,v.2.2=bn.mk s (b:Int)/\y<=b/\b<=s.length
 fin:wE 1000000 (d+2) v.1
 all:∀n r,Big d kind n->z6.length<n.Kids.length->z6=n.Kids.take z6.length->z5=(if kind=4 then n.Names.take z6.length else []) ->
  s.drop y=Gu (nX d) n z6.length++xH (nX d) n (z6.length+1) [c] r->v=(n,true,eAt s r)
section
variable {d:Nat} (hd:d<=4) (IH:∀(s:aK) (a:Nat) (lv:Int),At s a->lv=6-(d:Int)->Tot (RdT d s a) (λf=>G.iG f (bn.mk s (a:Int)) lv))
 {kind:Int} {c:UInt8} (hk:kind=3/\c=93\/kind=4/\c=125) {s:aK} (hl:s.length<=1000000) {lv:Int} (hlv:lv=5-(d:Int))
include hd IH hk hl hlv
theorem T.Kq.L3 : ∀(k y:Nat) (z5:List aK) (z6:List aj),y+k=s.length->z6.length<=y->z5.length<=y->(∀t,t∈z5->t.length<=1000000)->(∀n,n∈z6->wE 1000000 (d+1) n) ->
 Tot (RdP d kind c s y z5 z6) (λf=>G.di.L3 f kind lv [c] s (y:Int) z5 z6):=by
 have hc:c=93\/c=125:=by rcases hk with⟨_,h⟩|⟨_,h⟩<;>simp[h]
 have ahF:(44:UInt8)≠c:=by rcases hc with h|h<;>rw[h]<;>decide
 intro k
 induction k using dH with|_ k ih=>
 intro y z5 z6 hy h6 h5 ht hn;have K4:∀(p:Nat) (z7:List aK),y<=p->p<=s.length->z7.length<=p+1->(∀t,t∈z7->t.length<=1000000) ->
  Tot (λv=>(∃b:Nat,v.2.2=bn.mk s (b:Int)/\y<=b/\b<=s.length)/\wE 1000000 (d+2) v.1/\∀n r,Big d kind n->z6.length<n.Kids.length->z6=n.Kids.take z6.length->z7=(if kind=4 then n.Names.take (z6.length+1)else []) ->
   s.drop p=nX d (n.Kids.getD z6.length default)++xH (nX d) n (z6.length+1) [c] r->v=(n,true,eAt s r))
  (λf=>G.di.K4 f kind lv [c] z6 s (p:Int) z7):=λp z7 hp hpl h7 ht7=>by
  refine Tot.up ?_;simp only[G.di.K4];have w1:af .i64 (lv+1)=6-(d:Int):=by rw[Fg (by omega) (by omega)];omega
  rw[w1];refine Tot.bind (IH s p _ ⟨hpl,hl⟩ rfl) ?_;rintro⟨m,ok,q⟩⟨⟨b,hb1,hb2,hb3,hb4⟩,hf,hall⟩;simp only at hb1 hb4 hf;subst hb1;cases ok with
  | false=>refine Tot.cf rfl (Tot.ret ⟨⟨b,rfl,by omega,hb3⟩,Ci (aO _),λn r hB hlt _ _ hdr=>?_⟩);have:=hall _ _ (hB.kids _ (getD_mem default hlt)) (RG hc (yK _)) hdr;cases this
  | true=>
    have hpb:=hb4 rfl;have hAt:At s b:=⟨hb3,hl⟩;have hfin:∀(z7':List aK),z7'.length<=1000000->(∀t,t∈z7'->t.length<=1000000)->wE 1000000 (d+2) (aj.mk kind 0 [] z7' (z6++[m])):=λz7' g1 g2=>
     ⟨aO _,g1,g2,by show(z6++[m]).length<=_;rw[au,bF];omega,trivial,λx hx=>by
      rcases aV.1 hx with e|e
      ·exact hn x e
      ·rw[bJ]at e;subst e;exact hf⟩
    refine Tot.ct rfl (Tot.chk (by omega) (Tot.tK (T.take hAt) ?_));have kid:∀n r,Big d kind n->z6.length<n.Kids.length->s.drop p=nX d (n.Kids.getD z6.length default)++xH (nX d) n (z6.length+1) [c] r->m=n.Kids.getD z6.length default/\s.drop b=xH (nX d) n (z6.length+1) [c] r:=λn r hB hlt hdr=>by have h1:=hall _ _ (hB.kids _ (getD_mem default hlt)) (RG hc (yK _)) hdr;have h2:=Jv hpl hdr;simp only[aJ]at h1;refine⟨h1.1,?_⟩;have h3:=h1.2.2;unfold eAt at h3;have h4:(b:Int)=((s.length-(xH (nX d) n (z6.length+1) [c] r).length:Nat):Int):=(by injection h3);have h5:b=s.length-(xH (nX d) n (z6.length+1) [c] r).length:=(by omega);rw[h5];exact h2.1
    cases e1:iW (s.drop b) [c]with
    | true=>
      rw[Iu e1];have hb':=JA hb3 e1;refine Tot.ct rfl (Tot.ret ⟨⟨b+1,rfl,by omega,by simpa using hb'⟩,hfin z7 (by omega) ht7,λn r hB hlt Tq h7e hdr=>?_⟩);obtain⟨hm,hdb⟩:=kid n r hB hlt hdr;have hend:¬z6.length+1<n.Kids.length:=λh=>(by rw[hdb,Fa h (yK _),acp ahF]at e1;cases e1);rw[E8 (by omega)]at hdb;have hkids:z6++[m]=n.Kids:=by have:=take_snoc (default:aj) hlt;rw[<- Tq,<- hm,aC (by omega)]at this;exact this
      have acn:z7=n.Names:=by
       rw[h7e];rcases hk with⟨k3,_⟩|⟨k4,_⟩
       ·rw[if_neg (by omega),hB.Nw k3]
       ·rw[if_pos k4,aC (by have:=hB.len k4;omega)]
      have hpos:bn.mk s ((b+[c].length:Nat):Int)=eAt s r:=QE hb3 hdb;rw[hpos,hkids,acn,<- hB.kd,<- Dz n,hB.num,hB.text]
    | false=>
      rw[Kv e1];refine Tot.cf rfl (Tot.tK (T.take hAt) ?_);have ag7:∀n r,Big d kind n->z6.length<n.Kids.length->s.drop p=nX d (n.Kids.getD z6.length default)++xH (nX d) n (z6.length+1) [c] r->z6.length+1<n.Kids.length:=λn r hB hlt hdr=>by
       obtain⟨_,hdb⟩:=kid n r hB hlt hdr;by_cases h:z6.length+1<n.Kids.length
       ·exact h
       ·rw[hdb,E8 (by omega),Lh]at e1;cases e1
      cases e2:iW (s.drop b) [44]with
      | true=>
        rw[Iu e2];have hb':=JA hb3 e2;simp only[bF]at hb'⊢;refine Tot.ct rfl ((ih (s.length-(b+1)) (by omega) (b+1) z7 (z6++[m]) (by omega) (by rw[au,bF];omega) (by omega) ht7 (λx hx=>?_)).mono ?_)
        ·rcases aV.1 hx with e|e
         ·exact hn x e
         ·rw[bJ]at e;subst e;exact hf
        rintro v ⟨⟨b2,g1,g2,g3⟩,g4,g5⟩;refine⟨⟨b2,g1,by omega,g3⟩,g4,λn r hB hlt Tq h7e hdr=>?_⟩;obtain⟨hm,hdb⟩:=kid n r hB hlt hdr;have hnx:=ag7 n r hB hlt hdr;rw[Fa hnx (yK _)]at hdb;have hlen:(z6++[m]).length=z6.length+1:=(by simp);refine g5 n r hB (by rw[hlen];exact hnx) ?_ (by rw[hlen];exact h7e) (by rw[hlen];exact(x9 hdb).2.2);rw[hlen];have:=take_snoc (default:aj) hlt;rw[<- Tq,<- hm]at this;exact this
      | false=>rw[Kv e2];refine Tot.cf rfl (Tot.ret ⟨⟨b,rfl,by omega,hb3⟩,Ci (aO _),λn r hB hlt Tq h7e hdr=>?_⟩);obtain⟨_,hdb⟩:=kid n r hB hlt hdr;rw[hdb,Fa (ag7 n r hB hlt hdr) (yK _)]at e2;have:=Lh [44] (Gu (nX d) n (z6.length+1)++xH (nX d) n (z6.length+1+1) [c] r);rw[BH]at this;rw[this]at e2;cases e2
 refine Tot.up ?_;simp only[G.di.L3];refine Tot.ite (λe=>?_) (λe=>?_)
 ·have k4:kind=4:=by simpa using e
  refine Tot.bind (T.NI ⟨by omega,hl⟩) ?_;rintro⟨t,ok,q⟩⟨⟨b,hb1,hb2,hb3,hb4⟩,hlen,hall⟩;simp only at hb1 hb4 hlen;subst hb1;have key:∀n r,s.drop y=Gu (nX d) n z6.length++xH (nX d) n (z6.length+1) [c] r->n.Kind=4->s.drop y=EC (n.Names.getD z6.length default)++(58::(nX d (n.Kids.getD z6.length default)++xH (nX d) n (z6.length+1) [c] r)):=λn r hdr hk4=>by rw[hdr];unfold Gu;rw[if_pos hk4];simp
  cases ok with
  | false=>refine Tot.cf rfl (Tot.ret ⟨⟨b,rfl,hb2,hb3⟩,Ci (aO _),λn r hB hlt _ _ hdr=>?_⟩);have:=hall _ _ (key n r hdr (by rw[hB.kd,k4]));cases this
  | true=>
    have hpb:=hb4 rfl;refine Tot.ct rfl (Tot.tK (T.take (p:=[58]) ⟨hb3,hl⟩) ?_);have after:∀n r,Big d kind n->s.drop y=Gu (nX d) n z6.length++xH (nX d) n (z6.length+1) [c] r->t=n.Names.getD z6.length default/\s.drop b=58::(nX d (n.Kids.getD z6.length default)++xH (nX d) n (z6.length+1) [c] r):=λn r hB hdr=>by have hk':=key n r hdr (by rw[hB.kd,k4]);have h1:=hall _ _ hk';simp only[aJ]at h1;refine⟨h1.1,?_⟩;have h4:(b:Int)=((y+(EC (n.Names.getD z6.length default)).length:Nat):Int):=(by injection h1.2.2);have h5:b=y+(EC (n.Names.getD z6.length default)).length:=(by omega);rw[h5];exact drop_tail hk'
    cases e2:iW (s.drop b) [58]with
    | false=>rw[Kv e2];refine Tot.cf rfl (Tot.ret ⟨⟨b,rfl,hb2,hb3⟩,Ci (aO _),λn r hB hlt _ _ hdr=>?_⟩);have h1:=(after n r hB hdr).2;rw[h1]at e2;have:=Lh [58] (nX d (n.Kids.getD z6.length default)++xH (nX d) n (z6.length+1) [c] r);rw[BH]at this;rw[this]at e2;cases e2
    | true=>
      rw[Iu e2];have hb':=JA hb3 e2;simp only[bF]at hb'⊢;refine Tot.ct rfl (Tot.chk (by omega) ((K4 (b+1) (z5++[t]) (by omega) hb' (by rw[au,bF];omega) (λx hx=>?_)).mono ?_))
      ·rcases aV.1 hx with e|e
       ·exact ht x e
       ·rw[bJ]at e;subst e;omega
      rintro v ⟨g1,g2,g3⟩;refine⟨g1,g2,λn r hB hlt Tq Wh hdr=>?_⟩;obtain⟨h1,h2⟩:=after n r hB hdr;refine g3 n r hB hlt Tq ?_ (x9 h2).2.2;rw[if_pos k4]at Wh⊢;have hnl:=hB.len k4;rw[Wh,h1];exact take_snoc (default:aK) (by omega)
 ·have k3:kind=3:=by
   rcases hk with⟨h,_⟩|⟨h,_⟩
   ·exact h
   ·rw[h]at e;simp at e
  refine(K4 y z5 (ax _) (by omega) (by omega) ht).mono ?_;rintro v ⟨g1,g2,g3⟩;refine⟨g1,g2,λn r hB hlt Tq Wh hdr=>?_⟩;refine g3 n r hB hlt Tq ?_ ?_
  ·rw[if_neg (by omega)]at Wh⊢;exact Wh
  ·unfold Gu at hdr;rw[if_neg (by rw[hB.kd];omega)]at hdr;simpa using hdr
theorem T.Kq {a:Nat}(ha:a<=s.length):Tot (λv:aj×Bool×bn=>(∃b:Nat,v.2.2=bn.mk s (b:Int)/\a<=b/\b<=s.length)/\wE 1000000 (d+2) v.1/\∀n r,Big d kind n->s.drop a=xH (nX d) n 0 [c] r->v=(n,true,eAt s r))
 (λf=>G.di f (bn.mk s (a:Int)) kind lv [c]):=by
 have hc:c=93\/c=125:=by rcases hk with⟨_,h⟩|⟨_,h⟩<;>simp[h]
 refine Tot.up ?_;simp only[G.di];refine Tot.tK (T.take ⟨ha,hl⟩) ?_;cases e1:iW (s.drop a) [c]with
 | true=>
   rw[Iu e1];have hb:=JA ha e1;refine Tot.ct rfl (Tot.ret ⟨⟨a+1,rfl,by omega,by simpa using hb⟩,Ci (aO _),λn r hB hdr=>?_⟩);have h0:n.Kids.length=0:=by
    by_cases h:0<n.Kids.length
    ·exfalso;rw[hdr,IW h]at e1;unfold Gu at e1;rcases hk with⟨k3,rfl⟩|⟨k4,rfl⟩
     ·rw[if_neg (by rw[hB.kd];omega)]at e1;have hS:=hB.kids _ (getD_mem default h);obtain⟨b,q,hq,hb⟩:=QM hS;rw[dN,hq,bY,acp hb.1]at e1;cases e1
     ·rw[if_pos (by rw[hB.kd];omega)]at e1;unfold EC at e1;rw[bY,bY,bY,acp (by decide)]at e1;cases e1
    ·omega
   rw[E8 (by omega)]at hdr;have hpos:bn.mk s ((a+[c].length:Nat):Int)=eAt s r:=QE ha hdr;have hkids:n.Kids=[]:=dD h0;have acn:n.Names=[]:=by
    rcases hk with⟨k3,_⟩|⟨k4,_⟩
    ·exact hB.Nw k3
    ·exact dD (by rw[hB.len k4,h0])
   rw[hpos,<- Dz n,hB.kd,hB.num,hB.text,acn,hkids]
 | false=>
   rw[Kv e1];refine Tot.cf rfl ((T.Kq.L3 hd IH hk hl hlv (s.length-a) a [] [] (by omega) (aO _) (aO _) (λt h=>by cases h) (λt h=>by cases h)).mono ?_);rintro v ⟨g1,g2,g3⟩;refine⟨g1,g2,λn r hB hdr=>?_⟩;have h0:0<n.Kids.length:=by
    by_cases h:0<n.Kids.length
    ·exact h
    ·rw[hdr,E8 (by omega),Lh]at e1;cases e1
   refine g3 n r hB h0 rfl (by split<;>rfl) ?_;rw[hdr];exact IW h0
end
theorem TZ {d:Nat}{n:aj}(h:Shape (d+1) n=true)(hk:n.Kind=3\/n.Kind=4):Big d n.Kind n:=by
 have hp:=kT h;rcases hk with k|k
 ·obtain⟨h1,h2,h3,_⟩:=D5 hp k;exact⟨rfl,h1,h2,λ_=>h3,λh=>by omega,uF h⟩
 ·have hm:=yw hp k;exact⟨rfl,hm.1,hm.2.1,λh=>by omega,λ_=>hm.2.2.2.2.symm,uF h⟩
theorem MR {d:Nat}{n:aj}(r:aK)(k:n.Kind=3):nX (d+1) n++r=91::xH (nX d) n 0 [93] r:=by rw[sJ,if_neg (by omega),if_neg (by omega),if_neg (by omega),if_neg (by omega)];unfold xH;simp
theorem PW {d:Nat}{n:aj}(r:aK)(k:n.Kind=4):nX (d+1) n++r=123::xH (nX d) n 0 [125] r:=by rw[sJ,if_neg (by omega),if_neg (by omega),if_neg (by omega),if_pos k];unfold xH;simp
theorem T.NH : ∀(d:Nat),d<=5->∀(s:aK) (a:Nat) (lv:Int),At s a->lv=6-(d:Int)->Tot (RdT d s a) (λf=>G.iG f (bn.mk s (a:Int)) lv)
 | 0,_,s,a,lv,h,hlv=>by refine Tot.up ?_;simp only[G.iG];refine Tot.ct (decide_eq_true (by omega)) (Tot.ret ⟨⟨a,rfl,ax _,h.le,λh=>by cases h⟩,Ci (aO _),λn r hS=>by cases hS⟩)
 | d+1,hd,s,a,lv,h,hlv=>by
   have h1:=h.le;have h2:=h.len;refine Tot.up ?_;simp only[G.iG,ah];refine Tot.cf (decide_eq_false (by omega)) (Tot.ite (λe=>Tot.ret ?_) (λe=>?_))
   ·simp only[decide_eq_true_eq]at e;refine⟨⟨a,rfl,ax _,h1,λh=>by cases h⟩,Ci (aO _),λn r hS _ hdr=>?_⟩;obtain⟨b,q,hq,_⟩:=QM hS;rw[hq,ak (by omega)]at hdr;cases hdr
   have hal:a<s.length:=(by simp only[decide_eq_false_iff_not]at e;omega);have hdd:=dP (0:UInt8) hal;have ZM:∀n r,Shape (d+1) n=true->s.drop a=nX (d+1) n++r->(n.Kind=0/\s.getD a 0=110)\/(n.Kind=1/\Jg (s.getD a 0)=true)\/(n.Kind=2/\s.getD a 0=34)\/(n.Kind=3/\s.getD a 0=91)\/(n.Kind=4/\s.getD a 0=123):=λn r hS hdr=>by
    rw[hdd]at hdr;rcases IJ (kT hS)with k|k|k|k|k
    ·rw[sJ,if_neg (by omega),if_neg (by omega),if_pos k]at hdr;exact .inl ⟨k,(kW hdr).1⟩
    ·rw[sJ,if_pos k]at hdr;cases hz:AB n.Num with
     |nil=>exact absurd hz (YS _)
     | cons b q=>rw[hz]at hdr;refine .inr (.inl ⟨k,?_⟩);rw[(kW hdr).1];exact QD n.Num b (by rw[hz];exact bC ..)
    ·rw[sJ,if_neg (by omega),if_pos k]at hdr;exact .inr (.inr (.inl ⟨k,(kW hdr).1⟩))
    ·rw[MR r k]at hdr;exact .inr (.inr (.inr (.inl ⟨k,(kW hdr).1⟩)))
    ·rw[PW r k]at hdr;exact .inr (.inr (.inr (.inr ⟨k,(kW hdr).1⟩)))
   have w1:af .i64 ((a:Int)+1)=((a+1:Nat):Int):=dF (by omega);refine Tot.chk ⟨by omega,by omega⟩ ?_;rw[show(110:Int)=((110:UInt8).toNat:Int)from rfl,show(34:Int)=((34:UInt8).toNat:Int)from rfl,show(91:Int)=((91:UInt8).toNat:Int)from rfl,show(123:Int)=((123:UInt8).toNat:Int)from rfl];have dn:∀{b:UInt8} (c:UInt8),Jg b=true->Jg c=false->b≠c:=λc h1 h2 e=>(by rw[e,h2]at h1;cases h1);refine Tot.ite (λe0=>?_) (λe0=>Tot.ite (λe2=>?_) (λe2=>Tot.ite (λe3=>?_) (λe3=>Tot.ite (λe4=>?_) (λe4=>?_))))
   ·rw[zh,beq_iff_eq]at e0;refine Tot.tK (T.take h) (Tot.ret ?_);cases e1:iW (s.drop a) [110,117,108,108]with
    | true=>
      rw[Iu e1];have hb:=JA h1 e1;refine⟨⟨a+4,rfl,by omega,by simpa using hb,λ_=>by omega⟩,Ci (aO _),λn r hS _ hdr=>?_⟩;rcases ZM n r hS hdr with⟨k,_⟩|⟨_,hx⟩|⟨_,hx⟩|⟨_,hx⟩|⟨_,hx⟩
      ·have hp:=kT hS;have hl:=Ad hp (by omega) (by omega);have hn0:n.Num=0/\n.Text=[]:=LD hp k;rw[sJ,if_neg (by omega),if_neg (by omega),if_pos k]at hdr;have hpos:bn.mk s ((a+[110,117,108,108].length:Nat):Int)=eAt s r:=QE h1 hdr;have hn:aj.mk 0 0 [] [] []=n:=(by conv=>rhs;rw[<- Dz n,k,hn0.1,hn0.2,hl.1,hl.2]);exact sH hn (sH rfl hpos)
      ·exact absurd e0 (dn 110 hx rfl)
      all_goals(rw[hx]at e0;exact absurd e0 (by decide))
    | false=>
      rw[Kv e1];refine⟨⟨a,rfl,ax _,h1,λh=>by cases h⟩,Ci (aO _),λn r hS _ hdr=>?_⟩;rcases ZM n r hS hdr with⟨k,_⟩|⟨_,hx⟩|⟨_,hx⟩|⟨_,hx⟩|⟨_,hx⟩
      ·rw[sJ,if_neg (by omega),if_neg (by omega),if_pos k]at hdr;rw[hdr,Lh]at e1;cases e1
      ·exact absurd e0 (dn 110 hx rfl)
      all_goals(rw[hx]at e0;exact absurd e0 (by decide))
   ·rw[zh,beq_iff_eq]at e2;refine Tot.bind (T.NI h) ?_;rintro⟨t,ok,q⟩⟨hpos,hlen,hall⟩;refine Tot.ret ⟨hpos,Ci (iP hlen h2),λn r hS _ hdr=>?_⟩;rcases ZM n r hS hdr with⟨_,hx⟩|⟨_,hx⟩|⟨k,_⟩|⟨_,hx⟩|⟨_,hx⟩
    ·rw[hx]at e2;exact absurd e2 (by decide)
    ·exact absurd e2 (dn 34 hx rfl)
    ·have hp:=kT hS;have hl:=Ad hp (by omega) (by omega);have hn0:n.Num=0:=Q4 hp (by omega);rw[sJ,if_neg (by omega),if_pos k]at hdr;have h3:=hall _ _ hdr;rw[QE h1 hdr]at h3;simp only[aJ]at h3;obtain⟨rfl,rfl,rfl⟩:=h3;refine sH ?_ rfl;show aj.mk 2 0 n.Text [] []=n
     conv=>rhs;rw[<- Dz n,k,hn0,hl.1,hl.2]
    all_goals(rw[hx]at e2;exact absurd e2 (by decide))
   ·rw[zh,beq_iff_eq]at e3;rw[w1];refine Tot.bind (T.Kq (by omega) (λs a lv h hlv=>T.NH d (by omega) s a lv h hlv) (.inl ⟨rfl,rfl⟩) h2 (by omega) (show a+1<=s.length by omega)) ?_;rintro⟨m,ok,q⟩⟨⟨b,hb1,hb2,hb3⟩,hf,hall⟩;refine Tot.ret ⟨⟨b,hb1,by omega,hb3,λ_=>by omega⟩,hf,λn r hS _ hdr=>?_⟩;rcases ZM n r hS hdr with⟨_,hx⟩|⟨_,hx⟩|⟨_,hx⟩|⟨k,_⟩|⟨_,hx⟩
    ·rw[hx]at e3;exact absurd e3 (by decide)
    ·exact absurd e3 (dn 91 hx rfl)
    ·rw[hx]at e3;exact absurd e3 (by decide)
    ·rw[MR r k]at hdr;have hB:=TZ hS (.inl k);rw[k]at hB;exact hall n r hB (x9 hdr).2.2
    ·rw[hx]at e3;exact absurd e3 (by decide)
   ·rw[zh,beq_iff_eq]at e4;rw[w1];refine Tot.bind (T.Kq (by omega) (λs a lv h hlv=>T.NH d (by omega) s a lv h hlv) (.inr ⟨rfl,rfl⟩) h2 (by omega) (show a+1<=s.length by omega)) ?_;rintro⟨m,ok,q⟩⟨⟨b,hb1,hb2,hb3⟩,hf,hall⟩;refine Tot.ret ⟨⟨b,hb1,by omega,hb3,λ_=>by omega⟩,hf,λn r hS _ hdr=>?_⟩;rcases ZM n r hS hdr with⟨_,hx⟩|⟨_,hx⟩|⟨_,hx⟩|⟨_,hx⟩|⟨k,_⟩
    ·rw[hx]at e4;exact absurd e4 (by decide)
    ·exact absurd e4 (dn 123 hx rfl)
    ·rw[hx]at e4;exact absurd e4 (by decide)
    ·rw[hx]at e4;exact absurd e4 (by decide)
    ·rw[PW r k]at hdr;have hB:=TZ hS (.inr k);rw[k]at hB;exact hall n r hB (x9 hdr).2.2
   ·rw[zh]at e0 e2 e3 e4;refine Tot.bind (T.Yq h) ?_;rintro⟨m,ok,q⟩⟨hpos,⟨z,hf⟩,hall⟩;refine Tot.ret ⟨hpos,by rcases hf with e|e<;>(simp only at e;rw[e];exact Ci (aO _)),λn r hS hr hdr=>?_⟩;rcases ZM n r hS hdr with⟨_,hx⟩|⟨k,_⟩|⟨_,hx⟩|⟨_,hx⟩|⟨_,hx⟩
    ·rw[hx]at e0;exact absurd e0 (by decide)
    ·have hp:=kT hS;have hl:=Ad hp (by omega) (by omega);have hn:=Ij hp k;have ht:=Q5 hp (by omega);rw[sJ,if_pos k]at hdr;have h3:=hall n.Num r hn.1 hn.2 hr hdr;rw[QE h1 hdr]at h3;rw[h3];refine sH ?_ rfl;show aj.mk 1 n.Num [] [] []=n
     conv=>rhs;rw[<- Dz n,k,ht,hl.1,hl.2]
    ·rw[hx]at e2;exact absurd e2 (by decide)
    ·rw[hx]at e3;exact absurd e3 (by decide)
    ·rw[hx]at e4;exact absurd e4 (by decide)
end
theorem KI {c:UInt8} : ∀{a b:aK},c ∉ a->eY (a++c::b) c=(a.length:Int)
 |[],b,_=>by simp[eY]
 | x::a,b,h=>by
   have h1:(x==c)=false:=by rw[beq_eq_false_iff_ne];intro e;exact h (by rw[e];exact bC ..)
   have ih:=KI (a:=a) (b:=b) (λe=>h (dL _ e));have h2:((a.length:Int) == -1)=false:=(by rw[beq_eq_false_iff_ne];omega);rw[bY,eY,h1,ih,h2];simp
theorem IU {a b:aK}{k:Nat}(h:(32:UInt8) ∉ a):oK [32] 0 (k+1) (a++32::b)=a::oK [32] 0 k b:=by
 have h2:((a.length:Int) == -1)=false:=by rw[beq_eq_false_iff_ne];omega
 rw[oK,Lib.index_one,KI h,h2,if_neg (by simp)];simp
theorem RD : ∀{k:Nat} {s t:aK},t∈oK [32] 0 k s->t.length<=s.length
 | 0,s,t,h=>by rw[oK,bJ]at h;rw[h];exact ax _
 | k+1,s,t,h=>by
   rw[oK]at h;split at h
   ·rw[bJ]at h;rw[h];exact ax _
   ·rcases cu.1 h with e|e
    ·rw[e,dm];omega
    ·have:=RD e;rw[fE]at this;omega
theorem adr {a b c d e:aK}(ha:(32:UInt8) ∉ a)(hb:(32:UInt8) ∉ b)(hc:(32:UInt8) ∉ c)(hd:(32:UInt8) ∉ d):oK [32] 0 4 (a++[32]++b++[32]++c++[32]++d++[32]++e)=[a,b,c,d,e]:=by
 have:a++[32]++b++[32]++c++[32]++d++[32]++e=a++32::(b++32::(c++32::(d++32::e))):=by simp
 rw[this,IU ha,IU hb,IU hc,IU hd];rfl
theorem adF {q:RequestT}(h:RqP q):(32:UInt8) ∉ Hq.getD q.Method.toNat default:=by rcases meth h with e|e|e|e|e<;>rw[e]<;>decide
theorem acR {s:aK}(h:Vu s=true):(32:UInt8) ∉ s:=λe=>by unfold Vu at h;simp only[ai,aZ]at h;have:=h.1 _ e;exact absurd this (by decide)
theorem P7 {t:aK}(h:G7 t=true)(c:UInt8)(hc:c=32\/c=44):c ∉ Gq t:=λe=>by
 unfold Gq at e;split at e
 ·rw[bJ]at e;rcases hc with h|h<;>rw[h]at e<;>exact absurd e (by decide)
 ·rename_i hn;have hs:G6 t=true:=by
   unfold G7 at h;simp only[iT,beq_iff_eq]at h;exact h.resolve_left hn
  unfold G6 at hs;simp only[ai,aZ]at hs;simp only[cu,aV,uT,or_false]at e;rcases e with e|e|e
  ·rcases hc with h|h<;>rw[h]at e<;>exact absurd e (by decide)
  ·have:=hs.1 _ e;rcases hc with h|h<;>rw[h]at this<;>exact absurd this (by decide)
  ·rcases hc with h|h<;>rw[h]at e<;>exact absurd e (by decide)
theorem Vm (l:List aK):(32:UInt8) ∉ EM l:=λe=>by
 unfold EM at e;split at e
 ·rename_i h;obtain⟨i,hi,e⟩:=List.mem_flatMap.1 e;have hi:i<l.length:=by simpa using hi
  have hv:=(AP h).2 _ (getD_mem default hi);unfold Vk at e;rcases aV.1 e with e|e
  ·split at e
   ·rw[bJ]at e;exact absurd e (by decide)
   ·cases e
  ·exact P7 hv 32 (.inl rfl) e
 ·cases e
def IB (t:aK):aK:=44::Gq t
theorem W9 (l:List aK):∀(k i:Nat),0<i->i+k=l.length->(aQ i k).flatMap (Vk l)=(l.drop i).flatMap IB
 |0,i,_,h=>by rw[ak (by omega)];rfl
 | k+1,i,h0,h=>by rw[kH,bz,W9 l k (i+1) (by omega) (by omega),dP (default:aK) (by omega:i<l.length),bz];unfold Vk IB;rw[if_pos h0];rfl
theorem RJ {t:aK}{l:List aK}(h:Aj (t::l)=true):EM (t::l)=Gq t++l.flatMap IB:=by unfold EM;rw[if_pos h,bH,kH,bz,W9 (t::l) l.length (0+1) (by omega) (by simp;omega)];rfl
theorem ZZ {x r:aK}(h:(44:UInt8) ∉ x):Dj (x++44::r)=x::Dj r:=by
 induction x with
 |nil=>rfl
 | cons b x ih=>have hb:b≠44:=λe=>h (by rw[e];exact bC ..);rw[bY,Dj,if_neg hb,ih (λe=>h (dL _ e))]
theorem Z4 {x:aK}(h:(44:UInt8) ∉ x):Dj x=[x]:=by
 induction x with
 |nil=>rfl
 | cons b x ih=>have hb:b≠44:=λe=>h (by rw[e];exact bC ..);rw[Dj,if_neg hb,ih (λe=>h (dL _ e))]
theorem Qz : ∀{l:List aK} {t:aK},(∀y,y∈t::l->G7 y=true)->Dj (Gq t++l.flatMap IB)=Gq t::l.map Gq
 | [],t,h=>by rw[List.flatMap_nil,bM,Z4 (P7 (h t (bC ..)) 44 (.inr rfl))];rfl
 | u::l,t,h=>by rw[bz];show Dj (Gq t++44::(Gq u++l.flatMap IB))=_;rw[ZZ (P7 (h t (bC ..)) 44 (.inr rfl)),Qz (λy hy=>h y (dL _ hy))];rfl
theorem adJ {t:aK}(h:G7 t=true):Pm IV (Gq t)=some t:=by
 unfold Pm Gq;by_cases c:t=[42]
 ·rw[if_pos c,if_pos rfl,c]
 ·rw[if_neg c];have hs:G6 t=true:=by
   unfold G7 at h;simp only[iT,beq_iff_eq]at h;exact h.resolve_left c
  have hl:=Iq hs;have e4:((34::(t++[34])).drop 1).take 4=t:=by rw[wV,bW,pJ (by omega),aC (by omega)]
  have e5:(34::(t++[34])).getD 5 0=34:=by rw[List.getD_cons_succ,bu,List.getElem?_append_right (by omega),hl];rfl
  rw[if_neg (λe=>by have:=congrArg kN e;simp at this),e4,if_pos ⟨by simp[hl],rfl,e5,hs⟩]
theorem VR : ∀{l p:List aK},(∀y,y∈l->G7 y=true)->p.length+l.length<=4->(l.map Gq).foldl (colS IV) (some p)=some (p++l)
 |[],p,_,_=>by simp
 | t::l,p,h,hl=>by
   simp only[bH]at hl;have e:colS IV (some p) (Gq t)=some (p++[t]):=by unfold colS;rw[gJ,if_neg (by omega),adJ (h t (bC ..))];rfl
   rw[bf,lZ,e,VR (λy hy=>h y (dL _ hy)) (by simp;omega)];simp
theorem Zd {l:List aK}(h:Aj l=true):U3 IV (EM l)=(l,true):=by
 obtain⟨h4,hv⟩:=AP h;cases l with
 |nil=>rfl
 | cons t l=>
   have hne:EM (t::l)≠[]:=by rw[RJ h];unfold Gq;split<;>simp
   unfold U3;rw[if_neg hne,RJ h,Qz hv];unfold aet;have:=VR (l:=t::l) (p:=[]) hv (by simpa using h4);rw[bf]at this;rw[this];rfl
theorem abM {ws:List aK} : ∀{a:Option (List aK)},(∀p,a=some p->p.length<=4/\∀t,t∈p->t.length<=4)->∀l,ws.foldl (colS IV) a=some l->l.length<=4/\∀t,t∈l->t.length<=4:=by
 induction ws with
 |nil=>intro a h l e;exact h l e
 | cons w ws ih=>
   intro a h l e;refine ih (λp hp=>?_) l e;cases a with
   |none=>cases hp
   | some z=>
     obtain⟨h1,h2⟩:=h z rfl;unfold colS at hp;rw[gJ]at hp;split at hp
     ·cases hp
     ·rename_i hn;cases hw:Pm IV w with
      |none=>rw[hw]at hp;cases hp
      | some y=>
        rw[hw]at hp;cases hp;refine⟨by simp;omega,λt ht=>?_⟩;rcases aV.1 ht with e|e
        ·exact h2 t e
        ·rw[bJ]at e;subst e;unfold Pm at hw;split at hw
         ·cases hw;rename_i c;rw[c];decide
         ·split at hw
          ·cases hw;rw[dm];omega
          ·cases hw
theorem Zc (s:aK):xC 60 (U3 IV s).1:=by
 unfold U3;split
 ·exact⟨by simp,λt h=>by cases h⟩
 ·split
  ·rename_i l e;obtain⟨h1,h2⟩:=abM (a:=some []) (λp hp=>by cases hp;exact⟨by simp,λt h=>by cases h⟩) l e;exact⟨by show l.length<=_;omega,λt ht=>by have:=h2 t ht;omega⟩
  ·exact⟨by simp,λt h=>by cases h⟩
theorem T.uX {s:aK}(h:s.length<=1000000):Ev (λf=>G.uX f s) (U3 IV s):=by refine Ev.up ?_;simp only[G.uX];exact Ev.chk h (Ev.ret _)
theorem aap : 1000000<=lim:=by decide
theorem BA (B d:Nat):wE B (d+1) (aj.mk 0 0 [] [] []):=⟨aO _,aO _,λs h=>(by cases h),aO _,trivial,λk h=>(by cases h)⟩
theorem T.rH {s:aK}(h:s.length<=1000000):Tot (λv:aj×Bool=>wE 1000000 6 v.1/\∀n,Val n=true->s.length<=2000->s=nX 5 n->v=(n,true)) (λf=>G.rH f s):=by
 refine Tot.up ?_;simp only[G.rH];refine Tot.ite (λe=>Tot.ret ⟨BA _ _,λn _ hl=>by simp only[decide_eq_true_eq]at e;omega⟩) (λ_=>Tot.bind (T.NH 5 (by omega) s 0 1 ⟨aO _,h⟩ rfl) ?_);rintro⟨m,ok,q⟩⟨⟨b,hb,_,hbl,_⟩,hf,hall⟩;simp only at hb hf;subst hb;have key:∀n,Val n=true->s=nX 5 n->m=n/\ok=true/\b=s.length:=λn hn hs=>by
  have:=hall n [] (lN hn) Za (by rw[bW,bM];exact hs);simp only[aJ]at this;refine⟨this.1,this.2.1,?_⟩;have h3:=this.2.2;unfold eAt at h3
  injection h3 with _ h4
  simp at h4;omega
 refine Tot.ite (λe=>Tot.ite (λe1=>Tot.ret ⟨BA _ _,λn hn _ hs=>?_⟩) (λ_=>?_)) (λe=>Tot.ret ⟨BA _ _,λn hn _ hs=>?_⟩)
 ·rw[(key n hn hs).2.2]at e1;simp at e1
 ·refine Tot.tK (T0.aX aap hf) (Tot.ite (λe2=>Tot.tK (T0.aP aap hf) (Tot.ret ⟨hf,λn hn _ hs=>?_⟩)) (λe2=>Tot.ret ⟨BA _ _,λn hn _ hs=>?_⟩))
  ·rw[(key n hn hs).1]
  ·rw[(key n hn hs).1,hn]at e2;cases e2
 ·rw[(key n hn hs).2.1]at e;cases e
theorem T.jP {d:Nat}{n:aj}(h:wE 1000000 (d+1) n):Tot (λv:List aK×Bool=>xC 1000000 v.1/\∀p,PP p=true->n=FH p->v=(p,true)) (λf=>G.jP f n):=by
 have fin0:xC 1000000 []:=⟨by simp,λt h=>by cases h⟩;have hk:=h.kids;have L:∀(k i:Nat) (z:List aK),i+k=n.Kids.length->z.length=i->(∀t,t∈z->t.length<=1000000)->Tot (λv:List aK×Bool=>xC 1000000 v.1/\∀p,PP p=true->n=FH p->z=p.take i->v=(p,true)) (λf=>G.jP.L1 f n (i:Int) z):=by
  intro k
  induction k with
  | zero=>
    intro i z hi hz ht;have hfz:xC 1000000 z:=⟨by omega,ht⟩;refine Tot.up ?_;simp only[G.jP.L1];refine Tot.cf (decide_eq_false (by omega)) (Tot.tK (T.iQ _ (hfz.sm aap)) (Tot.ret ⟨hfz,λp hp hn he=>?_⟩));have:z=p:=by rw[he,aC];rw[hn]at hi;simp[FH]at hi;omega
    rw[this,hp]
  | succ k ih=>
    intro i z hi hz ht;have hil:i<n.Kids.length:=(by omega);refine Tot.up ?_;simp only[G.jP.L1,ah,dF (show i+1<9223372036854775808 by omega)];have kid:∀p,n=FH p->i<p.length/\n.Kids.getD i default=Hr (p.getD i default):=λp hn=>by rw[hn]at hil⊢;have hip:i<p.length:=(by simpa[FH]using hil);refine⟨hip,?_⟩;show(p.map Hr).getD i default=_;rw[gu _ (by simpa using hip),gu _ hip,yC]
    refine Tot.ct (decide_eq_true (by omega)) (Tot.chk (by omega) (Tot.ite (λe=>Tot.ret ⟨fin0,λp _ hn _=>?_⟩) (λe=>Tot.chk (by omega) ((ih (i+1) _ (by omega) (by simp[hz]) (λt hm=>?_)).mono λv hv=>⟨hv.1,λp hp hn he=>hv.2 p hp hn ?_⟩))))
    ·rw[(kid p hn).2]at e;exact absurd e (by simp[Hr])
    ·rcases aV.1 hm with e|e
     ·exact ht t e
     ·rw[bJ]at e;subst e;have:=h.kid hil;cases d with
      |zero=>exact this.elim
      |succ d=>exact this.1
    ·rw[(kid p hn).2,he];exact take_snoc (default:aK) (kid p hn).1
 refine Tot.up ?_;simp only[G.jP];refine Tot.ite (λe=>Tot.ret ⟨fin0,λp _ hn=>?_⟩) (λ_=>(L n.Kids.length 0 [] (by omega) rfl (λt h=>by cases h)).mono λv hv=>⟨hv.1,λp hp hn=>hv.2 p hp hn rfl⟩);rw[hn]at e;exact absurd e (by simp[FH])
theorem WG : ∀i:Nat,i<7->∀j:Nat,j<7->Hl.getD i default=Hl.getD j default->i=j:=by decide
theorem Xb : ∀i:Nat,i<6->∀j:Nat,j<6->Hq.getD i default=Hq.getD j default->i=j:=by decide
theorem T.Sz (s:aK):Tot (λv:Int×Bool=>∀j:Nat,1<=j->j<=6->s=Hl.getD j default->v=((j:Int),true)) (λf=>G.ig f s 1 6):=by
 have W:∀x:Nat,1<=x->x<=6->Ev (λf=>G.uD f (x:Int)) (Hl.getD x default):=λx h1 h2=>by
  refine Ev.up ?_;simp only[G.uD];have:x=1\/x=2\/x=3\/x=4\/x=5\/x=6:=by omega
  rcases this with e|e|e|e|e|e<;>subst e<;>exact evd
 have L:∀(k x:Nat),x+k=7->1<=x->Tot (λv:Int×Bool=>∀j:Nat,x<=j->j<=6->s=Hl.getD j default->v=((j:Int),true)) (λf=>G.ig.L1 f s 6 (x:Int)):=by
  intro k
  induction k with
  | zero=>intro x hx h1;refine Tot.up ?_;simp only[G.ig.L1];exact Tot.cf (decide_eq_false (by omega)) (Tot.ret λj h1 h2=>by omega)
  | succ k ih=>
    intro x hx h1;refine Tot.up ?_;simp only[G.ig.L1,dF (show x+1<9223372036854775808 by omega)];refine Tot.ct (decide_eq_true (by omega)) (Tot.tK (W x h1 (by omega)) (Tot.ite (λe=>Tot.ret λj h1 h2 hs=>?_) (λe=>(ih (x+1) (by omega) (by omega)).mono λv hv j h1 h2 hs=>hv j ?_ h2 hs)))
    ·have:Hl.getD x default=Hl.getD j default:=(by rw[<- hs];simpa using e);rw[WG x (by omega) j (by omega) this]
    ·have:j≠x:=λhe=>(by rw[he]at hs;rw[<- hs]at e;simp at e);omega
 refine Tot.up ?_;simp only[G.ig];exact L 6 1 (by omega) (by omega)
theorem T.Nk (s:aK):Tot (λv:Int×Bool=>∀j:Nat,1<=j->j<=5->s=Hq.getD j default->v=((j:Int),true)) (λf=>G.fJ f s 1 5):=by
 have W:∀x:Nat,1<=x->x<=5->Ev (λf=>G.nH f (x:Int)) (Hq.getD x default):=λx h1 h2=>by
  refine Ev.up ?_;simp only[G.nH];have:x=1\/x=2\/x=3\/x=4\/x=5:=by omega
  rcases this with e|e|e|e|e<;>subst e<;>exact evd
 have L:∀(k x:Nat),x+k=6->1<=x->Tot (λv:Int×Bool=>∀j:Nat,x<=j->j<=5->s=Hq.getD j default->v=((j:Int),true)) (λf=>G.fJ.L1 f s 5 (x:Int)):=by
  intro k
  induction k with
  | zero=>intro x hx h1;refine Tot.up ?_;simp only[G.fJ.L1];exact Tot.cf (decide_eq_false (by omega)) (Tot.ret λj h1 h2=>by omega)
  | succ k ih=>
    intro x hx h1;refine Tot.up ?_;simp only[G.fJ.L1,dF (show x+1<9223372036854775808 by omega)];refine Tot.ct (decide_eq_true (by omega)) (Tot.tK (W x h1 (by omega)) (Tot.ite (λe=>Tot.ret λj h1 h2 hs=>?_) (λe=>(ih (x+1) (by omega) (by omega)).mono λv hv j h1 h2 hs=>hv j ?_ h2 hs)))
    ·have:Hq.getD x default=Hq.getD j default:=(by rw[<- hs];simpa using e);rw[Xb x (by omega) j (by omega) this]
    ·have:j≠x:=λhe=>(by rw[he]at hs;rw[<- hs]at e;simp at e);omega
 refine Tot.up ?_;simp only[G.fJ];exact L 5 1 (by omega) (by omega)
theorem aa3 {n:aj}(h:Val n=true)(hk:n.Kind=4):n.Names.length<=6/\n.Kids.length=n.Names.length:=by have:=yw (kT (lN h)) hk;exact this.2.2.2
theorem T.sZ {d:Nat}{n:aj}(h:wE 1000000 (d+2) n):Tot (λv:oz×Bool=>(∃D,Jf 1000000 D v.1)/\∀o,KG o=true->Val (II o)=true->n=II o->v=(o,true)) (λf=>G.sZ f n):=by
 have no:∃D,Jf 1000000 D (oz.mk 0 [] [] (aj.mk 0 0 [] [] [])):=⟨1,⟨by simp,λt h=>by cases h⟩,⟨by simp,λt h=>by cases h⟩,BA _ _⟩;refine Tot.up ?_;simp only[G.sZ];refine Tot.tK (T0.aX aap h) (Tot.ite (λev=>Tot.ite (λe4=>Tot.ret ⟨no,λo _ _ hn=>?_⟩) (λe4=>?_)) (λev=>Tot.ret ⟨no,λo _ hv hn=>?_⟩))
 ·rw[hn]at e4;exact absurd e4 (by simp[II])
 ·have e4:n.Kind=4:=by simpa using e4
  have hnm:=h.sm aap;refine Tot.tK (T.slices_Equal_string hnm.1) (Tot.ite (λen=>?_) (λen=>Tot.ret ⟨no,λo _ _ hn=>?_⟩))
  ·have en:n.Names=Q3:=of_decide_eq_true en;have hl:n.Kids.length=4:=(by rw[(aa3 ev e4).2,en];rfl);have kf:∀i,i<4->wE 1000000 (d+1) (n.Kids.getD i default):=λi hi=>h.kid (by omega);refine Tot.chk (by omega) (Tot.bind (T.jP (kf 0 (by omega))) ?_);rintro⟨p0,k0⟩⟨f0,c0⟩;refine Tot.ite (λe0=>Tot.chk (by omega) (Tot.ite (λe1=>Tot.ret ⟨no,λo _ _ hn=>?_⟩) (λe1=>Tot.chk (by omega) (Tot.bind (T.Sz _) ?_)))) (λe0=>Tot.ret ⟨no,λo ho _ hn=>?_⟩)
   ·rw[hn]at e1;exact absurd e1 (by simp[II,Hr])
   ·rintro⟨m,km⟩ cm;refine Tot.ite (λem=>Tot.chk (by omega) (Tot.bind (T.jP (kf 2 (by omega))) ?_)) (λem=>Tot.ret ⟨no,λo ho _ hn=>?_⟩)
    ·rintro⟨p2,k2⟩⟨f2,c2⟩;refine Tot.ite (λe2=>Tot.chk (by omega) (Tot.tK (T0.aP aap (kf 3 (by omega))) (Tot.ret ⟨⟨_,f2,f0,kf 3 (by omega)⟩,λo ho _ hn=>?_⟩))) (λe2=>Tot.ret ⟨no,λo ho _ hn=>?_⟩)
     ·have hf:=vO ho;have k1:=hf.k1;have k6:=hf.k6;have h0:=c0 o.From hf.from_ (by rw[hn];rfl);have h2:=c2 o.Path hf.path (by rw[hn];rfl);have hm:=cm o.Kind.toNat (by omega) (by omega) (by rw[hn];rfl);simp only[aJ]at h0 h2 hm;have hmk:m=o.Kind:=(by rw[hm.1];omega);refine sH ?_ rfl;show oz.mk m p2 p0 (n.Kids.getD 3 default)=o;rw[h0.1,h2.1,hmk,hn];rfl
     ·have:=c2 o.Path (vO ho).path (by rw[hn];rfl);simp only[aJ]at this;rw[this.2]at e2;cases e2
    ·have hf:=vO ho;have k1:=hf.k1;have k6:=hf.k6;have:=cm o.Kind.toNat (by omega) (by omega) (by rw[hn];rfl);simp only[aJ]at this;rw[this.2]at em;cases em
   ·have:=c0 o.From (vO ho).from_ (by rw[hn];rfl);simp only[aJ]at this;rw[this.2]at e0;cases e0
  ·rw[hn]at en;exact absurd en (by simp[II,Q3])
 ·rw[hn,hv]at ev;cases ev
theorem acY (o:oz):opP o≠[]:=by unfold opP;simp
theorem T.mG {s:aK}(h:s.length<=1000000):Tot (λv:List oz×Bool=>LY v.1/\∀l,FM l=true->okO l=true->s=opsT l->v=(l,true)) (λf=>G.mG f s):=by
 have fin0:LY []:=⟨by simp,λo h=>by cases h⟩;have L:∀(k a:Nat) (z:List oz),a+k=s.length->z.length<=a->(∀o,o∈z->∃D,Jf 1000000 D o)->Tot (λv:List oz×Bool=>LY v.1/\∀l,FM l=true->okO l=true->z.length<=l.length->z=l.take z.length->s.drop a=opsT (l.drop z.length)->v=(l,true)) (λf=>G.mG.L1 f s z s (a:Int)):=by
  intro k
  induction k using dH with|_ k ih=>
  intro a z ha hz hf;refine Tot.up ?_;simp only[G.mG.L1];refine Tot.ite (λe=>?_) (λe=>Tot.ret ⟨⟨by show z.length<=_;omega,λo ho=>?_⟩,λl _ _ hzl he hd=>?_⟩)
  ·have hal:a<s.length:=(by simp only[decide_eq_true_eq]at e;omega);refine Tot.bind (T.NH 5 (by omega) s a 1 ⟨by omega,h⟩ rfl) ?_;rintro⟨m,ok,q⟩⟨⟨b,hb,hab,hbl,hlt⟩,hfm,hall⟩;simp only at hb hfm hlt;subst hb;have nxt:∀l,FM l=true->okO l=true->z.length<=l.length->s.drop a=opsT (l.drop z.length)->z.length<l.length/\KG (l.getD z.length default)=true/\Val (II (l.getD z.length default))=true /\
    m=II (l.getD z.length default)/\ok=true/\s.drop b=59::opsT (l.drop (z.length+1)):=λl hp ho hzl hd=>by
    have hlt:z.length<l.length:=by
     rcases xk z.length l.length with h|h
     ·exact h
     ·rw[ak h]at hd;have:=congrArg kN hd;rw[fE]at this;simp[opsT]at this;omega
    have hm:=getD_mem default hlt;have hv:Val (II (l.getD z.length default))=true:=by unfold okO at ho;exact aZ.1 ho _ hm
    have hd2:s.drop a=nX 5 (II (l.getD z.length default))++(59::opsT (l.drop (z.length+1))):=by rw[hd,dP default hlt];unfold opsT;rw[bz];unfold opP;simp
    have h1:=hall _ _ (lN hv) (NC rfl) hd2;simp only[aJ]at h1;have h3:=h1.2.2;unfold eAt at h3
    injection h3 with _ h4
    have h5:b=s.length-(59::opsT (l.drop (z.length+1))).length:=(by omega);refine⟨hlt,(Q7 hp).2 _ hm,hv,h1.1,h1.2.1,?_⟩;rw[h5];exact(Jv (by omega) hd2).1
   cases ok with
   |false=>exact Tot.cf rfl (Tot.ret ⟨fin0,λl hp ho hzl _ hd=>by have:=(nxt l hp ho hzl hd).2.2.2.2.1;cases this⟩)
   | true=>
     have hab':=hlt rfl;refine Tot.ct rfl (Tot.tK (T.take (p:=[59]) ⟨hbl,h⟩) ?_);cases e1:iW (s.drop b) [59]with
     | false=>rw[Kv e1];refine Tot.cf rfl (Tot.ret ⟨fin0,λl hp ho hzl _ hd=>?_⟩);rw[(nxt l hp ho hzl hd).2.2.2.2.2]at e1;have:=Lh [59] (opsT (l.drop (z.length+1)));rw[BH]at this;rw[this]at e1;cases e1
     | true=>
       rw[Iu e1];have hb':=JA hbl e1;simp only[bF]at hb'⊢;refine Tot.ct rfl (Tot.bind (T.sZ (d:=4) hfm) ?_);rintro⟨o,ko⟩⟨fo,co⟩;refine Tot.ite (λe2=>Tot.ite (λe3=>Tot.ret ⟨fin0,λl hp ho hzl _ hd=>?_⟩) (λe3=>Tot.chk (by omega) ((ih (s.length-(b+1)) (by omega) (b+1) (z++[o]) (by omega) (by simp;omega) (λx hx=>?_)).mono λv hv=>⟨hv.1,λl hp ho hzl he hd=>?_⟩))) (λe2=>Tot.ret ⟨fin0,λl hp ho hzl _ hd=>?_⟩)
       ·have:=(nxt l hp ho hzl hd).1;have:=(Q7 hp).1;simp only[beq_iff_eq]at e3;omega
       ·rcases aV.1 hx with e|e
        ·exact hf x e
        ·rw[bJ]at e;subst e;exact fo
       ·obtain⟨n1,n2,n3,n4,_,n6⟩:=nxt l hp ho hzl hd;have hc:=co _ n2 n3 n4;simp only[aJ]at hc;have hlen:(z++[o]).length=z.length+1:=(by simp);refine hv.2 l hp ho (by rw[hlen];omega) ?_ (by rw[hlen];exact(x9 n6).2.2);rw[hlen,<- take_snoc default n1,<- he,<- hc.1]
       ·obtain⟨_,n2,n3,n4,_,_⟩:=nxt l hp ho hzl hd;have hc:=co _ n2 n3 n4;simp only[aJ]at hc;rw[hc.2]at e2;cases e2
  ·obtain⟨D,hD⟩:=hf o ho;exact⟨D,⟨by have:=hD.path.1;omega,λs hs=>by have:=hD.path.2 s hs;omega⟩,⟨by have:=hD.from_.1;omega,λs hs=>by have:=hD.from_.2 s hs;omega⟩,hD.val.mono (by omega) (ax _)⟩
  ·have hal:a=s.length:=(by simp only[decide_eq_false_iff_not]at e;omega);have hd:opsT (l.drop z.length)=[]:=(by rw[<- hd,ak (by omega)]);have:l.length<=z.length:=by
    rcases xk z.length l.length with h|h
    ·rw[dP default h]at hd;unfold opsT at hd;rw[bz]at hd;exact absurd (Bf.1 hd).1 (acY _)
    ·exact h
   rw[aC this]at he;rw[he]
 refine Tot.up ?_;simp only[G.mG];exact(L s.length 0 [] (by omega) (by simp) (λo h=>by cases h)).mono λv hv=>⟨hv.1,λl hp ho hs=>hv.2 l hp ho (aO _) rfl (by simpa using hs)⟩
def KO : RequestT:=RequestT.mk 0 [] [] [] (aj.mk 0 0 [] [] []) []
theorem JK {q:RequestT}(h:Pq q=true):KF 60 q:=by
 have hr:=U6 h;have P:∀{l:List aK},Aj l=true->xC 60 l:=λ{l} hl=>by obtain⟨h1,h2⟩:=AP hl;exact⟨by omega,λs hs=>by have:=Ir (h2 s hs);omega⟩
 exact⟨by have:=JH hr.Nw;omega,P hr.want,P hr.avoid,⟨5,zO hr.body⟩,aab hr.ops⟩
theorem adG {q:RequestT}(h:Pq q=false):yt q=[]:=by unfold yt;rw[h];rfl
theorem T0.aT {B:Nat}{q:RequestT}(hB:B<=lim)(h:abv B q):Ev (λf=>G.aT f q) (yt q):=by
 cases e:Pq q with
 |true=>exact T.aT (JK e)
 | false=>refine Ev.up ?_;simp only[G.aT];exact Ev.bind (T0.lT hB h) (Ev.cf e (Ev.ret' (adG e).symm))
theorem CB {q:RequestT}(h:yt q≠[]):Pq q=true/\lean q=true/\okO q.Ops=true/\yt q=IY q:=by
 unfold yt at h⊢;split
 ·rename_i c;simp only[ai]at c;exact⟨c.1,c.2.1,c.2.2,rfl⟩
 ·rename_i c;rw[if_neg c]at h;exact absurd rfl h
structure PR (s:aK)(v:RequestT×Bool):Prop where
 no:v.2=false->v.1=KO
 yes:v.2=true->yt v.1=s/\s≠[]/\s.length<=2000
 all:∀q,s≠[]->s.length<=2000->yt q=s->v=(q,true)
theorem PR.uniq {s:aK}{v w:RequestT×Bool}(h:PR s v)(k:PR s w):v=w:=by
 obtain⟨q,b⟩:=v;obtain⟨p,c⟩:=w;cases b with
 | true=>obtain⟨h1,h2,h3⟩:=h.yes rfl;exact(k.all q h2 h3 h1).symm
 | false=>
   cases c with
   | true=>obtain⟨h1,h2,h3⟩:=k.yes rfl;exact h.all p h2 h3 h1
   |false=>rw[show q=KO from h.no rfl,show p=KO from k.no rfl]
theorem Tv {q:RequestT}(h:Pq q=true)(hl:lean q=true)(hm:q.Method=4):q.Body=aj.mk 0 0 [] [] []:=by
 have hr:=U6 h;unfold lean at hl;simp only[ai,iT,beq_iff_eq]at hl;have hk:q.Body.Kind=0:=by
  rcases hl.1 with(h|h)|h
  ·exact h
  ·omega
  ·omega
 have hp:=kT (lN hr.body);have h1:=Ad hp (by omega) (by omega);have h2:=LD hp hk;rw[<- Dz q.Body,hk,h1.1,h1.2,h2.1,h2.2]
theorem Wx {q:RequestT}(hl:lean q=true)(hm:q.Method≠4):q.Ops=[]:=by unfold lean at hl;simp only[ai,iT,beq_iff_eq]at hl;exact List.isEmpty_iff.1 (hl.2.resolve_right hm)
theorem Pe {s:aK}(h:∀q,s≠[]->s.length<=2000->yt q=s->False):PR s (KO,false):=⟨λ_=>rfl,λh=>(by cases h),λq h1 h2 h3=>(h q h1 h2 h3).elim⟩
theorem T.jq {s:aK}(hl:s.length<=4000000000):Tot (PR s) (λf=>G.jq f s):=by
 refine Tot.up ?_;simp only[G.jq];refine Tot.tK (a:=oK [32] 0 (min 5 (s.length+1)-1) s) (Ev.up ?_) ?_
 ·simp only[G.strings_SplitN];exact Ev.chk ⟨by omega,by simp,by omega,by omega⟩ (Ev.ret _)
 generalize hv1:oK [32] 0 (min 5 (s.length+1)-1) s=v1;have words:∀q,s≠[]->yt q=s->v1=[Hq.getD q.Method.toNat default,q.Name,EM q.Want,EM q.oP,if q.Method=4 then opsT q.Ops else nX 5 q.Body]:=λq h0 hw=>by
  have hne:yt q≠[]:=by rw[hw];exact h0
  obtain⟨o1,o2,o3,o4⟩:=CB hne;have hr:=U6 o1;rw[hw]at o4;have hlen:4<=s.length:=by rw[o4];unfold IY hdT;simp only[au,bF];omega
  rw[show min 5 (s.length+1)-1=4 by omega,o4]at hv1;rw[<- hv1];unfold IY hdT;exact adr (adF hr) (acR hr.Nw) (Vm _) (Vm _)
 have ac5:∀i,i<v1.length->(v1.getD i default).length<=s.length:=λi hi=>RD (k:=min 5 (s.length+1)-1) (by rw[hv1];exact getD_mem default hi);refine Tot.ite (λe=>Tot.ret (Pe λq _ h2 _=>by simp only[decide_eq_true_eq]at e;omega)) (λe=>Tot.ite (λe5=>Tot.ret (Pe λq h1 _ h3=>?_)) (λe5=>?_))
 ·rw[words q h1 h3]at e5;exact absurd e5 (by simp)
 have hlen:v1.length=5:=by
  have:(v1.length:Int)=5:=by simpa using e5
  omega
 have p0:=ac5 0 (by omega);have p1:=ac5 1 (by omega);have p2:=ac5 2 (by omega);have p3:=ac5 3 (by omega);have p4:=ac5 4 (by omega);have hs2:s.length<=2000:=by simp only[decide_eq_false_iff_not]at e;omega
 refine Tot.chk (by omega) (Tot.bind (T.Nk _) ?_);rintro⟨m,km⟩ cm;have hm:∀q,s≠[]->yt q=s->m=q.Method/\km=true:=λq h0 hw=>by have hr:=U6 (CB (show yt q≠[] by rw[hw];exact h0)).1;have lo:=hr.lo;have hi:=hr.hi;have:=cm q.Method.toNat (by omega) (by omega) (by rw[words q h0 hw];rfl);simp only[aJ]at this;exact⟨by rw[this.1];omega,this.2⟩
 refine Tot.chk (by omega) (Tot.tK (T.uX (by omega)) (Tot.chk (by omega) (Tot.tK (T.uX (by omega)) ?_)));have hw2:∀q,s≠[]->yt q=s->U3 IV (v1.getD 2 default)=(q.Want,true):=λq h0 hw=>by rw[words q h0 hw];exact Zd (U6 (CB (show yt q≠[] by rw[hw];exact h0)).1).want
 have hw3:∀q,s≠[]->yt q=s->U3 IV (v1.getD 3 default)=(q.oP,true):=λq h0 hw=>by rw[words q h0 hw];exact Zd (U6 (CB (show yt q≠[] by rw[hw];exact h0)).1).avoid
 refine Tot.ite (λem=>Tot.ite (λew=>Tot.ite (λea=>?_) (λea=>Tot.ret (Pe λq h1 _ h3=>?_))) (λew=>Tot.ret (Pe λq h1 _ h3=>?_))) (λem=>Tot.ret (Pe λq h1 _ h3=>?_))
 ·have hf2:=Zc (v1.getD 2 default);have hf3:=Zc (v1.getD 3 default);have mono:∀{l:List aK},xC 60 l->xC 1048576 l:=λh=>⟨by have:=h.1;omega,λt ht=>by have:=h.2 t ht;omega⟩;have K:∀(ok:Bool) (n:aj) (l:List oz),wE 1000000 6 n->LY l->(∀q,s≠[]->yt q=s->q=RequestT.mk m (v1.getD 1 default) (U3 IV (v1.getD 2 default)).1 (U3 IV (v1.getD 3 default)).1 n l/\ok=true) ->
   Tot (PR s) (λf=>G.jq.K1 f s v1 (m,km) (U3 IV (v1.getD 2 default)) (U3 IV (v1.getD 3 default)) ok n.Kind n.Num n.Text n.Names n.Kids l):=λok n l hn hL hq=>by
   refine Tot.up ?_;simp only[G.jq.K1,aj.eta];have hFQ:abv 1048576 (RequestT.mk m (v1.getD 1 default) (U3 IV (v1.getD 2 default)).1 (U3 IV (v1.getD 3 default)).1 n l):=⟨by show(v1.getD 1 default).length<=_;omega,mono hf2,mono hf3,⟨6,hn.mono (by omega) (ax _)⟩,hL⟩;refine Tot.ite (λe1=>Tot.tK (T0.aT aeN hFQ) (Tot.ite (λe2=>Tot.ret ⟨λh=>(by cases h),λ_=>⟨by simpa using e2,λh0=>?_,hs2⟩,λq h1 _ h3=>?_⟩) (λe2=>Tot.ret (Pe λq h1 _ h3=>?_)))) (λe1=>Tot.ret (Pe λq h1 _ h3=>?_))
   ·rw[h0]at hv1;rw[<- hv1]at hlen;exact absurd hlen (by decide)
   ·rw[<- (hq q h1 h3).1]
   ·rw[<- (hq q h1 h3).1,h3]at e2;simp at e2
   ·rw[(hq q h1 h3).2]at e1;cases e1
  have base:∀q,s≠[]->yt q=s->q=RequestT.mk m (v1.getD 1 default) (U3 IV (v1.getD 2 default)).1 (U3 IV (v1.getD 3 default)).1 q.Body q.Ops:=λq h1 h3=>by rw[hw2 q h1 h3,hw3 q h1 h3,(hm q h1 h3).1,words q h1 h3];rfl
  refine Tot.chk (by omega) (Tot.ite (λe4=>Tot.chk (by omega) (Tot.bind (T.mG (by omega)) ?_)) (λe4=>Tot.chk (by omega) (Tot.bind (T.rH (by omega)) ?_)))
  ·rintro⟨l,kl⟩⟨fl,cl⟩;have e4:m=4:=(by simpa using e4);refine K kl (aj.mk 0 0 [] [] []) l (BA _ _) fl (λq h1 h3=>?_);obtain⟨o1,o2,o3,_⟩:=CB (show yt q≠[] by rw[h3];exact h1);have hm4:q.Method=4:=(by rw[<- (hm q h1 h3).1];exact e4);have:=cl q.Ops (U6 o1).ops o3 (by rw[words q h1 h3,if_pos hm4];rfl);simp only[aJ]at this;refine⟨?_,this.2⟩;rw[this.1,<- Tv o1 o2 hm4];exact base q h1 h3
  ·rintro⟨n,kn⟩⟨fn,cn⟩;have e4:m≠4:=(by simpa using e4);refine K kn n [] fn ⟨by simp,λo h=>by cases h⟩ (λq h1 h3=>?_);obtain⟨o1,o2,o3,_⟩:=CB (show yt q≠[] by rw[h3];exact h1);have hm4:q.Method≠4:=(by rw[<- (hm q h1 h3).1];exact e4);have:=cn q.Body (U6 o1).body (by omega) (by rw[words q h1 h3,if_neg hm4];rfl);simp only[aJ]at this;refine⟨?_,this.2⟩;rw[this.1,<- Wx o2 hm4];exact base q h1 h3
 ·rw[hw3 q h1 h3]at ea;cases ea
 ·rw[hw2 q h1 h3]at ew;cases ew
 ·rw[(hm q h1 h3).2]at em;cases em
section
def Lr : Nat:=1048576
def WW (s r:aK):dM:=dM.mk s ((s.length-r.length:Nat):Int) false
theorem Rn {s x r:aK}{a:Nat}(ha:a<=s.length)(h:s.drop a=x++r):dM.mk s ((a+x.length:Nat):Int) false=WW s r:=by
 have:=congrArg kN h;rw[fE,au]at this;unfold WW
 congr 2;omega
def pk (s:aK)(a:Nat):Int:=if a<s.length then((s.getD a 0).toNat:Int)else 0
theorem xW {s r:aK}{a:Nat}{b:UInt8}(h:s.drop a=b::r):pk s a=(b.toNat:Int):=by have:=x9 h;unfold pk;rw[if_pos this.1,this.2.1]
theorem Jc {s:aK}{a:Nat}(h:pk s a≠0):a<s.length/\pk s a=((s.getD a 0).toNat:Int):=by
 unfold pk at h⊢;split
 ·rename_i hl;exact⟨hl,rfl⟩
 ·rename_i hl;rw[if_neg hl]at h;exact absurd rfl h
theorem ac3 (s:aK)(a:Nat):0<=pk s a/\pk s a<=255:=by
 unfold pk;split
 ·have:=(s.getD a 0).toNat_lt;omega
 ·omega
section
variable {s:aK} {a:Nat} {bd:Bool} (ha:a<=s.length) (hl:s.length<=1000000)
include ha hl
theorem T.peek : Ev (λf=>G.gB f (dM.mk s (a:Int) bd)) (pk s a,dM.mk s (a:Int) bd):=by
 have _:=hl;refine Ev.up ?_;simp only[G.gB,ah];unfold pk;refine Ev.ite (λe=>?_) (λe=>?_)
 ·simp only[decide_eq_true_eq]at e;rw[if_neg (by omega)];exact Ev.ret _
 ·simp only[decide_eq_false_iff_not]at e;rw[if_pos (by omega)];exact Ev.chk ⟨by omega,by omega⟩ (Ev.ret _)
theorem T.ahe (c:Int):Ev (λf=>G.kG f (dM.mk s (a:Int) bd) c) (if pk s a=c then dM.mk s ((a+1:Nat):Int) bd else dM.mk s (a:Int) true):=by
 refine Ev.up ?_;simp only[G.kG];refine Ev.bind (T.peek ha hl) (Ev.ite (λe=>?_) (λe=>?_))
 ·have:pk s a≠c:=by simpa using e
  rw[if_neg this];exact Ev.ret _
 ·have:pk s a=c:=by simpa using e
  rw[if_pos this];exact Ev.ret' (by simp only[dF (show a+1<9223372036854775808 by omega)])
def InS (s:aK)(a:Nat)(bd:Bool)(v:dM):Prop:=∃(b:Nat) (LW:Bool),v=dM.mk s (b:Int) LW/\a<=b/\b<=s.length/\(bd=true->LW=true)
theorem T.RH (c:Int)(hc:c≠0):Tot (λv=>InS s a bd v/\(pk s a=c->v=dM.mk s ((a+1:Nat):Int) bd)/\(pk s a≠c->v=dM.mk s (a:Int) true)) (λf=>G.kG f (dM.mk s (a:Int) bd) c):=by
 refine⟨_,T.ahe ha hl c,?_,λh=>by rw[if_pos h],λh=>by rw[if_neg h]⟩;by_cases h:pk s a=c
 ·have:=Jc (h▸hc);rw[if_pos h];exact⟨a+1,bd,rfl,by omega,by omega,λh=>h⟩
 ·rw[if_neg h];exact⟨a,true,rfl,ax _,ha,λ_=>rfl⟩
end
theorem agi {b:UInt8}(h:okB b=true):b≠0:=λe=>by rw[e]at h;exact absurd h (by decide)
theorem ac8 {t:aK}(h:PT t=true):∀b,b∈t->b≠0:=λb hb=>by unfold PT at h;simp only[ai,aZ]at h;exact agi (h.1 b hb)
structure RdV (s:aK)(a:Nat)(bd:Bool)(v:aK×dM):Prop where
 pos:∃(b:Nat) (LW:Bool),v.2=dM.mk s (b:Int) LW/\a<=b/\b<=s.length/\(LW=false->a<b/\bd=false)
 len:v.1.length<=1000000
 all:bd=false->∀t r,(∀b,b∈t->b≠0)->s.drop a=EC t++r->v=(t,WW s r)
theorem T.quoted.L3t {s:aK}(hl:s.length<=1000000){y:Nat}{z:List Int}(hy:y<=s.length)(hz:z.length<=y) :
 Tot (λv:aK×dM=>(∃(b:Nat),v.2=dM.mk s (b:Int) true/\y<=b/\b<=s.length)/\v.1.length<=1000000) (λf=>G.fC.L3 f s (y:Int) true z):=by
 have hM:=maxL;refine Tot.up ?_;simp only[G.fC.L3];refine Tot.ct rfl (Tot.bind (T.RH hy hl 34 (by decide)) ?_);rintro v ⟨⟨b,LW,rfl,h1,h2,h3⟩,_⟩;refine Tot.chk (by omega) (Tot.ret ⟨⟨b,by rw[h3 rfl],h1,h2⟩,?_⟩);rw[Bz];omega
theorem XG {z:List Int}{b:UInt8}{t:aK} : zJ (z++[(b.toNat:Int)])++t=zJ z++b::t:=by unfold zJ;rw[jO,List.map_singleton,ah,Ai];simp
theorem T.quoted.L3 {s:aK}(hl:s.length<=1000000):∀(k y:Nat) (z:List Int),y+k=s.length->z.length<=y ->
 Tot (λv:aK×dM=>(∃(b:Nat) (LW:Bool),v.2=dM.mk s (b:Int) LW/\y<=b/\b<=s.length)/\v.1.length<=1000000/\∀t r,(∀b,b∈t->b≠0)->s.drop y=t.flatMap DD++34::r->v=(zJ z++t,WW s r))
  (λf=>G.fC.L3 f s (y:Int) false z):=by
 have hM:=maxL;intro k
 induction k using dH with|_ k ih=>
 intro y z hy hz;have K4:∀y':Nat,y<=y'->y'<=s.length->Tot (λv:aK×dM=>(∃(b:Nat) (LW:Bool),v.2=dM.mk s (b:Int) LW/\y<=b/\b<=s.length)/\v.1.length<=1000000 /\
  ∀b t r,b≠0->(∀c,c∈t->c≠0)->s.drop y'=b::(t.flatMap DD++34::r)->v=(zJ z++b::t,WW s r)) (λf=>G.fC.K4 f z s (y':Int) false):=λy' h1 h2=>by
  refine Tot.up ?_;simp only[G.fC.K4];refine Tot.tK (T.peek h2 hl) (Tot.ite (λe=>Tot.ret ⟨⟨y',true,rfl,h1,h2⟩,aO _,λb t r hb _ hd=>?_⟩) (λe=>Tot.tK (T.peek h2 hl) (Tot.chk (by omega) ?_)))
  ·have e:pk s y'=0:=(by simpa using e);rw[xW hd]at e;exact absurd (oq.1 (show b.toNat=(0:UInt8).toNat by show b.toNat=0;omega)) hb
  ·have e:pk s y'≠0:=(by simpa using e);obtain⟨hlt,hp⟩:=Jc e;simp only[dF (show y'+1<9223372036854775808 by omega)];rw[hp];refine(ih (s.length-(y'+1)) (by omega) (y'+1) _ (by omega) (by simp;omega)).mono ?_;rintro v ⟨⟨b,LW,p1,p2,p3⟩,p4,p5⟩;refine⟨⟨b,LW,p1,by omega,p3⟩,p4,λb t r hb ht hd=>?_⟩;obtain⟨_,g2,g3⟩:=x9 hd;rw[p5 t r ht g3,g2,XG]
 refine Tot.up ?_;simp only[G.fC.L3];refine Tot.cf rfl (Tot.tK (T.peek (by omega) hl) (Tot.ite (λe=>Tot.tK (T.peek (by omega) hl) ?_) (λe=>Tot.bind (T.RH (by omega) hl 34 (by decide)) ?_)))
 ·have n34:pk s y≠34:=by simpa using e
  refine Tot.ite (λe2=>?_) (λe2=>?_)
  ·have e2:pk s y=92:=(by simpa using e2);have hlt:=(Jc (show pk s y≠0 by omega)).1;simp only[dF (show y+1<9223372036854775808 by omega)];refine(K4 (y+1) (by omega) (by omega)).mono ?_;rintro v ⟨p1,p4,p5⟩;refine⟨p1,p4,λt r ht hd=>?_⟩;have hd0:=dP (0:UInt8) hlt;rw[hd0]at hd;have hb:=xW hd0;rcases Fv hd with⟨Tn,_⟩|⟨_,c,t',hc,rfl,hq⟩|⟨_,Xn,_⟩
   ·rw[Tn]at hb;exact absurd hb n34
   ·exact p5 c t' r (ht c (bC ..)) (λb hb=>ht b (dL _ hb)) hq
   ·exact absurd (oq.1 (show(s.getD y 0).toNat=(92:UInt8).toNat by show _=92;omega)) Xn
  ·have e2:pk s y≠92:=(by simpa using e2);refine(K4 y (ax _) (by omega)).mono ?_;rintro v ⟨p1,p4,p5⟩;refine⟨p1,p4,λt r ht hd=>?_⟩;cases hdy:s.drop y with
   |nil=>rw[hdy]at hd;have:=congrArg kN hd;simp at this
   | cons b q=>
     have hb:=xW hdy;rw[hdy]at hd;rcases Fv hd with⟨Tn,_⟩|⟨Xn,_⟩|⟨_,_,t',rfl,hq⟩
     ·rw[Tn]at hb;exact absurd hb n34
     ·rw[Xn]at hb;exact absurd hb e2
     ·exact p5 b t' r (ht b (bC ..)) (λc hc=>ht c (dL _ hc)) (by rw[hdy,hq])
 ·have e34:pk s y=34:=by simpa using e
  rintro v ⟨_,h1,_⟩;rw[h1 e34];have hlt:=(Jc (show pk s y≠0 by omega)).1;refine Tot.chk (by omega) (Tot.ret ⟨⟨y+1,false,rfl,by omega,by omega⟩,by rw[Bz];omega,λt r ht hd=>?_⟩);have hd0:=dP (0:UInt8) hlt;rw[hd0]at hd;have hb:=xW hd0;rcases Fv hd with⟨Tn,rfl,hr⟩|⟨Xn,_⟩|⟨Tn,_⟩
  ·have:dM.mk s ((y+[34].length:Nat):Int) false=WW s r:=Rn (x:=[34]) (r:=r) (F9 hlt) (by rw[hd0,hr,Tn];rfl);rw[bM,<- this];rfl
  ·rw[Xn]at hb;exact absurd (hb.symm.trans e34) (by decide)
  ·exact absurd (oq.1 (show(s.getD y 0).toNat=(34:UInt8).toNat by show _=34;omega)) Tn
theorem T.quoted {s:aK}(hl:s.length<=1000000){a:Nat}(ha:a<=s.length)(bd:Bool):Tot (RdV s a bd) (λf=>G.fC f (dM.mk s (a:Int) bd)):=by
 refine Tot.up ?_;simp only[G.fC];refine Tot.bind (T.RH ha hl 34 (by decide)) ?_;rintro v ⟨_,h1,h2⟩;by_cases e:pk s a=34
 ·rw[h1 e];have hlt:=(Jc (show pk s a≠0 by omega)).1;cases bd with
  | true=>refine(T.quoted.L3t (s:=s) hl (y:=a+1) (z:=[]) (by omega) (by simp)).mono ?_;rintro v ⟨⟨b,p1,p2,p3⟩,p4⟩;exact⟨⟨b,true,p1,by omega,p3,λh=>by cases h⟩,p4,λh=>by cases h⟩
  | false=>refine(T.quoted.L3 hl (s.length-(a+1)) (a+1) [] (by omega) (by simp)).mono ?_;rintro v ⟨⟨b,LW,p1,p2,p3⟩,p4,p5⟩;refine⟨⟨b,LW,p1,by omega,p3,λ_=>⟨by omega,rfl⟩⟩,p4,λ_ t r ht hd=>?_⟩;unfold EC at hd;rw[p5 t r ht (by rw[(x9 (hd.trans (bY ..))).2.2];simp)];rfl
 ·rw[h2 e];refine(T.quoted.L3t (s:=s) hl (y:=a) (z:=[]) ha (by simp)).mono ?_;rintro v ⟨⟨b,p1,p2,p3⟩,p4⟩;refine⟨⟨b,true,p1,p2,p3,λh=>by cases h⟩,p4,λ_ t r _ hd=>?_⟩;unfold EC at hd;exact absurd (xW (hd.trans (bY ..))) e
def agr (acc:Nat)(x:aK):Nat:=x.foldl (λn b=>10*n+(b.toNat-48)) acc
theorem Xa (i:Nat):agr 0 (yE i)=i:=by
 induction i using dH with|_ i ih=>
 have dig:∀k:Nat,k<10->(eU (48+k)).toNat=48+k:=λk hk=>by rw[xB];omega
 by_cases h:i<10
 ·rw[yD h];show 10*0+((eU (48+i)).toNat-48)=i;rw[dig i h];omega
 ·have:=ih (i/10) (by omega);rw[Du h];unfold agr at this⊢;rw[vT,this,lZ,BQ,dig _ (by omega)];omega
def isD (b:UInt8):Prop:=48<=b.toNat/\b.toNat<=57
theorem QC (i:Nat):∀b,b∈yE i->isD b:=by
 induction i using dH with|_ i ih=>
 have dig:∀k:Nat,k<10->isD (eU (48+k)):=λk hk=>by unfold isD;rw[xB];omega
 intro b hb;by_cases h:i<10
 ·rw[yD h,bJ]at hb;rw[hb];exact dig i h
 ·rw[Du h]at hb;rcases aV.1 hb with e|e
  ·exact ih (i/10) (by omega) b e
  ·rw[bJ]at e;rw[e];exact dig (i%10) (by omega)
theorem T.number.L2 {s:aK}(hl:s.length<=1000000){sg:Int}(hs:sg=1\/sg = -1){bd:Bool} : ∀(j k y n:Nat),k+j=7->y<=s.length->n<10^k ->
 Tot (λv:Int×dM=>(∃b:Nat,v.2=dM.mk s (b:Int) bd/\y<=b/\b<=s.length/\(48<=pk s y->pk s y<=57->0<j->y<b))/\∀x r,x.length<=j->(∀b,b∈x->isD b)->okR r->s.drop y=x++r->v=(sg*((agr n x:Nat):Int),dM.mk s ((y+x.length:Nat):Int) bd))
  (λf=>G.fG.L2 f sg (n:Int) (k:Int) s (y:Int) bd):=by
 have wm:∀n:Nat,n<10000000->af .i64 (sg*(n:Int))=sg*(n:Int):=λn hn=>RX (by rcases hs with e|e<;>rw[e]<;>omega) (by rcases hs with e|e<;>rw[e]<;>omega);intro j
 induction j with
 | zero=>intro k y n hk hy hn;have hk7:k=7:=(by omega);subst hk7;refine Tot.up ?_;simp only[G.fG.L2];refine Tot.cf (decide_eq_false (by omega)) (Tot.ret ⟨⟨y,rfl,ax _,hy,λ_ _ h=>by omega⟩,λx r hx _ _ hd=>?_⟩);have:x=[]:=dD (by omega);subst this;rw[wm n (by simpa using hn)];rfl
 | succ j ih=>
   intro k y n hk hy hn;have hk6:10^k<=10^6:=Nat.pow_le_pow_right (by decide) (by omega);have hn6:n<1000000:=Nat.lt_of_lt_of_le hn (by simpa using hk6);have hp:=ac3 s y;have w0:af .i64 (pk s y)=pk s y:=RX (by omega) (by omega);refine Tot.up ?_;simp only[G.fG.L2];refine Tot.ct (decide_eq_true (by omega)) (Tot.tK (T.peek hy hl) (Tot.tK (T.fZ _ _ _) (Tot.ite (λe=>Tot.tK (T.peek hy hl) ?_) (λe=>Tot.ret ⟨⟨y,rfl,ax _,hy,λh1 h2 _=>?_⟩,λx r hx hd0 hr hd=>?_⟩))))
   ·simp only[w0,ai,decide_eq_true_eq]at e;obtain⟨hlt,hb⟩:=Jc (show pk s y≠0 by omega);have hw:af .i64 (af .i64 (af .i64 (10*(n:Int))+af .i64 (pk s y))-48)=((10*n+((s.getD y 0).toNat-48):Nat):Int):=by
     rw[w0,RX (x:=10*(n:Int)) (by omega) (by omega),RX (x:=10*(n:Int)+pk s y) (by omega) (by omega),RX (by omega) (by omega)];omega
    simp only[hw,dF (show k+1<9223372036854775808 by omega),dF (show y+1<9223372036854775808 by omega)];refine(ih (k+1) (y+1) _ (by omega) (by omega) (by rw[yJ];omega)).mono ?_;rintro v ⟨⟨b,p1,p2,p3,_⟩,p5⟩;refine⟨⟨b,p1,by omega,p3,λ_ _ _=>by omega⟩,λx r hx hd0 hr hd=>?_⟩;cases x with
    | nil=>rw[dN]at hd;have:=hr (s.getD y 0) (by rw[<- hd,dP (0:UInt8) hlt];rfl);unfold Jg at this;rw[decide_eq_true (show 48<=(s.getD y 0).toNat by omega),decide_eq_true (show(s.getD y 0).toNat<=57 by omega)]at this;simp at this
    | cons c x=>
      obtain⟨_,g2,g3⟩:=x9 (hd.trans (bY ..));rw[p5 x r (by simpa using hx) (λb hb=>hd0 b (dL _ hb)) hr g3,g2];refine sH rfl ?_;show dM.mk _ _ _=dM.mk _ _ _
      congr 2
      simp only[bH];omega
   ·simp only[w0,uq,decide_eq_false_iff_not]at e;omega
   ·simp only[w0,uq,decide_eq_false_iff_not]at e;cases x with
    |nil=>rw[wm n (by omega)];rfl
    | cons c x=>have:=xW (hd.trans (bY ..));have hc:=hd0 c (bC ..);unfold isD at hc;omega
theorem YR (i:Nat):∃b q,yE i=b::q/\isD b:=by
 cases h:yE i with
 |nil=>exact absurd h (MJ i)
 |cons b q=>exact⟨b,q,rfl,QC i b (by rw[h];exact bC ..)⟩
theorem T.number {s:aK}(hl:s.length<=1000000){a:Nat}(ha:a<=s.length)(h0:pk s a=45\/(48<=pk s a/\pk s a<=57)) :
 Tot (λv:Int×dM=>(∃b:Nat,v.2=dM.mk s (b:Int) false/\a<b/\b<=s.length)/\∀z r,-999999<=z->z<=999999->okR r->s.drop a=AB z++r->v=(z,WW s r)) (λf=>G.fG f (dM.mk s (a:Int) false)):=by
 have hlt:=(Jc (show pk s a≠0 by omega)).1;refine Tot.up ?_;simp only[G.fG];refine Tot.tK (T.peek ha hl) (Tot.ite (λe=>Tot.up ?_) (λe=>Tot.up ?_))
 ·have e:pk s a=45:=by simpa using e
  simp only[G.fG.K1,dF (show a+1<9223372036854775808 by omega)];refine(T.number.L2 hl (.inr rfl) 7 0 (a+1) 0 (by omega) (by omega) (by decide)).mono ?_;rintro v ⟨⟨b,p1,p2,p3,_⟩,p5⟩;refine⟨⟨b,p1,by omega,p3⟩,λz r h1 h2 hr hd=>?_⟩;by_cases hz:z<0
  ·have ez:AB z=45::yE (-z).toNat:=if_pos hz;rw[ez]at hd;have g3:=(x9 (hd.trans (bY ..))).2.2;have hlen:=Fj (i:=(-z).toNat) (by omega);rw[p5 _ r (by omega) (QC _) hr g3,Xa];refine sH (by show(-1:Int)*_=z;omega) ?_;rw[<- Rn (show a+1<=s.length by omega) g3]
  ·have ez:AB z=yE z.toNat:=if_neg hz;rw[ez]at hd;obtain⟨b,q,hb,hd0⟩:=YR z.toNat
   rw[hb]at hd;have:=xW (hd.trans (bY ..));unfold isD at hd0;omega
 ·have e:pk s a≠45:=by simpa using e
  simp only[G.fG.K1];refine(T.number.L2 hl (.inl rfl) 7 0 a 0 (by omega) ha (by decide)).mono ?_;rintro v ⟨⟨b,p1,p2,p3,p4⟩,p5⟩;refine⟨⟨b,p1,p4 (by omega) (by omega) (by omega),p3⟩,λz r h1 h2 hr hd=>?_⟩;by_cases hz:z<0
  ·have ez:AB z=45::yE (-z).toNat:=if_pos hz;rw[ez]at hd;exact absurd (xW (hd.trans (bY ..))) e
  ·have ez:AB z=yE z.toNat:=if_neg hz;rw[ez]at hd;have hlen:=Fj (i:=z.toNat) (by omega);rw[p5 _ r (by omega) (QC _) hr hd,Xa];refine sH (by show(1:Int)*_=z;omega) ?_;rw[<- Rn ha hd]
end
section
theorem ac2 {n:aj}(h:Parts n=true)(hk:n.Kind=2):PT n.Text=true:=by unfold Parts at h;rw[if_neg (by omega),if_neg (by omega),if_pos hk]at h;simp only[ai]at h;exact h.2.1
structure RdS (d:Nat)(s:aK)(a:Nat)(v:aj×dM):Prop where
 pos:∃(b:Nat) (bd:Bool),v.2=dM.mk s (b:Int) bd/\a<=b/\b<=s.length/\(bd=false->a<b)
 fin:wE Lr (d+1) v.1
 all:∀n r,Shape d n=true->okR r->s.drop a=nX d n++r->v=(n,WW s r)
theorem Gn {d:Nat}{k z:Int}{t:aK}(ht:t.length<=1000000):wE Lr (d+1) (aj.mk k z t [] []):=
 ⟨iP ht (by decide),aO _,λs h=>(by cases h),aO _,trivial,λk h=>(by cases h)⟩
theorem T.acU {s:aK}{a:Nat}(lv:Int):Ev (λf=>G.kF f (dM.mk s (a:Int) true) lv) (aj.mk 0 0 [] [] [],dM.mk s (a:Int) true):=by refine Ev.up ?_;simp only[G.kF];exact Ev.ite (λ_=>Ev.ret _) (λ_=>Ev.ct rfl (Ev.ret _))
structure RdI (d:Nat)(kind:Int)(c:UInt8)(s:aK)(y:Nat)(bd:Bool)(z5:List aK)(z6:List aj)(v:aj×dM):Prop where
 pos:∃(b:Nat) (LW:Bool),v.2=dM.mk s (b:Int) LW/\y<=b/\b<=s.length
 fin:wE Lr (d+2) v.1
 all:bd=false->∀n r,Big d kind n->z6.length<=n.Kids.length->z6=n.Kids.take z6.length->z5=(if kind=4 then n.Names.take z6.length else []) ->
  (∀t,t∈n.Names->PT t=true)->s.drop y=xH (nX d) n z6.length [c] r->v=(n,WW s r)
section
variable {d:Nat} (hd:d<=4) (IH:∀(s:aK) (a:Nat),a<=s.length->s.length<=1000000->Tot (RdS d s a) (λf=>G.kF f (dM.mk s (a:Int) false) (d:Int)))
 {kind:Int} {c:UInt8} (hk:kind=3/\c=93\/kind=4/\c=125) {s:aK} (hl:s.length<=1000000)
include hd IH hk hl
theorem T.inside.L5t {y:Nat}{z5:List aK}{z6:List aj}(hy:y<=s.length)(h6:z6.length<=y+1)(h5:z5.length<=y+1)(ht:∀t,t∈z5->t.length<=1000000)(hn:∀n,n∈z6->wE Lr (d+1) n) :
 Tot (RdI d kind c s y true z5 z6) (λf=>G.bT.L5 f (aj.mk kind 0 [] [] []) (c.toNat:Int) ((d+1:Nat):Int) s (y:Int) true z5 z6):=by
 have _:=hd;have _:=IH;have hc:(c.toNat:Int)≠0:=by rcases hk with⟨_,h⟩|⟨_,h⟩<;>rw[h]<;>decide
 refine Tot.up ?_;simp only[G.bT.L5];refine Tot.ct rfl (Tot.bind (T.RH hy hl _ hc) ?_);rintro v ⟨⟨b,LW,rfl,h1,h2,h3⟩,_⟩;refine Tot.ret ⟨⟨b,LW,rfl,h1,h2⟩,⟨aO _,?_,λt h=>iP (ht t h) (by decide),?_,trivial,hn⟩,λh=>by cases h⟩
 ·show z5.length<=Lr;unfold Lr;omega
 ·show z6.length<=Lr;unfold Lr;omega
theorem T.inside.L5 : ∀(k y:Nat) (z5:List aK) (z6:List aj),y+k=s.length->z6.length<=y->z5.length<=y->(∀t,t∈z5->t.length<=1000000)->(∀n,n∈z6->wE Lr (d+1) n) ->
 Tot (RdI d kind c s y false z5 z6) (λf=>G.bT.L5 f (aj.mk kind 0 [] [] []) (c.toNat:Int) ((d+1:Nat):Int) s (y:Int) false z5 z6):=by
 have hc:c=93\/c=125:=by rcases hk with⟨_,h⟩|⟨_,h⟩<;>simp[h]
 have hc0:(c.toNat:Int)≠0:=by rcases hc with h|h<;>rw[h]<;>decide
 have cne:∀{b:UInt8},b≠c->(b.toNat:Int)≠(c.toNat:Int):=λh e=>h (oq.1 (by omega));intro k
 induction k using dH with|_ k ih=>
 intro y z5 z6 hy h6 h5 ht hn;have hM:=maxL;have K7:∀(p:Nat) (bd:Bool) (z7:List aK),y<=p->p<=s.length->z7.length<=p+1->(∀t,t∈z7->t.length<=1000000) ->
  Tot (λv:aj×dM=>(∃(b:Nat) (LW:Bool),v.2=dM.mk s (b:Int) LW/\y<=b/\b<=s.length)/\wE Lr (d+2) v.1/\(bd=false->∀n r,Big d kind n->z6.length<n.Kids.length->z6=n.Kids.take z6.length->z7=(if kind=4 then n.Names.take (z6.length+1)else []) ->
   (∀t,t∈n.Names->PT t=true)->s.drop p=nX d (n.Kids.getD z6.length default)++xH (nX d) n (z6.length+1) [c] r->v=(n,WW s r)))
  (λf=>G.bT.K7 f (aj.mk kind 0 [] [] []) (c.toNat:Int) ((d+1:Nat):Int) z6 s (p:Int) bd z7):=λp bd z7 hp hpl h7 ht7=>by
  refine Tot.up ?_;simp only[G.bT.K7];have w1:af .i64 (((d+1:Nat):Int)-1)=(d:Int):=by rw[RX (by omega) (by omega)];omega
  rw[w1];cases bd with
  | true=>
    refine Tot.tK (T.acU _) (Tot.chk (by omega) ((T.inside.L5t hd IH hk hl (y:=p) (z5:=z7) (z6:=z6++[aj.mk 0 0 [] [] []]) hpl (by simp;omega) h7 ht7 (λx hx=>?_)).mono ?_))
    ·rcases aV.1 hx with e|e
     ·exact hn x e
     ·rw[bJ]at e;subst e;exact Gn (aO _)
    rintro v ⟨⟨b,LW,g1,g2,g3⟩,g4,_⟩;exact⟨⟨b,LW,g1,by omega,g3⟩,g4,λh=>by cases h⟩
  | false=>
    refine Tot.bind (IH s p hpl hl) ?_;rintro⟨m,q⟩⟨⟨b,bd,hb1,hb2,hb3,hb4⟩,hf,hall⟩;simp only at hb1 hf;subst hb1;have hn':∀x,x∈z6++[m]->wE Lr (d+1) x:=λx hx=>by
     rcases aV.1 hx with e|e
     ·exact hn x e
     ·rw[bJ]at e;subst e;exact hf
    have kid:∀n r,Big d kind n->z6.length<n.Kids.length->s.drop p=nX d (n.Kids.getD z6.length default)++xH (nX d) n (z6.length+1) [c] r->m=n.Kids.getD z6.length default/\bd=false/\s.drop b=xH (nX d) n (z6.length+1) [c] r:=λn r hB hlt hdr=>by
     have h1:=hall _ (xH (nX d) n (z6.length+1) [c] r) (hB.kids _ (getD_mem default hlt)) (RG hc (yK _)) hdr;simp only[aJ]at h1;have h3:=h1.2;unfold WW at h3
     injection h3 with _ h4 h5
     refine⟨h1.1,h5,?_⟩;have h6:b=s.length-(xH (nX d) n (z6.length+1) [c] r).length:=(by omega);rw[h6];exact(Jv hpl hdr).1
    cases bd with
    | true=>refine Tot.chk (by omega) ((T.inside.L5t hd IH hk hl (y:=b) (z5:=z7) (z6:=z6++[m]) hb3 (by simp;omega) (by omega) ht7 hn').mono ?_);rintro v ⟨⟨b2,LW,g1,g2,g3⟩,g4,_⟩;exact⟨⟨b2,LW,g1,by omega,g3⟩,g4,λ_ n r hB hlt _ _ _ hdr=>by have:=(kid n r hB hlt hdr).2.1;cases this⟩
    | false=>have hpb:=hb4 rfl;refine Tot.chk (by omega) ((ih (s.length-b) (by omega) b z7 (z6++[m]) (by omega) (by simp;omega) (by omega) ht7 hn').mono ?_);rintro v ⟨⟨b2,LW,g1,g2,g3⟩,g4,g5⟩;refine⟨⟨b2,LW,g1,by omega,g3⟩,g4,λ_ n r hB hlt Tq h7e hnm hdr=>?_⟩;obtain⟨hm,_,hdb⟩:=kid n r hB hlt hdr;have hlen:(z6++[m]).length=z6.length+1:=(by simp);refine g5 rfl n r hB (by rw[hlen];omega) ?_ (by rw[hlen];exact h7e) hnm (by rw[hlen];exact hdb);rw[hlen,<- take_snoc default hlt,<- Tq,<- hm]
 have K6:∀(p:Nat) (bd:Bool),y<=p->p<=s.length ->
  Tot (λv:aj×dM=>(∃(b:Nat) (LW:Bool),v.2=dM.mk s (b:Int) LW/\y<=b/\b<=s.length)/\wE Lr (d+2) v.1/\(bd=false->∀n r,Big d kind n->z6.length<n.Kids.length->z6=n.Kids.take z6.length->z5=(if kind=4 then n.Names.take z6.length else []) ->
   (∀t,t∈n.Names->PT t=true)->s.drop p=Gu (nX d) n z6.length++xH (nX d) n (z6.length+1) [c] r->v=(n,WW s r)))
  (λf=>G.bT.K6 f (aj.mk kind 0 [] [] []) (c.toNat:Int) ((d+1:Nat):Int) z5 z6 s (p:Int) bd):=λp bd hp hpl=>by
  refine Tot.up ?_;simp only[G.bT.K6];refine Tot.ite (λe=>?_) (λe=>?_)
  ·have k4:kind=4:=(by simpa using e);refine Tot.bind (T.quoted hl hpl bd) ?_;rintro⟨t,q⟩⟨⟨b,bd1,hb1,hb2,hb3,hb4⟩,hlen,hall⟩;simp only at hb1 hlen;subst hb1;refine Tot.chk (by omega) (Tot.bind (T.RH hb3 hl 58 (by decide)) ?_);rintro v ⟨⟨b2,bd2,rfl,c1,c2,c3⟩,c4,c5⟩;refine(K7 b2 bd2 (z5++[t]) (by omega) c2 (by simp;omega) (λx hx=>?_)).mono ?_
   ·rcases aV.1 hx with e|e
    ·exact ht x e
    ·rw[bJ]at e;subst e;exact hlen
   rintro v ⟨g1,g2,g3⟩;refine⟨g1,g2,λhbd n r hB hlt Tq Wh hnm hdr=>?_⟩;have hnl:=hB.len k4;have hlt':z6.length<n.Names.length:=(by omega);have hd2:s.drop p=EC (n.Names.getD z6.length default)++(58::(nX d (n.Kids.getD z6.length default)++xH (nX d) n (z6.length+1) [c] r)):=(by rw[hdr];unfold Gu;rw[if_pos (by rw[hB.kd,k4])];simp);have h1:=hall hbd _ _ (ac8 (hnm _ (getD_mem default hlt'))) hd2;simp only[aJ]at h1;have h3:=h1.2;unfold WW at h3
   injection h3 with _ h4 h5'
   have h6':b=s.length-(58::(nX d (n.Kids.getD z6.length default)++xH (nX d) n (z6.length+1) [c] r)).length:=(by omega);have hdb:=(Jv hpl hd2).1;rw[<- h6']at hdb;have h7:=c4 (xW hdb)
   injection h7 with _ h8 h9
   have h10:b2=b+1:=(by omega);refine g3 (by rw[h9,h5']) n r hB hlt Tq ?_ hnm (by rw[h10];exact(x9 hdb).2.2);rw[if_pos k4]at Wh⊢;rw[Wh,h1.1];exact take_snoc (default:aK) (by omega)
  ·have k3:kind=3:=by
    rcases hk with⟨h,_⟩|⟨h,_⟩
    ·exact h
    ·rw[h]at e;simp at e
   refine(K7 p bd z5 hp hpl (by omega) ht).mono ?_;rintro v ⟨g1,g2,g3⟩;refine⟨g1,g2,λhbd n r hB hlt Tq Wh hnm hdr=>g3 hbd n r hB hlt Tq ?_ hnm ?_⟩
   ·rw[if_neg (by omega)]at Wh⊢;exact Wh
   ·unfold Gu at hdr;rw[if_neg (by rw[hB.kd];omega)]at hdr;simpa using hdr
 refine Tot.up ?_;simp only[G.bT.L5];refine Tot.cf rfl (Tot.tK (T.peek (by omega) hl) (Tot.ite (λe=>?_) (λe=>?_)))
 ·have ne:pk s y≠(c.toNat:Int):=by simpa using e
  have more:∀n r,s.drop y=xH (nX d) n z6.length [c] r->z6.length<n.Kids.length:=λn r hdr=>by
   rcases xk z6.length n.Kids.length with h|h
   ·exact h
   ·rw[E8 h]at hdr;exact absurd (xW hdr) ne
  refine Tot.ite (λe0=>Tot.bind (T.RH (by omega) hl 44 (by decide)) ?_) (λe0=>?_)
  ·have h0:0<z6.length:=(by simp only[decide_eq_true_eq]at e0;omega);rintro v ⟨⟨b,LW,rfl,c1,c2,_⟩,c4,_⟩;refine(K6 b LW c1 c2).mono ?_;rintro v ⟨g1,g2,g3⟩;refine⟨g1,g2,λ_ n r hB hle Tq Wh hnm hdr=>?_⟩;have hlt:=more n r hdr;rw[Fa hlt h0]at hdr;have h7:=c4 (xW hdr)
   injection h7 with _ h8 h9
   have h10:b=y+1:=(by omega);exact g3 h9 n r hB hlt Tq Wh hnm (by rw[h10];exact(x9 hdr).2.2)
  ·have h0:z6.length=0:=(by simp only[decide_eq_false_iff_not]at e0;omega);refine(K6 y false (ax _) (by omega)).mono ?_;rintro v ⟨g1,g2,g3⟩;refine⟨g1,g2,λ_ n r hB hle Tq Wh hnm hdr=>?_⟩;have hlt:=more n r hdr;refine g3 rfl n r hB hlt Tq Wh hnm ?_;rw[hdr,h0];exact IW (by omega)
 ·have ec:pk s y=(c.toNat:Int):=by simpa using e
  have hlt:=(Jc (show pk s y≠0 by rw[ec];exact hc0)).1;refine Tot.bind (T.RH (by omega) hl _ hc0) ?_;rintro v ⟨_,h1,_⟩;rw[h1 ec];refine Tot.ret ⟨⟨y+1,false,rfl,by omega,by omega⟩,⟨aO _,?_,λt h=>iP (ht t h) (by decide),?_,trivial,hn⟩,λ_ n r hB hle Tq Wh hnm hdr=>?_⟩
  ·show z5.length<=Lr;unfold Lr;omega
  ·show z6.length<=Lr;unfold Lr;omega
  ·have hend:z6.length=n.Kids.length:=by
    rcases xk z6.length n.Kids.length with h|h
    ·exfalso;by_cases h0:0<z6.length
     ·rw[Fa h h0]at hdr;exact cne (show(44:UInt8)≠c by rcases hc with e|e<;>rw[e]<;>decide) ((xW hdr).symm.trans ec)
     ·have h0:z6.length=0:=(by omega);rw[h0]at hdr h;rw[IW h]at hdr;unfold Gu at hdr;rcases hk with⟨k3,rfl⟩|⟨k4,rfl⟩
      ·rw[if_neg (by rw[hB.kd];omega)]at hdr;obtain⟨b,q,hq,hb⟩:=QM (hB.kids _ (getD_mem default h));rw[dN,hq,bY]at hdr;exact cne hb.1 ((xW hdr).symm.trans ec)
      ·rw[if_pos (by rw[hB.kd];omega)]at hdr;unfold EC at hdr;rw[bY,bY,bY]at hdr;exact cne (show(34:UInt8)≠125 by decide) ((xW hdr).symm.trans ec)
    ·omega
   rw[E8 (by omega)]at hdr;have hpos:dM.mk s ((y+[c].length:Nat):Int) false=WW s r:=Rn (x:=[c]) (F9 hlt) hdr;have hkids:z6=n.Kids:=(by rw[Tq,aC (by omega)]);have acn:z5=n.Names:=by
    rw[Wh];rcases hk with⟨k3,_⟩|⟨k4,_⟩
    ·rw[if_neg (by omega),hB.Nw k3]
    ·rw[if_pos k4,aC (by have:=hB.len k4;omega)]
   refine sH ?_ hpos;show aj.mk kind 0 [] z5 z6=n;rw[hkids,acn]
   conv=>rhs;rw[<- Dz n,hB.kd,hB.num,hB.text]
end
theorem T.node : ∀(d:Nat),d<=5->∀(s:aK) (a:Nat),a<=s.length->s.length<=1000000->Tot (RdS d s a) (λf=>G.kF f (dM.mk s (a:Int) false) (d:Int))
 | 0,_,s,a,ha,hl=>by refine Tot.up ?_;simp only[G.kF];exact Tot.ct (by simp) (Tot.ret ⟨⟨a,true,rfl,ax _,ha,λh=>by cases h⟩,Gn (aO _),λn r hS=>by cases hS⟩)
 | d+1,hd,s,a,ha,hl=>by
   have hp:=ac3 s a;have w0:af .i64 (pk s a)=pk s a:=RX (by omega) (by omega);have w1:af .i64 ((a:Int)+1)=((a+1:Nat):Int):=dF (by omega);have w4:af .i64 ((a:Int)+4)=((a+4:Nat):Int):=wrapN (m:=a+4) (by omega) (by omega);have ZM:∀n r,Shape (d+1) n=true->s.drop a=nX (d+1) n++r->(n.Kind=0/\pk s a=110)\/(n.Kind=1/\(pk s a=45\/(48<=pk s a/\pk s a<=57)))\/(n.Kind=2/\pk s a=34)\/(n.Kind=3/\pk s a=91)\/(n.Kind=4/\pk s a=123):=λn r hS hdr=>by
    rcases IJ (kT hS)with k|k|k|k|k
    ·rw[sJ,if_neg (by omega),if_neg (by omega),if_pos k]at hdr;exact .inl ⟨k,xW hdr⟩
    ·rw[sJ,if_pos k]at hdr;refine .inr (.inl ⟨k,?_⟩);by_cases hz:n.Num<0
     ·rw[show AB n.Num=45::yE (-n.Num).toNat from if_pos hz]at hdr;exact .inl (xW hdr)
     ·rw[show AB n.Num=yE n.Num.toNat from if_neg hz]at hdr;obtain⟨b,q,hb,h0⟩:=YR n.Num.toNat
      rw[hb]at hdr;have:=xW hdr;unfold isD at h0;exact .inr (by omega)
    ·rw[sJ,if_neg (by omega),if_pos k]at hdr;exact .inr (.inr (.inl ⟨k,xW hdr⟩))
    ·rw[MR r k]at hdr;exact .inr (.inr (.inr (.inl ⟨k,xW hdr⟩)))
    ·rw[PW r k]at hdr;exact .inr (.inr (.inr (.inr ⟨k,xW hdr⟩)))
   have sub:∀{kind:Int} {c:UInt8},(kind=3/\c=93\/kind=4/\c=125)->a<s.length->Tot (RdI d kind c s (a+1) false [] []) (λf=>G.bT f (dM.mk s (a:Int) false) (aj.mk kind 0 [] [] []) (c.toNat:Int) ((d+1:Nat):Int)):=λ{kind c} hk hlt=>by refine Tot.up ?_;simp only[G.bT];rw[w1];exact T.inside.L5 (by omega) (λs a h1 h2=>T.node d (by omega) s a h1 h2) hk hl (s.length-(a+1)) (a+1) [] [] (by omega) (aO _) (aO _) (λt h=>by cases h) (λn h=>by cases h)
   have num:(pk s a=45\/(48<=pk s a/\pk s a<=57))->Tot (RdS (d+1) s a) (λf=>iM (G.fG f (dM.mk s (a:Int) false)) λv9=>some ((aj.mk 1 v9.1 [] [] []),v9.2)):=λh0=>by
    refine Tot.bind (T.number hl ha h0) ?_;rintro⟨z,q⟩⟨⟨b,p1,p2,p3⟩,p5⟩;refine Tot.ret ⟨⟨b,false,p1,by omega,p3,λ_=>p2⟩,Gn (aO _),λn r hS hr hdr=>?_⟩;have k:n.Kind=1:=(by rcases ZM n r hS hdr with⟨_,hx⟩|⟨k,_⟩|⟨_,hx⟩|⟨_,hx⟩|⟨_,hx⟩<;>omega);have hpp:=kT hS;have hlf:=Ad hpp (by omega) (by omega);have hnn:=Ij hpp k;have htt:=Q5 hpp (by omega);rw[sJ,if_pos k]at hdr;have h3:=p5 n.Num r hnn.1 hnn.2 hr hdr;simp only[aJ]at h3;refine sH ?_ h3.2;show aj.mk 1 z [] [] []=n
    conv=>rhs;rw[<- Dz n,k,htt,hlf.1,hlf.2,<- h3.1]
   refine Tot.up ?_;simp only[G.kF];refine Tot.cf (by simp;omega) (Tot.cf rfl (Tot.tK (T.peek ha hl) (Tot.ite (λe2=>?_) (λe2=>Tot.tK (T.peek ha hl) (Tot.ite (λe3=>?_) (λe3=>Tot.tK (T.peek ha hl) (Tot.ite (λe4=>?_) (λe4=>Tot.tK (T.peek ha hl) (Tot.ite (λe0=>?_) (λe0=>Tot.tK (T.peek ha hl) (Tot.ite (λe1=>?_) (λe1=>Tot.tK (T.peek ha hl) (Tot.tK (T.fZ _ _ _) (Tot.ite (λe5=>?_) (λe5=>?_)))))))))))))))
   ·have e2:pk s a=34:=(by simpa using e2);refine Tot.bind (T.quoted hl ha false) ?_;rintro⟨t,q⟩⟨⟨b,bd,p1,p2,p3,p4⟩,hlen,hall⟩;refine Tot.ret ⟨⟨b,bd,p1,p2,p3,λh=>(p4 h).1⟩,Gn hlen,λn r hS _ hdr=>?_⟩;have k:n.Kind=2:=(by rcases ZM n r hS hdr with⟨_,hx⟩|⟨_,hx⟩|⟨k,_⟩|⟨_,hx⟩|⟨_,hx⟩<;>omega);have hpp:=kT hS;have hlf:=Ad hpp (by omega) (by omega);have hn0:n.Num=0:=Q4 hpp (by omega);rw[sJ,if_neg (by omega),if_pos k]at hdr;have h3:=hall rfl _ _ (ac8 (ac2 hpp k)) hdr;simp only[aJ]at h3;refine sH ?_ h3.2;show aj.mk 2 0 t [] []=n
    conv=>rhs;rw[<- Dz n,k,hn0,hlf.1,hlf.2,<- h3.1]
   ·have e3:pk s a=91:=(by simpa using e3);have hlt:=(Jc (show pk s a≠0 by omega)).1;refine Tot.bind (sub (.inl ⟨rfl,rfl⟩) hlt) ?_;rintro⟨m,q⟩⟨⟨b,bd,p1,p2,p3⟩,hf,hall⟩;refine Tot.ret ⟨⟨b,bd,p1,by omega,p3,λ_=>by omega⟩,hf,λn r hS _ hdr=>?_⟩;have k:n.Kind=3:=(by rcases ZM n r hS hdr with⟨_,hx⟩|⟨_,hx⟩|⟨_,hx⟩|⟨k,_⟩|⟨_,hx⟩<;>omega);rw[MR r k]at hdr;have hB:=TZ hS (.inl k);rw[k]at hB;exact hall rfl n r hB (aO _) rfl rfl (λt ht=>by rw[hB.Nw rfl]at ht;cases ht) (x9 hdr).2.2
   ·have e4:pk s a=123:=(by simpa using e4);have hlt:=(Jc (show pk s a≠0 by omega)).1;refine Tot.bind (sub (.inr ⟨rfl,rfl⟩) hlt) ?_;rintro⟨m,q⟩⟨⟨b,bd,p1,p2,p3⟩,hf,hall⟩;refine Tot.ret ⟨⟨b,bd,p1,by omega,p3,λ_=>by omega⟩,hf,λn r hS _ hdr=>?_⟩;have k:n.Kind=4:=(by rcases ZM n r hS hdr with⟨_,hx⟩|⟨_,hx⟩|⟨_,hx⟩|⟨_,hx⟩|⟨k,_⟩<;>omega);rw[PW r k]at hdr;have hB:=TZ hS (.inr k);rw[k]at hB;exact hall rfl n r hB (aO _) rfl rfl (UQ (yw (kT hS) k).2.2.1) (x9 hdr).2.2
   ·have e0:pk s a=110:=(by simpa using e0);have hlt:=(Jc (show pk s a≠0 by omega)).1;rw[w4];have hpos:(if(s.length:Int)<((a+4:Nat):Int)then(s.length:Int)else((a+4:Nat):Int))=((min s.length (a+4):Nat):Int):=(by split<;>omega);refine Tot.ret ⟨⟨min s.length (a+4),false,by rw[<- hpos],by omega,by omega,λ_=>by omega⟩,Gn (aO _),λn r hS _ hdr=>?_⟩;have k:n.Kind=0:=(by rcases ZM n r hS hdr with⟨k,_⟩|⟨_,hx⟩|⟨_,hx⟩|⟨_,hx⟩|⟨_,hx⟩<;>omega);have hpp:=kT hS;have hlf:=Ad hpp (by omega) (by omega);have hn0:n.Num=0/\n.Text=[]:=LD hpp k;rw[sJ,if_neg (by omega),if_neg (by omega),if_pos k]at hdr;have hl4:=YT ha hdr;have hq:dM.mk s ((a+[110,117,108,108].length:Nat):Int) false=WW s r:=Rn ha hdr;refine sH ?_ ?_
    ·show aj.mk 0 0 [] [] []=n
     conv=>rhs;rw[<- Dz n,k,hn0.1,hn0.2,hlf.1,hlf.2]
    ·rw[<- hq];simp only[hpos]
     congr 2
     simp only[bH,dB]at hl4⊢;omega
   ·have e1:pk s a=45:=(by simpa using e1);exact num (.inl e1)
   ·simp only[w0,ai,decide_eq_true_eq]at e5;exact num (.inr e5)
   ·have ne5:¬(48<=pk s a/\pk s a<=57):=by
     simp only[w0,uq,decide_eq_false_iff_not]at e5;omega
    have n2:pk s a≠34:=(by simpa using e2);have n3:pk s a≠91:=(by simpa using e3);have n4:pk s a≠123:=(by simpa using e4);have n0:pk s a≠110:=(by simpa using e0);have n1:pk s a≠45:=(by simpa using e1);refine Tot.ret ⟨⟨a,true,rfl,ax _,ha,λh=>by cases h⟩,Gn (aO _),λn r hS _ hdr=>?_⟩;exfalso;rcases ZM n r hS hdr with⟨_,hx⟩|⟨_,hx⟩|⟨_,hx⟩|⟨_,hx⟩|⟨_,hx⟩<;>omega
end
theorem aeO : Lr<=lim:=by decide
theorem T.rO {s:aK}(hl:s.length<=1000000):Tot (λv:aj×Bool=>wE Lr 6 v.1/\∀n,Val n=true->s.length<=2000->s=nX 5 n->v=(n,true)) (λf=>G.rO f s):=by
 refine Tot.up ?_;simp only[G.rO];refine Tot.ite (λe=>Tot.ret ⟨BA _ _,λn _ hl=>by simp only[decide_eq_true_eq]at e;omega⟩) (λ_=>Tot.bind (T.node 5 (by omega) s 0 (aO _) hl) ?_);rintro⟨m,q⟩⟨⟨b,bd,hb,_,hbl,_⟩,hf,hall⟩;simp only at hb hf;subst hb;have key:∀n,Val n=true->s=nX 5 n->m=n/\bd=false:=λn hn hs=>by
  have:=hall n [] (lN hn) Za (by rw[bW,bM];exact hs);simp only[aJ]at this;have h3:=this.2;unfold WW at h3
  injection h3 with _ _ h5
  exact⟨this.1,h5⟩
 refine Tot.ite (λe=>Tot.ret ⟨BA _ _,λn hn _ hs=>?_⟩) (λe=>Tot.tK (T0.fB aeO hf) (Tot.ite (λev=>Tot.tK (T.eX 5 (by omega) (lN ev)) (Tot.ite (λe2=>Tot.ret ⟨hf,λn hn _ hs=>?_⟩) (λe2=>Tot.ret ⟨BA _ _,λn hn _ hs=>?_⟩))) (λev=>Tot.ret ⟨BA _ _,λn hn _ hs=>?_⟩)))
 ·rw[(key n hn hs).2]at e;cases e
 ·rw[(key n hn hs).1]
 ·rw[(key n hn hs).1,<- hs]at e2;simp at e2
 ·rw[(key n hn hs).1,hn]at ev;cases ev
theorem abO {l:List aK}(h:l.flatMap IB=[]):l=[]:=by
 cases l with
 |nil=>rfl
 |cons t l=>rw[bz]at h;cases h
theorem adB (t:aK):Gq t≠[]:=by unfold Gq;split<;>simp
theorem T.ji {s:aK}(hl:s.length<=1000000):Tot (λv:List aK×Bool=>xC 60 v.1/\∀l,Aj l=true->s=EM l->v=(l,true)) (λf=>G.ji f s):=by
 have fin0:xC 60 []:=⟨by simp,λt h=>by cases h⟩;have L:∀(k a:Nat) (z:List aK),a+k=s.length->z.length<=5->(∀t,t∈z->t.length<=4) ->
  Tot (λv:List aK×Bool=>xC 60 v.1/\∀rest,Aj (z++rest)=true->s=EM (z++rest)->(((0<a\/rest=[])/\s.drop a=rest.flatMap IB)\/(∃t r',rest=t::r'/\s.drop a=Gq t++r'.flatMap IB))->v=(z++rest,true))
   (λf=>G.ji.L1 f s (a:Int) z):=by
  intro k
  induction k using dH with|_ k ih=>
  intro a z ha hz ht;have hfz:xC 60 z:=⟨by omega,λt h=>by have:=ht t h;omega⟩;have hsz:Sm z:=hfz.sm zQ;have fin:(∀rest,Aj (z++rest)=true->s=EM (z++rest)->(((0<a\/rest=[])/\s.drop a=rest.flatMap IB)\/(∃t r',rest=t::r'/\s.drop a=Gq t++r'.flatMap IB))->rest=[]) ->
   Tot (λv:List aK×Bool=>xC 60 v.1/\∀rest,Aj (z++rest)=true->s=EM (z++rest)->(((0<a\/rest=[])/\s.drop a=rest.flatMap IB)\/(∃t r',rest=t::r'/\s.drop a=Gq t++r'.flatMap IB))->v=(z++rest,true))
    (λn=>iM (G.fO n z) λv1=>cond (v1==s) (iM (G.iy n z) λv2=>cond v2 (some (z,true)) (some ([],false))) (some ([],false))):=λh=>by
   refine Tot.tK (T.fO hsz) (Tot.ite (λe=>Tot.tK (T.iy hsz) (Tot.ite (λe2=>Tot.ret ⟨hfz,λrest h1 h2 h3=>?_⟩) (λe2=>Tot.ret ⟨fin0,λrest h1 h2 h3=>?_⟩))) (λe=>Tot.ret ⟨fin0,λrest h1 h2 h3=>?_⟩))
   ·rw[h rest h1 h2 h3,bM]
   ·have:=h rest h1 h2 h3;rw[this,bM]at h1;rw[h1]at e2;cases e2
   ·have:=h rest h1 h2 h3;rw[this,bM]at h2;rw[<- h2]at e;simp at e
  refine Tot.up ?_;simp only[G.ji.L1];refine Tot.ite (λe=>?_) (λe=>fin λrest _ _ h=>?_)
  ·have hal:a<s.length:=(by simp only[decide_eq_true_eq]at e;omega);refine Tot.ite (λe4=>?_) (λe4=>fin λrest h1 _ _=>?_)
   ·have h4:z.length<=4:=(by simp only[decide_eq_true_eq]at e4;omega);have w1:af .i64 ((a:Int)+1)=((a+1:Nat):Int):=dF (by omega);have w5:af .i64 ((a:Int)+5)=((a+5:Nat):Int):=wrapN (m:=a+5) (by omega) (by omega);have w6:af .i64 ((a:Int)+6)=((a+6:Nat):Int):=wrapN (m:=a+6) (by omega) (by omega);have hd0:=dP (0:UInt8) hal;have tag:(∀rest,(((0<a\/rest=[])/\s.drop a=rest.flatMap IB)\/(∃t r',rest=t::r'/\s.drop a=Gq t++r'.flatMap IB))->∃t r',rest=t::r'/\s.drop a=Gq t++r'.flatMap IB) ->
     Tot (λv:List aK×Bool=>xC 60 v.1/\∀rest,Aj (z++rest)=true->s=EM (z++rest)->(((0<a\/rest=[])/\s.drop a=rest.flatMap IB)\/(∃t r',rest=t::r'/\s.drop a=Gq t++r'.flatMap IB))->v=(z++rest,true))
     (λn=>chk (0<=(a:Int)/\(a:Int)<(s.length:Int)) (cond (((s.getD a 0).toNat:Int)==42)
      (chk ((z.length+1)*18<=2^46) (G.ji.L1 n s ((a+1:Nat):Int) (z++[[42]])))
      (cond (decide (((a+6:Nat):Int)<=(s.length:Int)))
      (chk (0<=((a+1:Nat):Int)/\((a+1:Nat):Int)<=((a+5:Nat):Int)/\((a+5:Nat):Int)<=(s.length:Int))
      (chk ((z.length+1)*18<=2^46) (G.ji.L1 n s ((a+6:Nat):Int) (z++[((s.take (a+5)).drop (a+1))]))))
      (some ([],false))))):=λhr=>by
     rw[show(42:Int)=((42:UInt8).toNat:Int)from rfl];have tgs:∀{t:aK} {r':List aK},Aj (z++t::r')=true->G7 t=true:=λ{t r'} h=>(AP h).2 t (kK _ (bC ..));refine Tot.chk ⟨by omega,by omega⟩ (Tot.ite (λe1=>Tot.chk (by omega) ((ih (s.length-(a+1)) (by omega) (a+1) (z++[[42]]) (by omega) (by simp;omega) (λt h=>?_)).mono ?_)) (λe1=>Tot.ite (λe2=>Tot.chk ⟨by omega,by omega,?_⟩ (Tot.chk (by omega) ((ih (s.length-(a+6)) (by omega) (a+6) (z++[(s.take (a+5)).drop (a+1)]) ?_ (by simp;omega) (λt h=>?_)).mono ?_))) (λe2=>Tot.ret ⟨fin0,λrest h1 h2 h3=>?_⟩)))
     ·rcases aV.1 h with e|e
      ·exact ht t e
      ·rw[bJ]at e;rw[e];decide
     ·rintro v ⟨g1,g2⟩;refine⟨g1,λrest h1 h2 h3=>?_⟩;obtain⟨t,r',rfl,hd⟩:=hr rest h3;rw[zh,beq_iff_eq]at e1;rw[hd0,e1]at hd;have h42:t=[42]:=by
       unfold Gq at hd;split at hd
       ·rename_i c;exact c
       ·have:=(kW hd).1;exact absurd this (by decide)
      subst h42;have hq:Gq [42]=[42]:=rfl;rw[hq]at hd;have h5:=g2 r' (by rw[dA];exact h1) (by rw[dA];exact h2) (.inl ⟨.inl (by omega),(kW hd).2⟩);rw[h5,dA];rfl
     ·simp only[decide_eq_true_eq]at e2;omega
     ·simp only[decide_eq_true_eq]at e2;omega
     ·rcases aV.1 h with e|e
      ·exact ht t e
      ·rw[bJ]at e;rw[e,fE,dm];omega
     ·rintro v ⟨g1,g2⟩;refine⟨g1,λrest h1 h2 h3=>?_⟩;obtain⟨t,r',rfl,hd⟩:=hr rest h3;rw[zh]at e1;have htv:=tgs h1;have hne:t≠[42]:=λh42=>by
       subst h42;have hq:Gq [42]=[42]:=rfl;rw[hq,hd0]at hd;rw[(kW hd).1]at e1;exact absurd e1 (by decide)
      have hq:Gq t=34::(t++[34]):=if_neg hne;have hsv:G6 t=true:=by unfold G7 at htv;simp only[iT,beq_iff_eq]at htv;exact htv.resolve_left hne
      have h4':=Iq hsv;have hd6:s.drop (a+6)=r'.flatMap IB:=by have:=drop_tail hd;rw[hq]at this;simpa[h4']using this
      have ht4:(s.take (a+5)).drop (a+1)=t:=by
       rw[hq]at hd;have e1:s.drop (a+1)=t++([34]++r'.flatMap IB):=by have:=(x9 (hd.trans (bY ..))).2.2;rw[this,dA]
       rw[List.drop_take,e1,show a+5-(a+1)=4 by omega,pJ (by omega),aC (by omega)]
      rw[ht4]at g2;have h5:=g2 r' (by rw[dA];exact h1) (by rw[dA];exact h2) (.inl ⟨.inl (by omega),hd6⟩);rw[h5,dA];rfl
     ·obtain⟨t,r',rfl,hd⟩:=hr rest h3;rw[zh]at e1;have hne:t≠[42]:=λh42=>by
       subst h42;have hq:Gq [42]=[42]:=rfl;rw[hq,hd0]at hd;rw[(kW hd).1]at e1;exact absurd e1 (by decide)
      have hq:Gq t=34::(t++[34]):=if_neg hne;have hsv:G6 t=true:=by have htv:=tgs h1;unfold G7 at htv;simp only[iT,beq_iff_eq]at htv;exact htv.resolve_left hne
      have h4':=Iq hsv;have:=YT (F9 hal) hd;rw[hq]at this;simp[h4']at this;simp only[decide_eq_false_iff_not]at e2;omega
    simp only[w1,w5,w6,ah];refine Tot.ite (λe0=>Tot.chk ⟨by omega,by omega⟩ ?_) (λe0=>tag λrest h=>?_)
    ·rw[show(44:Int)=((44:UInt8).toNat:Int)from rfl];refine Tot.ite (λe1=>?_) (λe1=>tag λrest h=>?_)
     ·rw[zh,beq_iff_eq]at e1;refine(ih (s.length-(a+1)) (by omega) (a+1) z (by omega) hz ht).mono ?_;rintro v ⟨g1,g2⟩;refine⟨g1,λrest h1 h2 h3=>g2 rest h1 h2 ?_⟩;rcases h3 with⟨_,h3⟩|⟨t,r',rfl,h3⟩
      ·rw[hd0]at h3;cases rest with
       |nil=>cases h3
       | cons t r'=>rw[bz]at h3;exact .inr ⟨t,r',rfl,(kW h3).2⟩
      ·exfalso;rw[hd0,e1]at h3;have htv:=(AP h1).2 t (kK _ (bC ..));cases hq:Gq t with
       |nil=>exact adB t hq
       | cons b q=>rw[hq]at h3;have hb:(44:UInt8)=b:=(kW h3).1;exact P7 htv 44 (.inr rfl) (by rw[hq,hb];exact bC ..)
     ·rw[zh]at e1;rcases h with⟨_,h⟩|h
      ·exfalso;rw[hd0]at h;cases rest with
       |nil=>cases h
       | cons t r'=>rw[bz]at h;have hb:s.getD a 0=44:=(kW h).1;rw[hb]at e1;exact absurd e1 (by decide)
      ·exact h
    ·have h0:a=0:=(by simp only[decide_eq_false_iff_not]at e0;omega);rcases h with⟨h|h,h2⟩|h
     ·omega
     ·rw[h,hd0]at h2;cases h2
     ·exact h
   ·simp only[decide_eq_false_iff_not]at e4;have:=(AP h1).1;rw[au]at this;omega
  ·simp only[decide_eq_false_iff_not]at e;have hd:s.drop a=[]:=ak (by omega);rw[hd]at h;rcases h with⟨_,h⟩|⟨t,r',_,h⟩
   ·exact abO h.symm
   ·exact absurd (Bf.1 h.symm).1 (adB t)
 refine Tot.up ?_;simp only[G.ji];refine(L s.length 0 [] (by omega) (by simp) (λt h=>by cases h)).mono λv hv=>⟨hv.1,λl h1 h2=>hv.2 l h1 h2 ?_⟩;rw[bW,h2];cases l with
 |nil=>exact .inl ⟨.inr rfl,rfl⟩
 |cons t r=>exact .inr ⟨t,r,rfl,RJ h1⟩
theorem T.nJ {d:Nat}{n:aj}(h:wE Lr (d+1) n):Tot (λv:List aK=>xC Lr v/\∀p,n=FH p->v=p) (λf=>G.nJ f n):=by
 have hk:=h.kids;have hmx:Lr=1048576:=rfl;have L:∀(k i:Nat) (z:List aK),i+k=n.Kids.length->z.length=i->(∀t,t∈z->t.length<=Lr)->Tot (λv:List aK=>xC Lr v/\∀p,n=FH p->z=p.take i->v=p) (λf=>G.nJ.L1 f n (i:Int) z):=by
  intro k
  induction k with
  | zero=>intro i z hi hz ht;refine Tot.up ?_;simp only[G.nJ.L1];refine Tot.cf (decide_eq_false (by omega)) (Tot.ret ⟨⟨by omega,ht⟩,λp hn he=>?_⟩);rw[he,aC];rw[hn]at hi;simp[FH]at hi;omega
  | succ k ih=>
    intro i z hi hz ht;have hil:i<n.Kids.length:=(by omega);refine Tot.up ?_;simp only[G.nJ.L1,ah,dF (show i+1<9223372036854775808 by omega)];refine Tot.ct (decide_eq_true (by omega)) (Tot.chk (by omega) (Tot.chk (by omega) ((ih (i+1) _ (by omega) (by simp[hz]) (λt hm=>?_)).mono λv hv=>⟨hv.1,λp hn he=>hv.2 p hn ?_⟩)))
    ·rcases aV.1 hm with e|e
     ·exact ht t e
     ·rw[bJ]at e;subst e;have:=h.kid hil;cases d with
      |zero=>exact this.elim
      |succ d=>exact this.1
    ·rw[hn]at hil⊢;have hip:i<p.length:=(by simpa[FH]using hil);have:(FH p).Kids.getD i default=Hr (p.getD i default):=by
      show(p.map Hr).getD i default=_;rw[gu _ (by simpa using hip),gu _ hip,yC]
     rw[this,he];exact take_snoc (default:aK) hip
 refine Tot.up ?_;simp only[G.nJ];exact(L n.Kids.length 0 [] (by omega) rfl (λt h=>by cases h)).mono λv hv=>⟨hv.1,λp hn=>hv.2 p hn rfl⟩
theorem aaF {o:oz}(h:KG o=true):Shape 6 (II o)=true:=by
 have hf:=vO h;have W:∀(d:Nat) {s:aK},PT s=true->Shape (d+1) (Hr s)=true:=λd s hs=>by unfold Shape Parts;simp[Hr,hs]
 have S:∀(d:Nat) {p:List aK},PP p=true->Shape (d+2) (FH p)=true:=λd p hp=>by unfold PP at hp;simp only[ai,decide_eq_true_eq,aZ]at hp;unfold Shape Parts;simp only[FH,List.all_map,iE,ai,aZ];refine⟨by simp;omega,λs hs=>W d (hp.1 s hs)⟩
 have e:Shape 6 (II o)=(Parts (II o)&&(II o).Kids.all (Shape 5)):=rfl;rw[e,ai];refine⟨?_,?_⟩
 ·unfold Parts;have:NM Q3=true:=by decide
  simp only[II,this];rfl
 ·show [FH o.From,Hr (Hl.getD o.Kind.toNat default),FH o.Path,o.Value].all (Shape 5)=true;simp only[dI,vM,ai,and_true];refine⟨S 3 hf.from_,W 4 ?_,S 3 hf.path,lN hf.val⟩;rcases UT hf with e|e|e|e|e|e<;>rw[e]<;>decide
theorem T.lG {d:Nat}{n:aj}(h:wE Lr (d+2) n):Tot (λv:oz×Bool=>(∃D,Jf Lr D v.1)/\∀o,KG o=true->Val (II o)=true->n=II o->v=(o,true)) (λf=>G.lG f n):=by
 have no:∃D,Jf Lr D (oz.mk 0 [] [] (aj.mk 0 0 [] [] [])):=⟨1,⟨aO _,λt h=>by cases h⟩,⟨aO _,λt h=>by cases h⟩,BA _ _⟩;refine Tot.up ?_;simp only[G.lG];refine Tot.tK (T0.fB aeO h) (Tot.ite (λev=>Tot.ite (λe4=>Tot.ret ⟨no,λo _ _ hn=>?_⟩) (λe4=>Tot.ite (λek=>Tot.ret ⟨no,λo _ _ hn=>?_⟩) (λek=>Tot.tK (a:=Hl) (Ev.up ?_) ?_))) (λev=>Tot.ret ⟨no,λo _ hv hn=>?_⟩))
 ·rw[hn]at e4;exact absurd e4 (by simp[II])
 ·rw[hn]at ek;exact absurd ek (by simp[II])
 ·simp only[G.uO];exact Ev.ret _
 ·have hl:n.Kids.length=4:=by
   have:(n.Kids.length:Int)=4:=(by simpa using ek);omega
  have kf:∀i,i<4->wE Lr (d+1) (n.Kids.getD i default):=λi hi=>h.kid (by omega);have L:∀(k i:Nat) (kd:Int),i+k=7->1<=i->Tot (λv:oz×Bool=>(∃D,Jf Lr D v.1)/\∀o,KG o=true->Val (II o)=true->n=II o->(o.Kind.toNat<i->kd=o.Kind)->v=(o,true)) (λf=>G.lG.L1 f n Hl kd (i:Int)):=by
   intro k
   induction k with
   | zero=>
     intro i kd hi h1;refine Tot.up ?_;simp only[G.lG.L1];refine Tot.cf (decide_eq_false (by show ¬(i:Int)<((7:Nat):Int);omega)) (Tot.chk (by omega) (Tot.bind (T.nJ (kf 2 (by omega))) ?_));rintro p2 ⟨f2,c2⟩;refine Tot.chk (by omega) (Tot.bind (T.nJ (kf 0 (by omega))) ?_);rintro p0 ⟨f0,c0⟩;refine Tot.chk (by omega) (Tot.tK (T0.aY aeO (kf 3 (by omega))) ?_);have hfo:Jf Lr (d+1) (oz.mk kd p2 p0 (n.Kids.getD 3 default)):=⟨f2,f0,kf 3 (by omega)⟩;have eq:∀o,KG o=true->n=II o->(o.Kind.toNat<i->kd=o.Kind)->oz.mk kd p2 p0 (n.Kids.getD 3 default)=o:=λo ho hn hkd=>by have hf:=vO ho;have k1:=hf.k1;have k6:=hf.k6;rw[c2 o.Path (by rw[hn];rfl),c0 o.From (by rw[hn];rfl),hkd (by omega),hn];rfl
     refine Tot.tK (T0.oh aeO hfo) (Tot.ite (λeo=>Tot.tK (T.qJ eo) ?_) (λeo=>Tot.ret ⟨no,λo ho _ hn hkd=>?_⟩))
     ·obtain⟨w,gw,hw⟩:=T.wC (aaF eo) (lN ev);refine Tot.tK gw (Tot.ite (λes=>Tot.ret ⟨⟨_,hfo⟩,λo ho _ hn hkd=>?_⟩) (λes=>Tot.ret ⟨no,λo ho _ hn hkd=>?_⟩))
      ·rw[eq o ho hn hkd]
      ·have:=hw.2 (by rw[eq o ho hn hkd,hn]);rw[this]at es;cases es
     ·rw[eq o ho hn hkd,ho]at eo;cases eo
   | succ k ih=>
     intro i kd hi h1;refine Tot.up ?_;simp only[G.lG.L1,ah,dF (show i+1<9223372036854775808 by omega)];refine Tot.ct (decide_eq_true (by show(i:Int)<((7:Nat):Int);omega)) (Tot.chk (by omega) (Tot.chk (by show 0<=(i:Int)/\(i:Int)<((7:Nat):Int);omega) (Tot.ite (λe=>(ih (i+1) (i:Int) (by omega) (by omega)).mono λv hv=>⟨hv.1,λo ho hv' hn hkd=>hv.2 o ho hv' hn λhlt=>?_⟩) (λe=>(ih (i+1) kd (by omega) (by omega)).mono λv hv=>⟨hv.1,λo ho hv' hn hkd=>hv.2 o ho hv' hn λhlt=>?_⟩))))
     ·have hf:=vO ho;have k1:=hf.k1;have k6:=hf.k6;have:Hl.getD o.Kind.toNat default=Hl.getD i default:=by
       rw[hn]at e;have e:Hl.getD o.Kind.toNat default=Hl.getD i default:=beq_iff_eq.1 e;exact e
      have:=WG _ (by omega) _ (by omega) this;omega
     ·have hf:=vO ho;have k1:=hf.k1;have k6:=hf.k6;refine hkd ?_;have:o.Kind.toNat≠i:=λhe=>by
       rw[hn]at e;have e:Hl.getD o.Kind.toNat default≠Hl.getD i default:=beq_eq_false_iff_ne.1 e;rw[he]at e;exact e rfl
      omega
  exact(L 6 1 0 (by omega) (by omega)).mono λv hv=>⟨hv.1,λo ho hv' hn=>hv.2 o ho hv' hn λhlt=>by have hf:=vO ho;have k1:=hf.k1;omega⟩
 ·rw[hn,hv]at ev;cases ev
theorem T.mJ {s:aK}(hl:s.length<=1000000):Tot (λv:List oz×Bool=>LY v.1/\∀l,FM l=true->okO l=true->s=opsT l->v=(l,true)) (λf=>G.mJ f s):=by
 have fin0:LY []:=⟨aO _,λo h=>by cases h⟩;have L:∀(k:Nat) (s:aK) (z:List oz),s.length=k->s.length<=1000000->z.length<=13->(∀o,o∈z->∃D,Jf Lr D o)->Tot (λv:List oz×Bool=>LY v.1/\∀l,FM l=true->okO l=true->z.length<=l.length->z=l.take z.length->s=opsT (l.drop z.length)->v=(l,true)) (λf=>G.mJ.L1 f s z):=by
  intro k
  induction k using dH with|_ k ih=>
  intro s z hk hl hz hf;have fz:LY z:=⟨by omega,hf⟩;refine Tot.up ?_;simp only[G.mJ.L1];refine Tot.ite (λe=>Tot.ite (λe12=>?_) (λe12=>Tot.ret ⟨fz,λl hp _ hzl _ _=>?_⟩)) (λe=>Tot.ret ⟨fz,λl _ _ hzl he hd=>?_⟩)
  ·have hal:0<s.length:=(by simp only[decide_eq_true_eq]at e;omega);have aiV:z.length<=12:=(by simp only[decide_eq_true_eq]at e12;omega);refine Tot.bind (T.node 5 (by omega) s 0 (aO _) hl) ?_;rintro⟨m,q⟩⟨⟨b,bd,hb,_,hbl,_⟩,hfm,hall⟩;simp only at hb hfm;subst hb;have nxt:∀l,FM l=true->okO l=true->z.length<=l.length->s=opsT (l.drop z.length)->z.length<l.length/\KG (l.getD z.length default)=true/\Val (II (l.getD z.length default))=true /\
    m=II (l.getD z.length default)/\bd=false/\s.drop b=59::opsT (l.drop (z.length+1)):=λl hp ho hzl hd=>by
    have hlt:z.length<l.length:=by
     rcases xk z.length l.length with h|h
     ·exact h
     ·rw[ak h]at hd;have:s.length=0:=(by rw[hd];rfl);omega
    have hm:=getD_mem default hlt;have hv:Val (II (l.getD z.length default))=true:=by unfold okO at ho;exact aZ.1 ho _ hm
    have hd2:s.drop 0=nX 5 (II (l.getD z.length default))++(59::opsT (l.drop (z.length+1))):=by rw[bW,hd,dP default hlt];unfold opsT;rw[bz];unfold opP;simp
    have h1:=hall _ _ (lN hv) (NC rfl) hd2;simp only[aJ]at h1;have h3:=h1.2;unfold WW at h3
    injection h3 with _ h4 h5
    have h6:b=s.length-(59::opsT (l.drop (z.length+1))).length:=(by omega);refine⟨hlt,(Q7 hp).2 _ hm,hv,h1.1,h5,?_⟩;rw[h6];exact(Jv (aO _) hd2).1
   refine Tot.bind (T.lG (d:=4) hfm) ?_;rintro⟨o,ko⟩⟨fo,co⟩;refine Tot.ite (λeb=>Tot.ret ⟨fin0,λl hp ho hzl _ hd=>?_⟩) (λeb=>Tot.ite (λe2=>Tot.tK (T.peek hbl hl) (Tot.ite (λe59=>Tot.ret ⟨fin0,λl hp ho hzl _ hd=>?_⟩) (λe59=>Tot.chk (by omega) ?_))) (λe2=>Tot.ret ⟨fin0,λl hp ho hzl _ hd=>?_⟩))
   ·rw[(nxt l hp ho hzl hd).2.2.2.2.1]at eb;cases eb
   ·have:=xW (nxt l hp ho hzl hd).2.2.2.2.2;rw[this]at e59;simp at e59
   ·have e59:pk s b=59:=(by simpa using e59);have aiF:=(Jc (show pk s b≠0 by omega)).1;simp only[dF (show b+1<9223372036854775808 by omega),ah];refine Tot.chk ⟨by omega,by omega,by omega⟩ ((ih (s.length-(b+1)) (by omega) (s.drop (b+1)) (z++[o]) (by rw[fE]) (by rw[fE];omega) (by simp;omega) (λx hx=>?_)).mono λv hv=>⟨hv.1,λl hp ho hzl he hd=>?_⟩)
    ·rcases aV.1 hx with e|e
     ·exact hf x e
     ·rw[bJ]at e;subst e;exact fo
    ·obtain⟨n1,n2,n3,n4,_,n6⟩:=nxt l hp ho hzl hd;have hc:=co _ n2 n3 n4;simp only[aJ]at hc;have hlen:(z++[o]).length=z.length+1:=(by simp);refine hv.2 l hp ho (by rw[hlen];omega) ?_ (by rw[hlen];exact(x9 n6).2.2);rw[hlen,<- take_snoc default n1,<- he,<- hc.1]
   ·obtain⟨_,n2,n3,n4,_,_⟩:=nxt l hp ho hzl hd;have hc:=co _ n2 n3 n4;simp only[aJ]at hc;rw[hc.2]at e2;cases e2
  ·simp only[decide_eq_false_iff_not]at e12;have:=(Q7 hp).1;omega
  ·have hal:s.length=0:=(by simp only[decide_eq_false_iff_not]at e;omega);have hd:opsT (l.drop z.length)=[]:=(by rw[<- hd];exact dD hal);have:l.length<=z.length:=by
    rcases xk z.length l.length with h|h
    ·rw[dP default h]at hd;unfold opsT at hd;rw[bz]at hd;exact absurd (Bf.1 hd).1 (acY _)
    ·exact h
   rw[aC this]at he;rw[he]
 refine Tot.up ?_;simp only[G.mJ];exact(L s.length s [] rfl hl (by simp) (λo h=>by cases h)).mono λv hv=>⟨hv.1,λl hp ho hs=>hv.2 l hp ho (aO _) rfl (by simpa using hs)⟩
theorem T.rP {s:aK}(hl:s.length<=1000000):Tot (λv:aK×aK=>v.1.length<=s.length/\v.2.length<=s.length/\∀a b,(32:UInt8) ∉ a->s=a++32::b->v=(a,b)) (λf=>G.rP f s):=by
 have L:∀(k i:Nat),i+k=s.length->Tot (λv:aK×aK=>v.1.length<=s.length/\v.2.length<=s.length/\∀a b,(32:UInt8) ∉ a->s=a++32::b->i<=a.length->v=(a,b)) (λf=>G.rP.L1 f s (i:Int)):=by
  intro k
  induction k with
  | zero=>intro i hi;refine Tot.up ?_;simp only[G.rP.L1];refine Tot.cf (decide_eq_false (by omega)) (Tot.ret ⟨ax _,aO _,λa b _ hs hle=>?_⟩);have:=congrArg kN hs;simp at this;omega
  | succ k ih=>
    intro i hi;have hil:i<s.length:=(by omega);refine Tot.up ?_;simp only[G.rP.L1,ah,dF (show i+1<9223372036854775808 by omega)];rw[show(32:Int)=((32:UInt8).toNat:Int)from rfl];have at_:∀a b,s=a++32::b->i<=a.length->(i<a.length->s.getD i 0∈a)/\(i=a.length->s.getD i 0=32):=λa b hs hle=>by
     constructor
     ·intro h;rw[gu (0:UInt8) hil];have:s[i]=a[i]:=by
       simp only[hs];rw[List.getElem_append_left h]
      rw[this];exact dJ h
     ·intro h;subst h;rw[gu (0:UInt8) hil];simp only[hs];rw[List.getElem_append_right (ax _)];simp
    refine Tot.ct (decide_eq_true (by omega)) (Tot.chk ⟨by omega,by omega⟩ (Tot.ite (λe=>Tot.chk ⟨by omega,by omega,by omega⟩ (Tot.chk ⟨by omega,by omega,by omega⟩ (Tot.ret ⟨by rw[dm];omega,by rw[fE];omega,λa b ha hs hle=>?_⟩))) (λe=>(ih (i+1) (by omega)).mono λv hv=>⟨hv.1,hv.2.1,λa b ha hs hle=>hv.2.2 a b ha hs ?_⟩)))
    ·rw[zh,beq_iff_eq]at e;obtain⟨h1,h2⟩:=at_ a b hs hle
     have:i=a.length:=by
      rcases xk i a.length with h|h
      ·have:=h1 h;rw[e]at this;exact absurd this ha
      ·omega
     subst this;rw[hs];refine sH ?_ ?_
     ·show(a++32::b).take a.length=a;simp
     ·show(a++32::b).drop (a.length+1)=b;simp
    ·rw[zh]at e;obtain⟨h1,h2⟩:=at_ a b hs hle
     have:i≠a.length:=λh=>(by rw[h2 h]at e;exact absurd e (by decide));omega
 refine Tot.up ?_;simp only[G.rP];exact(L s.length 0 (by omega)).mono λv hv=>⟨hv.1,hv.2.1,λa b ha hs=>hv.2.2 a b ha hs (aO _)⟩
theorem T0.dG {B:Nat}{q:RequestT}(hB:B<=lim)(h:abv B q):Ev (λf=>G.dG f q) (yt q):=by
 cases e:Pq q with
 |true=>exact T.dG (JK e)
 | false=>refine Ev.up ?_;simp only[G.dG];exact Ev.bind (T0.kY hB h) (Ev.cf e (Ev.ret' (adG e).symm))
theorem T.fM (s:aK):Tot (PR s) (λf=>G.fM f s):=by
 refine Tot.up ?_;simp only[G.fM];refine Tot.ite (λe=>Tot.ret (Pe λq _ h2 _=>by simp only[decide_eq_true_eq]at e;omega)) (λe=>?_);have hs2:s.length<=2000:=by simp only[decide_eq_false_iff_not]at e;omega
 have hl:s.length<=1000000:=by omega
 refine Tot.bind (T.rP hl) ?_;rintro⟨w1,x1⟩⟨a1,b1,c1⟩;have a1:w1.length<=s.length:=a1;have b1:x1.length<=s.length:=b1;refine Tot.bind (T.rP (s:=x1) (by omega)) ?_;rintro⟨w2,x2⟩⟨a2,b2,c2⟩;have a2:w2.length<=x1.length:=a2;have b2:x2.length<=x1.length:=b2;refine Tot.bind (T.rP (s:=x2) (by omega)) ?_;rintro⟨w3,x3⟩⟨a3,b3,c3⟩;have a3:w3.length<=x2.length:=a3;have b3:x3.length<=x2.length:=b3;refine Tot.bind (T.rP (s:=x3) (by omega)) ?_;rintro⟨w4,x4⟩⟨a4,b4,c4⟩;have a4:w4.length<=x3.length:=a4;have b4:x4.length<=x3.length:=b4;have words:∀q,s≠[]->yt q=s->w1=Hq.getD q.Method.toNat default/\w2=q.Name/\w3=EM q.Want/\w4=EM q.oP/\x4=(if q.Method=4 then opsT q.Ops else nX 5 q.Body):=λq h0 hw=>by
  have hne:yt q≠[]:=by rw[hw];exact h0
  obtain⟨o1,o2,o3,o4⟩:=CB hne;have hr:=U6 o1;rw[hw]at o4;have e1:s=Hq.getD q.Method.toNat default++32::(q.Name++32::(EM q.Want++32::(EM q.oP++32::(if q.Method=4 then opsT q.Ops else nX 5 q.Body)))):=by rw[o4];unfold IY hdT;simp
  have h1:=c1 _ _ (adF hr) e1;simp only[aJ]at h1;have h2:=c2 _ _ (acR hr.Nw) h1.2;simp only[aJ]at h2;have h3:=c3 _ _ (Vm _) h2.2;simp only[aJ]at h3;have h4:=c4 _ _ (Vm _) h3.2;simp only[aJ]at h4;exact⟨h1.1,h2.1,h3.1,h4.1,h4.2⟩
 refine Tot.tK (a:=Hq) (Ev.up ?_) ?_
 ·simp only[G.wQ];exact Ev.ret _
 have L:∀(k i:Nat) (m:Int),i+k=6->1<=i->Tot (λv:RequestT×Bool=>(v.2=false->v.1=KO)/\(v.2=true->yt v.1=s/\s≠[]/\s.length<=2000)/\∀q,s≠[]->s.length<=2000->yt q=s->(q.Method.toNat<i->m=q.Method)->v=(q,true)) (λf=>G.fM.L1 f s (w1,x1) (w2,x2) (w3,x3) (w4,x4) Hq (i:Int) m):=by
  intro k
  induction k with
  | zero=>
    intro i m hi h1;have no:(∀q,s≠[]->s.length<=2000->yt q=s->(q.Method.toNat<i->m=q.Method)->False)->(λv:RequestT×Bool=>(v.2=false->v.1=KO)/\(v.2=true->yt v.1=s/\s≠[]/\s.length<=2000)/\∀q,s≠[]->s.length<=2000->yt q=s->(q.Method.toNat<i->m=q.Method)->v=(q,true)) (KO,false):=
     λh=>⟨λ_=>rfl,λh=>(by cases h),λq g1 g2 g3 g4=>(h q g1 g2 g3 g4).elim⟩
    refine Tot.up ?_;simp only[G.fM.L1];refine Tot.cf (decide_eq_false (by show ¬(i:Int)<((6:Nat):Int);omega)) (Tot.bind (T.ji (s:=w3) (by omega)) ?_);rintro⟨p3,k3⟩⟨f3,d3⟩;refine Tot.bind (T.ji (s:=w4) (by omega)) ?_;rintro⟨p4,k4⟩⟨f4,d4⟩;have mono:∀{l:List aK},xC 60 l->xC 1048576 l:=λh=>⟨by have:=h.1;omega,λt ht=>by have:=h.2 t ht;omega⟩;have hd3:∀q,s≠[]->yt q=s->p3=q.Want/\k3=true:=λq h0 hw=>by have:=d3 q.Want (U6 (CB (show yt q≠[] by rw[hw];exact h0)).1).want (words q h0 hw).2.2.1;simp only[aJ]at this;exact this
    have hd4:∀q,s≠[]->yt q=s->p4=q.oP/\k4=true:=λq h0 hw=>by have:=d4 q.oP (U6 (CB (show yt q≠[] by rw[hw];exact h0)).1).avoid (words q h0 hw).2.2.2.1;simp only[aJ]at this;exact this
    have hmq:∀q,s≠[]->yt q=s->(q.Method.toNat<i->m=q.Method)->m=q.Method:=λq h0 hw hm=>by have hr:=U6 (CB (show yt q≠[] by rw[hw];exact h0)).1;have lo:=hr.lo;have hi':=hr.hi;exact hm (by omega)
    have K:∀(ok:Bool) (n:aj) (l:List oz),wE Lr 6 n->LY l->(∀q,s≠[]->yt q=s->m=q.Method->n=q.Body/\l=q.Ops/\ok=true) ->
     Tot (λv:RequestT×Bool=>(v.2=false->v.1=KO)/\(v.2=true->yt v.1=s/\s≠[]/\s.length<=2000)/\∀q,s≠[]->s.length<=2000->yt q=s->(q.Method.toNat<i->m=q.Method)->v=(q,true))
      (λf=>G.fM.K2 f s (w2,x2) m (p3,k3) (p4,k4) ok n.Kind n.Num n.Text n.Names n.Kids l):=λok n l hn hL hq=>by
     refine Tot.up ?_;simp only[G.fM.K2,aj.eta];have hFQ:abv 1048576 (RequestT.mk m w2 p3 p4 n l):=⟨by show w2.length<=_;omega,mono f3,mono f4,⟨6,hn⟩,hL⟩;have same:∀q,s≠[]->yt q=s->(q.Method.toNat<i->m=q.Method)->RequestT.mk m w2 p3 p4 n l=q/\ok=true:=λq h0 hw hm=>by have h5:=hmq q h0 hw hm;obtain⟨h6,h7,h8⟩:=hq q h0 hw h5;refine⟨?_,h8⟩;rw[h5,(words q h0 hw).2.1,(hd3 q h0 hw).1,(hd4 q h0 hw).1,h6,h7]
     refine Tot.ite (λe3=>Tot.ite (λe4=>Tot.ite (λe1=>Tot.tK (T0.dG aeN hFQ) (Tot.ite (λe2=>Tot.ite (λe0=>Tot.ret (no λq g1 _ _ _=>?_)) (λe0=>Tot.ret ⟨λh=>(by cases h),λ_=>⟨by simpa using e2,by simpa using e0,hs2⟩,λq g1 _ g3 g4=>?_⟩)) (λe2=>Tot.ret (no λq g1 _ g3 g4=>?_)))) (λe1=>Tot.ret (no λq g1 _ g3 g4=>?_))) (λe4=>Tot.ret (no λq g1 _ g3 g4=>?_))) (λe3=>Tot.ret (no λq g1 _ g3 g4=>?_))
     ·exact g1 (by simpa using e0)
     ·rw[(same q g1 g3 g4).1]
     ·rw[(same q g1 g3 g4).1,g3]at e2;simp at e2
     ·rw[(same q g1 g3 g4).2]at e1;cases e1
     ·rw[(hd4 q g1 g3).2]at e4;cases e4
     ·rw[(hd3 q g1 g3).2]at e3;cases e3
    refine Tot.ite (λem=>Tot.bind (T.mJ (s:=x4) (by omega)) ?_) (λem=>Tot.bind (T.rO (s:=x4) (by omega)) ?_)
    ·rintro⟨l,kl⟩⟨fl,cl⟩;have em:m=4:=(by simpa using em);refine K kl (aj.mk 0 0 [] [] []) l (BA _ _) fl (λq g1 g3 g4=>?_);obtain⟨o1,o2,o3,_⟩:=CB (show yt q≠[] by rw[g3];exact g1);have hm4:q.Method=4:=(by omega);have:=cl q.Ops (U6 o1).ops o3 (by rw[(words q g1 g3).2.2.2.2,if_pos hm4]);simp only[aJ]at this;exact⟨(Tv o1 o2 hm4).symm,this.1,this.2⟩
    ·rintro⟨n,kn⟩⟨fn,cn⟩;have em:m≠4:=(by simpa using em);refine K kn n [] fn ⟨aO _,λo h=>by cases h⟩ (λq g1 g3 g4=>?_);obtain⟨o1,o2,o3,_⟩:=CB (show yt q≠[] by rw[g3];exact g1);have hm4:q.Method≠4:=(by omega);have:=cn q.Body (U6 o1).body (by omega) (by rw[(words q g1 g3).2.2.2.2,if_neg hm4]);simp only[aJ]at this;exact⟨this.1,(Wx o2 hm4).symm,this.2⟩
  | succ k ih=>
    intro i m hi h1;refine Tot.up ?_;simp only[G.fM.L1,ah,dF (show i+1<9223372036854775808 by omega)];refine Tot.ct (decide_eq_true (by show(i:Int)<((6:Nat):Int);omega)) (Tot.chk (by show 0<=(i:Int)/\(i:Int)<((6:Nat):Int);omega) (Tot.ite (λe=>(ih (i+1) (i:Int) (by omega) (by omega)).mono λv hv=>⟨hv.1,hv.2.1,λq g1 g2 g3 g4=>hv.2.2 q g1 g2 g3 λhlt=>?_⟩) (λe=>(ih (i+1) m (by omega) (by omega)).mono λv hv=>⟨hv.1,hv.2.1,λq g1 g2 g3 g4=>hv.2.2 q g1 g2 g3 λhlt=>?_⟩)))
    ·have hr:=U6 (CB (show yt q≠[] by rw[g3];exact g1)).1;have lo:=hr.lo;have hi':=hr.hi;have e:Hq.getD i default=w1:=(by simpa using e);rw[(words q g1 g3).1]at e;have:=Xb _ (by omega) _ (by omega) e;omega
    ·have hr:=U6 (CB (show yt q≠[] by rw[g3];exact g1)).1;have lo:=hr.lo;have hi':=hr.hi;refine g4 ?_;have e:Hq.getD i default≠w1:=(by simpa using e);rw[(words q g1 g3).1]at e;have:q.Method.toNat≠i:=λhe=>(by rw[he]at e;exact e rfl);omega
 exact(L 5 1 0 (by omega) (by omega)).mono λv hv=>⟨hv.1,hv.2.1,λq g1 g2 g3=>hv.2.2 q g1 g2 g3 λhlt=>by have hr:=U6 (CB (show yt q≠[] by rw[g3];exact g1)).1;have lo:=hr.lo;omega⟩
theorem X3 : KF 60 KO:=⟨by simp[KO],V3,V3,⟨5,zO OX⟩,Z9⟩
theorem PR.fine {s:aK}{v:RequestT×Bool}(h:PR s v):KF 60 v.1:=by
 cases e:v.2 with
 | true=>obtain⟨h1,h2,_⟩:=h.yes e;exact JK (CB (show yt v.1≠[] by rw[h1];exact h2)).1
 |false=>rw[h.no e];exact X3
theorem D.agf {K:Nat}{r:ReaderT}(hr:Hu K r)(hK:K<=900000000){s:aK}(hs:s.length<=100000000):Dr (K+3) (λx:aK=>x.length<=s.length+4) (λf=>G.xm f r s):=by
 have hM:=maxL;refine Tot.up ?_;simp only[G.xm];have w0:af .i64 ((s.length:Int)+1)=((s.length+1:Nat):Int):=dF (by omega);refine Tot.bind (D.pick (m:=s.length+1) hr (by omega) w0 (by omega) (by omega)) ?_;rintro⟨x,r1⟩⟨⟨k,hk,hkl⟩,hr1⟩;simp only at hk;subst hk;refine Tot.bind (D.pick (m:=5) hr1 (by omega) rfl (by decide) (by decide)) ?_;rintro⟨y,r2⟩⟨_,hr2⟩;have hr2:Hu (K+1+1) r2:=hr2;refine Tot.ite (λ_=>Tot.ite (λe=>?_) (λ_=>Tot.ret ⟨by show s.length<=_;omega,hr2.mono (by omega)⟩)) (λ_=>Tot.ite (λ_=>Tot.chk ⟨by omega,by omega,by omega⟩ (Tot.ret ⟨by show(s.take _).length<=_;rw[dm];omega,hr2.mono (by omega)⟩)) (λ_=>Tot.ite (λ_=>?_) (λ_=>Tot.ret ⟨by show s.length<=_;omega,hr2.mono (by omega)⟩)))
 ·have hk:k<s.length:=by simp only[decide_eq_true_eq]at e;omega
  refine Tot.chk ⟨by omega,by omega,by omega⟩ (Tot.bind (D.of (m:=4) hr2 (by omega) _ (by decide) (by decide) (by decide)) ?_);rintro⟨t,r3⟩⟨ht,hr3⟩;have ht:t.length<=4:=ht;simp only[ah,dF (show k+1<9223372036854775808 by omega)];have h1:(s.take k).length<=s.length:=by rw[dm];omega
  have h2:(s.drop (k+1)).length<=s.length-k:=by rw[fE];omega
  have h3:(s.take k).length<=k:=by rw[dm];omega
  refine Tot.chk (by omega) (Tot.chk ⟨by omega,by omega,by omega⟩ (Tot.chk (by omega) (Tot.ret ⟨?_,hr3⟩)));show((s.take k++t)++s.drop (k+1)).length<=_;rw[au,au];omega
 ·refine Tot.bind (D.of (m:=4) hr2 (by omega) _ (by decide) (by decide) (by decide)) ?_;rintro⟨t,r3⟩⟨ht,hr3⟩;have ht:t.length<=4:=ht;refine Tot.chk (by show s.length+t.length<=_;omega) (Tot.ret ⟨?_,hr3⟩);show(s++t).length<=_;rw[au];omega
section
def jn : List aK->aK
 |[]=>[]
 |[x]=>x
 |x::y::r=>x++32::jn (y::r)
theorem Y3 : ∀l:List aK,uf l [32]=jn l
 |[]=>rfl
 |[x]=>by simp[uf,jn,En,Eo]
 | x::y::r=>by have:=Y3 (y::r);unfold jn;rw[<- this];simp[uf,En,Eo]
theorem Y4 : ∀{l:List aK} {x:aK},l≠[]->jn (l++[x])=(jn l++[32])++x
 |[],_,h=>absurd rfl h
 |[y],x,_=>by simp[jn]
 | y::z::r,x,_=>by have:=Y4 (l:=z::r) (x:=x) (by simp);show y++32::jn ((z::r)++[x])=_;rw[this];simp[jn]
theorem Ye : ∀{l:List aK},(∀t,t∈l->t.length<=8)->(jn l).length<=9*l.length
 |[],_=>by simp[jn]
 |[x],h=>by have:=h x (bC ..);simp[jn];omega
 | x::y::r,h=>by have h1:=Ye (l:=y::r) (λt ht=>h t (dL _ ht));have h2:=h x (bC ..);unfold jn;simp only[au,bH]at h1⊢;omega
theorem QZ {s:StoreT}(hs:Si s):(jn (uZ s.Items)).length<=90/\(uZ s.Items).length=s.Items.length/\∀t,t∈uZ s.Items->t.length<=8:=by
 have h8:∀t,t∈uZ s.Items->t.length<=8:=λt ht=>by obtain⟨it,hit,rfl⟩:=pI.1 ht;have:=hs.itm it hit;unfold LV at this;simp only[ai]at this;exact(JH this.1).2
 have hl:(uZ s.Items).length=s.Items.length:=by simp[uZ]
 have:=Ye h8;have:=hs.len;exact⟨by omega,hl,h8⟩
def GG (l:List bI):Nat:=(l.map λit=>it.Name.length+(nX 5 it.Node).length).sum
theorem JB {s:StoreT}(hs:Si s){it:bI}(h:it∈s.Items):it.Name.length<=8/\Val it.Node=true:=by have:=hs.itm it h;unfold LV at this;simp only[ai]at this;exact⟨(JH this.1).2,this.2.1⟩
theorem Ve {l:List bI}(h:∀it,it∈l->it.Name.length<=8/\Val it.Node=true):GG l<=4000008*l.length:=by
 induction l with
 |nil=>simp[GG]
 | cons it l ih=>have h1:=h it (bC ..);have h2:=fmt5 h1.2;have h3:=ih λx hx=>h x (dL _ hx);unfold GG at h3⊢;rw[bf,List.sum_cons,bH];omega
theorem Zb (s:aK):∃v,PR s v:=by obtain⟨v,_,h⟩:=T.fM s;exact⟨v,h⟩
noncomputable def N9 (s:aK):RequestT×Bool:=(Zb s).choose
theorem ac6 {s:aK}{v:RequestT×Bool}(h:PR s v):v=N9 s:=h.uniq (Zb s).choose_spec
theorem T.acu {s:aK}(hl:s.length<=4000000000):Ev (λf=>G.jq f s) (N9 s):=by
 obtain⟨v,g,h⟩:=T.jq hl
 rwa[ac6 h]at g
theorem T.adq (s:aK):Ev (λf=>G.fM f s) (N9 s):=by
 obtain⟨v,g,h⟩:=T.fM s
 rwa[ac6 h]at g
theorem U2 {s:aK}(h:(N9 s).2=true):Pq (N9 s).1=true:=by
 obtain⟨h1,h2,_⟩:=(Zb s).choose_spec.yes h;exact(CB (q:=(N9 s).1) (by have:yt (N9 s).1=s:=h1;rw[this];exact h2)).1
def WH (q:RequestT)(r:gI):aK:=(AB r.Status++(if r.Tag=[]then []else 32::r.Tag))++(if q.Method=1/\r.Status=200 then 32::nX 5 r.Body else [])
theorem adR {s:StoreT}{t:aK}{n:aj}{c:Int}(hc:0<=c/\c<=999):0<=(LP s t n c).2.Status/\(LP s t n c).2.Status<=999:=by
 unfold LP;split
 ·exact hc
 ·exact⟨by show(0:Int)<=422;omega,by show(422:Int)<=999;omega⟩
theorem Y2 {s:StoreT}{q:RequestT} : 0<=(Dc s q).2.Status/\(Dc s q).2.Status<=999:=by
 have A:∀c:Int,0<=c/\c<=999->0<=(s,ans c).2.Status/\(s,ans c).2.Status<=999:=λc h=>h;have ck:∀t b,0<=GH q.Want q.oP t b/\GH q.Want q.oP t b<=999:=λt b=>by rcases Oo q.Want q.oP t b with h|h|h<;>omega
 unfold Dc;split
 ·split
  ·split
   ·exact adR ⟨by omega,by omega⟩
   ·exact A _ (ck _ _)
  ·exact A _ ⟨by omega,by omega⟩
 ·split
  ·unfold X7;split
   ·exact⟨by show(0:Int)<=200;omega,by show(200:Int)<=999;omega⟩
   ·split
    ·split
     ·exact⟨by show(0:Int)<=200;omega,by show(200:Int)<=999;omega⟩
     ·exact A _ ⟨by omega,by omega⟩
    ·split
     ·exact adR ⟨by omega,by omega⟩
     ·exact A _ ⟨by omega,by omega⟩
  ·exact A _ (ck _ _)
theorem RF {t:aK}(h:G6 t=true):t.length<=4:=by rw[Iq h];exact ax _
theorem aeF {s:StoreT}{q:RequestT}{p:StoreT×gI}(hr:RqF q)(h:Zu s q p):p.2.Tag.length<=4:=by
 cases h with
 |no c=>exact aO _
 |get it h1 h2=>exact RF (NT (Oy h2).2.2.2)
 |drop it m h1 h2 h3=>exact aO _
 |made m h1 h2 h3=>exact RF (NT hr.body)
 |put it n m h1 h2 h3 h4=>exact RF (NT (WB (LG.2 hr) h3))
structure Ans (p:StoreT×gI):Prop where
 st:Si p.1
 body:Val p.2.Body=true
 lo:0<=p.2.Status
 hi:p.2.Status<=999
 tag:p.2.Tag.length<=4
theorem UH {s:StoreT}{q:RequestT}(hs:Si s)(hr:RqF q):Ans (Dc s q):=by have h:=aaf (s:=s) hr;have h1:=aeG hs h;exact⟨BN.1 h1.1,h1.2,Y2.1,Y2.2,aeF hr h⟩
theorem aeW {q:RequestT}{p:StoreT×gI}(h:Ans p):(WH q p.2).length<=4000020:=by have h1:=Jt (z:=p.2.Status) (by have:=h.lo;omega) (by have:=h.hi;omega);have h2:=h.tag;have h3:=fmt5 h.body;unfold WH;simp only[au];split<;>split<;>simp only[bH,dB]<;>omega
abbrev SS :=StoreT×StoreT
structure SV (x:SS):Prop where
 now:Si x.1
 kept:Si x.2
noncomputable def Aa (x:SS)(l:aK):aK×SS:=
 if l=[108,105,115,116]then(jn (uZ x.1.Items),x)else if l=[99,108,111,99,107]then(AB x.1.Clock,x)else if l=[115,105,122,101]then(yE (GG x.1.Items),x)else
 if l=[107,101,101,112]then([111,107],(x.1,x.1))else if l=[98,97,99,107]then([111,107],(x.2,x.2))else
 if(N9 l).2=true then(WH (N9 l).1 (Dc x.1 (N9 l).1).2,((Dc x.1 (N9 l).1).1,x.2))else([119,104,97,116],x)
theorem aer {s:StoreT}(hs:Si s):(AB s.Clock).length<=7:=Jt (by have:=hs.lo;omega) (by have:=hs.hi;omega)
theorem NQ {s:StoreT}(hs:Si s):GG s.Items<=40000080:=by have h1:=Ve (l:=s.Items) (λit h=>JB hs h);have h2:=CW 4000008 hs.len;omega
theorem VU : ∀(k i:Nat),i<10^(k+1)->(yE i).length<=k+1
 |0,i,h=>by rw[yD (by omega)];simp
 | k+1,i,h=>by
   by_cases c:i<10
   ·rw[yD c];simp
   ·rw[Du c,au,bF];have:=VU k (i/10) (by rw[yJ]at h;omega);omega
theorem MM {x:SS}(hx:SV x)(l:aK):SV (Aa x l).2/\(Aa x l).1.length<=5000000:=by
 unfold Aa;have hn:=(QZ hx.now).1;have hc:=aer hx.now;have hz:=NQ hx.now;split
 ·exact⟨hx,by show(jn _).length<=_;omega⟩
 split
 ·exact⟨hx,by show(AB _).length<=_;omega⟩
 split
 ·have:=VU 9 (GG x.1.Items) (by omega);exact⟨hx,by show(yE _).length<=_;omega⟩
 split
 ·exact⟨⟨hx.now,hx.now⟩,by show 2<=5000000;omega⟩
 split
 ·exact⟨⟨hx.kept,hx.kept⟩,by show 2<=5000000;omega⟩
 split
 ·rename_i h;have ha:=UH hx.now (LG.1 (U2 h));have:=aeW (q:=(N9 l).1) ha;exact⟨⟨ha.st,hx.kept⟩,by show(WH _ _).length<=_;omega⟩
 ·exact⟨hx,by show 4<=5000000;omega⟩
theorem TE {l:List bI}{i:Nat}(h:i<l.length):GG (l.take (i+1))=GG (l.take i)+((l.getD i default).Name.length+(nX 5 (l.getD i default).Node).length):=by rw[<- take_snoc default h];unfold GG;simp
section
variable {now kept:StoreT} (hn:Si now) (hk:Si kept)
include hn
theorem T.Yb : Ev (λf=>G.jD f (mM.mk now kept)) (jn (uZ now.Items),mM.mk now kept):=by
 have hl:=hn.len;obtain⟨h1,h2,h3⟩:=QZ hn;have L:∀(k i:Nat),i+k=now.Items.length->Ev (λf=>G.jD.L1 f (mM.mk now kept) (i:Int) ((uZ now.Items).take i)) (jn (uZ now.Items),mM.mk now kept):=by
  intro k
  induction k with
  | zero=>intro i hi;refine Ev.up ?_;simp only[G.jD.L1];refine Ev.cf (decide_eq_false (by omega)) (Ev.bind (a:=jn (uZ now.Items)) (Ev.up ?_) (Ev.ret _));simp only[G.strings_Join];rw[aC (by omega),Y3];exact Ev.chk ⟨by omega,by omega⟩ (Ev.ret _)
  | succ k ih=>
    intro i hi;have hil:i<now.Items.length:=(by omega);refine Ev.up ?_;simp only[G.jD.L1,ah,dF (show i+1<9223372036854775808 by omega)];refine Ev.ct (decide_eq_true (by omega)) (Ev.chk (by omega) (Ev.chk (by rw[dm];omega) ?_));have:(uZ now.Items).take i++[(now.Items.getD i default).Name]=(uZ now.Items).take (i+1):=by
     rw[<- take_snoc (default:aK) (by omega:i<(uZ now.Items).length)]
     congr 2
     unfold uZ;rw[gu _ hil,gu _ (by simpa using hil),yC]
    rw[this];exact ih (i+1) (by omega)
 refine Ev.up ?_;simp only[G.jD];exact L now.Items.length 0 (by omega)
theorem T.aaY : Ev (λf=>G.lF f (wL.mk now kept)) (jn (uZ now.Items),wL.mk now kept):=by
 have hM:=maxL;have hl:=hn.len;obtain⟨h1,h2,h3⟩:=QZ hn;have L:∀(k i:Nat),i+k=now.Items.length->Ev (λf=>G.lF.L1 f (wL.mk now kept) (jn ((uZ now.Items).take i)) (i:Int)) (jn (uZ now.Items),wL.mk now kept):=by
  intro k
  induction k with
  | zero=>intro i hi;refine Ev.up ?_;simp only[G.lF.L1];exact Ev.cf (decide_eq_false (by omega)) (Ev.ret' (by rw[aC (by omega)]))
  | succ k ih=>
    intro i hi;have hil:i<now.Items.length:=(by omega);have hi2:i<(uZ now.Items).length:=(by omega);have hb:=Ye (l:=(uZ now.Items).take i) (λt ht=>h3 t (dS ht));have ht:((uZ now.Items).take i).length=i:=(by rw[dm];omega);rw[ht]at hb;have hnm:(now.Items.getD i default).Name=(uZ now.Items).getD i default:=by unfold uZ;rw[gu _ hil,gu _ (by simpa using hil),yC]
    have hnl:=h3 _ (getD_mem (default:aK) hi2);refine Ev.up ?_;simp only[G.lF.L1,ah,dF (show i+1<9223372036854775808 by omega),hnm];have hts:=take_snoc (default:aK) hi2;refine Ev.ct (decide_eq_true (by omega)) (Ev.ite (λe=>?_) (λe=>?_))
    ·have h0:0<i:=(by simp only[decide_eq_true_eq]at e;omega);have hne:(uZ now.Items).take i≠[]:=λh=>(by rw[h]at ht;simp at ht;omega);refine Ev.chk (by omega) (Ev.chk (by omega) (Ev.chk (by omega) ?_));rw[<- Y4 hne,hts];exact ih (i+1) (by omega)
    ·have h0:i=0:=(by simp only[decide_eq_false_iff_not]at e;omega);subst h0;refine Ev.chk (by omega) (Ev.chk (by omega) ?_);have:jn ((uZ now.Items).take 0)++(uZ now.Items).getD 0 default=jn ((uZ now.Items).take (0+1)):=(by rw[<- hts];rfl);rw[this];exact ih (0+1) (by omega)
 refine Ev.up ?_;simp only[G.lF];exact L now.Items.length 0 (by omega)
theorem T.aam : Ev (λf=>G.lS f now) ((GG now.Items:Nat):Int):=by
 have hl:=hn.len;have hz:=NQ hn;have L:∀(k i:Nat),i+k=now.Items.length->Ev (λf=>G.lS.L1 f now ((GG (now.Items.take i):Nat):Int) (i:Int)) ((GG now.Items:Nat):Int):=by
  intro k
  induction k with
  | zero=>intro i hi;refine Ev.up ?_;simp only[G.lS.L1];exact Ev.cf (decide_eq_false (by omega)) (Ev.ret' (by rw[aC (by omega)]))
  | succ k ih=>
    intro i hi;have hil:i<now.Items.length:=(by omega);have hv:=JB hn (getD_mem default hil);have hf:=fmt5 hv.2;have hb:=Ve (l:=now.Items.take i) (λit h=>JB hn (dS h));have hb2:(now.Items.take i).length<=10:=(by rw[dm];omega);have hb3:=CW 4000008 hb2;have gi:Ev (λf=>G.vC f (bI.mk (now.Items.getD i default).Name (now.Items.getD i default).Version (now.Items.getD i default).Node)) ((((now.Items.getD i default).Name.length+(nX 5 (now.Items.getD i default).Node).length:Nat)):Int):=by
     refine Ev.up ?_;simp only[G.vC];refine Ev.bind (a:=((nX 5 (now.Items.getD i default).Node).length:Int)) (Ev.up ?_) (Ev.ret' ?_)
     ·simp only[G.vP];have hF:=T.jY zQ (zO hv.2);have eF:TQ (now.Items.getD i default).Node=nX 5 (now.Items.getD i default).Node:=(by unfold TQ;rw[if_pos hv.2]);rw[eF]at hF;exact Ev.bind (T.aX zQ (zO hv.2)) (Ev.ct hv.2 (Ev.bind hF (Ev.ret _)))
     ·exact wrapN (by omega) (by omega)
    refine Ev.up ?_;simp only[G.lS.L1,ah,dF (show i+1<9223372036854775808 by omega)];refine Ev.ct (decide_eq_true (by omega)) (Ev.chk (by omega) (Ev.bind gi ?_));have hs:=TE hil;rw[show af .i64 (((GG (now.Items.take i):Nat):Int)+((((now.Items.getD i default).Name.length+(nX 5 (now.Items.getD i default).Node).length:Nat)):Int))=((GG (now.Items.take (i+1)):Nat):Int)from wrapN (by omega) (by omega)];exact ih (i+1) (by omega)
 refine Ev.up ?_;simp only[G.lS];exact Ev.bind (T.dw zQ hn.fine) (Ev.ct (BN.2 hn) (L now.Items.length 0 (by omega)))
theorem T.YA : Ev (λf=>G.uA f now) ((GG now.Items:Nat):Int):=by
 have hl:=hn.len;have hz:=NQ hn;have L:∀(k i:Nat),i+k=now.Items.length->Ev (λf=>G.uA.L1 f now ((GG (now.Items.take i):Nat):Int) (i:Int)) ((GG now.Items:Nat):Int):=by
  intro k
  induction k with
  | zero=>intro i hi;refine Ev.up ?_;simp only[G.uA.L1];exact Ev.cf (decide_eq_false (by omega)) (Ev.ret' (by rw[aC (by omega)]))
  | succ k ih=>
    intro i hi;have hil:i<now.Items.length:=(by omega);have hv:=JB hn (getD_mem default hil);have hf:=fmt5 hv.2;have hb:=Ve (l:=now.Items.take i) (λit h=>JB hn (dS h));have hb2:(now.Items.take i).length<=10:=(by rw[dm];omega);have hb3:=CW 4000008 hb2;refine Ev.up ?_;simp only[G.uA.L1,ah,dF (show i+1<9223372036854775808 by omega)];refine Ev.ct (decide_eq_true (by omega)) (Ev.chk (by omega) (Ev.chk (by omega) (Ev.bind (T.eX 5 (by omega) (lN hv.2)) ?_)));have hs:=TE hil;rw[show af .i64 (((GG (now.Items.take i):Nat):Int)+(((now.Items.getD i default).Name.length:Nat):Int))=((GG (now.Items.take i)+(now.Items.getD i default).Name.length:Nat):Int)from wrapN (by omega) (by omega),
     show af .i64 (((GG (now.Items.take i)+(now.Items.getD i default).Name.length:Nat):Int)+((nX 5 (now.Items.getD i default).Node).length:Int))=((GG (now.Items.take (i+1)):Nat):Int)from wrapN (by omega) (by omega)]
    exact ih (i+1) (by omega)
 refine Ev.up ?_;simp only[G.uA];exact L now.Items.length 0 (by omega)
theorem T.UJ {q:RequestT}(hq:Pq q=true):Ev (λf=>G.dX f (mM.mk now kept) q) (WH q (Dc now q).2,mM.mk (Dc now q).1 kept):=by
 have hr:=LG.1 hq;have ha:=UH hn hr;have hH:=T.gY hn (JK hq);have eH:ad8 now q=Dc now q:=by unfold ad8;rw[BN.2 hn,hq];rfl
 rw[eH]at hH;have hd:=Jt (z:=(Dc now q).2.Status) (by have:=ha.lo;omega) (by have:=ha.hi;omega);have h5:=fmt5 ha.body;have htg:=ha.tag;have hF:=T.jY zQ (zO ha.body);have eF:TQ (Dc now q).2.Body=nX 5 (Dc now q).2.Body:=by unfold TQ;rw[if_pos ha.body]
 rw[eF]at hF;have K2:∀z:aK,z.length<=5000000->Ev (λf=>G.dX.K2 f (mM.mk now kept) (Dc now q) z) (z,mM.mk (Dc now q).1 kept):=λz hz=>by refine Ev.up ?_;simp only[G.dX.K2];exact Ev.bind (T.bs' (by show z.length<=_;omega)) (Ev.ret _)
 have K1:∀z:aK,z.length<=100->Ev (λf=>G.dX.K1 f (mM.mk now kept) q (Dc now q) z) (z++(if q.Method=1/\(Dc now q).2.Status=200 then 32::nX 5 (Dc now q).2.Body else []),mM.mk (Dc now q).1 kept):=λz hz=>by
  refine Ev.up ?_;simp only[G.dX.K1];refine Ev.ite (λe1=>Ev.ite (λe2=>?_) (λe2=>?_)) (λe1=>?_)
  ·rw[if_pos ⟨by simpa using e1,by simpa using e2⟩];refine Ev.bind (EF 32 (by omega)) (Ev.bind hF (Ev.bind (T.ws (by show(z++[32]).length+_<=_;rw[au,bF];omega)) ((K2 _ ?_).eq ?_)))
   ·show((z++[32])++_).length<=_;rw[au,au,bF];omega
   ·simp
  ·rw[if_neg (λh=>by rw[h.2]at e2;simp at e2),bM];exact K2 z (by omega)
  ·rw[if_neg (λh=>by rw[h.1]at e1;simp at e1),bM];exact K2 z (by omega)
 refine Ev.up ?_;simp only[G.dX];unfold WH;refine Ev.bind hH (Ev.bind (T.PY ⟨by have:=ha.lo;omega,by have:=ha.hi;omega⟩) (Ev.bind (T.ws (by show([]:aK).length+_<=_;simp;omega)) (Ev.ite (λe=>?_) (λe=>?_))))
 ·rw[if_pos (by simpa using e),bM];exact(K1 _ (by show([]++AB _).length<=_;rw[dN];omega)).eq (by simp)
 ·rw[if_neg (by simpa using e)];refine Ev.bind (EF 32 (by show([]++AB _).length<_;rw[dN];omega)) (Ev.bind (T.ws (by show(([]++AB _)++[32]).length+_<=_;simp;omega)) ((K1 _ ?_).eq (by simp)));show((([]++AB _)++[32])++_).length<=_;simp only[dN,au,bF];omega
theorem T.adp {q:RequestT}(hq:Pq q=true):Ev (λf=>G.nU f (wL.mk now kept) q) (WH q (Dc now q).2,wL.mk (Dc now q).1 kept):=by
 have hM:=maxL;have hr:=LG.1 hq;have ha:=UH hn hr;have hH:=T.kE (s:=now) (q:=q) hn (JK hq) hr;have hd:=Jt (z:=(Dc now q).2.Status) (by have:=ha.lo;omega) (by have:=ha.hi;omega);have h5:=fmt5 ha.body;have htg:=ha.tag;have hF:=T.eX 5 (by omega) (lN ha.body);have K1:∀z:aK,z.length<=100->Ev (λf=>G.nU.K1 f (wL.mk now kept) q (Dc now q) z) (z++(if q.Method=1/\(Dc now q).2.Status=200 then 32::nX 5 (Dc now q).2.Body else []),wL.mk (Dc now q).1 kept):=λz hz=>by
  refine Ev.up ?_;simp only[G.nU.K1];refine Ev.ite (λe1=>Ev.ite (λe2=>?_) (λe2=>?_)) (λe1=>?_)
  ·rw[if_pos ⟨by simpa using e1,by simpa using e2⟩];exact Ev.chk (by omega) (Ev.bind hF (Ev.chk (by omega) (Ev.ret' (by simp))))
  ·rw[if_neg (λh=>by rw[h.2]at e2;simp at e2),bM];exact Ev.ret _
  ·rw[if_neg (λh=>by rw[h.1]at e1;simp at e1),bM];exact Ev.ret _
 refine Ev.up ?_;simp only[G.nU];unfold WH;refine Ev.bind hH (Ev.bind (T.OV (by have:=ha.lo;omega) (by have:=ha.hi;omega)) (Ev.ite (λe=>?_) (λe=>?_)))
 ·rw[if_pos (by simpa using e),bM];exact K1 _ (by omega)
 ·rw[if_neg (by simpa using e)];exact Ev.chk (by omega) (Ev.chk (by omega) ((K1 _ (by simp only[au,bF];omega)).eq (by simp)))
include hk
theorem T.UI {l:aK}(hl:l.length<=4000000000):Ev (λf=>G.mP f (mM.mk now kept) l) ((Aa (now,kept) l).1,mM.mk (Aa (now,kept) l).2.1 (Aa (now,kept) l).2.2):=by
 have hz:=NQ hn;refine Ev.up ?_;simp only[G.mP];unfold Aa;refine Ev.ite (λe=>?_) (λe=>?_)
 ·rw[if_pos (by simpa using e)];exact Ev.bind (T.Yb hn) (Ev.ret _)
 rw[if_neg (by simpa using e)];refine Ev.ite (λe=>?_) (λe=>?_)
 ·rw[if_pos (by simpa using e)];exact Ev.bind (T.PY ⟨by have:=hn.lo;omega,by have:=hn.hi;omega⟩) (Ev.ret _)
 rw[if_neg (by simpa using e)];refine Ev.ite (λe=>?_) (λe=>?_)
 ·rw[if_pos (by simpa using e)];refine Ev.bind (T.aam hn) (Ev.bind (T.PY ⟨by omega,by omega⟩) (Ev.ret' ?_));rw[show AB ((GG now.Items:Nat):Int)=yE (GG now.Items)from(if_neg (by omega)).trans (by rw[ah])]
 rw[if_neg (by simpa using e)];refine Ev.ite (λe=>?_) (λe=>?_)
 ·rw[if_pos (by simpa using e)];exact Ev.bind (copyS now hn).1 (Ev.ret _)
 rw[if_neg (by simpa using e)];refine Ev.ite (λe=>?_) (λe=>?_)
 ·rw[if_pos (by simpa using e)];exact Ev.bind (copyS kept hk).1 (Ev.ret _)
 rw[if_neg (by simpa using e)];refine Ev.bind (T.acu hl) (Ev.ite (λe=>?_) (λe=>?_))
 ·rw[if_pos e];exact Ev.bind (T.UJ hn (U2 e)) (Ev.ret _)
 ·rw[if_neg (by rw[e];simp)];exact Ev.ret _
theorem T.aaX (l:aK):Ev (λf=>G.sK f (wL.mk now kept) l) ((Aa (now,kept) l).1,wL.mk (Aa (now,kept) l).2.1 (Aa (now,kept) l).2.2):=by
 have hz:=NQ hn;refine Ev.up ?_;simp only[G.sK];unfold Aa;refine Ev.ite (λe=>?_) (λe=>?_)
 ·rw[if_pos (by simpa using e)];exact Ev.bind (T.aaY hn) (Ev.ret _)
 rw[if_neg (by simpa using e)];refine Ev.ite (λe=>?_) (λe=>?_)
 ·rw[if_pos (by simpa using e)];exact Ev.bind (T.OV (by have:=hn.lo;omega) (by have:=hn.hi;omega)) (Ev.ret _)
 rw[if_neg (by simpa using e)];refine Ev.ite (λe=>?_) (λe=>?_)
 ·rw[if_pos (by simpa using e)];exact Ev.bind (T.YA hn) (Ev.bind (T.decimal (by unfold lim;omega)) (Ev.ret _))
 rw[if_neg (by simpa using e)];refine Ev.ite (λe=>?_) (λe=>?_)
 ·rw[if_pos (by simpa using e)];exact Ev.bind (copyS now hn).2 (Ev.ret _)
 rw[if_neg (by simpa using e)];refine Ev.ite (λe=>?_) (λe=>?_)
 ·rw[if_pos (by simpa using e)];exact Ev.bind (copyS kept hk).2 (Ev.ret _)
 rw[if_neg (by simpa using e)];refine Ev.bind (T.adq l) (Ev.ite (λe=>?_) (λe=>?_))
 ·rw[if_pos e];exact Ev.bind (T.adp hn (U2 e)) (Ev.ret _)
 ·rw[if_neg (by rw[e];simp)];exact Ev.ret _
end
noncomputable def stM : SS->List aK->SS
 |x,[]=>x
 |x,l::ls=>stM (Aa x l).2 ls
noncomputable def FC : SS->List aK->aK
 |_,[]=>[]
 |x,l::ls=>(Aa x l).1++10::FC (Aa x l).2 ls
theorem Rq : ∀{a b:List aK} {x:SS},FC x (a++b)=FC x a++FC (stM x a) b
 |[],_,_=>rfl
 | l::a,b,x=>by show(Aa x l).1++10::FC (Aa x l).2 (a++b)=((Aa x l).1++10::FC (Aa x l).2 a)++_;rw[Rq];simp[stM]
theorem Vj : ∀{a:List aK} {x:SS},SV x->SV (stM x a)
 |[],_,h=>h
 |l::a,x,h=>Vj (a:=a) (MM h l).1
def Zh : SS:=(aaE,aaE)
theorem sv0 : SV Zh:=⟨BN.1 adt,BN.1 adt⟩
noncomputable def Jn (l:List aK):aK:=FC Zh (l.take 20)
theorem TI {l:List aK}{i:Nat}(h:i<l.length)(h2:i<20):(l.drop i).take (20-i)=l.getD i default::(l.drop (i+1)).take (20-(i+1)):=by rw[dP default h,show 20-i=(20-(i+1))+1 by omega,List.take_succ_cons]
theorem T.dU {l:List aK}(hl:l.length<=1000000000)(ht:∀t,t∈l->t.length<=4000000000):Ev (λf=>G.dU f l) (Jn l):=by
 have K2:∀(t:Int) (a b:StoreT) (z:aK),z.length<=4000000000->Ev (λf=>G.dU.K2 f t a.Items a.Clock b.Items b.Clock z) z:=λt a b z hz=>by refine Ev.up ?_;simp only[G.dU.K2];exact Ev.bind (T.bs' (by show z.length<=_;omega)) (Ev.ret _)
 have L:∀(k i:Nat) (x:SS) (z:aK),i+k=20->SV x->z.length<=5000001*i->Ev (λf=>G.dU.L3 f l (i:Int) x.1.Items x.1.Clock x.2.Items x.2.Clock z) (z++FC x ((l.drop i).take (20-i))):=by
  intro k
  induction k with
  | zero=>intro i x z hi hx hz;have hi:i=20:=(by omega);subst hi;refine Ev.up ?_;simp only[G.dU.L3];have e:z++FC x ((l.drop 20).take (20-20))=z:=(by simp[FC]);rw[e];exact Ev.ite (λc=>Ev.chk (by simp only[decide_eq_true_eq]at c;omega) (Ev.ct (by simp) (K2 _ _ _ z (by omega)))) (λ_=>K2 _ _ _ z (by omega))
  | succ k ih=>
    intro i x z hi hx hz;refine Ev.up ?_;simp only[G.dU.L3,ah,dF (show i+1<9223372036854775808 by omega)];refine Ev.ite (λc=>?_) (λc=>?_)
    ·have hil:i<l.length:=(by simp only[decide_eq_true_eq]at c;omega);have hv:=MM hx (l.getD i default);have hE:Ev (λf=>G.mP f (mM.mk (StoreT.mk x.1.Items x.1.Clock) (StoreT.mk x.2.Items x.2.Clock)) (l.getD i default)) ((Aa x (l.getD i default)).1,mM.mk (Aa x (l.getD i default)).2.1 (Aa x (l.getD i default)).2.2):=T.UI hx.now hx.kept (ht _ (getD_mem default hil));have e1:((z++(Aa x (l.getD i default)).1)++[10]).length<=5000001*(i+1):=(by simp only[au,bF];omega);refine Ev.chk (by omega) (Ev.cf (by simp only[beq_eq_false_iff_ne];omega) (Ev.bind hE (Ev.bind (T.ws (by show z.length+(Aa x (l.getD i default)).1.length<=_;have:=hv.2;omega)) (Ev.bind (EF 10 (by show(z++(Aa x (l.getD i default)).1).length<_;rw[au];have:=hv.2;omega)) ?_))));rw[TI hil (by omega)];refine(ih (i+1) _ _ (by omega) hv.1 e1).eq ?_;simp[FC]
    ·have hil:l.length<=i:=(by simp only[decide_eq_false_iff_not]at c;omega);rw[ak hil];have e:z++FC x (([]:List aK).take (20-i))=z:=(by simp[FC]);rw[e];exact K2 _ _ _ z (by omega)
 refine Ev.up ?_;simp only[G.dU];exact(L 20 0 Zh [] (by omega) sv0 (by simp)).eq (by simp[Jn])
theorem T.iq {l:List aK}(hl:l.length<=1000000000):Ev (λf=>G.iq f l) (Jn l):=by
 have hM:=maxL;have L:∀(k i:Nat) (x:SS) (z:aK),i+k=20->SV x->z.length<=5000001*i->Ev (λf=>G.iq.L1 f l z (i:Int) x.1.Items x.1.Clock x.2.Items x.2.Clock) (z++FC x ((l.drop i).take (20-i))):=by
  intro k
  induction k with
  | zero=>intro i x z hi hx hz;have hi:i=20:=(by omega);subst hi;refine Ev.up ?_;simp only[G.iq.L1];have e:z++FC x ((l.drop 20).take (20-20))=z:=(by simp[FC]);rw[e];exact Ev.ite (λc=>Ev.cf (by simp) (Ev.ret _)) (λ_=>Ev.ret _)
  | succ k ih=>
    intro i x z hi hx hz;refine Ev.up ?_;simp only[G.iq.L1,ah,dF (show i+1<9223372036854775808 by omega)];refine Ev.ite (λc=>?_) (λc=>?_)
    ·have hil:i<l.length:=(by simp only[decide_eq_true_eq]at c;omega);have hv:=MM hx (l.getD i default);have hE:Ev (λf=>G.sK f (wL.mk (StoreT.mk x.1.Items x.1.Clock) (StoreT.mk x.2.Items x.2.Clock)) (l.getD i default)) ((Aa x (l.getD i default)).1,wL.mk (Aa x (l.getD i default)).2.1 (Aa x (l.getD i default)).2.2):=T.aaX hx.now hx.kept (l.getD i default);have e1:((z++(Aa x (l.getD i default)).1)++[10]).length<=5000001*(i+1):=(by simp only[au,bF];omega);refine Ev.ct (decide_eq_true (by omega)) (Ev.chk (by omega) (Ev.bind hE (Ev.chk (by show z.length+(Aa x (l.getD i default)).1.length<=_;have:=hv.2;omega) (Ev.chk (by show z.length+(Aa x (l.getD i default)).1.length+1<=_;have:=hv.2;omega) ?_))));rw[TI hil (by omega)];refine(ih (i+1) _ _ (by omega) hv.1 e1).eq ?_;simp[FC]
    ·have hil:l.length<=i:=(by simp only[decide_eq_false_iff_not]at c;omega);rw[ak hil];have e:z++FC x (([]:List aK).take (20-i))=z:=(by simp[FC]);rw[e];exact Ev.ret _
 refine Ev.up ?_;simp only[G.iq];exact(L 20 0 Zh [] (by omega) sv0 (by simp)).eq (by simp[Jn])
end
structure Lns (l:List aK):Prop where
 pos:0<l.length
 len:l.length<=12
 txt:∀t,t∈l->t.length<=200
theorem D.Cc.L1 : ∀(j K:Nat) (r:ReaderT) (z:List aK),Hu K r->K+j<=1000->0<z.length->z.length+j<=12->(∀t,t∈z->t.length<=100)->Tot Lns (λf=>G.iC.L1 f (j:Int) r.b r.p z):=by
 intro j
 induction j with
 | zero=>
   intro K r z hr hK h0 hz ht;refine Tot.up ?_;simp only[G.iC.L1,ReaderT.eta'];have ht2:∀t,t∈z->t.length<=200:=λt h=>(by have:=ht t h;omega);refine Tot.cf (by simp) (Tot.bind (D.pick (m:=6) hr (by omega) rfl (by decide) (by decide)) ?_);rintro⟨x,r1⟩⟨_,hr1⟩;have hr1:Hu (K+1) r1:=hr1;refine Tot.ite (λ_=>Tot.bind (D.pick (m:=z.length) hr1 (by omega) rfl h0 (by omega)) ?_) (λ_=>Tot.ret ⟨h0,by omega,ht2⟩);rintro⟨y,r2⟩⟨⟨k,hk,hkl⟩,hr2⟩;have hk:y=(k:Int):=hk;have hr2:Hu (K+1+1) r2:=hr2;subst hk;have hm:=ht _ (getD_mem (default:aK) hkl);simp only[ah];refine Tot.chk (by omega) (Tot.bind (D.agf hr2 (by omega) (s:=z.getD k default) (by omega)) ?_);rintro⟨t,r3⟩⟨h3,_⟩;have h3:t.length<=(z.getD k default).length+4:=h3;refine Tot.chk (by omega) (Tot.ret ⟨by rw[nC];exact h0,by rw[nC];omega,λx hx=>?_⟩);rcases List.mem_or_eq_of_mem_set hx with e|e
   ·exact ht2 x e
   ·rw[e];omega
 | succ j ih=>
   intro K r z hr hK h0 hz ht;refine Tot.up ?_;simp only[G.iC.L1,ReaderT.eta'];have w:af .i64 (((j+1:Nat):Int)-1)=(j:Int):=wrapN (by omega) (by omega);refine Tot.ct (decide_eq_true (by omega)) (Tot.bind (D.of (m:=100) hr (by omega) _ (by decide) (by decide) (by decide)) ?_);rintro⟨t,r1⟩⟨h1,hr1⟩;have h1:t.length<=100:=h1;rw[w];refine Tot.chk (by omega) (ih (K+1) r1 _ hr1 (by omega) (by simp) (by simp;omega) (λx hx=>?_));rcases aV.1 hx with e|e
   ·exact ht x e
   ·rw[bJ]at e;rw[e];exact h1
theorem D.Cc {c:List Int}(hc:Bytes c)(hl:c.length<=1048576):Tot Lns (λf=>G.iC f c):=by refine Tot.up ?_;simp only[G.iC];refine Tot.bind (D.aaD hc hl) (λr hr=>Tot.bind (D.of (m:=100) hr (by omega) _ (by decide) (by decide) (by decide)) ?_);rintro⟨t,r1⟩⟨h1,hr1⟩;have h1:t.length<=100:=h1;refine Tot.bind (D.one hr1 (by omega) _ (by decide) (by decide)) ?_;rintro⟨x,r2⟩⟨hx,hr2⟩;have hx:x∈[(6:Int),8,4,10,0]:=hx;obtain⟨j,rfl,hj⟩:∃j:Nat,x=(j:Int)/\j<=10:=⟨x.toNat,by simp at hx;omega⟩;exact D.Cc.L1 j _ r2 [t] hr2 (by omega) (by simp) (by simp;omega) (λs hs=>by rw[bJ]at hs;rw[hs];exact h1)
theorem Lns.impl {l:List aK}(h:Lns l):Ev (λf=>G.dU f l) (Jn l):=T.dU (by have:=h.len;omega) (λt ht=>by have:=h.txt t ht;omega)
theorem Lns.spec {l:List aK}(h:Lns l):Ev (λf=>G.iq f l) (Jn l):=T.iq (by have:=h.len;omega)
theorem NK {l b:List aK}(h:l.length+b.length<=20):Jn (l++b)=Jn l++FC (stM Zh l) b:=by unfold Jn;rw[aC (by rw[au];omega),aC (by omega),Rq]
theorem T.more {l:List aK}(hl:Lns l)(b:List aK)(hb:b.length<=10)(h:∀t,t∈b->t.length<=200):Ev (λf=>G.dU f (l++b)) (Jn (l++b)):=
 T.dU (by have:=hl.len;rw[au];omega) (λt ht=>by
  rcases aV.1 ht with e|e
  ·have:=hl.txt t e;omega
  ·have:=h t e;omega)
theorem Zj {v A P:aK}(h0:0<P.length)(h1:P.length<=1000000000):Ev (λ_=>
 cond (decide (((v++A).length:Int)<(v.length:Int))) (some false) (cond (decide (((v++(P++A)).length:Int)<(v.length:Int))) (some false)
 (chk (0<=(v.length:Int)/\(v.length:Int)<=((v++A).length:Int)/\((v++A).length:Int)<=((v++A).length:Int))
 (chk (0<=(v.length:Int)/\(v.length:Int)<=((v++(P++A)).length:Int)/\((v++(P++A)).length:Int)<=((v++(P++A)).length:Int))
 (cond (decide ((((v++A).drop v.length).length:Int)<(((v++(P++A)).drop v.length).length:Int)))
 (chk (0<=(af .i64 ((((v++(P++A)).drop v.length).length:Int)-(((v++A).drop v.length).length:Int)))/\(af .i64 ((((v++(P++A)).drop v.length).length:Int)-(((v++A).drop v.length).length:Int)))<=(((v++(P++A)).drop v.length).length:Int)/\(((v++(P++A)).drop v.length).length:Int)<=(((v++(P++A)).drop v.length).length:Int))
 (some (((((v++(P++A)).drop v.length).drop ((af .i64 ((((v++(P++A)).drop v.length).length:Int)-(((v++A).drop v.length).length:Int))).toNat))==((v++A).drop v.length)))))
 (some false)))))) true:=by
 simp only[EW];have w:af .i64 (((P++A).length:Nat)-(A.length:Int))=(P.length:Int):=wrapN (by rw[au];omega) (by omega);rw[w];simp only[ah,EW];simp only[au];exact Ev.cf (decide_eq_false (by omega)) (Ev.cf (decide_eq_false (by omega)) (Ev.chk ⟨by omega,by omega,by omega⟩ (Ev.chk ⟨by omega,by omega,by omega⟩ (Ev.ct (decide_eq_true (by omega)) (Ev.chk ⟨by omega,by omega,by omega⟩ (Ev.ret' (by simp)))))))
abbrev Df : aK:=[99,108,111,99,107]
end Go.Ab
section
namespace Go.Proofs
open Go.RowKit Go.Shelf
attribute [local go_sem] Oper.semAt_some
inductive Wds : ByteArray->List ByteArray->Prop
 |last (s:ByteArray) (h:eY s.data.toList 44<0):Wds s [s]
 |more (s:ByteArray) (i:Nat) (ws:List ByteArray) (h:eY s.data.toList 44=i) (t:Wds (s.extract (i+1) s.size) ws):Wds s (s.extract 0 i::ws)
def strLen (W:World)(b:Nat):Nat:=match W.cell? ⟨b,0,none⟩with
 |some (.string s)=>s.size
 |_=>0
theorem QU : ∀(l:List UInt8) (c:UInt8) (i:Nat),eY l c=i->i<l.length
 |[],c,i,h=>by simp[eY]at h
 | b::l,c,i,h=>by
   unfold eY at h;split at h
   ·have:i=0:=(by omega);subst this;simp
   ·split at h
    ·omega
    ·rename_i h1 h2;have h2:¬eY l c = -1:=(by simpa using h2);have h3:=CO l c;have:=QU l c (i-1) (by omega);simp only[bH];omega
theorem TN {x:Int}(h0:0<=x)(h1:x<9223372036854775808):wrap64 x=x:=by unfold wrap64;omega
theorem KZ {W W':World}{b:Nat}(h:W'.heap[b]? = W.heap[b]?):W'.cell? ⟨b,0,none⟩=W.cell? ⟨b,0,none⟩/\W'.frozen? ⟨b,0,none⟩=W.frozen? ⟨b,0,none⟩:=
 ⟨World.cell?_of_block h,World.frozen?_of_block h⟩
theorem TG {W:World}{b:Nat}{s:ByteArray}(h:W.cell? ⟨b,0,none⟩=some (.string s)):strLen W b=s.size:=by unfold strLen;rw[h]
theorem ahb {ρ:Go.Shelf.Ren}(L:Lays.n143 Tryz.prog ρ)(n:Nat)(hn:1<=n)(hf:ρ.f 143=103)(l bp bs bv:Nat)(s:ByteArray)(ws:List ByteArray)(hw:Wds s ws)(hz:s.size<=1000000)(J Jx:List ByteArray->World->Prop)
 (hJ:∀pre (W:World) (v:Value),J pre W->W.frozen? ⟨bs,0,none⟩=false->J pre (W.setCell ⟨bs,0,none⟩ v))
 (hY:∀pre x W,J pre W->pre.length<ws.length->YieldAt lM (n-1) Tryz.prog l #[.string x] W λe W'=>(e = .returned (.bool true)/\J (pre++[x]) W'/\(∀b,b=bp\/b=bs\/b=bv->W'.heap[b]? = W.heap[b]?))\/(e = .returned (.bool false)/\Jx (pre++[x]) W'))
 (W:World) (hd:bs≠bp/\bs≠bv) (hp:W.cell? ⟨bp,0,none⟩=some (.string ⟨#[44]⟩)) (hs:W.cell? ⟨bs,0,none⟩=some (.string s)) (hsf:W.frozen? ⟨bs,0,none⟩=false) (hv:W.cell? ⟨bv,0,none⟩=some (.int .i64 0)) (h0:J [] W) :
 CallsIn lM n Tryz.prog 157 #[.func (.yield l) #[] #[],.pointer (some ⟨bp,0,none⟩),.pointer (some ⟨bs,0,none⟩),.pointer (some ⟨bv,0,none⟩)] W λe W'=>(∃v,e = .returned v) /\
  (J ws W'\/(∃pre,pre <+: ws/\Jx pre W')):=by
 refine callsIn_of_wp Tryz.func157 rfl trivial ?_ rfl;simp only[Tryz.ntmps157,lV,bH,dB,Nat.reduceAdd,Nat.reduceSub,yO,yP,Ag,yX,dN,bY];have hIdx:∀(s:ByteArray) (n:Nat) (w:World),CallsIn lM n Tryz.prog 103 #[.string s,.string ⟨#[44]⟩] w λe w'=>e = .returned (.int .i64 (eY s.data.toList 44))/\w'=w:=λs n w=>by have:=Any.strings_Index_one L s 44 w;rw[hf]at this;exact callsIn_wide.2 this
 gi_wp2
 gi_loopw [] (λwr=>∃(pre rest:List ByteArray) (s':ByteArray),ws=pre++rest/\Wds s' rest/\s'.size<=1000000/\wr.cell? ⟨bp,0,none⟩=some (.string ⟨#[44]⟩)/\wr.cell? ⟨bs,0,none⟩=some (.string s')/\wr.frozen? ⟨bs,0,none⟩=false/\wr.cell? ⟨bv,0,none⟩=some (.int .i64 0)/\J pre wr)
  (λwr=>strLen wr bs)
 case atStart=>exact⟨[],ws,s,rfl,hw,hz,hp,hs,hsf,hv,h0⟩
 case round=>
  obtain⟨pre,rest,s',hx,hwd,hz',hp',hs',ahL,hv',hJs⟩:=hrel;cases hwd with
  | last _ h=>
    obtain⟨fn,tmps,assign,body,hy,hR⟩:=hY pre s' wr hJs (by rw[hx];simp)
    gi_wp2_with (refine⟨trivial,?_⟩;gi_at_call 103;refine(hIdx _ _ _).mono ?_;rintro e w' ⟨rfl,rfl⟩)
    refine hR.mono ?_;rintro e W3 (⟨rfl,hJ3,hk3⟩|⟨rfl,hJx3⟩)
    ·gi_wp2
     go_end0
     exact⟨⟨_,rfl⟩,.inl (by rw[hx];exact hJ3)⟩
    ·gi_wp2
     go_end0
     exact⟨⟨_,rfl⟩,.inr ⟨pre++[s'],by rw[hx];exact List.prefix_rfl,hJx3⟩⟩
  | more _ i ws' h t=>
    have hlt:i<s'.size:=QU _ _ _ h;have e1:wrap64 (i:Int)=i:=TN (by omega) (by omega);have e2:wrap64 ((i:Int)+1)=i+1:=TN (by omega) (by omega);have b0:0<=wrap64 (i:Int):=(by omega);have b1:wrap64 (i:Int)<=s'.size:=(by omega);have c0:0<=wrap64 ((i:Int)+1):=(by omega);have c1:wrap64 ((i:Int)+1)<=s'.size:=(by omega);obtain⟨fn,tmps,assign,body,hy,hR⟩:=hY pre (s'.extract 0 i) wr hJs (by rw[hx];simp)
    gi_wp2_with (refine⟨trivial,?_⟩;gi_at_call 103;refine(hIdx _ _ _).mono ?_;rintro e w' ⟨rfl,rfl⟩)
    refine hR.mono ?_;rintro e W3 (⟨rfl,hJ3,hk3⟩|⟨rfl,hJx3⟩)
    ·have kp:=KZ (hk3 bp (.inl rfl));have ks:=KZ (hk3 bs (.inr (.inl rfl)));have kv:=KZ (hk3 bv (.inr (.inr rfl)));rw[hp']at kp;rw[hs',ahL]at ks;rw[hv']at kv;have hp3:=kp.1;have hs3:=ks.1;have hf3:=ks.2;have hv3:=kv.1;have hd1:=hd.1;have hd2:=hd.2
     gi_wp2
     have hsame:=World.cell?_setCell_same W3 ⟨bs,0,none⟩ (ug (s'.extract (i+1) s'.size)) hs3;refine⟨⟨pre++[s'.extract 0 i],ws',_,by rw[hx];simp,t,by rw[qK];omega,?_,hsame,by rw[World.frozen?_setCell];exact hf3,?_,hJ _ _ _ hJ3 hf3⟩,?_⟩
     ·rw[World.cell?_setCell_other _ _ _ _ (λh=>hd1 (congrArg Addr.block h))];exact hp3
     ·rw[World.cell?_setCell_other _ _ _ _ (λh=>hd2 (congrArg Addr.block h))];exact hv3
     ·rw[TG hsame,TG hs',qK];omega
    ·gi_wp2
     refine bodyPost_ret (results_none rfl _ _ _) rfl ?_;exact⟨⟨_,rfl⟩,.inr ⟨pre++[s'.extract 0 i],⟨ws',by rw[hx];simp⟩,hJx3⟩⟩
theorem agn (n:Nat)(hn:1<=n)(s sep:ByteArray)(W:World):CallsIn lM n Tryz.prog 63 #[.string s,.string sep] W λe W'=>
 e = .returned (.func (.func 157) #[] #[.pointer (some ⟨W.heap.size+1,0,none⟩),.pointer (some ⟨W.heap.size,0,none⟩),.pointer (some ⟨W.heap.size+2,0,none⟩)]) /\
 W'=(((W.alloc (.cells #[.string s] 9)).alloc (.cells #[.string sep] 9)).alloc (.cells #[.int .i64 0] 3)):=by
 have ahC:∀n,CallsIn lM n Tryz.prog 104 #[.string s,.string sep,.int .i64 0] W λe W'=>
  e = .returned (.func (.func 157) #[] #[.pointer (some ⟨W.heap.size+1,0,none⟩),.pointer (some ⟨W.heap.size,0,none⟩),.pointer (some ⟨W.heap.size+2,0,none⟩)]) /\
  W'=(((W.alloc (.cells #[.string s] 9)).alloc (.cells #[.string sep] 9)).alloc (.cells #[.int .i64 0] 3)):=λn=>by
  refine callsIn_of_wp Tryz.func104 rfl trivial ?_ rfl;simp only[Tryz.ntmps104,lV,bH,dB,Nat.reduceAdd,Nat.reduceSub,yO,yP,Ag,yX,dN,bY]
  gi_wp2
  go_ret
  exact⟨rfl,rfl⟩
 refine callsIn_of_wp Tryz.func63 rfl trivial ?_ rfl;simp only[Tryz.ntmps63,lV,bH,dB,Nat.reduceAdd,Nat.reduceSub,yO,yP,Ag,yX,dN,bY]
 gi_wp2_with (refine⟨trivial,?_⟩;gi_at_call 104;refine(ahC _).mono ?_;rintro e w' ⟨rfl,rfl⟩)
 go_ret
 exact⟨rfl,rfl⟩
section
variable {P:Program} {n:Nat}
theorem TD {l D:Nat}{r:Loop}{W0 W3:World}(jump:Option Code)(hne:l≠D)(hl:W0.heap[l]? = some (.loop r))(hd:W0.heap[D]? = some (.deferred (some [])))(hk:KeepsOthers W0 W3) :
 (Instr.endRound l jump).run P W3 = .ok (.bool jump.isNone) (W3.putObj l (.loop { r with state:=if jump.isNone then .ready else .done,pending:=jump }))/\W3.heap[l]? = some (.loop r) /\
 (W3.putObj l (.loop { r with state:=if jump.isNone then .ready else .done,pending:=jump })).heap[l]? = some (.loop { r with state:=if jump.isNone then .ready else .done,pending:=jump }) /\
 (W3.putObj l (.loop { r with state:=if jump.isNone then .ready else .done,pending:=jump })).heap[D]? = some (.deferred (some [])):=by
 have h3:=hk.same _ _ hl rfl;exact⟨run_endRound jump h3,h3,World.putObj_heap_same (oC.1 h3).1,(uz (λe=>hne e.symm)).trans (hk.same _ _ hd rfl)⟩
def Yf (Kp:World->World->Prop)(I Ix:List ByteArray->World->Prop)(xs:List ByteArray)(W:World):Exit->Act->World->Prop
 |.normal,_,W'=>KeepsOthers W W'/\Kp W W'/\I xs W'
 |.ret,_,W'=>KeepsOthers W W'/\Ix xs W'
 |_,_,_=>False
theorem aeY {g:Operand}{p:Tmp}{assign body:Code}{Q:Exit->Act->World->Prop}{a:Act}{w:World}(h1:1<=n){gf:Nat}{lb:Array Value}(hg:a.eval g = .func (.func gf) #[] lb)
 (eg:∀args w,(callFunc gf args).run P w = .ok (.enter gf args) w) (b:Nat) (hb:b<w.heap.size) (ws:List ByteArray) (Kp:World->World->Prop)
 (hKt:∀{A B C:World},Kp A B->Kp B C->Kp A C) (hKp:∀(W:World) (l:Nat) (o:Obj),w.heap.size<=l->Kp W (W.putObj l o))
 (hseq:∀(l:Nat) (J Jx:List ByteArray->World->Prop) (W:World),(∀k,k<w.heap.size->W.heap[k]? = w.heap[k]?)->(∀pre (W:World) (v:Value),J pre W->J pre (W.setCell ⟨b,0,none⟩ v)) ->
  (∀pre x W,J pre W->pre.length<ws.length->YieldAt lM (n-1-1) P l #[.string x] W λe W'=>(e = .returned (.bool true)/\J (pre++[x]) W'/\Kp W W')\/(e = .returned (.bool false)/\Jx (pre++[x]) W')) ->
  J [] W->CallsIn lM (n-1) P gf (#[.func (.yield l) #[] #[]]++lb) W λe W'=>(∃v,e = .returned v)/\(J ws W'\/∃pre,pre <+: ws/\Jx pre W'))
 (I Ix:List ByteArray->World->Prop) (hI:OwnFrom w.heap.size I) (hIx:OwnFrom w.heap.size Ix) (hIb:∀pre (W:World) (v:Value),I pre W->I pre (W.setCell ⟨b,0,none⟩ v)) (h0:I [] w) (a₁:ByteArray->Act)
 (hassign:∀(l:Nat) (x:ByteArray) (W:World) (K:Act->World->Prop),K (a₁ x) W->assign.wpIn (lM.inRound l) (n-1-1) P (Exit.then K (λ_ _ _=>False)) { tmps:=a.tmps.setIfInBounds p (.string x),defers:=[] } W)
 (hbody:∀(l:Nat) (pre:List ByteArray) (x:ByteArray) (W:World),I pre W->pre.length<ws.length->body.wpIn (lM.inRound l) (n-1-1) P (Yf Kp I Ix (pre++[x]) W) (a₁ x) W)
 (hdone:∀(D:Nat) (W:World),w.heap.size<=D->I ws W->W.heap[D]? = some (.deferred (some []))->Q .normal { a with defers:={ target:=.collected D,args:= #[] } :: a.defers } W)
 (hstop:∀(D:Nat) (pre:List ByteArray) (W:World),w.heap.size<=D->pre <+: ws->Ix pre W->W.heap[D]? = some (.deferred (some []))->Code.ret.wpIn lM n P Q { a with defers:={ target:=.collected D,args:= #[] } :: a.defers } W) :
 (Code.rangeFunc g #[p] assign body).wpIn lM n P Q a w:=by
 refine wpIn_rangeFunc λfn hfn=>?_
 let D:=w.heap.size
 let l:=w.heap.size+1
 let SC (st:LoopState) (pe:Option Code):Loop:={ state:=st,pending:=pe,fn,tmps:=a.tmps,params:= #[p],assign,body,defers:=D }
 let W1:=(w.alloc (.deferred (some []))).alloc (.loop (SC .ready none))
 have hlD:l≠D:=Nat.succ_ne_self _;have hL:W1.heap[l]? = some (.loop (SC .ready none)):=by have:=World.alloc_heap_new (w.alloc (.deferred (some []))) (.loop (SC .ready none));rwa[sQ]at this
 have hD:W1.heap[D]? = some (.deferred (some [])):=(Below.heap_alloc _ _ _ (by simp[D])).trans (World.alloc_heap_new w _);have hlow:∀k,k<w.heap.size->W1.heap[k]? = w.heap[k]?:= λk hk=>(Below.heap_alloc _ _ _ (by simp;omega)).trans (Below.heap_alloc _ _ _ hk);refine⟨l,[{ target:=.collected D,args:= #[] }],W1,{ target:=.fn (.func gf) lb,args:= #[.func (.yield l) #[] #[]] },W1,gf,#[.func (.yield l) #[] #[]]++lb,W1,run_enterLoop_outer _ _ _ _ _,?_,λf' _=>trivial,?_,λ_=>h1,?_⟩
 ·simp only[resolve,hg];simp[go_sem]
 ·simp[invoke,go_sem,eg]
 refine(hseq l (λpre W=>I pre W/\W.heap[l]? = some (.loop (SC .ready none))/\W.heap[D]? = some (.deferred (some [])))
  (λpre W=>Ix pre W/\W.heap[l]? = some (.loop (SC .done (some .ret)))/\W.heap[D]? = some (.deferred (some []))) W1 hlow ?_ ?_ ⟨hI.alloc _ (hI.alloc _ h0),hL,hD⟩).mono ?_
 ·rintro pre W v ⟨hi,hl,hd⟩;exact⟨hIb _ _ _ hi,(Below.heap_setCell W _ v l (by show l≠b;omega)).trans hl,(Below.heap_setCell W _ v D (by show D≠b;omega)).trans hd⟩
 ·rintro pre x W ⟨hi,hl,hd⟩ hlen;have hy:=run_yield (P:=P) (args:= #[.string x]) hl rfl;refine⟨fn,_,assign,body,hy,roundIn_of_wpIn hfn ?_⟩;have e1:((#[p]:Array Tmp).zip #[ug x]).foldl (λtmps (t,a)=>tmps.setIfInBounds t a) a.tmps=a.tmps.setIfInBounds p (.string x):=by simp
  show Code.wpIn _ _ _ _ _ { tmps:=((#[p]:Array Tmp).zip #[ug x]).foldl (λtmps (t,a)=>tmps.setIfInBounds t a) a.tmps,defers:=[] } W;rw[e1];refine hassign _ x W _ ⟨_,run_beginRound hl rfl,?_⟩;have hl2:(W.putObj l (.loop { SC .ready none with state:=.busy })).heap[l]? = some (.loop { SC .ready none with state:=.busy }):=World.putObj_heap_same (oC.1 hl).1;have hd2:(W.putObj l (.loop { SC .ready none with state:=.busy })).heap[D]? = some (.deferred (some [])):=(uz (λe=>hlD e.symm)).trans hd;refine wpIn_mono (hbody _ pre x _ (hI.putObj _ hi (wz _) hl rfl) hlen) ?_;rintro e a3 W3 hp;cases e with
  | normal=>obtain⟨k3,q3,i3⟩:=hp;obtain⟨hr,h3,h4,h5⟩:=TD (P:=P) none hlD hl2 hd2 k3;exact⟨_,_,hr,.inl ⟨rfl,⟨hI.putObj _ i3 (wz _) h3 rfl,h4,h5⟩,hKt (hKt (hKp _ _ _ (wz _)) q3) (hKp _ _ _ (wz _))⟩⟩
  | ret=>obtain⟨k3,i3⟩:=hp;obtain⟨hr,h3,h4,h5⟩:=TD (P:=P) (some .ret) hlD hl2 hd2 k3;exact⟨_,_,hr,.inr ⟨rfl,hIx.putObj _ i3 (wz _) h3 rfl,h4,h5⟩⟩
  |exit id=>exact hp.elim
  |goto t=>exact hp.elim
  |panic ch=>exact hp.elim
  |outgrown=>exact hp.elim
 ·rintro e W2 ⟨⟨v,rfl⟩,(⟨hi,hl,hd⟩|⟨pre,hpre,hi,hl,hd⟩)⟩
  ·exact⟨none,_,run_endLoop hl (by simp[SC]),hdone D _ (ax _) (hI.putObj _ hi (wz _) hl rfl) ((uz (λe=>hlD e.symm)).trans hd)⟩
  ·exact⟨some .ret,_,run_endLoop hl (by simp[SC]),hstop D pre _ (ax _) hpre (hIx.putObj _ hi (wz _) hl rfl) ((uz (λe=>hlD e.symm)).trans hd)⟩
end
def FQ (sv:ByteArray->Bool)(x:ByteArray):Option ByteArray:=
 if x.toList=[42]then some x else if x.size=6/\x.toList.getD 0 0=34/\x.toList.getD 5 0=34/\sv (x.extract 1 5)=true then some (x.extract 1 5)else none
def BR (sv:ByteArray->Bool)(acc:Option (List ByteArray))(x:ByteArray):Option (List ByteArray):=
 acc.bind λl=>if l.length=4 then none else(FQ sv x).map λy=>l++[y]
def col (sv:ByteArray->Bool)(ws:List ByteArray):Option (List ByteArray):=ws.foldl (BR sv) (some [])
theorem VQ (sv:ByteArray->Bool)(ws:List ByteArray)(x:ByteArray):col sv (ws++[x])=BR sv (col sv ws) x:=by unfold col;rw[vT];rfl
theorem abN (sv:ByteArray->Bool)(pre:List ByteArray)(h:col sv pre=none):∀(ws:List ByteArray),pre <+: ws->col sv ws=none:=by
 rintro ws ⟨t,rfl⟩;unfold col at h⊢;rw[vT,h]
 induction t with
 |nil=>rfl
 |cons a t ih=>exact ih
theorem YQ (sv:ByteArray->Bool)(ws:List ByteArray)(l:List ByteArray)(h:col sv ws=some l):l.length<=4:=by
 have key:∀(ws:List ByteArray) (a l:List ByteArray),a.length<=4->ws.foldl (BR sv) (some a)=some l->l.length<=4:=by
  intro ws
  induction ws with
  |nil=>intro a l ha h;cases h;exact ha
  | cons x ws ih=>
    intro a l ha h;rw[lZ]at h;cases hs:BR sv (some a) x with
    | none=>
      rw[hs]at h;have:∀ws:List ByteArray,ws.foldl (BR sv) none=none:=λws=>by
       induction ws with
       |nil=>rfl
       |cons y ws ih=>exact ih
      rw[this]at h;cases h
    | some b=>
      rw[hs]at h;refine ih b l ?_ h;unfold BR at hs;simp only[gJ]at hs;split at hs
      ·cases hs
      ·obtain⟨y,_,rfl⟩:=qM.1 hs;simp;omega
 exact key ws [] l (by simp) h
def ac7 (sv:ByteArray->Bool)(s:ByteArray)(ws:List ByteArray)(w:World)(e:Ending)(W':World):Prop:=
 ∃v l ok,e = .returned (.tuple #[v,.bool ok])/\W'.ownsRow w.heap.size 9 1 v l.length (l.map ug)/\Below w.heap.size w W'/\(if s.toList=[]then some []else col sv ws)=(if ok then some l else none)/\(ok=false->l=[])
structure PTI (w W:World)(acc:List ByteArray)(v:Value):Prop where
 box:Boxed W (w.heap.size+1+1) 23 v
 row:W.ownsRow (w.heap.size+6) 9 1 v acc.length (acc.map ug)
 b0:Boxed W w.heap.size 23 (.slice none 0 0)
 b1:Boxed W (w.heap.size+1) 4 (.bool false)
 bel:Below w.heap.size w W
 siz:w.heap.size+6<=W.heap.size
theorem ade {W W2:World}{base:Nat}{e:TypeId}{size:Nat}{v:Value}{k:Nat}{xs:List Value}(h:W.ownsRow base e size v k xs)(hg:W.grownBy W2 none):W2.ownsRow base e size v k xs:=
 h.kept hg (by cases hv:v.ownBlock with|none=>exact .inl rfl|some x=>exact .inr (by simp))
theorem Kr {W:World}{base:Nat}{e:TypeId}{size:Nat}{v:Value}{k:Nat}{xs:List Value}(h:W.ownsRow base e size v k xs){b:Nat}(hb:b<base)(u:Value):(W.setCell ⟨b,0,none⟩ u).ownsRow base e size v k xs:=by
 refine h.kept (grownBy_setCell' W b u) ?_;rcases h.2 with⟨rfl,_⟩|⟨g,cap,cur,rfl,hg,_⟩
 ·exact .inl rfl
 ·refine .inr λe=>?_;have:g=b:=by simpa[uC]using e
  omega
theorem PTI.kept {w W W2:World}{acc:List ByteArray}{v:Value}(h:PTI w W acc v)(hg:W.grownBy W2 none):PTI w W2 acc v:=
 ⟨h.box.kept hg (by simp),ade h.row hg,h.b0.kept hg (by simp),h.b1.kept hg (by simp),h.bel.grown hg h.bel.size (λk e=>by cases e),iP h.siz hg.size⟩
theorem PTI.ret {w W:World}{acc:List ByteArray}{v:Value}(h:PTI w W acc v):KeepsOthers W ((W.setCell ⟨w.heap.size,0,none⟩ (.slice none 0 0)).setCell ⟨w.heap.size+1,0,none⟩ (.bool false)) /\
 Boxed ((W.setCell ⟨w.heap.size,0,none⟩ (.slice none 0 0)).setCell ⟨w.heap.size+1,0,none⟩ (.bool false)) w.heap.size 23 (.slice none 0 0) /\
 Boxed ((W.setCell ⟨w.heap.size,0,none⟩ (.slice none 0 0)).setCell ⟨w.heap.size+1,0,none⟩ (.bool false)) (w.heap.size+1) 4 (.bool false) /\
 Below w.heap.size w ((W.setCell ⟨w.heap.size,0,none⟩ (.slice none 0 0)).setCell ⟨w.heap.size+1,0,none⟩ (.bool false)):=
 ⟨(yl _ _ _).trans (yl _ _ _),(h.b0.set _).other (by omega) _,(h.b1.other (by omega) _).set _,(h.bel.setCell (p:=⟨w.heap.size,0,none⟩) (ax _) _).setCell (p:=⟨w.heap.size+1,0,none⟩) (by simp) _⟩
theorem PTI.app {w W w1:World}{acc:List ByteArray}{v v':Value}{y:ByteArray}{tmp:Obj}(h:PTI w W acc v)(hown:w1.ownsRow (w.heap.size+6) 9 1 v' (acc.length+1) (acc.map ug++[.string y]))(hg:(W.alloc tmp).grownBy w1 v.ownBlock) :
 Boxed w1 (w.heap.size+1+1) 23 v/\PTI w (w1.setCell ⟨w.heap.size+1+1,0,none⟩ v') (acc++[y]) v'/\KeepsOthers W (w1.setCell ⟨w.heap.size+1+1,0,none⟩ v') /\
 (∀k,k=w.heap.size+1+1+1+1\/k=w.heap.size+1+1+1\/k=w.heap.size+1+1+1+2->(w1.setCell ⟨w.heap.size+1+1,0,none⟩ v').heap[k]? = W.heap[k]?):=by
 have hlow:∀j,j<w.heap.size+6->some j≠v.ownBlock:=λj hj e=>by
  rcases h.row.2 with⟨rfl,_⟩|⟨g,cap,cur,rfl,hgg,_⟩
  ·simp[uC]at e
  ·have:j=g:=(by simpa[uC]using e);omega
 obtain⟨a1,a2,a3,a4,a5⟩:=h.box.appended (n₀:=w.heap.size) (by decide) (h.row.mono (by omega)) h.bel.size (by omega) (hown.mono (by omega)) hg;have hsz:=hg.size;rw[sQ]at hsz;have aiP:=h.siz;have kb:∀{b:Nat} {t:TypeId} {u:Value},Boxed W b t u->b<w.heap.size+6->Boxed w1 b t u:=λhb hlt=>(hb.alloc tmp).kept hg (hlow _ hlt);refine⟨a1,⟨a2,by rw[au,bF,jO];exact Kr hown (by omega) _,(kb h.b0 (by omega)).other (by omega) _,(kb h.b1 (by omega)).other (by omega) _,h.bel.trans a5,?_⟩,a4,λk hk=>?_⟩
 ·have:(w1.setCell ⟨w.heap.size+1+1,0,none⟩ v').heap.size=w1.heap.size:=by simp[uS]
  rw[this];omega
 ·rw[Below.heap_setCell _ _ _ _ (by show k≠w.heap.size+1+1;omega)];rw[hg.block k (by rw[sQ];omega) (hlow k (by omega))];exact Below.heap_alloc _ _ _ (by omega)
theorem MI {sv:ByteArray->Bool}{pre acc:List ByteArray}{x:ByteArray}(hc:col sv pre=some acc)(h:acc.length=4\/FQ sv x=none):col sv (pre++[x])=none:=by
 rw[VQ,hc];unfold BR;simp only[gJ];rcases h with h|h
 ·rw[if_pos h]
 ·rw[h];split<;>rfl
theorem VP {sv:ByteArray->Bool}{pre acc:List ByteArray}{x y:ByteArray}(hc:col sv pre=some acc)(h:¬acc.length=4)(hw:FQ sv x=some y):col sv (pre++[x])=some (acc++[y]):=by rw[VQ,hc];unfold BR;simp only[gJ];rw[if_neg h,hw];rfl
def KPT (w A B:World):Prop:=∀k,k=w.heap.size+1+1+1+1\/k=w.heap.size+1+1+1\/k=w.heap.size+1+1+1+2->B.heap[k]? = A.heap[k]?
def PTJ (sv:ByteArray->Bool)(w:World)(pre:List ByteArray)(W:World):Prop:=∃acc v,col sv pre=some acc/\PTI w W acc v
def PTX (sv:ByteArray->Bool)(w:World)(pre:List ByteArray)(W:World):Prop:=col sv pre=none/\Boxed W w.heap.size 23 (.slice none 0 0)/\Boxed W (w.heap.size+1) 4 (.bool false)/\Below w.heap.size w W
theorem PTX.mk {sv:ByteArray->Bool}{w W:World}{pre acc:List ByteArray}{v:Value}{x:ByteArray}{W0:World}(hk:KeepsOthers W0 W)(hP:PTI w W acc v)(h:col sv (pre++[x])=none){a:Act} :
 Yf (KPT w) (PTJ sv w) (PTX sv w) (pre++[x]) W0 Exit.ret a ((W.setCell ⟨w.heap.size,0,none⟩ (.slice none 0 0)).setCell ⟨w.heap.size+1,0,none⟩ (.bool false)):=by
 obtain⟨q1,q2,q3,q4⟩:=hP.ret;exact⟨hk.trans q1,h,q2,q3,q4⟩
theorem PTJ.mk {sv:ByteArray->Bool}{w W W0 W1:World}{pre acc:List ByteArray}{v:Value}(hk:KeepsOthers W0 W)(hp:KPT w W0 W)(k1:KeepsOthers W W1)(p1:KPT w W W1)(hP:PTI w W1 acc v)(h:col sv pre=some acc){a:Act} :
 Yf (KPT w) (PTJ sv w) (PTX sv w) pre W0 Exit.normal a W1:=⟨hk.trans k1,λk hk=>(p1 k hk).trans (hp k hk),acc,v,h,hP⟩
theorem get_at {x:ByteArray}{i:Nat}(h:i<x.size):x[i]=x.toList.getD i 0:=by
 rw[yh];have h':i<x.data.toList.length:=by rw[Array.length_toList];exact h
 rw[bu,List.getElem?_eq_getElem h',Ba];rfl
theorem NV {sv:ByteArray->Bool}{x:ByteArray}(h0:(!x.toList==[42])=true)(h:¬(x.size=6/\x.toList.getD 0 0=34/\x.toList.getD 5 0=34/\sv (x.extract 1 5)=true)):FQ sv x=none:=by unfold FQ;rw[if_neg (by simpa using h0),if_neg h]
theorem aa6 {sv:ByteArray->Bool}{x:ByteArray}(h0:(!x.toList==[42])=true)(h:x.size=6/\x.toList.getD 0 0=34/\x.toList.getD 5 0=34/\sv (x.extract 1 5)=true):FQ sv x=some (x.extract 1 5):=by unfold FQ;rw[if_neg (by simpa using h0),if_pos h]
theorem aa7 {sv:ByteArray->Bool}{x:ByteArray}(h0:(!x.toList==[42])=false):FQ sv x=some x:=by unfold FQ;rw[if_pos (by simpa using h0)]
theorem ae6 {b:UInt8} : ((b.toNat:Int)=34)<->b=34:=⟨λh=>oq.1 (by show b.toNat=34;omega),λh=>by rw[h];rfl⟩
theorem YW {sv:ByteArray->Bool}{n:Nat}{s:ByteArray}{ws:List ByteArray}{w W W4:World}{D:Nat}{v:Value}{l:List ByteArray}{ok:Bool}{tmps:Array Value}{d:List Deferred}(hd:d=[{ target:=.collected D,args:= #[] }])
 (hne:s.toList.isEmpty=false) (hD:w.heap.size+6<=D) (hk:KeepsOthers W W4) (hK:W.heap[D]? = some (.deferred (some []))) (b0:Boxed W4 w.heap.size 23 v) (b1:Boxed W4 (w.heap.size+1) 4 (.bool ok))
 (hrow:W4.ownsRow (w.heap.size+6) 9 1 v l.length (l.map ug)) (hB:Below w.heap.size w W4) (hc:col sv ws=if ok then some l else none) (hl:ok=false->l=[])
 (t2:tmps.getD 2 undef = .pointer (some ⟨w.heap.size,0,none⟩):=by rfl) (t3:tmps.getD 3 undef = .pointer (some ⟨w.heap.size+1,0,none⟩):=by rfl) :
 bodyPostM lM n Tryz.prog Tryz.f41 (ac7 sv s ws w) Exit.ret { tmps:=tmps,defers:=d } W4:=by
 subst hd;have hK4:=hk.same D _ hK rfl;refine⟨by simp,.inl ⟨_,_,rfl,run_takeDeferred hK4,?_⟩⟩;have k0:=cell_kept b0.cell (grownBy_putObj' _ D (.deferred none)) (λr e=>by cases e;exact⟨_,hK4,rfl⟩);have k1:=cell_kept b1.cell (grownBy_putObj' _ D (.deferred none)) (λr e=>by cases e;exact⟨_,hK4,rfl⟩);have hs:s.toList≠[]:=by cases h:s.toList with|nil=>rw[h]at hne;cases hne|cons a l=>simp
 refine⟨.tuple #[v,.bool ok],?_,v,l,ok,rfl,(ownsRow_putObj hrow _ hK4 rfl).mono (by omega),hB.trans (belowK_b (w:=w) (ax _) W4 D _ _ (by omega) hK4 rfl rfl),by rw[if_neg hs];exact hc,hl⟩;have t2':tmps[2]?.getD undef = .pointer (some ⟨w.heap.size,0,none⟩):=by simpa using t2
 have t3':tmps[3]?.getD undef = .pointer (some ⟨w.heap.size+1,0,none⟩):=by simpa using t3
 simp[results,Tryz.f41,go_sem,k0,k1,t2',t3',asAddr]
theorem ag9 (sv:ByteArray->Bool){ρ:Go.Shelf.Ren}(L:Lays.n143 Tryz.prog ρ)(hf:ρ.f 143=103)(n:Nat)(hn:5<=n)(s:ByteArray)(hz:s.size<=1000000)(ws:List ByteArray)(hw:Wds s ws)(w:World)
 (hS:∀(y:ByteArray),y.size=4->∀(l n:Nat) (W:World),Below w.heap.size w W->CallsIn (lM.inRound l) n Tryz.prog 64 #[.string y] W λe W'=>e = .returned (.bool (sv y))/\W.grownBy W' none) :
 CallsIn lM n Tryz.prog 41 #[.string s] w (ac7 sv s ws w):=by
 obtain⟨i0,hi,hz0,hz1,hz2⟩:=info_parts (show(Tryz.prog.info? 9).map (λi=>(i.zero,i.size,i.bytes))=some (some (.string vF),1,16) by kernel_rfl);refine callsIn_of_wp_marks Tryz.func41 rfl trivial ?_ rfl;simp only[Tryz.ntmps41,lV,bH,dB,Nat.reduceAdd,Nat.reduceSub,yO,yP,Ag,yX,dN,bY]
 gi_wp2_with (refine⟨trivial,λ_=>by omega,?_⟩;gi_at_call 63;refine(agn _ (by omega) _ _ _).mono ?_;rintro e w' ⟨rfl,rfl⟩)
 ·have he:s.toList.isEmpty=true:=by assumption
  have he':s.toList=[]:=by simpa using he
  have n0:=(vK w 23 (.slice none 0 0)).alloc (.cells #[.bool true] 4);have n1:=vK (w.alloc (.cells #[.slice none 0 0] 23)) 4 (.bool true);rw[sQ]at n1;have k0:=n0.cell;have k1:=n1.cell;refine⟨.tuple #[.slice none 0 0,.bool true],?_,.slice none 0 0,[],true,rfl,BZ _ _ _ _,((Below.refl _ w).alloc (ax _) _).alloc (by simp) _,by rw[if_pos he'];rfl,λh=>by cases h⟩;simp[results,Tryz.f41,go_sem,k0,k1,asAddr]
 ·refine aeY (by omega) rfl (enters_of Tryz.func157 (by kernel_rfl) rfl) (w.heap.size+1+1+1) (by simp) ws (KPT w)
   (λh k=>λj hj=>(k j hj).trans (h j hj)) (λW l o hl j hj=>uz (by simp at hl;omega)) ?seq
   (PTJ sv w) (PTX sv w) ?own ?ahR ?yF ?start
   (λx=>{ tmps:= #[.string s,undef,.pointer (some ⟨w.heap.size,0,none⟩),.pointer (some ⟨w.heap.size+1,0,none⟩),.pointer (some ⟨w.heap.size+1+1,0,none⟩),.string x,.string s,.bool false,.string s,.func (.func 157) #[] #[.pointer (some ⟨w.heap.size+1+1+1+1,0,none⟩),.pointer (some ⟨w.heap.size+1+1+1,0,none⟩),.pointer (some ⟨w.heap.size+1+1+1+2,0,none⟩)],.string x,undef,undef,undef,undef,undef,undef,undef,undef,undef,undef,undef,undef,undef,undef,undef,undef,undef,undef,undef,undef,undef,undef,undef,undef,undef,undef,undef,undef,undef,undef,undef],defers:=[] }) ?assign ?body ?done ?stop
  case assign=>
   intro l x W K hK
   gi_wp2
   exact hK
  case body=>
   rintro l pre x W ⟨acc,v,hc,hP⟩ hlt;have h4:=YQ sv pre acc hc;obtain⟨a,cap,rfl⟩:∃a cap,v = .slice a acc.length cap:=by
    rcases hP.row.2 with⟨rfl,h⟩|⟨g,cap,cur,rfl,_⟩
    ·exact⟨none,0,by rw[h]⟩
    ·exact⟨_,cap,rfl⟩
   have hcv:=hP.box.cell;have hc0:=hP.b0.cell;have hf0:=hP.b0.frozen;have hc1:=hP.b1.cell;have hf1:=hP.b1.frozen;have hko:=KeepsOthers.refl W;have hkp:KPT w W W:=λk _=>rfl
   gi_wp2_with first
    |(gi_at_builtin;refine wpListIn_append_own _ rfl _ _ 23 rfl (w.heap.size+6) 9 i0 (.string vF) 1 16 Tryz.underlying23 hi hz0 hz1 hz2 rfl (by decide) _ _ _ rfl (hP.row.alloc _) _ 1 1 [_] rfl rfl (cell_one_new _ _ _) (by simp[Value.oneCell']) (by simp only[maxLen];omega) (by omega) (by have:=hP.siz;simp;omega) ?_;intro v' w1 hown' hgrow _;obtain⟨g',cap',rfl⟩:=ownsRow_succ hown';obtain⟨q1,q2,q3,q4⟩:=hP.app hown' hgrow;have hc5:=q1.cell;have hf5:=q1.frozen)
    |(refine⟨trivial,λ_=>by omega,?_⟩;gi_at_call 64;refine(hS _ (by rw[qK];omega) l _ _ hP.bel).mono ?_;rintro e W2 ⟨rfl,hg2⟩;have hko:=hko.trans (KeepsOthers.of_grownBy hg2 (λj o e=>by cases e));have hkp:KPT w W W2:=λk hk=>(hg2.block k (by have:=hP.siz;omega) (by simp)).trans (hkp k hk);have hP:=hP.kept hg2;have hcv:=hP.box.cell;have hc0:=hP.b0.cell;have hf0:=hP.b0.frozen;have hc1:=hP.b1.cell;have hf1:=hP.b1.frozen)
    |(refine⟨trivial,?_⟩)
   ·have h:((acc.length:Int)==4)=true:=(by assumption);exact PTX.mk hko hP (MI hc (.inl (by simp at h;omega)))
   ·have hst:(!x.toList==[42])=true:=(by assumption);have hsv:(!sv (x.extract 1 5))=true:=(by assumption);exact PTX.mk hko hP (MI hc (.inr (NV hst (λh=>by rw[h.2.2.2]at hsv;cases hsv))))
   ·have hn4:((acc.length:Int)==4)=false:=(by assumption);have hst:(!x.toList==[42])=true:=(by assumption);have h6:(x.size:Int)=6:=(by assumption);have h6':x.size=6:=(by omega);have h0:((x[0]'(by omega)).toNat:Int)=34:=(by assumption);have h5:((x[5]'(by omega)).toNat:Int)=34:=(by assumption);have hsv:(!sv (x.extract 1 5))=false:=(by assumption);exact PTJ.mk hko hkp q3 q4 q2 (VP hc (by simp at hn4;omega) (aa6 hst ⟨h6',by rw[<- get_at (by omega)];exact ae6.1 h0,by rw[<- get_at (by omega)];exact ae6.1 h5,by simpa using hsv⟩))
   ·have hst:(!x.toList==[42])=true:=(by assumption);have h6:(x.size:Int)=6:=(by assumption);have h5:¬((x[5]'(by omega)).toNat:Int)=34:=(by assumption);exact PTX.mk hko hP (MI hc (.inr (NV hst (λh=>h5 (ae6.2 (by rw[get_at (by omega)];exact h.2.2.1))))))
   ·have hst:(!x.toList==[42])=true:=(by assumption);have h6:(x.size:Int)=6:=(by assumption);have h0:¬((x[0]'(by omega)).toNat:Int)=34:=(by assumption);exact PTX.mk hko hP (MI hc (.inr (NV hst (λh=>h0 (ae6.2 (by rw[get_at (by omega)];exact h.2.1))))))
   ·have hst:(!x.toList==[42])=true:=(by assumption);have h6:¬(x.size:Int)=6:=(by assumption);exact PTX.mk hko hP (MI hc (.inr (NV hst (λh=>h6 (by have:=h.1;omega)))))
   ·have hn4:((acc.length:Int)==4)=false:=(by assumption);have hst:(!x.toList==[42])=false:=(by assumption);exact PTJ.mk hko hkp q3 q4 q2 (VP hc (by simp at hn4;omega) (aa7 hst))
  case done=>
   rintro D W hD ⟨acc,v,hc,hP⟩ hK;have h4:=YQ sv ws acc hc;obtain⟨a,cap,rfl⟩:∃a cap,v = .slice a acc.length cap:=by
    rcases hP.row.2 with⟨rfl,h⟩|⟨g,cap,cur,rfl,_⟩
    ·exact⟨none,0,by rw[h]⟩
    ·exact⟨_,cap,rfl⟩
   have hcv:=hP.box.cell;have hc0:=hP.b0.cell;have hf0:=hP.b0.frozen;have hc1:=hP.b1.cell;have hf1:=hP.b1.frozen;have hD6:w.heap.size+6<=D:=(by simpa using hD);have hne:s.toList.isEmpty=false:=by assumption
   gi_wp2
   refine YW rfl hne hD6 (v:=.slice a acc.length cap) (ok:=true) ((yl _ _ _).trans (yl _ _ _)) hK ((hP.b0.set _).other (by omega) _) ((hP.b1.other (by omega) _).set _) ?_ ?_ hc (λh=>by cases h)
   ·exact Kr (Kr hP.row (by omega) _) (by omega) _
   ·exact(hP.bel.setCell (p:=⟨w.heap.size,0,none⟩) (ax _) _).setCell (p:=⟨w.heap.size+1,0,none⟩) (by simp) _
  case stop=>
   rintro D pre W hD hpre ⟨hc,hb0,hb1,hB⟩ hK;have hc0:=hb0.cell;have hc1:=hb1.cell;have hD6:w.heap.size+6<=D:=(by simpa using hD);have hne:s.toList.isEmpty=false:=by assumption
   gi_wp2
   exact YW rfl hne hD6 (v:=.slice none 0 0) (l:=[]) (ok:=false) (KeepsOthers.refl _) hK hb0 hb1 (BZ _ _ _ _) hB (abN sv pre hc ws hpre) (λ_=>rfl)
  case own=>
   rintro pre A B row ⟨acc,v,hc,hP⟩ hg hr;have hr':∀r,row=some r->w.heap.size+6<=r:=λr e=>(by have:=(hr r e).1;simpa using this);refine⟨acc,v,hc,hP.box.kept hg (λe=>by have:=hr' _ e.symm;omega),hP.row.kept hg ?_,hP.b0.kept hg (λe=>by have:=hr' _ e.symm;omega),hP.b1.kept hg (λe=>by have:=hr' _ e.symm;omega),hP.bel.grown hg hP.bel.size (λk e=>by have:=hr' _ e;omega),iP hP.siz hg.size⟩;rcases hP.row.2 with⟨rfl,_⟩|⟨g,cap,cur,rfl,_,hgb,_⟩
   ·exact .inl rfl
   ·refine .inr λe=>?_;obtain⟨_,o,ho,hcc⟩:=hr g (by simpa[uC]using e.symm);rw[hgb]at ho;cases ho;cases hcc
  case ahR=>rintro pre A B row ⟨hc,hb0,hb1,hB⟩ hg hr;have hr':∀r,row=some r->w.heap.size+6<=r:=λr e=>(by have:=(hr r e).1;simpa using this);exact⟨hc,hb0.kept hg (λe=>by have:=hr' _ e.symm;omega),hb1.kept hg (λe=>by have:=hr' _ e.symm;omega),hB.grown hg hB.size (λk e=>by have:=hr' _ e;omega)⟩
  case yF=>
   rintro pre W u ⟨acc,v,hc,hP⟩;exact⟨acc,v,hc,hP.box.other (by omega) _,Kr hP.row (by omega) _,hP.b0.other (by omega) _,hP.b1.other (by omega) _,hP.bel.setCell (p:=⟨w.heap.size+1+1+1,0,none⟩) (by show w.heap.size<=w.heap.size+1+1+1;omega) _,by have:(W.setCell ⟨w.heap.size+1+1+1,0,none⟩ u).heap.size=W.heap.size:=(by simp[uS]);rw[this];exact hP.siz⟩
  case start=>have n0:=vK w 23 (.slice none 0 0);have n1:=vK (w.alloc (.cells #[.slice none 0 0] 23)) 4 (.bool false);have n2:=vK ((w.alloc (.cells #[.slice none 0 0] 23)).alloc (.cells #[.bool false] 4)) 23 (.slice none 0 0);rw[sQ]at n1 n2;rw[sQ]at n2;refine⟨[],.slice none 0 0,rfl,(((n2.alloc _).alloc _).alloc _),BZ _ _ _ _,(((((n0.alloc _).alloc _).alloc _).alloc _).alloc _),((((n1.alloc _).alloc _).alloc _).alloc _),?_,by simp⟩;exact((((((Below.refl _ w).alloc (ax _) _).alloc (by simp) _).alloc (by simp;omega) _).alloc (by simp;omega) _).alloc (by simp;omega) _).alloc (by simp;omega) _
  case seq=>intro l J Jx W hW hJ hY h0;have hlow:∀k,k<w.heap.size+6->W.heap[k]? = _:=λk hk=>hW k (by simp;omega);have n3:=vK (((w.alloc (.cells #[.slice none 0 0] 23)).alloc (.cells #[.bool false] 4)).alloc (.cells #[.slice none 0 0] 23)) 9 (.string s);have n4:=vK ((((w.alloc (.cells #[.slice none 0 0] 23)).alloc (.cells #[.bool false] 4)).alloc (.cells #[.slice none 0 0] 23)).alloc (.cells #[.string s] 9)) 9 (.string ⟨#[44]⟩);have n5:=vK (((((w.alloc (.cells #[.slice none 0 0] 23)).alloc (.cells #[.bool false] 4)).alloc (.cells #[.slice none 0 0] 23)).alloc (.cells #[.string s] 9)).alloc (.cells #[.string ⟨#[44]⟩] 9)) 3 (.int .i64 0);simp only[sQ]at n3 n4 n5;have m3:Boxed W (w.heap.size+1+1+1) 9 (.string s):=(hlow _ (by omega)).trans ((n3.alloc _).alloc _);have m4:Boxed W (w.heap.size+1+1+1+1) 9 (.string ⟨#[44]⟩):=(hlow _ (by omega)).trans (n4.alloc _);have m5:Boxed W (w.heap.size+1+1+1+2) 3 (.int .i64 0):=(hlow _ (by omega)).trans n5;refine ahb L (n-1) (by omega) hf l (w.heap.size+1+1+1+1) (w.heap.size+1+1+1) (w.heap.size+1+1+1+2) s ws hw hz J Jx (λpre W v h _=>hJ pre W v h) (λpre x W h hl=>?_) W ⟨by omega,by omega⟩ m4.cell m3.cell m3.frozen m5.cell h0;exact hY pre x W h hl
open Go.Ab
def PZ (x:aK):ByteArray:=⟨⟨x⟩⟩
theorem Wq : ∀{s:aK},eY s 44<0->Dj s=[s]
 |[],_=>rfl
 | b::s,h=>by
   unfold eY at h;split at h
   ·omega
   ·rename_i hb;have hb:¬b=44:=(by simpa using hb);split at h
    ·rename_i h2;have h2:eY s 44 = -1:=(by simpa using h2);unfold Dj;rw[if_neg hb,Wq (s:=s) (by omega)]
    ·have:=CO s 44;rename_i h2;have h2:¬eY s 44 = -1:=(by simpa using h2);omega
theorem Ws : ∀{s:aK} {i:Nat},eY s 44=i->Dj s=s.take i::Dj (s.drop (i+1))
 |[],i,h=>by simp[eY]at h
 | b::s,i,h=>by
   unfold eY at h;split at h
   ·rename_i hb;have hb:b=44:=(by simpa using hb);have:i=0:=(by omega);subst this;rw[Dj,if_pos hb,List.take_zero,wV,bW]
   ·rename_i hb;have hb:¬b=44:=(by simpa using hb);split at h
    ·omega
    ·rename_i h2;have h2:¬eY s 44 = -1:=(by simpa using h2);have h3:=CO s 44;obtain⟨j,rfl⟩:∃j,i=j+1:=⟨i-1,by omega⟩;rw[Dj,if_neg hb,Ws (s:=s) (i:=j) (by omega)];rfl
theorem QH (x:ByteArray)(a b:Nat):(x.extract a b).data.toList=(x.data.toList.drop a).take (b-a):=by rw[ByteArray.data_extract,Array.toList_extract]
theorem UM (x:ByteArray):PZ x.data.toList=x:=by cases x;rfl
theorem ae7 : ∀(k:Nat) (s:ByteArray),s.size<=k->Wds s ((Dj s.data.toList).map PZ):=by
 intro k
 induction k using dH with|_ k ih=>
 intro s hk;by_cases h:eY s.data.toList 44<0
 ·rw[Wq h];show Wds s [PZ s.data.toList];rw[UM];exact .last s h
 ·obtain⟨i,hi⟩:∃i:Nat,eY s.data.toList 44=i:=⟨(eY s.data.toList 44).toNat,by omega⟩;have hlt:=QU _ _ _ hi;have hsz:s.data.toList.length=s.size:=rfl;have e1:s.data.toList.drop (i+1)=(s.extract (i+1) s.size).data.toList:=by rw[QH,aC (by rw[fE];omega)]
  have e2:s.data.toList.take i=(s.extract 0 i).data.toList:=by rw[QH];rfl
  rw[Ws hi,e1,e2,bf,UM];exact .more s i _ hi (ih (s.size-(i+1)) (by omega) _ (by rw[qK];omega))
theorem aa5 (sv:aK->Bool)(x:aK):FQ (λy=>sv y.data.toList) (PZ x)=(Pm sv x).map PZ:=by
 unfold FQ Pm;have e0:(PZ x).toList=x:=by rw[yh];rfl
 have e1:(PZ x).size=x.length:=rfl;have e2:((PZ x).extract 1 5).data.toList=(x.drop 1).take 4:=QH _ _ _;have e3:(PZ x).extract 1 5=PZ ((x.drop 1).take 4):=by rw[<- e2,UM]
 show(if(PZ x).toList=[42]then some (PZ x)else if(PZ x).size=6/\(PZ x).toList.getD 0 0=34/\(PZ x).toList.getD 5 0=34/\sv ((PZ x).extract 1 5).data.toList=true then some ((PZ x).extract 1 5)else none)=_;rw[e0,e1,e2,e3];split
 ·rfl
 ·split<;>rfl
theorem afO (sv:aK->Bool)(ws:List aK):col (λy=>sv y.data.toList) (ws.map PZ)=(aet sv ws).map λl=>l.map PZ:=by
 have key:∀(ws:List aK) (a:Option (List aK)),(ws.map PZ).foldl (BR λy=>sv y.data.toList) (a.map λl=>l.map PZ)=(ws.foldl (colS sv) a).map λl=>l.map PZ:=by
  intro ws
  induction ws with
  |nil=>intro a;rfl
  | cons x ws ih=>
    intro a;rw[bf,lZ,lZ,<- ih]
    congr 1
    unfold BR colS;cases a with
    |none=>rfl
    | some l=>
      simp only[lD,gJ,iE];split
      ·rfl
      ·rw[aa5];cases Pm sv x with
       |none=>rfl
       |some y=>simp
 exact key ws (some [])
theorem aaJ (sv:aK->Bool){s:aK}(hl:s.length<=1000000){l:List ByteArray}(hc:(if(⟨⟨s⟩⟩:ByteArray).toList=[]then some []else col (λy=>sv y.data.toList) ((Dj (⟨⟨s⟩⟩:ByteArray).data.toList).map PZ))=(if true then some l else none)):∀x,x∈l->x.size<=1000000:=by
 have cut_small:∀(s:aK) x,x∈Dj s->x.length<=s.length:=by
  intro s
  induction s with
  |nil=>intro x hx;rw[Dj,bJ]at hx;subst hx;exact ax _
  | cons b r ih=>
    intro x hx;rw[Dj]at hx;split at hx
    ·rcases cu.1 hx with e|e
     ·subst e;exact aO _
     ·have:=ih x e;simp;omega
    ·split at hx
     ·rw[bJ]at hx;subst hx;simp
     ·rename_i y ys hy;rcases cu.1 hx with e|e
      ·have:=ih y (by rw[hy];simp);rw[e];simp;omega
      ·have:=ih x (by rw[hy];simp[e]);simp;omega
 have key:∀(ws:List ByteArray) (a l:List ByteArray),(∀x,x∈ws->x.size<=1000000)->(∀x,x∈a->x.size<=1000000)->ws.foldl (BR λy=>sv y.data.toList) (some a)=some l->∀x,x∈l->x.size<=1000000:=by
  intro ws
  induction ws with
  |nil=>intro a l _ ha h;cases h;exact ha
  | cons y ws ih=>
    intro a l hw ha h;rw[lZ]at h;cases hs:BR (λy=>sv y.data.toList) (some a) y with
    | none=>
      rw[hs]at h;have:∀ws:List ByteArray,ws.foldl (BR λy=>sv y.data.toList) none=none:=λws=>by
       induction ws with
       |nil=>rfl
       |cons y ws ih=>exact ih
      rw[this]at h;cases h
    | some b=>
      rw[hs]at h;refine ih b l (λx hx=>hw x (dL _ hx)) (λx hx=>?_) h;unfold BR at hs;simp only[gJ]at hs;split at hs
      ·cases hs
      ·obtain⟨z,hz,rfl⟩:=qM.1 hs;rcases aV.1 hx with e|e
       ·exact ha x e
       ·rw[bJ]at e;subst e;have hy:=hw y (bC ..);unfold FQ at hz;split at hz
        ·cases hz;exact hy
        ·split at hz
         ·cases hz;rw[qK];omega
         ·cases hz
 by_cases h0:(⟨⟨s⟩⟩:ByteArray).toList=[]
 ·rw[if_pos h0]at hc;simp only[if_true,aH]at hc;subst hc;intro x hx;cases hx
 ·rw[if_neg h0]at hc;refine key _ [] l (λx hx=>?_) (λx h=>by cases h) hc;obtain⟨y,hy,rfl⟩:=pI.1 hx;have:=cut_small s y hy;show y.length<=_;omega
theorem aae {W W':World}{M:Nat->Prop}(h:LU W W' M)(hM:∀k,¬M k):W.grownBy W' none:=⟨h.os,h.tape,h.output,h.size,λk hk _=>h.block k hk (hM k)⟩
theorem TT {ρ:Go.Shelf.Ren}(L:Lays.n143 Tryz.prog ρ)(hf:ρ.f 143=103){sv:aK->Bool}(hs:∀y:aK,y.length=4->dY Tryz.prog 64 [.one (.c (.str y))] (yx (sv y))){s:aK}{r:List aK×Bool}(hl:s.length<=1000000)(hr:r=U3 sv s) :
 dY Tryz.prog 41 [.one (.c (.str s))] (.xg [(false,[.c (.sl 1 (r.1.map cS))]),(false,[.c (.lit (.bool r.2))])]):=by
 subst hr;intro I q w vs hT hA hB hG;obtain⟨a,rfl,ha⟩:=MV hG;have hB':∀b,Ew [] b = .absent:=λb=>DX (aO _);obtain⟨e1,_⟩:=JJ (show Rd I a (.str s)from ha);subst e1;have hno:∀k,¬ ∃b,(Ew [] b).uses ((λ_=>none:Go.Ab.Ren) b) k:=λk ⟨b,h⟩=>by rw[hB']at h;exact h
 have hS:∀(y:ByteArray),y.size=4->∀(l n:Nat) (W:World),Below w.heap.size w W->CallsIn (lM.inRound l) n Tryz.prog 64 #[.string y] W λe W'=>e = .returned (.bool (sv y.data.toList))/\W.grownBy W' none:=λy hy l n W hW=>by
  refine CallsIn.inRound l (callsIn_wide.2 ?_);have hA2:Agree I W:=hA.other λk c hc=>hW.block k (hA.lt hc);have ey:y=⟨⟨y.data.toList⟩⟩:=by cases y;rfl
  have hm:y.data.toList.length<=maxLen:=by show y.size<=_;rw[hy];decide
  refine(hs y.data.toList hy I (λ_=>none) W [.string y] hT hA2 ⟨λb=>by rw[hB'];rfl,λb b' k h=>(hno k ⟨b,h⟩).elim,λb k h=>(hno k ⟨b,h⟩).elim⟩ ⟨rfl,?_⟩).mono ?_
  ·intro j v x hv hx
   match j with
   | 0=>
     simp only[List.getElem?_cons_zero,aH]at hv hx;subst hv hx;show Rd I (.string y) (.str y.data.toList)
     conv=>arg 2;rw[ey]
     exact Rd.str _ hm
   |j+1=>simp at hv
  ·rintro e W' ⟨v,J,σ,r,bs,rfl,⟨rfl,rfl⟩,hg,_,_,_,hfr,_⟩;cases hg;exact⟨rfl,aae hfr hno⟩
 have key:=callsIn_wide.1 (ag9 (λy=>sv y.data.toList) L hf 5 (ax _) ⟨⟨s⟩⟩ hl _ (ae7 _ _ (ax _)) w hS);refine key.mono ?_;rintro e w' ⟨v,l,ok,rfl,hrow,hb,hc,hn⟩;have hbm:∀x,x∈l->x.size<=1000000:=λx hx=>by
  cases hok:ok with
  |false=>rw[hn hok]at hx;cases hx
  | true=>rw[hok]at hc;exact aaJ sv hl hc x hx
 have hr:U3 sv s=(l.map λx=>x.data.toList,ok):=by
  unfold U3;have e0:(⟨⟨s⟩⟩:ByteArray).toList=s:=by rw[yh]
  rw[e0]at hc;by_cases h0:s=[]
  ·rw[if_pos h0]at hc⊢;cases ok with
   |true=>simp only[if_true,aH]at hc;subst hc;rfl
   |false=>cases hc
  ·rw[if_neg h0]at hc⊢;rw[show((⟨⟨s⟩⟩:ByteArray).data.toList)=s from rfl,afO]at hc;cases hq:aet sv (Dj s)with
   | none=>
     rw[hq]at hc;cases ok with
     |true=>cases hc
     |false=>rw[hn rfl];rfl
   | some l'=>
     rw[hq]at hc;cases ok with
     | true=>simp only[lD,if_true,aH]at hc;subst hc;simp[PZ,Function.comp_def]
     |false=>cases hc
 rw[hr];have hIs:∀k,w.heap.size<=k->I k=none:=λk hk=>by
  cases h:I k with
  |none=>rfl
  |some c=>exact absurd (hA.lt h) (by omega)
 have fin:∀(J:IH),I.le J->Agree J w'->Rd J v (.sl 1 ((l.map λx=>x.data.toList).map cS))->(∀k,k<w.heap.size->J k=I k)->∃(v0:Value) (J:IH) (σ:Go.Ab.Ren) (r:AV) (bs:List Box),Ending.returned (.tuple #[v,.bool ok]) = .returned v0/\(r=AV.xg [(false,[.c (.sl 1 (((l.map λx=>x.data.toList)).map cS))]),(false,[.c (.lit (.bool ok))])]/\bs=[])/\GV J σ v0 r/\Agree J w'/\BX J σ w' (Ew bs) /\
  I.le J/\LU w w' (λk=>∃b,(Ew [] b).uses (q b) k)/\(∀b k,(Ew bs b).uses (σ b) k->w.heap.size<=k\/∃b',(Ew [] b').uses (q b') k)/\(∀k,k<w.heap.size->(¬ ∃b,(Ew [] b).uses (q b) k)->J k=I k)/\(∀b,b<([]:List Box).length->σ b=q b):=λJ hle hAg hrd hk=>by
  refine⟨_,J,q,_,_,rfl,⟨rfl,rfl⟩,⟨_,rfl,rfl,λj x p hx hp=>?_⟩,hAg,⟨λb=>?_,λb b' k hu=>?_,λb k hu=>?_⟩,hle,Ee hb _,λb k hu=>?_,λk h _=>hk k h,λ_ _=>rfl⟩
  ·match j with
   | 0=>simp at hx hp;subst hx hp;unfold GP;rw[if_neg (by simp)];exact⟨_,rfl,(show Rd J v _ from by rw[<- Ar];exact hrd)⟩
   | 1=>simp at hx hp;subst hx hp;unfold GP;rw[if_neg (by simp)];exact⟨_,rfl,Rd.lit _ rfl⟩
   |j+2=>simp at hp
  ·have:=hB.ok b;rw[hB']at this⊢;exact this
  all_goals(rw[hB']at hu;exact hu.elim)
 rcases hrow.2 with⟨rfl,h0⟩|⟨g,cap,cur,rfl,hg,hgb,hle,hmax,hsz,htake⟩
 ·have:l=[]:=dD h0;subst this;exact fin I (IH.le_refl I) (hA.other λk1 c hc=>hb.block k1 (hA.lt hc)) (.sl none 0 0 1 [] (λ_ _=>undef) rfl (ax _) (aO _) (λe h=>by cases h) (λh=>by omega) (λad h=>by cases h) (λi j c h=>by simp at h)) (λ_ _=>rfl)
 ·refine fin (I.add g cur) (λb c hc=>?_) (λb c hc=>?_) ?_ (λk hk=>?_)
  ·unfold IH.add;by_cases h:b=g
   ·rw[h,hIs g hg]at hc;cases hc
   ·rw[if_neg h];exact hc
  ·unfold IH.add at hc;by_cases h:b=g
   ·rw[if_pos h]at hc;cases hc;subst h;exact⟨_,_,hgb⟩
   ·rw[if_neg h]at hc;exact(hA.other λk1 c hc=>hb.block k1 (hA.lt hc)) b c hc
  ·refine Rd.sl (some ⟨g,0,none⟩) l.length cap 1 _ (λi _=>.string (l.getD i vF)) (by simp) hle hmax (λe he=>?_) (λ_ h=>by cases h) (λad had i j hi hj=>?_) (λi j c hc=>?_)
   ·obtain⟨x,_,rfl⟩:=pI.1 he;rfl
   ·cases had;have e:(⟨g,0,none⟩:Addr).add (i*1+j)=⟨g,i,none⟩:=by
     have:i*1+j=i:=(by omega);rw[this];by_cases h0:i=0
     ·subst h0;rfl
     ·simp[Go.Addr.add,h0]
    rw[e];unfold IH.cell IH.add;rw[if_neg (by simp)];simp only[if_true];have h1:cur.toList[i]? = (l.map ug)[i]?:=(by rw[<- htake,List.getElem?_take_of_lt (by omega)]);rw[<- Array.getElem?_toList,h1,List.getElem?_map];simp[bu,hi]
   ·rw[Ar]at hc;by_cases hi:i<l.length
    ·have e1:((l.map (cS∘λx:ByteArray=>x.data.toList)).getD i [])=cS (l[i]).data.toList:=(by simp[bu,hi]);rw[e1]at hc
     match j with
     | 0=>simp[cS]at hc;subst hc;have e2:l.getD i vF=⟨⟨(l[i]).data.toList⟩⟩:=(by simp[bu,hi]);rw[e2];refine Rd.str _ ?_;have:=hbm l[i] (dJ hi);have h3:(l[i]).data.toList.length=(l[i]).size:=rfl;have hml:1000000<=maxLen:=(by decide);omega
     |j+1=>simp[cS]at hc
    ·have:((l.map (cS∘λx:ByteArray=>x.data.toList)).getD i [])=[]:=(by simp[bu,pg (by simpa using hi:(l.map _).length<=i)]);rw[this]at hc;simp at hc
  ·unfold IH.add;rw[if_neg (by omega)]
end Go.Proofs
end
namespace Go.Ab
open Go
theorem F.cmp_isNaN_int {n:Nat} : ∀{uh r},G.cmp_isNaN_int n uh=some r->dY pZ 259 [.one (wI uh)] (.one (.c (.lit (.bool r)))):=by
 intro uh r h;refine bg K.cmp_isNaN_int (qx ?_);unfold C.cmp_isNaN_int;rcases n with _|n<;>simp only[G.cmp_isNaN_int,reduceCtorEq]at h;have z:=pp () <|pp () <|pp () <|pp () <|pp () <|pp () <|()
 exact rF
theorem F.cmp_Compare_int {n:Nat} : ∀{uh KR r},G.cmp_Compare_int n uh KR=some r->dY pZ 256 [.one (wI uh),.one (wI KR)] (.one (wI r)):=by
 intro uh KR r h;refine bg K.cmp_Compare_int (qx ?_);unfold C.cmp_Compare_int;rcases n with _|n<;>simp only[G.cmp_Compare_int,reduceCtorEq]at h;have z:=pp (pp @F.cmp_isNaN_int ()) <|pp () <|pp () <|pp () <|pp () <|pp () <|()
 exact rF
theorem F.cmp_isNaN_string {n:Nat} : ∀{uh r},G.cmp_isNaN_string n uh=some r->dY pZ 247 [.one (wS uh)] (.one (.c (.lit (.bool r)))):=by
 intro uh r h;refine bg K.cmp_isNaN_string (qx ?_);unfold C.cmp_isNaN_string;rcases n with _|n<;>simp only[G.cmp_isNaN_string,reduceCtorEq]at h;have z:=pp () <|pp () <|pp () <|pp () <|pp () <|pp () <|()
 exact rF
theorem F.cmp_Less_string {n:Nat} : ∀{uh KR r},G.cmp_Less_string n uh KR=some r->dY pZ 232 [.one (wS uh),.one (wS KR)] (.one (.c (.lit (.bool r)))):=by
 intro uh KR r h;refine bg K.cmp_Less_string (qx ?_);unfold C.cmp_Less_string;rcases n with _|n<;>simp only[G.cmp_Less_string,reduceCtorEq]at h;have z:=pp (pp @F.cmp_isNaN_string ()) <|pp () <|pp () <|pp () <|pp () <|pp () <|()
 exact rF
theorem F.PD : ∀(n:Nat),∀{ay r},G.aP n ay=some r->dY pZ 61 [.agg (wN ay)] (.agg (wN r)):=by
 intro n
 induction n using dH with|_ n ih=>
 intro ay r h;refine bg K.aP (qx ?_);unfold C.aP;rcases n with _|n<;>simp only[G.aP,reduceCtorEq]at h;have z:=pp (pp ih ()) <|pp () <|pp (pp (@su (List aK×Int×List aj) _ (λn x=>G.aP.L2 n ay x.1 x.2.1 x.2.2) r (λx=>iH.of [eP 2 113,eP 3 114,(37,.v true (.one (wK ay.Kids))),eI 38 (ay.Kids.length:Int),eI 39 x.2.1] [(113,.var zN),(114,.var [wI ay.Kind,wI ay.Num,wS ay.Text,.own 115 x.1.length 1,.own 116 x.2.2.length 5]),(115,.dat 1 (ag cS x.1)),(116,.dat 5 (ag aj.cells x.2.2))])) ()) <|pp (pp (@zZ (List aK) _ (λn x=>G.aP.K1 n ay x) r (λx=>iH.of [eP 1 101,eP 2 102,eP 3 103] [(101,.var (wN ay)),(102,.var zN),(103,.var [wI ay.Kind,wI ay.Num,wS ay.Text,.own 104 x.length 1,.jI 5]),(104,.dat 1 (ag cS x))])) ()) <|pp (pp (aW @G.aP.K1.eq_1 <|aW @G.aP.K1.eq_2 <|aW @G.aP.L2.eq_1 <|@G.aP.L2.eq_2) ()) <|pp (pp (@dO [] [(101,10),(102,11),(103,12),(104,13)] []) <|pp (@dO [] [(101,10),(102,11),(103,12)] [104]) <|pp (@dO [] [(113,102),(114,103),(115,104),(116,14)] []) <|pp (@dO [] [(113,113),(114,114),(115,115),(116,116)] []) ()) <|()
 exact rF
theorem F.aP {n:Nat} : ∀{ay:aj} {r:aj},G.aP n ay=some r->dY pZ 61 [.agg (wN ay)] (.agg (wN r)):=F.PD n
theorem F.vU {n:Nat} : ∀{ay r},G.aP n ay=some r->kV pZ 61 [.agg (wN ay)] [] (λr1 b1=>r1 = .agg [wI r.Kind,wI r.Num,wS r.Text,.own 0 r.Names.length 1,.own 1 r.Kids.length 5]/\b1=[.dat 1 (ag cS r.Names),.dat 5 (ag aj.cells r.Kids)]):=by
 intro ay r h;refine lg K.aP (qx ?_);unfold C.aP;rcases n with _|n<;>simp only[G.aP,reduceCtorEq]at h;have z:=pp (pp @F.aP ()) <|pp () <|pp (pp (@su (List aK×Int×List aj) _ (λn x=>G.aP.L2 n ay x.1 x.2.1 x.2.2) r (λx=>iH.of [eP 2 113,eP 3 114,(37,.v true (.one (wK ay.Kids))),eI 38 (ay.Kids.length:Int),eI 39 x.2.1] [(113,.var zN),(114,.var [wI ay.Kind,wI ay.Num,wS ay.Text,.own 115 x.1.length 1,.own 116 x.2.2.length 5]),(115,.dat 1 (ag cS x.1)),(116,.dat 5 (ag aj.cells x.2.2))])) ()) <|pp (pp (@zZ (List aK) _ (λn x=>G.aP.K1 n ay x) r (λx=>iH.of [eP 1 101,eP 2 102,eP 3 103] [(101,.var (wN ay)),(102,.var zN),(103,.var [wI ay.Kind,wI ay.Num,wS ay.Text,.own 104 x.length 1,.jI 5]),(104,.dat 1 (ag cS x))])) ()) <|pp (pp (aW @G.aP.K1.eq_1 <|aW @G.aP.K1.eq_2 <|aW @G.aP.L2.eq_1 <|@G.aP.L2.eq_2) ()) <|pp (pp (@dO [] [(101,10),(102,11),(103,12),(104,13)] []) <|pp (@dO [] [(101,10),(102,11),(103,12)] [104]) <|pp (@dO [] [(113,102),(114,103),(115,104),(116,14)] []) <|pp (@dO [] [(113,113),(114,114),(115,115),(116,116)] []) ()) <|(pp (@xX [] [(0,115),(1,116)] []) <|pp (@xX [] [(0,104)] [1]) ())
 exact rF
theorem F.slices_isNaN_string {n:Nat} : ∀{uh r},G.slices_isNaN_string n uh=some r->dY pZ 233 [.one (wS uh)] (.one (.c (.lit (.bool r)))):=by
 intro uh r h;refine bg K.slices_isNaN_string (qx ?_);unfold C.slices_isNaN_string;rcases n with _|n<;>simp only[G.slices_isNaN_string,reduceCtorEq]at h;have z:=pp () <|pp () <|pp () <|pp () <|pp () <|pp () <|()
 exact rF
theorem F.slices_BinarySearch_string {n:Nat} : ∀{uh qH r},G.slices_BinarySearch_string n uh qH=some r->dY pZ 216 [.one (wT uh),.one (wS qH)] (.xg [(false,[wI r.1]),(false,[.c (.lit (.bool r.2))])]):=by
 intro uh qH r h;refine bg K.slices_BinarySearch_string (qx ?_);unfold C.slices_BinarySearch_string;rcases n with _|n<;>simp only[G.slices_BinarySearch_string,reduceCtorEq]at h;have z:=pp (pp @F.cmp_Less_string <|pp @F.slices_isNaN_string ()) <|pp () <|pp (pp (@su (Int×Int) _ (λn x=>G.slices_BinarySearch_string.L1 n uh qH x.1 x.2) r (λx=>iH.of [eT 0 uh,eS 1 qH,eI 6 (uh.length:Int),eI 7 x.1,eI 8 x.2] [])) ()) <|pp () <|pp (pp (aW @G.slices_BinarySearch_string.L1.eq_1 <|@G.slices_BinarySearch_string.L1.eq_2) ()) <|pp (pp (@dO [] [] []) ()) <|()
 exact rF
end Go.Ab
