/- What abstract codes mean (part 3). No conditions. -/
import Derived.Test.YtfengbmckcgbiaaGreatDoorZ2
set_option linter.unusedVariables false
set_option linter.unusedSimpArgs false
open Array renaming getElem?_eq_some_iff->eH,getD_eq_getD_getElem?->fH,length_toList->nN,getElem?_append_left->sH,replicate->tH,empty_append->uU,getElem?_modify->zV
open Bool renaming and_eq_true->ah,or_eq_true->iJ,false_eq_true->qw
open ByteArray renaming mk->En
open Go.Act renaming put->jH
open Go.Builtin renaming zeroCells->di,append_->iM
open Go.Code renaming region->Dz
open Go.Exit renaming inBlock->Ad
open Go.Instr renaming fieldAt->BM,sureAddr->kY,loadAt->qM
open Go.IntKind renaming wrap->af
open Go.Lib renaming frozen_of_heap->Dc,byteCells->dP,cell_of_heap->mD,byteCells_length->nC,alloc_old->zF
open Go.Next renaming value->nU
open Go.Oper renaming wp->xg
open Go.Result renaming andThen_ok->bT,ok->oO
open Go.Sem renaming run_pure->dA,run_bind->dN
open Go.Value renaming slice->DI,ownBlock->EH,int->mX,cells->oH
open Go.World renaming shape?->CP,cell?->iy,setCell->zH
open List renaming nodup_cons->Ag,drop_eq_nil_of_le->Ce,getElem?_eq_getElem->aB,mem_cons->aK,getElem?_eq_some_iff->aT,map->ax,drop_of_length_le->ay,mem_filter->bF,mem_append->bG,map_cons->bU,replicate->bY,length_append->bZ,all_eq_true->bf,mem_map->bu,take_of_length_le->bz,getD_eq_getElem?_getD->cZ,getElem?_append_left->cu,getElem?_append_right->dU,mem_cons_of_mem->fJ,all_cons->fZ,getElem?_drop->gW,length_take->iK,length_nil->iT,map_nil->jP,append_assoc->jh,flatMap_cons->kE,contains_iff_mem->kU,getElem?_eq_none->kV,nil_append->lC,map_toArray->lU,append_nil->mM,drop->oM,length_pos_iff->pK,getElem?_set->rq,getElem_of_mem->wE,take_append_of_le_length->wX,getElem?_take_of_lt->yC
open Nat renaming le_refl->aC,le_trans->bM,zero_add->fV,zero_le->oN,add_assoc->uf,mul_one->xA,add_comm->yu
open Ne renaming symm->Gm
open Option renaming isSome_none->Bf,map_eq_some_iff->dD,isNone_iff_eq_none->vX
open Option.some renaming injEq->aH
open Prod.mk renaming injEq->dF
open UInt8 renaming ofNat->gz
namespace Go.Ab
open Go
section
inductive SV where
 |arr
 |idx
 |cnt
 |ptr (off:Nat)
 |txt
 |val (off:Nat)
 deriving DecidableEq
abbrev JX :=List (Nat×SV)
def JX.look (env:JX)(t:Nat):Option SV:=match env with
 |[]=>none
 |(x,v)::r=>if x==t then some v else JX.look r t
def qop (P:Program)(E8 sz:Nat)(env:JX)(o:Oper):Option JX:=
 match o.guard,o.dst with
 | none,some d=>if d==0||d==1||d==5||(env.look d).isSome then none else(match o.op with
   |.move (.tmp s)=>(env.look s).map λv=>(d,v)::env
   |.indexAddr t (.tmp x) (.tmp y)=>if env.look x=some .arr/\env.look y=some .idx/\Nc P t sz=true then some ((d,.ptr 0)::env)else none
   | .fieldAddr s (.tmp x) f=>(match env.look x with
     | some (.ptr off)=>(match P.underlying s with
       | some (.struct fs)=>(match fs[f]? with
         |some TL=>if FY P s f TL.offset=true then some ((d,.ptr (off+TL.offset))::env)else none
         |none=>none)
       |_=>none)
     |_=>none)
   | .load t (.tmp x)=>(match env.look x with
     |some (.ptr off)=>if MG P t false 1=true/\off<sz then some ((d,.val off)::env)else none
     |_=>none)
   |.call ⟨.value (.func f),⟨[.tmp x]⟩,_⟩=>if f=E8/\env.look x=some .cnt/\zL P f=true then some ((d,.txt)::env)else none
   |_=>none)
 |_,_=>none
def LW (P:Program)(E8:Nat)(tx:Int->List UInt8):Prop:=∀k:Int,0<=k->k<4611686018427387904->fF P E8 [.one (.c (.lit (.int .i64 k)))] (.one (.c (.str (tx k))))
section
variable {P:Program} {E8 sz:Nat} {tx:Int->List UInt8} {kb i n c:Nat} {k:Int}
def SV.den (tx:Int->List UInt8)(sz kb i n c:Nat)(k:Int)(w:World)(v:Value):SV->Prop
 |.arr=>v = .slice (some ⟨kb,0,none⟩) n c
 |.idx=>v = .int .i64 (i:Int)
 |.cnt=>v = .int .i64 k
 |.ptr off=>v = .pointer (some ⟨kb,i*sz+off,none⟩)
 |.txt=>v = .string ⟨⟨tx k⟩⟩/\(tx k).length<=maxLen
 |.val off=>w.cell? ⟨kb,i*sz+off,none⟩=some v
structure ES (tx:Int->List UInt8)(sz kb i n c m:Nat)(k:Int)(env:JX)(a:Act)(w:World):Prop where
 size:a.tmps.size=m
 defers:a.defers=[]
 den:∀t v,env.look t=some v->v.den tx sz kb i n c k w (a.tmps.getD t undef)
theorem SV.afO {w w':World}(hb:w'.heap[kb]? = w.heap[kb]?){v:SV}{x:Value}(h:v.den tx sz kb i n c k w x):v.den tx sz kb i n c k w' x:=by
 cases v with
 |val off=>simp only[SV.den,iy,hb]at h⊢;exact h
 |_=>exact h
theorem ES.put {m:Nat}{env:JX}{a:Act}{w:World}(h:ES tx sz kb i n c m k env a w){d:Nat}(hd:env.look d=none)(hm:d<m){v:Value}{s:SV}(hv:s.den tx sz kb i n c k w v):ES tx sz kb i n c m k ((d,s)::env) (a.put (some d) v) w:=by
 refine⟨by simp[jH,h.size],h.defers,λt x hx=>?_⟩;simp only[JX.look]at hx;by_cases e:d=t
 ·subst e;simp only[beq_self_eq_true,jY,aH]at hx;subst hx;rw[iq (by rw[h.size];exact hm)];exact hv
 ·rw[au (by simpa using e)]at hx;rw[o7 (Gm e)];exact h.den t x hx
theorem ES.world {m:Nat}{env:JX}{a:Act}{w w':World}(h:ES tx sz kb i n c m k env a w)(hb:w'.heap[kb]? = w.heap[kb]?):ES tx sz kb i n c m k env a w':=
 ⟨h.size,h.defers,λt v hv=>SV.afO hb (h.den t v hv)⟩
variable {ops:Array Oper} {Q:Exit->Act->World->Prop} {rest:List Oper} {o:Oper} {a:Act} {w w':World} {v:Value}
theorem vV (hg:o.guard=none)(hr:(execOp a.eval o).run P w = .ok (.value v) w')(h:wpList P ops Q rest (a.put o.dst v) w'):wpList P ops Q (o::rest) a w:=
 wpList_plain hg λK hK=>by unfold xg;rw[hr,Oper.upon_value];exact hK _ _ h
theorem step_skip (hg:o.guard=none)(hr:(execOp a.eval o).run P w = .ok .skip w')(h:wpList P ops Q rest (a.put o.dst undef) w'):wpList P ops Q (o::rest) a w:=
 wpList_plain hg λK hK=>by unfold xg;rw[hr,Go.Oper.upon_skip];exact hK _ _ h
theorem Ou (hg:o.guard=none){f:FuncId}{args:Array Value}(hr:(execOp a.eval o).run P w = .ok (.enter f args) w)
 (h:Calls P f args w λe w'=>∃v,e = .returned v/\wpList P ops Q rest (a.put o.dst v) w'):wpList P ops Q (o::rest) a w:=
 wpList_plain hg λK hK=>by unfold xg;rw[hr,Oper.upon_enter];refine h.mono ?_;rintro e w' ⟨v,rfl,h⟩;exact hK _ _ h
theorem agX (ht:LW P E8 tx)(h0:0<=k)(h1:k<4611686018427387904){I0:IH}(hT:Tabs P I0)(hA:Agree I0 w) :
 Calls P E8 #[.int .i64 k] w λe w'=>e = .returned (.string ⟨⟨tx k⟩⟩)/\(tx k).length<=maxLen/\DW w w' λ_=>False:=by
 refine(ht k h0 h1 I0 (λ_=>none) w [.int .i64 k] hT hA ⟨λb=>rfl,λb b' k h=>h.elim,λb k h=>h.elim⟩ ⟨rfl,λj v x hv hx=>?_⟩ _ .abN).mono ?_
 ·match j with
  |0=>cases hv;cases hx;exact Rd.lit _ rfl
  |j+1=>cases hv
 ·rintro e w' ⟨⟨v,J,σ,r,bs,rfl,⟨rfl,rfl⟩,hgv,_,_,_,hF,_⟩,_⟩;cases hgv with
  |str l hl=>exact⟨rfl,hl,hF.os,hF.tape,hF.output,hF.size,λb hb _=>hF.block b hb (by rintro⟨b,hb⟩;exact hb)⟩
theorem X9 {m:Nat}{env env':JX}(hq:qop P E8 sz env o=some env')(hm:∀d,o.dst=some d->d<m)(h:ES tx sz kb i n c m k env a w)(hi:i<n)(ht:LW P E8 tx)(h0:0<=k)(h1:k<4611686018427387904){I0:IH}(hT:Tabs P I0)(hA:Agree I0 w)(hkb:kb<w.heap.size)
 (hcell:∀off,off<sz->∃x,w.cell? ⟨kb,i*sz+off,none⟩=some x)
 (hk:∀a' w',ES tx sz kb i n c m k env' a' w'->DW w w' (λ_=>False)->wpList P ops Q rest a' w'):wpList P ops Q (o::rest) a w:=by
 unfold qop at hq;split at hq
 ·rename_i d hg hd;split at hq
  ·cases hq
  ·rename_i hdd;simp only[iJ,not_or,Bool.not_eq_true,Option.isSome_eq_false_iff,vX]at hdd;have hdn:=hdd.2;have hdm:=hm d hd;have fin:∀{v:Value} {s:SV},(execOp a.eval o).run P w = .ok (.value v) w->s.den tx sz kb i n c k w v->env'=(d,s)::env->wpList P ops Q (o::rest) a w:=λhr hs e=>by
    subst e;refine vV hg hr ?_;rw[hd];exact hk _ _ (h.put hdn hdm hs) (DW.refl _ _)
   split at hq
   ·rename_i s ho;simp only[dD]at hq;obtain⟨x,hx,rfl⟩:=hq;exact fin (v:=a.tmps.getD s undef) (by unfold execOp;rw[ho];rfl) (h.den s x hx) rfl
   ·rename_i t x y ho;split at hq
    ·rename_i hc;cases hq;obtain⟨c1,c2,c3⟩:=hc;obtain⟨e,ti,ht,hti,hsz⟩:=DY c3;have v1:a.eval (.tmp x) = .slice (some ⟨kb,0,none⟩) n c:=h.den x _ c1;have v2:a.eval (.tmp y) = .int .i64 (i:Int):=h.den y _ c2;refine fin (v:=.pointer (some ((⟨kb,0,none⟩:Addr).add ((i:Int).toNat*sz)))) (s:=.ptr 0) ?_ ?_ rfl
     ·have e0:(0:Int)<=i:=(by omega);have e1:(i:Int)<n:=(by omega);simp[execOp,ho,Go.Instr.indexAt,v1,v2,asIntOf,run_underlying ht,e1,hi,sizeOf,typeInfo,hti,hsz]
     ·simp only[SV.den,Addr.uw,fV,Int.toNat_natCast,Nat.add_zero]
    ·cases hq
   ·rename_i s x f ho;split at hq
    ·rename_i off hx;split at hq
     ·rename_i fs hs;split at hq
      ·rename_i TL hf;split at hq
       ·rename_i hfa;cases hq;have v1:a.eval (.tmp x) = .pointer (some ⟨kb,i*sz+off,none⟩):=h.den x _ hx;unfold FY at hfa;rw[hs]at hfa;simp only[hf,ah]at hfa;obtain⟨_,hfa⟩:=hfa;split at hfa
        ·rename_i ti hti;simp at hfa;refine fin (v:=.pointer (some ((⟨kb,i*sz+off,none⟩:Addr).add TL.offset))) (s:=.ptr (off+TL.offset)) ?_ ?_ rfl
         ·simp[execOp,ho,BM,run_underlying hs,hf,v1,kY,fieldPlace,sizeOf,typeInfo,hti,hfa]
         ·simp only[SV.den,Addr.uw,uf]
        ·cases hfa
       ·cases hq
      ·cases hq
     ·cases hq
    ·cases hq
   ·rename_i t x ho;split at hq
    ·rename_i off hx;split at hq
     ·rename_i hty;cases hq;obtain⟨hty,hlt⟩:=hty;have v1:a.eval (.tmp x) = .pointer (some ⟨kb,i*sz+off,none⟩):=h.den x _ hx;obtain⟨u,hu⟩:=hcell off hlt;refine fin (v:=u) (s:=.val off) ?_ hu rfl;simp[execOp,ho,v1,kY,qM,LC hty hu]
     ·cases hq
    ·cases hq
   ·rename_i f x ts ho;split at hq
    ·rename_i hc;cases hq;obtain⟨rfl,hx,hok⟩:=hc;have v1:a.eval (.tmp x) = .int .i64 k:=h.den x _ hx;have he:=Hf (w:=w) (a:=a) ho (f:=f) (x:=.func f) (caps:= #[]) rfl hok;refine Ou hg (f:=f) (args:= #[.int .i64 k]) (by simpa[v1]using he) ((agX ht h0 h1 hT hA).mono ?_);rintro e w' ⟨rfl,hl,hF⟩;refine⟨_,rfl,?_⟩;rw[hd];exact hk _ _ ((h.world (hF.block kb hkb (λh=>h))).put hdn hdm ⟨rfl,hl⟩) hF
    ·cases hq
   ·cases hq
 ·cases hq
theorem abt {env env':JX}(hq:qop P E8 sz env o=some env'){t:Nat}{v:SV}(h:env.look t=some v):env'.look t=some v:=by
 have fin:∀{d:Nat} {s:SV},env.look d=none->JX.look ((d,s)::env) t=some v:=λ{d s} hd=>by simp only[JX.look];rw[au (by simp only[aZ];rintro rfl;rw[hd]at h;cases h)];exact h
 unfold qop at hq;split at hq
 ·split at hq
  ·cases hq
  ·rename_i hdd;simp only[iJ,not_or,Bool.not_eq_true,Option.isSome_eq_false_iff,vX]at hdd;have hd:=hdd.2;split at hq
   ·simp only[dD]at hq;obtain⟨x,_,rfl⟩:=hq;exact fin hd
   all_goals(repeat' split at hq)<;>first|(cases hq;exact fin hd)|cases hq
 ·cases hq
end
end
section
def WY : List (Nat×Nat)->Nat->Option Nat
 |[],_=>none
 |(b,c)::r,x=>if b=x then some c else WY r x
def abS (zs:List Nat)(bx:Nat->Box)(π:Nat->Option Nat)(vs:List Nat)(ts0:List (Nat×Slot)):List (Nat×Slot)->Prop
 |[]=>True
 |(t,s)::r=>Xr zs bx π vs (Cb ts0 t) s/\abS zs bx π vs ts0 r
def WS (zs:List Nat)(bx:Nat->Box)(π:Nat->Option Nat)(vs:List Nat):List (Nat×Box)->Prop
 |[]=>True
 |(b,x)::r=>wkB zs bx π vs b x/\WS zs bx π vs r
def Box.isAbs : Box->Bool
 |.absent=>true
 |_=>false
def nodupB : List Nat->Bool
 |[]=>true
 |x::r=> !r.contains x&&nodupB r
def fst' {α:Type} : List (Nat×α)->List Nat
 |[]=>[]
 |x::r=>x.1::fst' r
def snd' : List (Nat×Nat)->List Nat
 |[]=>[]
 |x::r=>x.2::snd' r
def SA (m:Nat)(H7 bs:List (Nat×Box))(pi:List (Nat×Nat))(vs:List Nat):Bool:=
 nodupB (snd' (pi.filter λp=> !(uS bs p.1).Sr))&&nodupB (fst' pi)&&(fst' pi).all (λb=>(fst' bs).contains b)&&vs.all (λb=>(fst' bs).contains b && !(fst' pi).contains b) &&
  (List.range m).all λb=>WY pi b==some b||(!(fst' pi).contains b && !vs.contains b&&(uS H7 b).isAbs)
theorem Py {l:List Nat} : nodupB l=true<->l.Nodup:=by
 induction l with
 |nil=>simp[nodupB]
 |cons x r ih=>simp[nodupB,ih]
theorem QU : ∀{pi:List (Nat×Nat)} {b c:Nat},WY pi b=some c->(b,c)∈pi
 |[],_,_,h=>by cases h
 | (x,y)::r,b,c,h=>by
   simp only[WY]at h;split at h
   ·rename_i e;subst e;cases h;exact List.mem_cons_self ..
   ·exact fJ _ (QU h)
theorem aaG {α:Type} : ∀{l:List (Nat×α)} {b:Nat},b∈fst' l<->∃x,(b,x)∈l
 |[],b=>by simp[fst']
 | (a,y)::r,b=>by
   simp only[fst',aK,aaG (l:=r)];constructor
   ·rintro(h|⟨x,hx⟩)
    ·subst h;exact⟨y,.inl rfl⟩
    ·exact⟨x,.inr hx⟩
   ·rintro⟨x,h|h⟩
    ·cases h;exact .inl rfl
    ·exact .inr ⟨x,h⟩
theorem ae0 : ∀{l:List (Nat×Nat)},snd' l=l.map (·.2)
 |[]=>rfl
 |x::r=>by simp[snd',ae0 (l:=r)]
theorem V4 {pi:List (Nat×Nat)}{b:Nat}(h:b ∉ fst' pi):WY pi b=none:=by
 cases hp:WY pi b with
 |none=>rfl
 |some c=>exact eF (aaG.2 ⟨c,QU hp⟩) h
theorem abQ {zs vs:List Nat}{bx:Nat->Box}{π:Nat->Option Nat} : ∀{bs:List (Nat×Box)},WS zs bx π vs bs->∀b x,(b,x)∈bs->wkB zs bx π vs b x
 |[],_,_,_,h=>by cases h
 | (c,y)::r,hw,b,x,h=>by
   rcases aK.1 h with h|h
   ·cases h;exact hw.1
   ·exact abQ hw.2 b x h
theorem Yh {zs vs:List Nat}{bx:Nat->Box}{π:Nat->Option Nat}{ts0:List (Nat×Slot)} : ∀{ts:List (Nat×Slot)},abS zs bx π vs ts0 ts->∀t,Xr zs bx π vs (Cb ts0 t) (Cb ts t)
 |[],_,_=>by simp[Cb,Xr]
 | (c,y)::r,hw,t=>by
   simp only[Cb];split
   ·rename_i e;subst e;exact hw.1
   ·exact Yh hw.2 t
theorem agh {bs:List (Nat×Box)}{b:Nat} : (b,uS bs b)∈bs\/(b ∉ fst' bs/\uS bs b = .absent):=by
 induction bs with
 |nil=>right;simp[fst',uS]
 | cons p r ih=>
   obtain⟨c,y⟩:=p;simp only[uS];by_cases h:c=b
   ·subst h;left;simp
   ·rw[au h];rcases ih with ih|⟨h1,h2⟩
    ·left;exact fJ _ ih
    ·right;refine⟨?_,h2⟩;simp only[fst',aK,not_or];exact⟨λe=>h e.symm,h1⟩
theorem ajO {m:Nat}{H7 bs:List (Nat×Box)}(zs:List Nat)(pi:List (Nat×Nat))(vs:List Nat)(hk:SA m H7 bs pi vs=true)(hb:WS zs (uS H7) (WY pi) vs bs):WkS m (uS H7) (uS bs) zs (WY pi) vs:=by
 simp only[SA,ah,bf,iJ,aZ,Bool.not_eq_true',List.mem_range,Py,kU]at hk;obtain⟨⟨⟨⟨h1,_⟩,h3⟩,h4⟩,h5⟩:=hk;have aio:∀{l:List Nat} {x:Nat},l.contains x=false->x ∉ l:=λh hm=>by rw[kU.2 hm]at h;cases h
 refine⟨λb=>?_,λb b' c hd1 hd2 hb1 hb2=>?_,λb hv=>V4 (aio (h4 b hv).2),λb hlt=>?_⟩
 ·rcases agh (bs:=bs) (b:=b)with h|⟨h,e⟩
  ·exact abQ hb b _ h
  ·rw[e];exact⟨V4 λhm=>h (h3 b hm),λhm=>h (h4 b hm).1⟩
 ·have m1:(b,c)∈pi.filter λp=> !(uS bs p.1).Sr:=bF.2 ⟨QU hb1,by simp[hd1]⟩;have m2:(b',c)∈pi.filter λp=> !(uS bs p.1).Sr:=bF.2 ⟨QU hb2,by simp[hd2]⟩;rw[ae0]at h1;obtain⟨i,hi,ei⟩:=wE m1;obtain⟨j,hj,ej⟩:=wE m2;have hpw:=List.pairwise_iff_getElem.1 h1;rcases Nat.lt_trichotomy i j with h|h|h
  ·have:=hpw i j (by simpa using hi) (by simpa using hj) h;simp[ei,ej]at this
  ·subst h;rw[ei]at ej;cases ej;rfl
  ·have:=hpw j i (by simpa using hj) (by simpa using hi) h;simp[ei,ej]at this
 ·rcases h5 b hlt with h|⟨⟨h,h'⟩,h''⟩
  ·exact .inl h
  ·refine .inr ⟨V4 (aio h),aio h',?_⟩;cases hx:uS H7 b with
   |absent=>rfl
   |_=>rw[hx]at h'';cases h''
theorem Pz (ts:List (Nat×Slot))(bs:List (Nat×Box)):(gY.of ts bs).bx=uS bs:=funext λb=>Fq ts bs b
theorem alx {m:Nat}{ts0 ts:List (Nat×Slot)}{H7 bs:List (Nat×Box)}(zs:List Nat)(pi:List (Nat×Nat))(vs:List Nat)(hk:SA m H7 bs pi vs=true)
 (hb:WS zs (uS H7) (WY pi) vs bs) (ht:abS zs (uS H7) (WY pi) vs ts0 ts):Oz m (gY.of ts0 H7) (gY.of ts bs):=by
 refine⟨zs,WY pi,vs,?_,λt=>?_⟩
 ·rw[Pz,Pz];exact ajO zs pi vs hk hb
 ·rw[Pz,KE,KE];exact Yh ht t
def dC (bx:Nat->Box):AC->AC->Prop
 |.c x,.c y=>x=y
 |.nS sz,.c y=>y = .sl sz []
 | .own b n sz,.c y=>match(bx b).arr with
   |some (sz',es)=>sz'=sz/\n<=es.length/\y = .sl sz (es.take n)
   |none=>False
 |_,_=>False
def dCs (bx:Nat->Box):List AC->List AC->Prop
 |[],[]=>True
 |x::xs,y::ys=>dC bx x y/\dCs bx xs ys
 |_,_=>False
def dPs (bx:Nat->Box):List (Bool×List AC)->List (Bool×List AC)->Prop
 |[],[]=>True
 |(g,x)::xs,(g',y)::ys=>g=g'/\dCs bx x y/\dPs bx xs ys
 |_,_=>False
def dV (bx:Nat->Box):AV->AV->Prop
 |.one x,.one y=>dC bx x y
 |.agg xs,.agg ys=>dCs bx xs ys
 |.AB xs,.AB ys=>dPs bx xs ys
 |_,_=>False
theorem alQ {bx:Nat->Box}{zs:List Nat}{x y:AC}(h:dC bx x y)(hz:∀b,b∈qH [x]->b∈zs):MJ zs bx (λ_=>none) [] x y:=by
 cases x<;>cases y<;>simp only[dC]at h<;>try exact h
 exact⟨hz _ (by simp[qH]),h⟩
theorem acP {bx:Nat->Box}{zs:List Nat} : ∀{xs ys:List AC},dCs bx xs ys->(∀b,b∈qH xs->b∈zs)->PS zs bx (λ_=>none) [] xs ys
 |[],[],_,_=>trivial
 |x::xs,y::ys,h,hz=>⟨alQ h.1 λb hb=>hz b (Fv.2 (.inl hb)),acP h.2 λb hb=>hz b (Fv.2 (.inr hb))⟩
 |[],_::_,h,_=>h.elim
 |_::_,[],h,_=>h.elim
theorem ahP {bx:Nat->Box}{zs:List Nat} : ∀{xs ys:List (Bool×List AC)},dPs bx xs ys->(∀b,b∈(AV.AB xs).owns->b∈zs)->Xq zs bx (λ_=>none) [] xs ys
 |[],[],_,_=>trivial
 | (g,x)::xs,(g',y)::ys,h,hz=>⟨h.1,acP h.2.1 λb hb=>hz b (by simp only[AV.owns,kE,bG];exact .inl hb),ahP h.2.2 λb hb=>hz b (by simp only[AV.owns,kE,bG]at hb⊢;exact .inr hb)⟩
 |[],_::_,h,_=>h.elim
 |_::_,[],h,_=>h.elim
theorem anY {bx:Nat->Box}{x y:AV}(h:dV bx x y):wkV x.owns bx (λ_=>none) [] x y:=by
 cases x<;>cases y<;>simp only[dV]at h<;>first|exact h.elim|skip
 ·exact alQ h λb hb=>hb
 ·exact acP h λb hb=>hb
 ·exact ahP h λb hb=>hb
def Ue (rs:List zh)(r:AV)(st:gY):Prop:=Jh st rs/\dV st.bx (Xj st rs) r
def QP (rs:List zh)(r:AV):AQ
 |.normal,st=>Ue rs r st
 |.ret,st=>Ue rs r st
 |.exit _,_=>False
theorem Ue.ret {rs:List zh}{r:AV}{st:gY}(h:Ue rs r st):LU rs 0 (λr' bs=>r'=r/\bs=[]) st:=
 ⟨h.1,r,[],_,_,[],⟨rfl,rfl⟩,⟨λb=>by rw[Yz];exact⟨rfl,mg⟩,λb b' c _ _ h=>by simp at h,λb _=>rfl,λb hb=>by omega⟩,anY h.2⟩
section
variable {P:Program}
theorem WU : ∀{l:List lK} {st:gY} {K K':gY->Prop},(∀st,K st->K' st)->wpOps P l st K->wpOps P l st K'
 |[],st,_,_,hk,h=>hk st h
 |x::r,_,_,_,hk,h=>Ru (λ_ _ _ h=>WU (l:=r) hk h) (show T P x _ (λ_ _ st'=>wpOps P r st' _)from h)
theorem abT : ∀{l:List (lK×List Nat)} {i:Nat} {log:Log} {st:gY} {K K':gY->Prop},(∀st,K st->K' st)->wpD P l i log st K->wpD P l i log st K'
 |[],_,_,st,_,_,hk,h=>hk st h
 |(o,Ik)::r,i,log,_,_,_,hk,h=>Ru (λ_ _ _ h=>⟨h.1,abT (l:=r) hk h.2⟩) (show T P o _ (λrd wr st'=>Az Ik rd wr log=true/\wpD P r (i+1) ((i,rd,wr)::log) st' _)from h)
theorem wpC_mono : ∀{c:dI} {Q Q':AQ} {st:gY},(∀e st,Q e st->Q' e st)->wpC P c Q st->wpC P c Q' st
 |.skip,_,_,st,hq,h=>hq .normal st h
 |.reg ops keep,_,_,st,hq,h=>WU (λst h=>hq .normal _ h) h
 |.uC ops keep,_,_,st,hq,h=>abT (λst h=>hq .normal _ h) h
 |.seq a b,_,_,st,hq,h=>wpC_mono (c:=a) (λe st h=>by
  cases e with
  |normal=>exact wpC_mono (c:=b) hq h
  |exit id=>exact hq _ _ h
  |ret=>exact hq _ _ h) h
 |.cut a b,_,_,st,hq,⟨X,J,S,h1,h2⟩=>⟨X,J,S,wpC_mono (c:=a) (λe st h=>by
  cases e with
  |normal=>exact h
  |exit id=>exact hq _ _ h
  |ret=>exact hq _ _ h) h1,λx hx=>wpC_mono (c:=b) hq (h2 x hx)⟩
 |.cond c a b,_,_,st,hq,⟨h1,h2⟩=>⟨h1,by
  split at h2
  ·exact⟨λe=>wpC_mono (c:=a) hq (h2.1 e),λe=>wpC_mono (c:=b) hq (h2.2 e)⟩
  ·exact h2.elim⟩
 |.block id a,_,_,st,hq,h=>wpC_mono (c:=a) (λe st h=>by
  cases e with
  |normal=>exact hq _ _ h
  | exit id'=>
    simp only[xQ.inBlock]at h⊢;split
    ·rename_i e;rw[aA e]at h;exact hq _ _ h
    ·rename_i e;rw[au e]at h;exact hq _ _ h
  |ret=>exact hq _ _ h) h
 |.loop a,_,_,st,hq,⟨X,J,S,μ,h0,h1⟩=>⟨X,J,S,μ,h0,λx hx=>wpC_mono (c:=a) (λe st h=>by
  cases e with
  |normal=>exact h
  |exit id=>exact hq _ _ h
  |ret=>exact hq _ _ h) (h1 x hx)⟩
 |.exit id,_,_,st,hq,h=>hq _ _ h
 |.ret,_,_,st,hq,h=>hq _ _ h
theorem bI {f:FuncId}{ac:dI}{rs:List zh}{args:List AV}{r:AV}(hc:jJ P f args.length 0 ac rs=true)(hwp:wpC P ac (QP rs r) (st0 args [])):fF P f args r:=by
 refine yM (fp:=[]) hc (wpC_mono (λe st h=>?_) hwp);cases e with
 |normal=>exact Ue.ret h
 |ret=>exact Ue.ret h
 |exit id=>exact h.elim
theorem KT.intro {body:AQ->gY->Prop}{Q:AQ}{st:gY}{d1:DU body}{d2:DU Q}{X:Type}(J:X->Prop)(S:X->gY)(μ:X->Nat)(x0:X)(h0:J x0)(hw:Oz 10 st (S x0))
 (h:∀x,J x->body (xQ.then (λst'=>∃x',(J x'/\μ x'<μ x)/\Oz 10 st' (S x')) Q) (S x)):KT body Q st d1 d2:=
 ⟨X,J,S,μ,⟨x0,h0,hw⟩,h⟩
theorem P7.intro {wa wb:AQ->gY->Prop}{Q:AQ}{st:gY}{d1:DU wa}{d2:DU wb}{d3:DU Q}{X:Type}(J:X->Prop)(S:X->gY)
 (h1:wa (xQ.then (λst'=>∃x,J x/\Oz 10 st' (S x)) Q) st) (h2:∀x,J x->wb Q (S x)):P7 wa wb Q st d1 d2 d3:=
 ⟨X,J,S,h1,h2⟩
def H9 (bx:Nat->Box):AC->AC
 |.nS sz=>.c (.sl sz [])
 | .own b n sz=>match(bx b).arr with
   |some (_,es)=>.c (.sl sz (es.take n))
   |none=>.Ns
 |x=>x
def Ey (bx:Nat->Box):AV->AV
 |.one x=>.one (H9 bx x)
 |.agg xs=>.agg (xs.map (H9 bx))
 |.AB xs=>.AB xs
def AX (bx:Nat->Box):List AV->Prop
 |[]=>True
 |.AB _::_=>False
 |x::r=>BC bx x.cells/\AX bx r
theorem Nv {bx:Nat->Box} : ∀{xs:List AC},BC bx xs->CvL bx xs (xs.map (H9 bx))
 |[],_=>.nil
 | x::r,h=>by
   cases x with
   | own b n sz=>
     obtain⟨h1,h2⟩:=h;refine .cons ?_ (Nv h2);simp only[H9];cases hb:(bx b).arr with
     |none=>rw[hb]at h1;exact h1.elim
     |some p=>obtain⟨sz',es⟩:=p;rw[hb]at h1;obtain⟨rfl,h1⟩:=h1;exact .own b n sz' es hb h1
   |nS sz=>exact .cons (.nS sz) (Nv (xs:=r) h)
   |_=>exact .cons (.refl _) (Nv (xs:=r) h)
theorem Nw {bx:Nat->Box} : ∀{xs:List AV},AX bx xs->O0 bx xs (xs.map (Ey bx))
 |[],_=>.nil
 | x::r,h=>by
   cases x with
   | one x=>
     refine .cons ?_ (Nw h.2);have:=Nv (xs:=[x]) h.1;cases this with
     |cons h t=>exact .one h
   |agg xs=>exact .cons (.agg (Nv h.1)) (Nw h.2)
   |AB xs=>exact h.elim
variable {f:FuncId} {xm:List AV} {p:Bool} {d:Option Nat} {st:gY} {K:List Nat->List Nat->gY->Prop} {du:DU K}
theorem xK.lit (r:AV)(h:p=true->fF P f (xm.map (Ey st.bx)) r)(hl:p=true->AX st.bx xm)(hd:(xm.map (Ey st.bx)).all (·.all AC.zi)=true)(hr:r.all AC.isLit=true)
 (k:K (xm.flatMap AV.owns) [] (st.BD d (.v p r))):xK P f xm p d st K du:=
 OJ.lit _ r (λe=>Nw (hl e)) hd h hr k
theorem xK.pure (r:AV)(hp:p=true)(h:fF P f (xm.map (Ey st.bx)) r)(hl:AX st.bx xm)(hd:(xm.map (Ey st.bx)).all (·.all AC.zi)=true)(hr:r.all AC.zi=true)
 (k:K (xm.flatMap AV.owns) (xm.flatMap AV.owns) ((st.H8 (xm.flatMap AV.owns)).BD d (.v true r))):xK P f xm p d st K du:=
 OJ.pure _ r hp (Nw hl) hd h hr k
end
end
section
def TK (P:Program)(o:lK)(st:gY)(K:List Nat->List Nat->gY->Prop)(_:DU o)(_:DU K):Prop:=T P o st K
def Tz (P:Program)(ops:List lK)(st:gY)(K:gY->Prop)(_:DU ops)(_:DU K):Prop:=wpOps P ops st K
def ag7 (P:Program)(ops:List (lK×List Nat))(i:Nat)(log:List (Nat×List Nat×List Nat))(st:gY)(K:gY->Prop)(_:DU ops)(_:DU K):Prop:=wpD P ops i log st K
def D7 (P:Program)(c:dI)(Q:AQ)(st:gY)(_:DU c)(_:DU Q):Prop:=wpC P c Q st
def QK (Q:AQ)(e:xQ)(st:gY)(_:DU Q):Prop:=Q e st
def OZ (c:dI)(P:Program)(Q:AQ):AQ:=xQ.then (wpC P c Q) Q
section
variable {P:Program} {st:gY} {K:List Nat->List Nat->gY->Prop} {k:gY->Prop} {Q:AQ}
theorem akm {g:Option (Nat×Bool)}{d:Option Nat}{f:FuncId}{args:List pU}{d1:DU (lK.mk g d (.call f args))}{d2:DU K} :
 TK P ⟨g,d,.call f args⟩ st K d1 d2=(EM st.tm g/\(uV st.tm g=true->∀x,x∈args->(x.ev st.tm).g=true)/\xK P f (args.map (fK st.tm)) (uV st.tm g) d st K .mk):=by
 unfold TK T;rfl
def Rt (P:Program)(x:AV)(args:List AV)(p:Bool)(d:Option Nat)(st:gY)(K:List Nat->List Nat->gY->Prop)(_:DU K):Prop:=
 match p,x with
 |false,_=>xK P 0 [] false d st K .mk
 |true,.one (.fn f caps)=>zL P f=true/\xK P f (args++caps.map λb=>.one (.ptr b 0)) true d st K .mk
 |true,_=>False
theorem afq {f:FuncId}{caps:List Nat}{args:List AV}{d:Option Nat}{du:DU K} : Rt P (.one (.fn f caps)) args true d st K du=(zL P f=true/\xK P f (args++caps.map λb=>.one (.ptr b 0)) true d st K .mk):=by unfold Rt;rfl
theorem ahu {x:AV}{args:List AV}{d:Option Nat}{du:DU K} : Rt P x args false d st K du=xK P 0 [] false d st K .mk:=by unfold Rt;rfl
theorem ahv {g:Option (Nat×Bool)}{d:Option Nat}{x:pU}{args:List pU}{d1:DU (lK.mk g d (.IX x args))}{d2:DU K} :
 TK P ⟨g,d,.IX x args⟩ st K d1 d2=(EM st.tm g/\(uV st.tm g=true->(x.ev st.tm).g=true/\∀x,x∈args->(x.ev st.tm).g=true)/\Rt P (fK st.tm x) (args.map (fK st.tm)) (uV st.tm g) d st K .mk):=by
 unfold TK T Rt;rfl
theorem ad4 {d1:DU ([]:List lK)}{d2:DU k} : Tz P [] st k d1 d2=k st:=by unfold Tz wpOps;rfl
theorem abU {o:lK}{r:List lK}{d1:DU (o::r)}{d2:DU k} : Tz P (o::r) st k d1 d2=TK P o st (λ_ _ st'=>Tz P r st' k .mk .mk) .mk .mk:=by unfold Tz TK;rfl
theorem ajU {i:Nat}{log:List (Nat×List Nat×List Nat)}{d1:DU ([]:List (lK×List Nat))}{d2:DU k} : ag7 P [] i log st k d1 d2=k st:=by unfold ag7 wpD;rfl
theorem ag8 {i:Nat}{log:List (Nat×List Nat×List Nat)}{o:lK}{Ik:List Nat}{r:List (lK×List Nat)}{d1:DU ((o,Ik)::r)}{d2:DU k} :
 ag7 P ((o,Ik)::r) i log st k d1 d2=TK P o st (λrd wr st'=>Az Ik rd wr log=true/\ag7 P r (i+1) ((i,rd,wr)::log) st' k .mk .mk) .mk .mk:=by
 unfold ag7 TK;rfl
theorem ag6 {d1:DU dI.skip}{d2:DU Q} : D7 P .skip Q st d1 d2=QK Q .normal st .mk:=by unfold D7 wpC;rfl
theorem ajQ {ops:List lK}{keep:List Nat}{d1:DU (dI.reg ops keep)}{d2:DU Q} : D7 P (.reg ops keep) Q st d1 d2=Tz P ops st (λst=>QK Q .normal (st.keep keep) .mk) .mk .mk:=by unfold D7 wpC;rfl
theorem ag5 {ops:List (lK×List Nat)}{keep:List Nat}{d1:DU (dI.uC ops keep)}{d2:DU Q} : D7 P (.uC ops keep) Q st d1 d2=ag7 P ops 0 [] st (λst=>QK Q .normal (st.keep keep) .mk) .mk .mk:=by unfold D7 wpC;rfl
theorem ajS {a b:dI}{d1:DU (dI.seq a b)}{d2:DU Q} : D7 P (.seq a b) Q st d1 d2=D7 P a (OZ b P Q) st .mk .mk:=by unfold D7;rw[wpC];rfl
theorem ajP {a b:dI}{d1:DU (dI.cut a b)}{d2:DU Q} : D7 P (.cut a b) Q st d1 d2=P7 (wpC P a) (wpC P b) Q st .mk .mk .mk:=by unfold D7;rw[wpC]
theorem ag4 {a:dI}{d1:DU (dI.loop a)}{d2:DU Q} : D7 P (.loop a) Q st d1 d2=KT (wpC P a) Q st .mk .mk:=by unfold D7;rw[wpC]
theorem ad1 {id:Nat}{a:dI}{d1:DU (dI.block id a)}{d2:DU Q} : D7 P (.block id a) Q st d1 d2=D7 P a (xQ.inBlock id Q) st .mk .mk:=by unfold D7;rw[wpC]
theorem ag3 {id:Nat}{d1:DU (dI.exit id)}{d2:DU Q} : D7 P (.exit id) Q st d1 d2=QK Q (.exit id) st .mk:=by unfold D7 wpC;rfl
theorem ajR {d1:DU dI.ret}{d2:DU Q} : D7 P .ret Q st d1 d2=QK Q .ret st .mk:=by unfold D7 wpC;rfl
def XI (P:Program)(c:AV)(a b:dI)(Q:AQ)(st:gY)(_:DU a)(_:DU b)(_:DU Q):Prop:=
 match c with
 |.one (.c (.lit (.bool t)))=>(t=true->wpC P a Q st)/\(t=false->wpC P b Q st)
 |_=>False
theorem ag2 {c:pU}{a b:dI}{d1:DU (dI.cond c a b)}{d2:DU Q} : D7 P (.cond c a b) Q st d1 d2=((c.ev st.tm).g=true/\XI P (c.ev st.tm).x a b Q st .mk .mk .mk):=by unfold D7 XI;rw[wpC]<;>rfl
theorem akB {a b:dI}{d1:DU a}{d2:DU b}{d3:DU Q} : XI P (.one (.c (.lit (.bool true)))) a b Q st d1 d2 d3=D7 P a Q st .mk .mk:=by unfold XI D7;simp
theorem akA {a b:dI}{d1:DU a}{d2:DU b}{d3:DU Q} : XI P (.one (.c (.lit (.bool false)))) a b Q st d1 d2 d3=D7 P b Q st .mk .mk:=by unfold XI D7;simp
theorem afm {b:dI}{du:DU (OZ b P Q)} : QK (OZ b P Q) .normal st du=D7 P b Q st .mk .mk:=by unfold QK OZ D7;rfl
theorem afl {b:dI}{id:Nat}{du:DU (OZ b P Q)} : QK (OZ b P Q) (.exit id) st du=QK Q (.exit id) st .mk:=by unfold QK OZ;rfl
theorem afn {b:dI}{du:DU (OZ b P Q)} : QK (OZ b P Q) .ret st du=QK Q .ret st .mk:=by unfold QK OZ;rfl
theorem afj {k:gY->Prop}{du:DU (xQ.then k Q)} : QK (xQ.then k Q) .normal st du=k st:=by unfold QK;rfl
theorem afi {k:gY->Prop}{id:Nat}{du:DU (xQ.then k Q)} : QK (xQ.then k Q) (.exit id) st du=QK Q (.exit id) st .mk:=by unfold QK;rfl
theorem afk {k:gY->Prop}{du:DU (xQ.then k Q)} : QK (xQ.then k Q) .ret st du=QK Q .ret st .mk:=by unfold QK;rfl
theorem ab9 {id:Nat}{du:DU (xQ.inBlock id Q)} : QK (xQ.inBlock id Q) .normal st du=QK Q .normal st .mk:=by unfold QK;rfl
theorem ab8 {id id':Nat}{du:DU (xQ.inBlock id Q)} : QK (xQ.inBlock id Q) (.exit id') st du=if id'=id then QK Q .normal st .mk else QK Q (.exit id') st .mk:=by unfold QK;rfl
theorem acd {id:Nat}{du:DU (xQ.inBlock id Q)} : QK (xQ.inBlock id Q) .ret st du=QK Q .ret st .mk:=by unfold QK;rfl
theorem aki {rs:List zh}{r:AV}{du:DU (QP rs r)} : QK (QP rs r) .normal st du=Ue rs r st:=by unfold QK;rfl
theorem akj {rs:List zh}{r:AV}{du:DU (QP rs r)} : QK (QP rs r) .ret st du=Ue rs r st:=by unfold QK;rfl
theorem akg {rs:List zh}{m:Nat}{post:AV->List Box->Prop}{du:DU (QF rs m post)} : QK (QF rs m post) .normal st du=LU rs m post st:=by unfold QK;rfl
theorem akh {rs:List zh}{m:Nat}{post:AV->List Box->Prop}{du:DU (QF rs m post)} : QK (QF rs m post) .ret st du=LU rs m post st:=by unfold QK;rfl
theorem tq {c:dI}(h:D7 P c Q st .mk .mk):wpC P c Q st:=h
theorem aoB {a:dI}{d1:DU (wpC P a)}{d2:DU Q}{X:Type}(J:X->Prop)(S:X->gY)(μ:X->Nat)(x0:X)(h0:J x0)(hw:Oz 10 st (S x0))
 (h:∀x,J x->D7 P a (xQ.then (λst'=>∃x',(J x'/\μ x'<μ x)/\Oz 10 st' (S x')) Q) (S x) .mk .mk):KT (wpC P a) Q st d1 d2:=
 KT.intro J S μ x0 h0 hw h
theorem aps {a b:dI}{d1:DU (wpC P a)}{d2:DU (wpC P b)}{d3:DU Q}{X:Type}(J:X->Prop)(S:X->gY)
 (h1:D7 P a (xQ.then (λst'=>∃x,J x/\Oz 10 st' (S x)) Q) st .mk .mk) (h2:∀x,J x->D7 P b Q (S x) .mk .mk):P7 (wpC P a) (wpC P b) Q st d1 d2 d3:=
 P7.intro J S h1 h2
end
end
section
inductive Nd where
 |mk (k w:Int) (s:List UInt8) (ws:List (List UInt8)) (ks:List Nd)
abbrev fD :=List UInt8
def aqk (ws:List fD):List (List Cell):=ws.map λw=>[.str w]
mutual
def Nd.cells : Nd->List Cell
 |.mk k w s ws ks=>[.lit (.int .i64 k),.lit (.int .i64 w),.str s,.sl 1 (aqk ws),.sl 5 (Nd.KY ks)]
def Nd.KY : List Nd->List (List Cell)
 |[]=>[]
 |x::r=>x.cells::Nd.KY r
end
theorem Nd.XC (ks:List Nd):Nd.KY ks=ks.map Nd.cells:=by
 induction ks with
 |nil=>rfl
 |cons x r ih=>simp[Nd.KY,ih]
def ZC : List AC->Bool
 |[]=>true
 |.c _::r=>ZC r
 |_=>false
def Ot : List AV->Bool
 |[]=>true
 |.one (.c _)::r=>Ot r
 |.agg xs::r=>ZC xs&&Ot r
 |_=>false
theorem Q5 {bx:Nat->Box} : ∀{xs:List AC},ZC xs=true->xs.map (H9 bx)=xs/\BC bx xs/\xs.all AC.zi=true/\qH xs=[]
 |[],_=>⟨rfl,trivial,rfl,rfl⟩
 | x::r,h=>by
   cases x with
   | c x=>obtain⟨h1,h2,h3,h4⟩:=Q5 (bx:=bx) (xs:=r) h;exact⟨by simp[H9,h1],h2,by simp[AC.zi,h3],by simp[qH,h4]⟩
   |_=>cases h
theorem Iz {bx:Nat->Box} : ∀{xs:List AV},Ot xs=true->xs.map (Ey bx)=xs/\AX bx xs/\xs.all (·.all AC.zi)=true/\xs.flatMap AV.owns=[]
 |[],_=>⟨rfl,trivial,rfl,rfl⟩
 | x::r,h=>by
   cases x with
   | one x=>
     cases x with
     | c x=>obtain⟨h1,h2,h3,h4⟩:=Iz (bx:=bx) (xs:=r) h;exact⟨by simp[Ey,H9,h1],⟨trivial,h2⟩,by rw[fZ,h3];rfl,by simp[AV.owns,qH,h4]⟩
     |_=>cases h
   | agg xs=>simp only[Ot,ah]at h;obtain⟨h1,h2,h3,h4⟩:=Iz (bx:=bx) (xs:=r) h.2;obtain⟨j1,j2,j3,j4⟩:=Q5 (bx:=bx) h.1;refine⟨by simp only[bU,Ey,j1,h1],⟨j2,h2⟩,?_,by simp only[kE,AV.owns,j4,h4,mM]⟩;rw[fZ,h3,Bool.and_true];exact j3
   |AB xs=>cases h
section
variable {P:Program} {f:FuncId} {xm:List AV} {p:Bool} {d:Option Nat} {st:gY} {K:List Nat->List Nat->gY->Prop} {du:DU K}
theorem akK (st:gY):st.H8 []=st:=by
 apply gY.ext'
 ·rfl
 ·funext b;simp[gY.H8]
theorem ahI {r:AV}(h:fF P f xm r)(hs:Ot xm=true)(hr:r.all AC.zi=true)(k:K [] [] (st.BD d (.v true r))):xK P f xm true d st K du:=by obtain⟨h1,h2,h3,h4⟩:=Iz (bx:=st.bx) hs;refine xK.pure r rfl (by rw[h1];exact h) h2 (by rw[h1];exact h3) hr ?_;rw[h4,akK];exact k
theorem ahG {r:AV}(h:p=true->fF P f xm r)(hs:Ot xm=true)(hr:r.all AC.isLit=true)(k:K [] [] (st.BD d (.v p r))):xK P f xm p d st K du:=by obtain⟨h1,h2,h3,h4⟩:=Iz (bx:=st.bx) hs;refine xK.lit r (λe=>by rw[h1];exact h e) (λ_=>h2) (by rw[h1];exact h3) hr ?_;rw[h4];exact k
end
theorem apr (b:Bool):(b==true)=b:=by cases b<;>rfl
theorem apq (b:Bool):(b==false) = !b:=by cases b<;>rfl
end
section
def cI (x:Int):List Cell:=[.lit (.int .i64 x)]
def cU (x:Int):List Cell:=[.lit (.int .u8 x)]
def cK (k:IntKind)(x:Int):List Cell:=[.lit (.int k x)]
def cB (x:Bool):List Cell:=[.lit (.bool x)]
def cS (x:fD):List Cell:=[.str x]
def cL {α:Type}(sz:Nat)(f:α->List Cell)(xs:List α):List Cell:=[.sl sz (ax f xs)]
def chk (c:Prop)[Decidable c]{α:Type}(k:Option α):Option α:=if c then k else none
theorem Es {c:Prop}[Decidable c]{α:Type}{k:Option α}{r:α} : chk c k=some r<->c/\k=some r:=by unfold chk;split<;>simp[*]
theorem afK {b:Bool}{α:Type}{x y:Option α}{r:α} : cond b x y=some r<->(b=true/\x=some r)\/(b=false/\y=some r):=by cases b<;>simp
def IW (xs:List Int):fD:=xs.map λx=>gz x.toNat
theorem acy (xs:List Int):bytesOf (ax cU xs)=some (IW xs):=by
 induction xs with
 |nil=>rfl
 |cons x r ih=>simp[cU,bytesOf,ih,IW]
theorem aap : bytesOf []=some []:=rfl
theorem aaq (n:Int)(r:List (List Cell)):bytesOf ([.lit (.int .u8 n)]::r)=Option.map (λl=>gz n.toNat::l) (bytesOf r):=by simp only[bytesOf];cases bytesOf r<;>rfl
theorem Ht (xs:List Int):(IW xs).length=xs.length:=by simp[IW]
theorem afY {α:Type}[Inhabited α]{f:α->List Cell}{xs:List α}{i:Nat}(h:i<xs.length):(ax f xs).getD i []=f (xs.getD i default):=by simp[h]
theorem take_len {α:Type}{l:List α}{n:Nat}(h:l.length=n):l.take n=l:=by subst h;simp
theorem Ov {α:Type}{x:α}{l:List α}{n:Nat}(h:l.length=n):(x::l).take (1+n)=x::l:=by subst h;rw[yu];simp
theorem Ox {α:Type}{x y:α}{l:List α}{n:Nat}(h:l.length=n):(x::y::l).take (2+n)=x::y::l:=by subst h;rw[yu];simp
def VF (l:List Nat):List (Nat×Box)->List (Nat×Box)
 |[]=>[]
 |(b,x)::r=>(b,if l.contains b then JK x else x)::VF l r
theorem afX (l:List Nat)(bs:List (Nat×Box))(b:Nat):uS (VF l bs) b=if b∈l then JK (uS bs b)else uS bs b:=by
 induction bs with
 |nil=>simp[VF,uS,JK]
 | cons p r ih=>
   obtain⟨c,x⟩:=p;simp only[VF,uS,ih];by_cases h:c=b
   ·subst h;simp
   ·simp[h]
theorem aeP (ts:List (Nat×Slot))(bs:List (Nat×Box))(l:List Nat):(gY.of ts bs).H8 l=gY.of ts (VF l bs):=by
 apply gY.ext'
 ·rfl
 ·funext b
  simp only[gY.H8];rw[Fq,Fq,afX]
theorem ah5 (bs:List (Nat×Box)):VF [] bs=bs:=by
 induction bs with
 |nil=>rfl
 |cons p r ih=>obtain⟨c,x⟩:=p;simp[VF,ih]
def TGK (g:Bool)(o:nR)(d:Option Nat)(st:gY)(K:List Nat->List Nat->gY->Prop)(_:DU o)(_:DU K):Prop:=TOp o g d st K
def amd (valid:Prop)(rd:List Nat)(r:FR)(d:Option Nat)(st:gY)(K:List Nat->List Nat->gY->Prop)(_:DU K):Prop:=
 valid/\r.vc/\K rd (r.sets.map (·.1)) ((st.vJ r.sets).BD d (.v true r.v))
section
variable {P:Program} {st:gY} {K:List Nat->List Nat->gY->Prop}
theorem amc {g:Option (Nat×Bool)}{d:Option Nat}{op:nR}{d1:DU (lK.mk g d (.op op))}{d2:DU K} :
 TK P ⟨g,d,.op op⟩ st K d1 d2=(EM st.tm g/\TGK (uV st.tm g) op d st K .mk .mk):=by
 unfold TK T TGK;rfl
theorem anR {op:nR}{d:Option Nat}{d1:DU op}{d2:DU K} : TGK true op d st K d1 d2=amd (op.valid (pU.ev st.tm)) (op.rd (fK st.tm)) (op.f (fK st.tm) st.bx) d st K .mk:=by unfold TGK TOp amd;simp
theorem anQ {op:nR}{d:Option Nat}{d1:DU op}{d2:DU K} : TGK false op d st K d1 d2=K [] [] (st.BD d (.v false (.one .Ns))):=by unfold TGK TOp;simp
theorem ame {valid:Prop}{rd:List Nat}{vc:Prop}{v:AV}{sets:List (Nat×Box)}{d:Option Nat}{du:DU K} :
 amd valid rd ⟨vc,v,sets⟩ d st K du=(valid/\vc/\K rd (sets.map (·.1)) ((st.vJ sets).BD d (.v true v))):=rfl
end
section
variable {P:Program} {f:FuncId} {xm:List AV} {d:Option Nat} {st:gY} {K:List Nat->List Nat->gY->Prop} {du:DU K}
theorem alH {acn:List AV}{r:AV}(h:fF P f acn r)(he:xm.map (Ey st.bx)=acn)(hl:AX st.bx xm)(hd:acn.all (·.all AC.zi)=true)(hr:r.all AC.zi=true)
 (k:K (xm.flatMap AV.owns) (xm.flatMap AV.owns) ((st.H8 (xm.flatMap AV.owns)).BD d (.v true r))):xK P f xm true d st K du:=by
 subst he;exact xK.pure r rfl h hl hd hr k
theorem alI {acn:List AV}{r:AV}(h:fF P f acn r)(he:xm.map (Ey st.bx)=acn)(hl:AX st.bx xm)(hd:acn.all (·.all AC.zi)=true)(hr:r.all AC.isLit=true)
 (k:K (xm.flatMap AV.owns) [] (st.BD d (.v true r))):xK P f xm true d st K du:=by
 subst he;exact xK.lit r (λ_=>h) (λ_=>hl) hd hr k
theorem ahH (k:K (xm.flatMap AV.owns) [] (st.BD d (.v false (.one (.c (.lit (.bool true))))))):xK P f xm false d st K du:=
 OJ.lit [] (.one (.c (.lit (.bool true)))) (λe=>by cases e) rfl (λe=>by cases e) rfl k
def Xm (st:gY)(sg:List Nat):List Box->Nat->Prop
 |[],_=>True
 |x::r,i=>st.bx (sg.getD i 0)=Fa (λb=>sg.getD b 0) x/\Xm st sg r (i+1)
theorem ZA {st:gY}{sg:List Nat} : ∀{fp:List Box} {i0 i:Nat},Xm st sg fp i0->i<fp.length->st.bx (sg.getD (i0+i) 0)=Fa (λb=>sg.getD b 0) (fp.getD i .absent)
 |[],_,_,_,h=>by simp at h
 |x::r,i0,0,h,_=>by simpa using h.1
 | x::r,i0,i+1,h,hi=>by have:=ZA (i:=i) h.2 (by simpa using hi);simpa[uf,yu 1 i]using this
def Xh (st:gY):List Nat->Prop
 |[]=>True
 |b::r=>st.bx b = .absent/\10<=b/\Xh st r
theorem Zg {st:gY} : ∀{nu:List Nat},Xh st nu->∀b,b∈nu->st.bx b = .absent/\10<=b
 |[],_,_,h=>by cases h
 | c::r,h,b,hb=>by
   rcases aK.1 hb with e|e
   ·subst e;exact⟨h.1,h.2.1⟩
   ·exact Zg h.2.2 b e
theorem anV {ds:List AV}{fp H7:List Box}{r0:AV}(sg nu:List Nat)(h:pO P f ds fp (λr bs=>r=r0/\bs=H7))(hl:sg.length=fp.length)(hn:nodupB (sg++nu)=true)(hf:Xm st (sg++nu) fp 0)(hv:Xh st nu)
 (hra:(ds.all λx=>x.all (AC.xN fp.length))=true) (hrf:fp.all (Box.xN fp.length)=true) (ha:xm=ds.map (FK λb=>(sg++nu).getD b 0)) (hb:H7.length=(sg++nu).length)
 (k:K (sg++nu) (sg++nu) ((st.vJ ((sg++nu).zip (H7.map (Fa λb=>(sg++nu).getD b 0)))).BD d (.v true (FK (λb=>(sg++nu).getD b 0) r0)))):xK P f xm true d st K du:=by
 refine OJ.gen rfl ds fp sg nu _ hl (Py.1 hn) (λi hi=>?_) ⟨r0,H7,rfl,rfl⟩ (Zg hv) hra hrf ha h (λr bs hp=>?_)
 ·have:=ZA (i:=i) hf hi;rw[fV]at this;exact this
 ·obtain⟨rfl,rfl⟩:=hp;exact⟨hb,k⟩
end
section
variable {P:Program} {f:FuncId} {xm:List AV} {d:Option Nat} {st:gY} {K:List Nat->List Nat->gY->Prop} {du:DU K}
theorem anW {ds:List AV}{fp H7:List Box}{r0:AV}(sg nu:List Nat)(h:pO P f ds fp (λr bs=>r=r0/\bs=H7))(he:xm.map (Ey st.bx)=ds.map (FK λb=>(sg++nu).getD b 0))(hlo:AX st.bx xm)
 (hl:sg.length=fp.length) (hn:nodupB (sg++nu)=true) (hf:Xm (st.H8 (xm.flatMap AV.owns)) (sg++nu) fp 0) (hv:Xh st nu)
 (hra:(ds.all λx=>x.all (AC.xN fp.length))=true) (hrf:fp.all (Box.xN fp.length)=true) (hb:H7.length=(sg++nu).length)
 (k:K (xm.flatMap AV.owns++(sg++nu)) (xm.flatMap AV.owns++(sg++nu)) (((st.H8 (xm.flatMap AV.owns)).vJ ((sg++nu).zip (H7.map (Fa λb=>(sg++nu).getD b 0)))).BD d (.v true (FK (λb=>(sg++nu).getD b 0) r0)))):xK P f xm true d st K du:=by
 refine OJ.Uj rfl _ (Nw hlo) ds fp sg nu _ hl (Py.1 hn) (λi hi=>?_) ⟨r0,H7,rfl,rfl⟩ (Zg hv) hra hrf he h (λr bs hp=>?_)
 ·have:=ZA (i:=i) hf hi;rw[fV]at this;exact this
 ·obtain⟨rfl,rfl⟩:=hp;exact⟨hb,k⟩
end
theorem aiN (Ik:List Nat)(log:List (Nat×List Nat×List Nat)):Az Ik [] [] log=true:=by
 induction log with
 |nil=>rfl
 |cons e r ih=>obtain⟨j,a,b⟩:=e;simp[Az,Pj,ih]
theorem aiM (Ik rd wr:List Nat):Az Ik rd wr []=true:=rfl
theorem amj (bs:List Box):Dj bs=uS (FW bs 0):=by
 funext b
 rw[NC];simp[Dj]
theorem Tf {rs:List zh}{ts:List (Nat×Slot)}{H7:List (Nat×Box)}{m:Nat}{r:AV}{bs:List Box}(zs:List Nat)(pi:List (Nat×Nat))(vs:List Nat)(hk:SA m H7 (FW bs 0) pi vs=true)
 (hok:Jh (gY.of ts H7) rs) (hb:WS zs (uS H7) (WY pi) vs (FW bs 0)) (hv:wkV zs (uS H7) (WY pi) vs (Xj (gY.of ts H7) rs) r) :
 LU rs m (λr1 b1=>r1=r/\b1=bs) (gY.of ts H7):=by
 refine⟨hok,r,bs,zs,WY pi,vs,⟨rfl,rfl⟩,?_,?_⟩
 ·rw[Pz,amj];exact ajO zs pi vs hk hb
 ·rw[Pz];exact hv
end
theorem G8 {x:Int}(h0:0<=x)(h1:x<9223372036854775808):af .i64 x=x:=by simp only[af,Go.IntKind.bits,Go.IntKind.signed];simp;omega
theorem ap0 {α:Type}(es:List α)(v:α)(i:Nat)(h:i<es.length) :
 splice (splice es (i+1) (((es.drop i).take (min (es.length+1-i) (es.length+1-(i+1)))).take (es.length+1-(i+1)))) i ([v].take (es.length+1-i))=es.take i++v::es.drop i:=by
 have e1:[v].take (es.length+1-i)=[v]:=bz (by simp;omega);have e2:((es.drop i).take (min (es.length+1-i) (es.length+1-(i+1)))).take (es.length+1-(i+1))=es.drop i:=by rw[bz (by simp;omega),bz (by simp;omega)]
 rw[e1,e2];simp only[splice];have e3:es.drop (i+1+(es.drop i).length)=[]:=Ce (by simp;omega);rw[e3,mM];have e4:(es.take (i+1)).length=i+1:=by simp;omega
 rw[wX aI,List.take_take,Nat.min_eq_left aI,List.length_singleton,List.drop_append_of_le_length aI,ay aI];simp
theorem ap1 {α:Type}(es:List α)(v z:α)(i k:Nat)(h:i<es.length)(hk:k=i+(es.length+1-i)) :
 splice (splice (es.take i++bY (es.length+1-i) z) i ([v].take (k-i))) (i+1) (((es.drop i).take (min (es.length-i) (k-(i+1)))).take (k-(i+1)))=es.take i++v::es.drop i:=by
 have hk2:k=es.length+1:=by omega
 subst hk2;have e1:[v].take (es.length+1-i)=[v]:=bz (by simp;omega);have e2:((es.drop i).take (min (es.length-i) (es.length+1-(i+1)))).take (es.length+1-(i+1))=es.drop i:=by rw[bz mg,bz mg]
 rw[e1,e2];have e4:(es.take i).length=i:=by simp;omega
 obtain⟨q,hq⟩:∃q,es.length+1-i=q+1:=⟨es.length-i,aI⟩;rw[hq,List.replicate_succ];have e5:splice (es.take i++z::bY q z) i [v]=es.take i++[v]++bY q z:=by simp only[splice];rw[wX aI,bz aI,List.drop_append,ay (by rw[e4];omega),lC,e4];simp
 rw[e5];have e6:(es.take i++[v]).length=i+1:=by rw[bZ,e4];rfl
 simp only[splice];have e7:(es.take i++[v]++bY q z).drop (i+1+(es.drop i).length)=[]:=Ce (by rw[bZ,e6,List.length_replicate,List.length_drop];omega);rw[e7,wX aI,bz aI];simp
theorem an0 {α:Type}(f:α->List Cell)(k:Nat)(hf:∀t,(f t).length<=k){l:List α}{i j:Nat}{v:List Cell}(hv:v.length<=k):oM k (((ax f l).set i v).getD j [])=[]:=by
 have key:∀(m:List (List Cell)),(∀y,y∈m->y.length<=k)->oM k (m.getD j [])=[]:=by
  intro m hm;apply ay;by_cases hj:j<m.length
  ·rw[show m.getD j []=m[j] by simp[List.getD,hj]];exact hm _ (List.getElem_mem hj)
  ·rw[show m.getD j []=[] by simp[List.getD,kV (Nat.le_of_not_lt hj)]];simp
 apply key;intro y hy;rcases List.mem_or_eq_of_mem_set hy with h|h
 ·obtain⟨t,_,rfl⟩:=bu.1 h;exact hf t
 ·rw[h];exact hv
theorem ams {l:List fD}{i j:Nat}{x:Cell} : oM 1 (((ax cS l).set i [x]).getD j [])=[]:=an0 cS 1 (λt=>by simp[cS]) mg
section
inductive MA where
 |int (o:Nat)
 |str (o:Nat)
 |sub (o f:Nat)
 deriving DecidableEq
abbrev FP :=Nat->Option (Nat×Nat×List MA)
inductive Jb where
 |C (f:Nat) (c:Cell) (k:Int) (c':Cell) (k':Int)
 |L (acts:List MA) (es:List (List Cell)) (k:Int) (es':List (List Cell)) (k':Int)
 |E (acts:List MA) (e:List Cell) (k:Int) (e':List Cell) (k':Int)
def inR (k:Int):Prop:=0<=k/\k<4611686018427387904
inductive CX (mt:FP)(tx:Int->List UInt8):Jb->Prop
 |c {f T sz:Nat} {acts:List MA} {es es':List (List Cell)} {k k':Int} (h:mt f=some (T,sz,acts)) (hk:inR k) (hl:CX mt tx (.L acts es k es' k')):CX mt tx (.C f (.sl sz es) k (.sl sz es') k')
 |l0 {acts:List MA} {k:Int} : CX mt tx (.L acts [] k [] k)
 |l1 {acts:List MA} {e e':List Cell} {es es':List (List Cell)} {k k1 k2:Int} (h:CX mt tx (.E acts e k e' k1)) (t:CX mt tx (.L acts es k1 es' k2)):CX mt tx (.L acts (e::es) k (e'::es') k2)
 |e0 {e:List Cell} {k:Int} : CX mt tx (.E [] e k e k)
 |ei {o:Nat} {r:List MA} {e e':List Cell} {k k':Int} (hk:inR k) (hk':inR (k+1)) (ho:o<e.length) (h:CX mt tx (.E r (e.set o (.lit (.int .i64 k))) (k+1) e' k')):CX mt tx (.E (.int o::r) e k e' k')
 |es {o:Nat} {r:List MA} {e e':List Cell} {k k':Int} (hk:inR k) (hk':inR (k+1)) (ho:o<e.length) (h:CX mt tx (.E r (e.set o (.str (tx k))) (k+1) e' k')):CX mt tx (.E (.str o::r) e k e' k')
 |ef {o f:Nat} {r:List MA} {e e':List Cell} {c c1:Cell} {k k1 k2:Int} (hc:e[o]? = some c) (h:CX mt tx (.C f c k c1 k1)) (t:CX mt tx (.E r (e.set o c1) k1 e' k2)):CX mt tx (.E (.sub o f::r) e k e' k2)
def E0 : JX:=[(0,.arr),(1,.cnt),(5,.idx)]
def stR (P:Program)(E8 sz m o:Nat)(sv:SV):JX->List Oper->Bool
 | env,[x]=>(match x.guard,x.dst,x.op with
   |none,none,.store t (.tmp p) (.tmp v)=>MG P t false 1&&decide (env.look p=some (.ptr o)/\env.look v=some sv/\o<sz)
   |_,_,_=>false)
 | env,x::r=>(match qop P E8 sz env x,x.dst with
   |some env',some d=>decide (d<m)&&stR P E8 sz m o sv env' r
   |_,_=>false)
 |_,[]=>false
def abJ (P:Program)(E8 sz m o f:Nat):JX->List Oper->Bool
 | env,[x,y]=>(match x.guard,x.dst,x.op with
   | none,some d,.call ⟨.value (.func f'),⟨[.tmp v,.tmp c]⟩,_⟩=>decide (f'=f/\env.look v=some (.val o)/\env.look c=some .cnt/\env.look d=none/\d<m/\o<sz)&&zL P f'&&(match y.guard,y.dst,y.op with
     |none,some 1,.assign (.tmp d')=>d'==d
     |_,_,_=>false)
   |_,_,_=>false)
 | env,x::r=>(match qop P E8 sz env x,x.dst with
   |some env',some d=>decide (d<m)&&abJ P E8 sz m o f env' r
   |_,_=>false)
 |_,[]=>false
def ade (m c:Nat):List Oper->Bool
 | [x,y,z]=>(match x.guard,x.dst,x.op,y.guard,y.dst,y.op with
   | none,some t,.move (.tmp s),none,some t',.binOp .add _ (.tmp u) (.const (.int .i64 1)) _=>s==c&&u==t&&decide (t≠0/\t≠1/\t≠5/\t'≠0/\t'≠1/\t'≠5/\t<m/\t'<m)&&(match z.guard,z.dst,z.op with
     |none,some d,.assign (.tmp s')=>d==c&&s'==t'
     |_,_,_=>false)
   |_,_,_,_,_,_=>false)
 |_=>false
section
variable {P:Program} {E8 sz:Nat} {tx:Int->List UInt8} {kb i n c m:Nat} {k:Int}
variable {ops:Array Oper} {Q:Exit->Act->World->Prop} {rest:List Oper} {o:Oper} {a:Act} {w w':World} {v:Value}
theorem ES.base {env:JX}(h:ES tx sz kb i n c m k env a w)(hb:∀t v,E0.look t=some v->env.look t=some v):ES tx sz kb i n c m k E0 a w:=⟨h.size,h.defers,λt v hv=>h.den t v (hb t v hv)⟩
theorem acU (h1:a.tmps.size=m)(h2:a.defers=[])(h3:a.tmps.getD 0 undef = .slice (some ⟨kb,0,none⟩) n c)(h4:a.tmps.getD 1 undef = .int .i64 k)(h5:a.tmps.getD 5 undef = .int .i64 (i:Int)):ES tx sz kb i n c m k E0 a w:=by
 refine⟨h1,h2,λt v hv=>?_⟩;simp only[E0,JX.look]at hv;split at hv
 ·rename_i e;simp at e;subst e;cases hv;exact h3
 ·split at hv
  ·rename_i e;simp at e;subst e;cases hv;exact h4
  ·split at hv
   ·rename_i e;simp at e;subst e;cases hv;exact h5
   ·cases hv
theorem ES.arr (h:ES tx sz kb i n c m k E0 a w):a.tmps.getD 0 undef = .slice (some ⟨kb,0,none⟩) n c:=h.den 0 .arr rfl
theorem ES.cnt (h:ES tx sz kb i n c m k E0 a w):a.tmps.getD 1 undef = .int .i64 k:=h.den 1 .cnt rfl
theorem ES.idx (h:ES tx sz kb i n c m k E0 a w):a.tmps.getD 5 undef = .int .i64 (i:Int):=h.den 5 .idx rfl
theorem ali (t:TypeId)(x:Int)(w:World):(binOp .add t (.int .i64 x) (.int .i64 1)).run P w = .ok (.int .i64 (Go.IntKind.i64.wrap (x+1))) w:=by simp[binOp,Go.Op.intArith]
theorem XP {cc:Nat}{os:List Oper}(hc:ade m cc os=true)(hs:a.tmps.size=m)(hd:a.defers=[]){x:Int}(hx:a.tmps.getD cc undef = .int .i64 x)(hr:0<=x+1/\x+1<9223372036854775808)(hcc:cc<m)(ara:cc=0\/cc=1\/cc=5)
 (hk:∀a',a'.tmps.size=m->a'.defers=[]->a'.tmps.getD cc undef = .int .i64 (x+1)->(∀t,t≠cc->(t=0\/t=1\/t=5)->a'.tmps.getD t undef=a.tmps.getD t undef)->Q .normal a' w):wpList P ops Q os a w:=by
 unfold ade at hc;split at hc
 ·rename_i x0 y z;split at hc
  ·rename_i t s t' ty1 u ty2 g1 d1 p1 g2 d2 p2;simp only[ah,aZ,aF]at hc;obtain⟨⟨⟨es,eu⟩,q1,q2,q3,q4,q5,q6,q7,q8⟩,hc⟩:=hc;split at hc
   ·rename_i d s' g3 d3 p3;simp only[ah,aZ]at hc;obtain⟨ed,es'⟩:=hc;rw[es]at p1;rw[eu]at p2;rw[ed]at d3;rw[es']at p3;have hts:t<a.tmps.size:=(by rw[hs];exact q7);have e1:(a.put (some t) (a.tmps.getD cc undef)).tmps.getD t undef = .int .i64 x:=(by rw[iq hts,hx]);refine vV (v:=a.tmps.getD cc undef) g1 (by unfold execOp;rw[p1];rfl) ?_;rw[d1];refine vV (v:=.int .i64 (x+1)) (w':=w) g2 ?_ ?_
    ·have v1:(a.put (some t) (a.tmps.getD cc undef)).eval (.tmp t) = .int .i64 x:=e1;have hr0:(binOp .add ty1 (.int .i64 x) (.int .i64 1)).run P w = .ok (.int .i64 (x+1)) w:=(by rw[ali,G8 hr.1 hr.2]);have hq:∀v,(eqGuard .add ty1 (.tmp t) (.const (.int .i64 1)) (.int .i64 x) v).run P w = .ok () w:=λv=>EN _ _ _ _ _ _ _ _;have v2:(a.put (some t) (a.tmps.getD cc undef)).eval (.const (.int .i64 1)) = .int .i64 1:=rfl;unfold execOp;rw[p2];simp only[v1,v2,dN,hq,hr0,bT,dA]
    rw[d2];have apU:t'<((a.put (some t) (a.tmps.getD cc undef))).tmps.size:=(by simp[jH,hs];exact q8);have e2:((a.put (some t) (a.tmps.getD cc undef)).put (some t') (.int .i64 (x+1))).tmps.getD t' undef = .int .i64 (x+1):=iq apU;refine vV (v:=.int .i64 (x+1)) (w':=w) g3 (by unfold execOp;rw[p3];exact sK (λv=>oO (nU v) w) e2) ?_;rw[d3];refine hk _ (by simp[jH,hs]) hd (iq (by simp[jH,hs];exact hcc)) (λy hy h3=>?_);have n1:y≠t:=(by rcases h3 with rfl|rfl|rfl<;>first|exact λe=>q1 e.symm|exact λe=>q2 e.symm|exact λe=>q3 e.symm);have n2:y≠t':=(by rcases h3 with rfl|rfl|rfl<;>first|exact λe=>q4 e.symm|exact λe=>q5 e.symm|exact λe=>q6 e.symm);rw[o7 hy,o7 n2,o7 n1]
   ·cases hc
  ·cases hc
 ·cases hc
theorem Ye {oo:Nat}{sv:SV} : ∀{os:List Oper} {env:JX} {a:Act} {w:World},stR P E8 sz m oo sv env os=true->ES tx sz kb i n c m k env a w->(∀t v,E0.look t=some v->env.look t=some v)->i<n->LW P E8 tx->0<=k->k<4611686018427387904 ->
 ∀{I0:IH},Tabs P I0->Agree I0 w->∀{cs:Array Value} {e:TypeId},w.heap[kb]? = some (.cells cs e (0,0))->(∀off,off<sz->i*sz+off<cs.size)->(∀x w,sv.den tx sz kb i n c k w x->x.cells = #[x]/\x.oneCell'=true) ->
 (∀a' w1 x,ES tx sz kb i n c m k E0 a' w1->DW w w1 (λ_=>False)->w1.heap[kb]? = some (.cells cs e (0,0))->sv.den tx sz kb i n c k w1 x->oo<sz->Q .normal a' (w1.setRow kb (splice cs.toList (i*sz+oo) [x]).toArray))->wpList P ops Q os a w
 |[],_,_,_,hc,_,_,_,_,_,_,_,_,_,_,_,_,_,_,_=>by simp[stR]at hc
 | [x],env,a,w,hc,h,hb,hi,ht,h0,h1,I0,hT,hA,cs,e,hw,hfit,hone,hk=>by
   simp only[stR]at hc;split at hc
   ·rename_i t p v g1 d1 p1;simp only[ah,aF]at hc;obtain⟨hty,l1,l2,hlt⟩:=hc;have v1:a.eval (.tmp p) = .pointer (some ⟨kb,i*sz+oo,none⟩):=h.den p _ l1;have v2:=h.den v _ l2;obtain⟨o1,o2⟩:=hone _ _ v2;have hst:=Q3 (P:=P) (off:=i*sz+oo) (v:=a.tmps.getD v undef) hty (by rw[o1];rfl) hw (by have:=hfit oo hlt;omega) (λj u hu=>by
     rw[o1]at hu
     match j with
     |0=>cases hu;exact o2
     |j+1=>simp at hu)
    rw[o1]at hst;have v3:a.eval (.tmp v)=a.tmps.getD v undef:=rfl;refine step_skip (w':=w.setRow kb (splice cs.toList (i*sz+oo) [a.tmps.getD v undef]).toArray) g1 (by simp only[execOp,p1,v1,v3,dN,hst,bT,dA]) ?_;rw[d1];exact hk _ w _ (h.base hb) (DW.refl _ _) hw v2 hlt
   ·cases hc
 | x::y::r,env,a,w,hc,h,hb,hi,ht,h0,h1,I0,hT,hA,cs,e,hw,hfit,hone,hk=>by
   simp only[stR]at hc;split at hc
   ·rename_i env' d hq hd;simp only[ah,aF]at hc;have hkb:kb<w.heap.size:=Ac hw;refine X9 hq (λd' hd'=>by rw[hd]at hd';cases hd';exact hc.1) h hi ht h0 h1 hT hA hkb (λoff ho=>?_) (λa' w1 h' hF=>?_)
    ·exact⟨cs[i*sz+off]'(hfit off ho),by simp only[iy,hw];simp[hfit off ho]⟩
    ·refine Ye hc.2 h' (λt v hv=>abt hq (hb t v hv)) hi ht h0 h1 hT (hA.other λk' c' hc'=>hF.block k' (hA.lt hc') λh=>h) (by rw[hF.block kb hkb (λh=>h)];exact hw) hfit hone (λa2 w2 x h2 hF2=>hk a2 w2 x h2 (hF.trans hF2 λ_ _ h=>h))
   ·cases hc
theorem WG {oo f:Nat} : ∀{os:List Oper} {env:JX} {a:Act} {w:World},abJ P E8 sz m oo f env os=true->ES tx sz kb i n c m k env a w->(∀t v,E0.look t=some v->env.look t=some v)->i<n->LW P E8 tx->0<=k->k<4611686018427387904 ->
 ∀{I0:IH},Tabs P I0->Agree I0 w->∀{cs:Array Value} {e:TypeId},w.heap[kb]? = some (.cells cs e (0,0))->(∀off,off<sz->i*sz+off<cs.size)->5<m->∀{k1:Int} {R:World->World->Prop},
 (∀w1 x,DW w w1 (λ_=>False)->cs[i*sz+oo]? = some x->oo<sz->Calls P f #[x,.int .i64 k] w1 λe w'=>e = .returned (.int .i64 k1)/\R w1 w') ->
 (∀a' w1 w',ES tx sz kb i n c m k1 E0 a' w'->DW w w1 (λ_=>False)->R w1 w'->Q .normal a' w')->wpList P ops Q os a w
 |[],_,_,_,hc,_,_,_,_,_,_,_,_,_,_,_,_,_,_,_,_,_,_=>by simp[abJ]at hc
 | [x],env,a,w,hc,_,_,_,_,_,_,_,_,_,_,_,_,_,_,_,_,_,_=>by
   simp only[abJ]at hc;split at hc
   ·simp at hc
   ·cases hc
 | [x,y],env,a,w,hc,h,hb,hi,ht,h0,h1,I0,hT,hA,cs,e,hw,hfit,hm5,k1,R,hcall,hk=>by
   simp only[abJ]at hc;split at hc
   ·rename_i d f' v cc ts g1 d1 p1;simp only[ah,aF]at hc;obtain⟨⟨⟨rfl,l1,l2,l3,l4,l5⟩,hok⟩,hc⟩:=hc;split at hc
    ·rename_i d' g2 d2 p2;simp only[aZ]at hc;subst hc;have v1:=h.den v _ l1;have v2:a.eval (.tmp cc) = .int .i64 k:=h.den cc _ l2;have hx:cs[i*sz+oo]? = some (a.tmps.getD v undef):=by
      simp only[SV.den,iy,hw]at v1;simpa using v1
     have he:=Hf (w:=w) (a:=a) p1 (f:=f') (x:=.func f') (caps:= #[]) rfl hok;have v3:a.eval (.tmp v)=a.tmps.getD v undef:=rfl;refine Ou g1 (f:=f') (args:= #[a.tmps.getD v undef,.int .i64 k]) (by simpa[v2,v3]using he) ((hcall w _ (DW.refl _ _) hx l5).mono ?_);rintro e w' ⟨rfl,hR⟩;refine⟨_,rfl,?_⟩;rw[d1];have e2:(a.put (some d') (.int .i64 k1)).tmps.getD d' undef = .int .i64 k1:=iq (by rw[h.size];exact l4);refine vV (v:=.int .i64 k1) (w':=w') g2 (by unfold execOp;rw[p2];exact sK (λv=>oO (nU v) w') e2) ?_;rw[d2];have hb0:=h.base hb;have nd:∀{t v},env.look t=some v->t≠d':=λht e=>(by subst e;rw[l3]at ht;cases ht);refine hk _ w w' (acU (by simp[jH,h.size]) h.defers ?_ (iq (by simp[jH,h.size];omega)) ?_) (DW.refl _ _) hR
     ·rw[o7 aI,o7 (nd (hb 0 .arr rfl))];exact hb0.arr
     ·rw[o7 aI,o7 (nd (hb 5 .idx rfl))];exact hb0.idx
    ·cases hc
   ·cases hc
 | x::y::z::r,env,a,w,hc,h,hb,hi,ht,h0,h1,I0,hT,hA,cs,e,hw,hfit,hm5,k1,R,hcall,hk=>by
   simp only[abJ]at hc;split at hc
   ·rename_i env' d hq hd;simp only[ah,aF]at hc;have hkb:kb<w.heap.size:=Ac hw;refine X9 hq (λd' hd'=>by rw[hd]at hd';cases hd';exact hc.1) h hi ht h0 h1 hT hA hkb (λoff ho=>?_) (λa' w1 h' hF=>?_)
    ·exact⟨cs[i*sz+off]'(hfit off ho),by simp only[iy,hw];simp[hfit off ho]⟩
    ·exact WG hc.2 h' (λt v hv=>abt hq (hb t v hv)) hi ht h0 h1 hT (hA.other λk' c' hc'=>hF.block k' (hA.lt hc') λh=>h) (by rw[hF.block kb hkb (λh=>h)];exact hw) hfit hm5
      (λw2 x hF2=>hcall w2 x (hF.trans hF2 λ_ _ h=>h)) (λa2 w2 w3 h2 hF2=>hk a2 w2 w3 h2 (hF.trans hF2 λ_ _ h=>h))
   ·cases hc
end
end
section
def D8 (P:Program)(Q:Exit->Act->World->Prop):List (Array Oper)->Act->World->Prop
 |[]=>Q .normal
 |ops::r=>λa w=>wpList P ops (Exit.then (D8 P Q r) Q) ops.toList a w
def Wh : Code->Option (List (Array Oper))
 |.region _ ops false=>some [ops]
 |.seq (.region _ ops false) c=>(Wh c).map (ops :: ·)
 |_=>none
theorem alc {P:Program}{Q:Exit->Act->World->Prop} : ∀{c:Code} {L:List (Array Oper)} {a:Act} {w:World},Wh c=some L->D8 P Q L a w->c.wp P Q a w:=by
 intro c L a w hc h
 fun_induction Wh c generalizing L a w with
 | case1 id ops=>cases hc;have e:Exit.then (Q .normal) Q=Q:=(by funext e;cases e<;>rfl);simp only[D8,e]at h;exact wp_region_list h
 | case2 id ops c ih=>
   simp only[dD]at hc;obtain⟨L',hL,rfl⟩:=hc;simp only[D8]at h;refine wp_seq (wp_mono (wp_region_list h) ?_);intro e a w hq;cases e with
   |normal=>exact ih hL hq
   |_=>exact hq
 |case3=>cases hc
def Ui (P:Program)(E8:Nat)(mt:FP)(T sz m:Nat):List MA->List (Array Oper)->Bool
 |[],[]=>true
 |.int o::r,x::y::rs=>stR P E8 sz m o .cnt E0 x.toList&&ade m 1 y.toList&&((oD P T).all λe=>e.1 != o)&&Ui P E8 mt T sz m r rs
 |.str o::r,x::y::rs=>stR P E8 sz m o .txt E0 x.toList&&ade m 1 y.toList&&((oD P T).all λe=>e.1 != o)&&Ui P E8 mt T sz m r rs
 | .sub o f::r,x::rs=>abJ P E8 sz m o f E0 x.toList&&(match mt f with
   |some (T',_,_)=>(oD P T).contains (o,T')&&(oD P T).all λe=>e.1 != o||e.2==T'
   |none=>false)&&Ui P E8 mt T sz m r rs
 |_,_=>false
structure EX (P:Program)(g:Own)(I0 I:IH)(w:World)(T:Nat)(q:zo)(kb n cap sz:Nat)(es:List (List Cell)):Prop where
 good:Good P g w
 tabs:Tabs P I0
 PU:Agree I0 w
 old:∀b c,I0 b=some c->g b=none
 ag:Agree I w
 at':g.at kb n T q
 root:O3 g q
 rd:Rd I (.slice (some ⟨kb,0,none⟩) n cap) (.sl sz es)
 ty:N7 P T (.sl sz es)
structure Post (P:Program)(g:Own)(I:IH)(w:World)(q:zo)(u:Value)(T:Nat)(c':Cell)(w':World):Prop where
 good:Good P g w'
 DT:DW w w' (Under g q)
 rd:∃J,Agree J w'/\(∀b,¬Under g q b->J b=I b)/\Rd J u c'
 ty:N7 P T c'
def aht (P:Program)(mt:FP)(f:Nat)(c:Cell)(k:Int)(c':Cell)(k':Int):Prop:=∀(g:Own) (I0 I:IH) (w:World) (T:Nat) (q:zo) (u:Value),(∃sz acts,mt f=some (T,sz,acts))->Good P g w->Tabs P I0->Agree I0 w->(∀b c,I0 b=some c->g b=none)->Agree I w ->
 GR g u T q->O3 g q->Rd I u c->N7 P T c->Calls P f #[u,.int .i64 k] w λe w'=>e = .returned (.int .i64 k')/\Post P g I w q u T c' w'
section
variable {P:Program} {g:Own} {I0 I J:IH} {w w':World} {T kb n cap sz i o:Nat} {q:zo} {es:List (List Cell)}
theorem Agree.quiet (h:Agree I w)(hF:DW w w' λ_=>False):Agree I w':=h.other λk' c' hc'=>hF.block k' (h.lt hc') λh=>h
theorem Good.quiet (h:Good P g w)(hF:DW w w' λ_=>False):Good P g w':=h.world λk hk=>by
 cases hx:g k with
 |none=>exact eF hx hk
 |some B=>exact hF.block k (h.lt hx) λh=>h
theorem EX.quiet (h:EX P g I0 I w T q kb n cap sz es)(hF:DW w w' λ_=>False):EX P g I0 I w' T q kb n cap sz es:=
 { h with good:=h.good.quiet hF,PU:=h.PU.quiet hF,ag:=h.ag.quiet hF }
theorem EX.row (h:EX P g I0 I w T q kb n cap sz es)(hi:i<n):∃cs e,w.heap[kb]? = some (.cells cs e (0,0))/\(0<sz->I kb=some cs)/\(∀off,off<sz->i*sz+off<cs.size)/\(∀off,off<sz->∃u,cs[i*sz+off]? = some u/\∀c,(es.getD i [])[off]? = some c->Rd I u c):=by
 obtain⟨cs,e,hw,_⟩:=h.good.arr _ _ _ h.at'.1;have hrd:=h.rd;cases hrd with
 |sl _ _ _ _ _ u hlen hcap hmax hsz ha hcl hr=>
 have hI:∀off,off<sz->∃row,I kb=some row/\row[i*sz+off]? = some (u i off):=λoff ho=>by
  have h0:=hcl _ rfl i off hi ho;rw[Addr.uw,fV]at h0;unfold IH.cell at h0;simp only[Bf,qw,if_false]at h0;cases hx:I kb with
  |none=>rw[hx]at h0;cases h0
  |some row=>rw[hx]at h0;exact⟨row,rfl,h0⟩
 have hrow:∀row,I kb=some row->row=cs:=λrow hx=>by obtain⟨e',fr',hw'⟩:=h.ag kb row hx;rw[hw]at hw';cases hw';rfl
 refine⟨cs,e,hw,λhs=>?_,λoff ho=>?_,λoff ho=>?_⟩
 ·obtain⟨row,h1,_⟩:=hI 0 hs;rw[h1,hrow row h1]
 ·obtain⟨row,h1,h2⟩:=hI off ho;rw[hrow row h1]at h2;exact(eH.1 h2).1
 ·obtain⟨row,h1,h2⟩:=hI off ho;rw[hrow row h1]at h2;exact⟨_,h2,λc hc=>hr i off c hc⟩
theorem RX {α:Type}{es:List (List α)}{i i':Nat}{x:List α}(hi:i<es.length):(es.set i x).getD i' []=if i'=i then x else es.getD i' []:=by
 simp only[cZ,rq];by_cases e:i=i'
 ·subst e;simp[hi]
 ·rw[au e,au (λh=>e h.symm)]
theorem N7.set {c':Cell}{T':Nat}(h:N7 P T (.sl sz es))(hi:i<es.length)(hc:∀sz' es',c' = .sl sz' es'->(o,T')∈oD P T/\N7 P T' c')(hu:∀T2,(o,T2)∈oD P T->T2=T'):N7 P T (.sl sz (es.set i ((es.getD i []).set o c'))):=by
 cases h with
 |sl _ _ _ t hs h1 h2=>
 have hget:∀i' j' x,((es.set i ((es.getD i []).set o c')).getD i' [])[j']? = some x->(i'=i/\j'=o/\x=c')\/(es.getD i' [])[j']? = some x:=by
  intro i' j' x hx;rw[RX hi]at hx;by_cases e:i'=i
  ·rw[aA e,rq]at hx;split at hx
   ·rename_i e2;split at hx
    ·cases hx;exact .inl ⟨e,e2.symm,rfl⟩
    ·cases hx
   ·right;rw[e];exact hx
  ·rw[au e]at hx;exact .inr hx
 refine .sl _ _ _ (λy=>if y=o then T' else t y) hs (λi' j' sz' es' hx=>?_) (λi' j' sz' es' hx=>?_)
 ·rcases hget _ _ _ hx with⟨_,e2,e3⟩|h3
  ·rw[aA e2,e2];exact(hc _ _ e3.symm).1
  ·have:=h1 _ _ _ _ h3;by_cases e:j'=o
   ·subst e;rw[aA rfl,<- hu _ this];exact this
   ·rw[au e];exact this
 ·rcases hget _ _ _ hx with⟨_,e2,e3⟩|h3
  ·rw[aA e2,e3];exact(hc _ _ e3.symm).2
  ·have:=h2 _ _ _ _ h3;by_cases e:j'=o
   ·subst e;rw[aA rfl,<- hu _ (h1 _ _ _ _ h3)];exact this
   ·rw[au e];exact this
theorem EX.store (h:EX P g I0 I w T q kb n cap sz es)(hi:i<n)(ho:o<sz)(hno:((oD P T).all λe=>e.1 != o)=true){x:Value}{c':Cell}(h1:x.cells = #[x])(hx:∀J,Rd J x c')(hc':∀sz' es',c' ≠ .sl sz' es'){cs:Array Value}{e:TypeId}(hw:w.heap[kb]? = some (.cells cs e (0,0))) :
 ∃J,EX P g I0 J (w.setRow kb (splice cs.toList (i*sz+o) [x]).toArray) T q kb n cap sz (es.set i ((es.getD i []).set o c'))/\DW w (w.setRow kb (splice cs.toList (i*sz+o) [x]).toArray) (Under g q)/\∀b,¬Under g q b->J b=I b:=by
 obtain⟨cs',e',hw',hI,hfit,hcell⟩:=h.row hi;rw[hw]at hw';cases hw';have hIk:=hI aI;have hf:=hfit o ho;have arn:es.length=n:=by have:=h.rd;cases this with|sl _ _ _ _ _ u hlen _ _ _ _ _ _=>exact hlen
 have hnew:=setRow_heap w kb cs (splice cs.toList (i*sz+o) [x]).toArray e (0,0) hw;have hsp:∀j,(splice cs.toList (i*sz+o) [x]).toArray[j]? = if j=i*sz+o then some x else cs[j]?:= λj=>by
  have:=Jj (cs:=cs) (off:=i*sz+o) (vs:= #[x]) (by simp;omega) j;rw[this];by_cases e1:j=i*sz+o
  ·subst e1;simp
  ·rw[au e1];by_cases e2:j<i*sz+o
   ·rw[aA e2]
   ·rw[au e2,au (by simp;omega)]
 have hsize:kb<w.heap.size:=Ac hw;obtain⟨d,m,hkd⟩:=h.root.under (.here h.at'.1)
 let J:IH:=λb=>if b=kb then some (splice cs.toList (i*sz+o) [x]).toArray else I b
 have hJ:∀b,b≠kb->J b=I b:=λb hb=>au hb;have apI:DW w (w.setRow kb (splice cs.toList (i*sz+o) [x]).toArray) (Under g q):=⟨rfl,rfl,rfl,by rw[setRow_size];exact aC _,λb _ hb=>GZ w _ (λe=>hb (e ▸ .here h.at'.1))⟩;refine⟨J,{ good:=?_,tabs:=h.tabs,PU:=?_,old:=h.old,ag:=?_,at':=h.at',root:=h.root,rd:=?_,ty:=?_ },apI,λb hb=>hJ b (λe=>hb (e ▸ .here h.at'.1))⟩
 ·refine(OW.Zz (F:=FV) (dp:=0) (Γ :=[]) (a:=⟨#[],[]⟩) ⟨h.good,λf hf=>by cases hf⟩ hw λB hB=>?_).good;rw[h.at'.1]at hB;cases hB;refine⟨_,_,rfl,λj u T' hj hu ht=>?_⟩;rw[hsp]at hu;obtain⟨cs2,e2,hw2,hown⟩:=h.good.arr _ _ _ h.at'.1;rw[hw]at hw2;cases hw2;split at hu
  ·rename_i e1;subst e1;have hs:xP P T=sz:=by
    have:=h.ty;cases this with|sl _ _ _ t hs _ _=>exact hs
   rw[hs,I9 ho]at ht;have:=bf.1 hno _ ht;simp at this
  ·exact hown j u T' hj hu ht
 ·exact h.PU.other λb c hb=>GZ w _ (λe=>by subst e;have:=h.old _ _ hb;rw[h.at'.1]at this;cases this)
 ·intro b c hb;by_cases e1:b=kb
  ·subst e1;simp only[J,jY]at hb;cases hb;exact⟨e,(0,0),hnew⟩
  ·rw[hJ b e1]at hb;obtain⟨e2,fr,h2⟩:=h.ag b c hb;exact⟨e2,fr,by rw[GZ w _ e1];exact h2⟩
 ·refine h.rd.upd h.good h.ag h.at' h.root h.ty hi ho (u':=x) (c':=c') (λy=>?_) (λy b hy hb=>hJ b (λe1=>?_)) (hx J)
  ·unfold IH.cell;simp only[Bf,qw,if_false,J,jY,hIk];exact hsp y
  ·subst e1;exact hkd.irrefl _ hb
 ·exact h.ty.set (T':=0) aI (λsz' es' e1=>eF e1 (hc' _ _)) (λT2 h2=>by have:=bf.1 hno _ h2;simp at this)
end
end
section
section
variable {P:Program} {g:Own} {I0 I J:IH} {w w':World} {T kb n cap sz i o:Nat} {q:zo} {es:List (List Cell)}
theorem EX.len (h:EX P g I0 I w T q kb n cap sz es):es.length=n/\xP P T=sz:=by have h1:=h.rd;have h2:=h.ty;cases h1 with|sl _ _ _ _ _ u hlen _ _ _ _ _ _=>cases h2 with|sl _ _ _ t hs _ _=>exact⟨hlen,hs⟩
theorem EX.child (h:EX P g I0 I w T q kb n cap sz es)(hi:i<n)(ho:o<sz){cs:Array Value}{e:TypeId}(hw:w.heap[kb]? = some (.cells cs e (0,0))){x:Value}(hx:cs[i*sz+o]? = some x){T' sz':Nat}{es':List (List Cell)}(hc:(es.getD i [])[o]? = some (.sl sz' es'))(ht:(o,T')∈oD P T)(hu:∀T2,(o,T2)∈oD P T->T2=T') :
 GR g x T' (.blk kb (i*sz+o))/\O3 g (.blk kb (i*sz+o))/\Rd I x (.sl sz' es')/\N7 P T' (.sl sz' es'):=by
 obtain⟨cs',e',hw',hI,hfit,hcell⟩:=h.row hi;rw[hw]at hw';cases hw';obtain⟨u,h1,h2⟩:=hcell o ho;rw[hx]at h1;cases h1;obtain⟨d,m,hkd⟩:=h.root.under (.here h.at'.1);refine⟨U9 h.good h.ag h.at' h.len.2 hi ho ?_ ht,.inr ⟨kb,_,d,m,rfl,hkd⟩,h2 _ hc,?_⟩
 ·rw[Addr.uw,fV];unfold IH.cell;simp only[Bf,qw,if_false,hI aI];exact hx
 ·have h3:=h.ty;cases h3 with
  |sl _ _ _ t hs t1 t2=>
  have:=t2 _ _ _ _ hc
  rwa[hu _ (t1 _ _ _ _ hc)]at this
theorem EX.after (h:EX P g I0 I w T q kb n cap sz es)(hi:i<n)(ho:o<sz){cs:Array Value}{e:TypeId}(hw:w.heap[kb]? = some (.cells cs e (0,0))){x:Value}(hx:cs[i*sz+o]? = some x){T':Nat}{c1:Cell}(ht:(o,T')∈oD P T)(hu:∀T2,(o,T2)∈oD P T->T2=T')
 (hp:Post P g I w (.blk kb (i*sz+o)) x T' c1 w'):∃J,EX P g I0 J w' T q kb n cap sz (es.set i ((es.getD i []).set o c1))/\DW w w' (Under g q)/\∀b,¬Under g q b->J b=I b:=by
 obtain⟨hg',hF,⟨J,j1,j2,j3⟩,hty⟩:=hp;obtain⟨cs',e',hw',hI,hfit,hcell⟩:=h.row hi;rw[hw]at hw';cases hw';have hIk:=hI aI;have hl:=h.len;obtain⟨d,m,hkd⟩:=h.root.under (.here h.at'.1);have hup:∀{b},Under g (.blk kb (i*sz+o)) b->Under g q b:=λhb=>hb.trans (.here h.at'.1);have hJk:J kb=I kb:=j2 kb (hkd.irrefl _);refine⟨J,{ good:=hg',tabs:=h.tabs,PU:=?_,old:=h.old,ag:=j1,at':=h.at',root:=h.root,rd:=?_,ty:=?_ },⟨hF.os,hF.tape,hF.output,hF.size,λb hb hn=>hF.block b hb λhx=>hn (hup hx)⟩,λb hb=>j2 b λhx=>hb (hup hx)⟩
 ·exact h.PU.other λb c hb=>hF.block b (h.PU.lt hb) λhx=>by obtain⟨T2,p,h2⟩:=hx.owned;have:=h.old b c hb;rw[h2]at this;cases this
 ·refine h.rd.upd h.good h.ag h.at' h.root h.ty hi ho (u':=x) (c':=c1) (λy=>?_) (λy b hy hb=>j2 b λhx=>hy (hkd.aje hb hx)) j3;unfold IH.cell;simp only[Bf,qw,if_false,hJk,hIk];split
  ·rename_i e1;subst e1;exact hx
  ·rfl
 ·exact h.ty.set (T':=T') aI (λsz' es' e1=>⟨ht,hty⟩) hu
end
def UZ (P:Program)(E8:Nat)(mt:FP)(tx:Int->List UInt8)(acts:List MA)(e:List Cell)(k:Int)(e':List Cell)(k':Int):Prop:=
 ∀ {T sz m:Nat} {rs:List (Array Oper)},Ui P E8 mt T sz m acts rs=true->∀{g:Own} {I0 I:IH} {w:World} {q:zo} {kb n cap:Nat} {es:List (List Cell)} {i:Nat} {a:Act} {Q:Exit->Act->World->Prop},
   EX P g I0 I w T q kb n cap sz es->i<n->es.getD i []=e->5<m->LW P E8 tx->ES tx sz kb i n cap m k E0 a w ->
   (∀a' w' J,ES tx sz kb i n cap m k' E0 a' w'->EX P g I0 J w' T q kb n cap sz (es.set i e')->DW w w' (Under g q)->(∀b,¬Under g q b->J b=I b)->Q .normal a' w')->D8 P Q rs a w
section
variable {P:Program} {E8:Nat} {mt:FP} {tx:Int->List UInt8} {r:List MA} {e e':List Cell} {k k':Int} {o:Nat}
theorem DW.any {w w':World}{M:Nat->Prop}(h:DW w w' λ_=>False):DW w w' M:=⟨h.os,h.tape,h.output,h.size,λk hk _=>h.block k hk λh=>h⟩
theorem set_self {α:Type}{es:List (List α)}{i:Nat}(hi:i<es.length):es.set i (es.getD i [])=es:=by
 apply List.ext_getElem?;intro j;rw[rq];split
 ·rename_i e1;subst e1;rw[cZ,aB hi];simp
 ·rfl
theorem an1 : UZ P E8 mt tx [] e k e k:=by
 intro T sz m rs hc g I0 I w q kb n cap es i a Q hE hi he hm ht hs hk;cases rs with
 |cons _ _=>simp[Ui]at hc
 | nil=>refine hk a w I hs ?_ ⟨rfl,rfl,rfl,aC _,λ_ _ _=>rfl⟩ λb _=>rfl;rw[<- he,set_self (by rw[hE.len.1];exact hi)];exact hE
theorem aeo {sv:SV}{c':Cell}{x0:Value}(h1:x0.cells = #[x0])(hone:x0.oneCell'=true)(hx:∀J,(tx k).length<=maxLen->Rd J x0 c')(hc':∀sz' es',c' ≠ .sl sz' es')(hk:inR k)(hk':inR (k+1))
 (hden:∀{sz kb i n c:Nat} {w:World} {x:Value},sv.den tx sz kb i n c k w x->x=x0/\(sv = .txt->(tx k).length<=maxLen)) (htx:sv ≠ .txt->∀J,Rd J x0 c')
 (ih:UZ P E8 mt tx r (e.set o c') (k+1) e' k') {T sz m:Nat} {x y:Array Oper} {rs:List (Array Oper)} (s1:stR P E8 sz m o sv E0 x.toList=true) (s2:ade m 1 y.toList=true) (s3:((oD P T).all λe=>e.1 != o)=true) (s4:Ui P E8 mt T sz m r rs=true)
 {g:Own} {I0 I:IH} {w:World} {q:zo} {kb n cap:Nat} {es:List (List Cell)} {i:Nat} {a:Act} {Q:Exit->Act->World->Prop} (hE:EX P g I0 I w T q kb n cap sz es) (hi:i<n) (he:es.getD i []=e) (hm:5<m) (ht:LW P E8 tx) (hs:ES tx sz kb i n cap m k E0 a w)
 (hK:∀a' w' J,ES tx sz kb i n cap m k' E0 a' w'->EX P g I0 J w' T q kb n cap sz (es.set i e')->DW w w' (Under g q)->(∀b,¬Under g q b->J b=I b)->Q .normal a' w'):D8 P Q (x::y::rs) a w:=by
 obtain⟨cs,ty,hw,_,hfit,_⟩:=hE.row hi;refine Ye (Q:=Exit.then (D8 P Q (y::rs)) Q) s1 hs (λ_ _ h=>h) hi ht hk.1 hk.2 hE.tabs hE.PU hw hfit (λx w hd=>by rw[(hden hd).1];exact⟨h1,hone⟩) (λa' w1 x hs' hF hw1 hd ho=>?_);obtain⟨rfl,hl⟩:=hden hd;have hrd:∀J,Rd J x c':=λJ=>by
  by_cases hsv:sv = .txt
  ·exact hx J (hl hsv)
  ·exact htx hsv J
 obtain⟨J,hE2,hF2,hJ⟩:=(hE.quiet hF).store hi ho s3 h1 hrd hc' hw1;show wpList P y (Exit.then (D8 P Q rs) Q) y.toList a' _;refine XP s2 hs'.size hs'.defers hs'.cnt ⟨hk'.1,by have:=hk'.2;omega⟩ aI (.inr (.inl rfl)) (λa2 b1 b2 b3 b4=>?_);show D8 P Q rs a2 _;have hs2:ES tx sz kb i n cap m (k+1) E0 a2 (w1.setRow kb (splice cs.toList (i*sz+o) [x]).toArray):=acU b1 b2 (by rw[b4 0 aI (.inl rfl)];exact hs'.arr) b3 (by rw[b4 5 aI (.inr (.inr rfl))];exact hs'.idx);refine ih s4 hE2 hi ?_ hm ht hs2 (λa3 w3 J3 hs3 hE3 hF3 hJ3=>?_)
 ·rw[RX (by rw[hE.len.1];exact hi),aA rfl,he]
 ·rw[List.set_set]at hE3;exact hK a3 w3 J3 hs3 hE3 ((hF.any.trans hF2 λ_ _ h=>h).trans hF3 λ_ _ h=>h) (λb hb=>(hJ3 b hb).trans (hJ b hb))
theorem an2 {f:Nat}{c c1:Cell}{k1 k2:Int}(hc0:e[o]? = some c)(hsl:∃sz es,c = .sl sz es)(hk:inR k)(hC:aht P mt f c k c1 k1)(ih:UZ P E8 mt tx r (e.set o c1) k1 e' k2){T sz m:Nat}{x:Array Oper}{rs:List (Array Oper)}(s1:abJ P E8 sz m o f E0 x.toList=true)
 {T':Nat} (hmt:∃sz acts,mt f=some (T',sz,acts)) (hin:(o,T')∈oD P T) (hu:∀T2,(o,T2)∈oD P T->T2=T') (s4:Ui P E8 mt T sz m r rs=true)
 {g:Own} {I0 I:IH} {w:World} {q:zo} {kb n cap:Nat} {es:List (List Cell)} {i:Nat} {a:Act} {Q:Exit->Act->World->Prop} (hE:EX P g I0 I w T q kb n cap sz es) (hi:i<n) (he:es.getD i []=e) (hm:5<m) (ht:LW P E8 tx) (hs:ES tx sz kb i n cap m k E0 a w)
 (hK:∀a' w' J,ES tx sz kb i n cap m k2 E0 a' w'->EX P g I0 J w' T q kb n cap sz (es.set i e')->DW w w' (Under g q)->(∀b,¬Under g q b->J b=I b)->Q .normal a' w'):D8 P Q (x::rs) a w:=by
 obtain⟨cs,ty,hw,_,hfit,_⟩:=hE.row hi;obtain⟨sz',es',rfl⟩:=hsl;refine WG (Q:=Exit.then (D8 P Q rs) Q) s1 hs (λ_ _ h=>h) hi ht hk.1 hk.2 hE.tabs hE.PU hw hfit hm (k1:=k1) (R:=λw1 w'=>∃J,EX P g I0 J w' T q kb n cap sz (es.set i ((es.getD i []).set o c1))/\DW w1 w' (Under g q)/\∀b,¬Under g q b->J b=I b) (λw1 x hF hx ho=>?_) (λa' w1 w' hs' hF hR=>?_)
 ·have hE1:=hE.quiet hF;have hw1:w1.heap[kb]? = some (.cells cs ty (0,0)):=by rw[hF.block kb (Ac hw) λh=>h];exact hw
  obtain⟨g1,g2,g3,g4⟩:=hE1.child hi ho hw1 hx (by rw[he];exact hc0) hin hu;refine(hC g I0 I w1 T' _ x hmt hE1.good hE1.tabs hE1.PU hE1.old hE1.ag g1 g2 g3 g4).mono ?_;rintro e w' ⟨rfl,hp⟩;exact⟨rfl,hE1.after hi ho hw1 hx hin hu hp⟩
 ·obtain⟨J,hE2,hF2,hJ⟩:=hR;show D8 P Q rs a' w';refine ih s4 hE2 hi ?_ hm ht hs' (λa3 w3 J3 hs3 hE3 hF3 hJ3=>?_)
  ·rw[RX (by rw[hE.len.1];exact hi),aA rfl,he]
  ·rw[List.set_set]at hE3;exact hK a3 w3 J3 hs3 hE3 ((hF.any.trans hF2 λ_ _ h=>h).trans hF3 λ_ _ h=>h) (λb hb=>(hJ3 b hb).trans (hJ b hb))
end
def acG (P:Program)(E8:Nat)(mt:FP)(f:Nat):Bool:=match mt f,P.funcs[f]? with
 | some (T,sz,acts),some fn=>(match fn.body with
   | some (.seq (.region _ r0 false) (.seq (.seq (.region _ r1 false) (.block b0 (.loop (.seq (.seq (.region _ r2 false) (.cond (.tmp c) .skip (.exit b0'))) (.seq (.block b1 body) (.region _ r3 false)))))) (.seq (.region _ r4 false) .ret)))=>
     (match r0.toList,r1.toList,r2.toList,r4.toList with
     | [x0],[x1],[y1,y2,y3,y4],[z1,z2]=>
       (match x0.guard,x0.dst,x0.op,x1.guard,x1.dst,x1.op with
        |none,some 4,.assign (.const (.int .i64 0)),none,some 5,.assign (.const (.int .i64 0))=>true
        |_,_,_,_,_,_=>false) &&
       (match y1.guard,y1.dst,y1.op,y2.guard,y2.dst,y2.op with
        | none,some t1,.move (.tmp 5),none,some t2,.move (.tmp 0)=>decide (5<t1/\5<t2/\t1≠t2/\t1<fn.ntmps/\t2<fn.ntmps)&&(match y3.guard,y3.dst,y3.op,y4.guard,y4.dst,y4.op with
          |none,some t3,.call ⟨.builtin .len,⟨[.tmp t2']⟩,⟨[ts]⟩⟩,none,some t4,.binOp .lss _ (.tmp t1') (.tmp t3') _=>(match P.underlying ts with|some (.slice _)=>true|_=>false)&&t1'==t1&&t2'==t2&&t3'==t3&&t4==c&&decide (5<t3/\t3≠t1/\t3≠t2/\5<t4/\t3<fn.ntmps/\t4<fn.ntmps)
          |_,_,_,_,_,_=>false)
        |_,_,_,_,_,_=>false) &&
       (match z1.guard,z1.dst,z1.op,z2.guard,z2.dst,z2.op with
        |none,some t,.move (.tmp 1),none,some 4,.assign (.tmp t')=>t'==t&&decide (t<fn.ntmps)
        |_,_,_,_,_,_=>false)
     | _,_,_,_=>false)&&b0'==b0&&ade fn.ntmps 5 r3.toList&&(match Wh body with
       |some rs=>Ui P E8 mt T sz fn.ntmps acts rs
       |none=>false)&&decide (5<fn.ntmps)&&(match fn.results.toList with
       |[.tmp 4]=>true
       |_=>false)
   |_=>false)
 |_,_=>false
end
section
structure BS (u:Value)(i:Nat)(k:Int)(m:Nat)(a:Act):Prop where
 size:a.tmps.size=m
 defers:a.defers=[]
 arr:a.tmps.getD 0 undef=u
 cnt:a.tmps.getD 1 undef = .int .i64 k
 idx:a.tmps.getD 5 undef = .int .i64 (i:Int)
theorem BS.put {u:Value}{i:Nat}{k:Int}{m:Nat}{a:Act}(h:BS u i k m a){d:Nat}(hd:5<d)(v:Value):BS u i k m (a.put (some d) v):=
 ⟨by simp[jH,h.size],h.defers,by rw[o7 aI];exact h.arr,by rw[o7 aI];exact h.cnt,by rw[o7 aI];exact h.idx⟩
theorem BS.es {ad:Addr}{kb n c i m:Nat}{k:Int}{a:Act}{w:World}{tx:Int->List UInt8}{sz:Nat}(h:BS (.slice (some ⟨kb,0,none⟩) n c) i k m a):ES tx sz kb i n c m k E0 a w:=acU h.size h.defers h.arr h.cnt h.idx
theorem ES.bs {kb n c i m:Nat}{k:Int}{a:Act}{w:World}{tx:Int->List UInt8}{sz:Nat}(h:ES tx sz kb i n c m k E0 a w):BS (.slice (some ⟨kb,0,none⟩) n c) i k m a:=⟨h.size,h.defers,h.arr,h.cnt,h.idx⟩
theorem FX (a:Act)(t:Nat):a.eval (.tmp t)=a.tmps.getD t undef:=rfl
section
variable {P:Program} {Q:Exit->Act->World->Prop} {a:Act} {w:World}
theorem ac5 {id cc b0 i m n cap t1 t2 t3:Nat}{k:Int}{ad:Option Addr}{r2:Array Oper}{y1 y2 y3 y4:Oper}{ty ty2 e:TypeId}{ts:TypeId}(hr:r2.toList=[y1,y2,y3,y4])(g1:y1.guard=none)(d1:y1.dst=some t1)(p1:y1.op = .move (.tmp 5))(g2:y2.guard=none)(d2:y2.dst=some t2)(p2:y2.op = .move (.tmp 0))
 (g3:y3.guard=none) (d3:y3.dst=some t3) (p3:y3.op = .call ⟨.builtin .len,⟨[.tmp t2]⟩,⟨[ts]⟩⟩) (ht:P.underlying ts=some (.slice e)) (g4:y4.guard=none) (d4:y4.dst=some cc) (p4:y4.op = .binOp .lss ty (.tmp t1) (.tmp t3) ty2)
 (q:5<t1/\5<t2/\t1≠t2/\t1<m/\t2<m) (q':5<t3/\t3≠t1/\t3≠t2/\5<cc/\t3<m/\cc<m) (bs:BS (.slice ad n cap) i k m a)
 (h1:i<n->∀a',BS (.slice ad n cap) i k m a'->Q .normal a' w) (h2:¬i<n->∀a',BS (.slice ad n cap) i k m a'->Q (.exit b0) a' w) :
 (Code.seq (.region id r2 false) (.cond (.tmp cc) .skip (.exit b0))).wp P Q a w:=by
 refine wp_seq (wp_region_list ?_);rw[hr];refine vV (v:=.int .i64 (i:Int)) (w':=w) g1 (by unfold execOp;rw[p1];exact sK (λv=>oO (nU v) w) bs.idx) ?_;rw[d1];have b1:=bs.put q.1 (.int .i64 (i:Int));refine vV (v:=.slice ad n cap) (w':=w) g2 (by unfold execOp;rw[p2];exact sK (λv=>oO (nU v) w) b1.arr) ?_;rw[d2];have b2:=b1.put q.2.1 (.slice ad n cap);have e2:((a.put (some t1) (.int .i64 (i:Int))).put (some t2) (.slice ad n cap)).eval (.tmp t2) = .slice ad n cap:=by rw[FX];exact iq (by rw[b1.size];exact q.2.2.2.2)
 refine vV (v:=.int .i64 (n:Int)) (w':=w) g3 (by simp[execOp,p3,resolve,invoke,builtin,Go.Builtin.len_,run_underlying ht,e2,goInt]) ?_;rw[d3];have b3:=b2.put q'.1 (.int .i64 (n:Int));have e3:(((a.put (some t1) (.int .i64 (i:Int))).put (some t2) (.slice ad n cap)).put (some t3) (.int .i64 (n:Int))).eval (.tmp t3) = .int .i64 (n:Int):=by rw[FX];exact iq (by rw[b2.size];exact q'.2.2.2.2.1)
 have e1:(((a.put (some t1) (.int .i64 (i:Int))).put (some t2) (.slice ad n cap)).put (some t3) (.int .i64 (n:Int))).eval (.tmp t1) = .int .i64 (i:Int):=by rw[FX,o7 (Gm q'.2.1),o7 q.2.2.1];exact iq (by rw[bs.size];exact q.2.2.2.1)
 refine vV (v:=.bool (decide (i<n))) (w':=w) g4 ?_ ?_
 ·have hq:∀v,(eqGuard .lss ty (.tmp t1) (.tmp t3) (.int .i64 (i:Int)) v).run P w = .ok () w:=λv=>EN _ _ _ _ _ _ _ _;have hr0:(binOp .lss ty (.int .i64 (i:Int)) (.int .i64 (n:Int))).run P w = .ok (.bool (decide (i<n))) w:=by simp[binOp,Op.intCmp]
  unfold execOp;rw[p4];simp only[e1,e3,dN,hq,hr0,bT,dA]
 rw[d4];have b4:=b3.put q'.2.2.2.1 (.bool (decide (i<n)));refine wp_cond_split (t:=decide (i<n)) (by rw[FX];exact iq (by rw[b3.size];exact q'.2.2.2.2.2)) (λh=>wp_skip (h1 (by simpa using h) _ b4)) (λh=>wp_exit (h2 (by simpa using h) _ b4))
end
structure anO (P:Program)(E8:Nat)(mt:FP)(T sz:Nat)(acts:List MA)(fn:Func)(id0 id1 id2 id3 id4 b0 b1 cc:Nat)(r0 r1 r2 r3 r4:Array Oper)(body:Code):Prop where
 code:fn.body=some (.seq (.region id0 r0 false) (.seq (.seq (.region id1 r1 false) (.block b0 (.loop (.seq (.seq (.region id2 r2 false) (.cond (.tmp cc) .skip (.exit b0))) (.seq (.block b1 body) (.region id3 r3 false)))))) (.seq (.region id4 r4 false) .ret)))
 m5:5<fn.ntmps
 res:fn.results.toList=[.tmp 4]
 first:∃x0,r0.toList=[x0]/\x0.guard=none/\x0.dst=some 4/\x0.op = .assign (.const (.int .i64 0))
 second:∃x1,r1.toList=[x1]/\x1.guard=none/\x1.dst=some 5/\x1.op = .assign (.const (.int .i64 0))
 head:∀{Q:Exit->Act->World->Prop} {a:Act} {w:World} {i n cap:Nat} {k:Int} {ad:Option Addr},BS (.slice ad n cap) i k fn.ntmps a->(i<n->∀a',BS (.slice ad n cap) i k fn.ntmps a'->Q .normal a' w)->(¬i<n->∀a',BS (.slice ad n cap) i k fn.ntmps a'->Q (.exit b0) a' w) ->
  (Code.seq (.region id2 r2 false) (.cond (.tmp cc) .skip (.exit b0))).wp P Q a w
 inc:ade fn.ntmps 5 r3.toList=true
 steps:∃rs,Wh body=some rs/\Ui P E8 mt T sz fn.ntmps acts rs=true
 last:∃z1 z2 t,r4.toList=[z1,z2]/\z1.guard=none/\z1.dst=some t/\z1.op = .move (.tmp 1)/\z2.guard=none/\z2.dst=some 4/\z2.op = .assign (.tmp t)/\t<fn.ntmps
theorem akx {P:Program}{E8:Nat}{mt:FP}{f T sz:Nat}{acts:List MA}(h:acG P E8 mt f=true)(hmt:mt f=some (T,sz,acts)):∃fn,P.funcs[f]? = some fn/\∃id0 id1 id2 id3 id4 b0 b1 cc r0 r1 r2 r3 r4 body,anO P E8 mt T sz acts fn id0 id1 id2 id3 id4 b0 b1 cc r0 r1 r2 r3 r4 body:=by
 unfold acG at h;rw[hmt]at h;split at h
 ·rename_i T' sz' anU fn e1 hf;cases e1;refine⟨fn,hf,?_⟩;split at h
  ·rename_i id0 r0 id1 r1 b0 id2 r2 cc b0' b1 body id3 r3 id4 r4 hb;simp only[ah,aZ,aF]at h;obtain⟨⟨⟨⟨⟨h1,rfl⟩,h2⟩,h3⟩,h4⟩,h5⟩:=h;refine⟨id0,id1,id2,id3,id4,b0',b1,cc,r0,r1,r2,r3,r4,body,?_⟩;split at h1
   ·rename_i x0 x1 y1 y2 y3 y4 z1 z2 l0 l1 l2 l4;simp only[ah]at h1;obtain⟨⟨q1,q2⟩,q3⟩:=h1;refine⟨hb,h4,?_,?_,?_,?_,h2,?_,?_⟩
    ·split at h5
     ·rename_i e;exact e
     ·cases h5
    ·split at q1
     ·exact⟨x0,l0,by assumption,by assumption,by assumption⟩
     ·cases q1
    ·split at q1
     ·exact⟨x1,l1,by assumption,by assumption,by assumption⟩
     ·cases q1
    ·split at q2
     ·rename_i t1 t2 g1 d1 p1 g2 d2 p2;simp only[ah,aF]at q2;obtain⟨q2,q4⟩:=q2;split at q4
      ·rename_i t3 t2' ts t4 ty t1' t3' ty2 g3 d3 p3 g4 d4 p4;simp only[ah,aZ,aF]at q4;obtain⟨⟨⟨⟨⟨hu,rfl⟩,rfl⟩,rfl⟩,rfl⟩,q5⟩:=q4;split at hu
       ·rename_i e hu2;intro Q a w i n cap k ad bs k1 k2;exact ac5 l2 g1 d1 p1 g2 d2 p2 g3 d3 p3 hu2 g4 d4 p4 q2 q5 bs k1 k2
       ·cases hu
      ·cases q4
     ·cases q2
    ·split at h3
     ·exact⟨_,by assumption,h3⟩
     ·cases h3
    ·split at q3
     ·rename_i t t' g1 d1 p1 g2 d2 p2;simp only[ah,aZ,aF]at q3;obtain⟨rfl,q3⟩:=q3;exact⟨z1,z2,_,l4,g1,d1,p1,g2,d2,p2,q3⟩
     ·cases q3
   ·cases h1
  ·cases h
 ·cases h
inductive afo (S:List Cell->Int->List Cell->Int->Prop):List (List Cell)->Int->List (List Cell)->Int->Prop
 |nil {k:Int} : afo S [] k [] k
 |cons {e e':List Cell} {es es':List (List Cell)} {k k1 k2:Int} (h:S e k e' k1) (t:afo S es k1 es' k2):afo S (e::es) k (e'::es') k2
theorem set_mid {α:Type}{D es:List α}{e e':α} : (D++e::es).set D.length e'=(D++[e'])++es:=by rw[List.set_append_right _ _ (aC _)];simp
theorem ah7 {P:Program}{E8:Nat}{mt:FP}{tx:Int->List UInt8}{f T sz:Nat}{acts:List MA}(hc:acG P E8 mt f=true)(hmt:mt f=some (T,sz,acts))(ht:LW P E8 tx){es es':List (List Cell)}{k k':Int}(hk:inR k)
 (hrun:afo (UZ P E8 mt tx acts) es k es' k'):aht P mt f (.sl sz es) k (.sl sz es') k':=by
 intro g I0 I w T1 q u hT hg hTb hA0 hold hA hgr hroot hrd hty;obtain⟨sz1,aqy,hm1⟩:=hT;rw[hmt]at hm1;cases hm1;obtain⟨fn,hf,id0,id1,id2,id3,id4,b0,b1,cc,r0,r1,r2,r3,r4,body,C⟩:=akx hc hmt;obtain⟨ad,n,cap,rfl⟩:∃ad n cap,u = .slice ad n cap:=by rcases hgr with e|⟨_,_,_,e,_⟩<;>exact⟨_,_,_,e⟩
 have hn:es.length=n/\n<=maxLen:=by cases hrd with|sl _ _ _ _ _ _ h1 h2 h3 _ _ _ _=>exact⟨h1,bM h2 h3⟩
 refine calls_of_wp hf C.code ?_;obtain⟨x0,l0,g0,d0,p0⟩:=C.first;obtain⟨x1,l1,g1,d1,p1⟩:=C.second;have hm5:=C.m5
 let a0:Act:={ tmps:= #[DI ad n cap,.int .i64 k]++tH (fn.ntmps-2) undef,defers:=[] }
 have hs0:a0.tmps.size=fn.ntmps:=by simp[a0];omega
 have ha0:a0.tmps.getD 0 undef = .slice ad n cap/\a0.tmps.getD 1 undef = .int .i64 k:=by constructor<;>(simp only[a0,fH];rw[sH mg];rfl)
 have H7:BS (.slice ad n cap) 0 k fn.ntmps ((a0.put (some 4) (.int .i64 0)).put (some 5) (.int .i64 0)):=
  ⟨by simp[jH,hs0],rfl,by rw[o7 aI,o7 aI];exact ha0.1,by rw[o7 aI,o7 aI];exact ha0.2,iq (by simp[jH,hs0];exact hm5)⟩
 refine wp_seq (wp_region_list ?_);rw[l0];refine vV (v:=.int .i64 0) (w':=w) g0 (by unfold execOp;rw[p0];rfl) ?_;rw[d0];refine wp_seq (wp_seq (wp_region_list ?_));rw[l1];refine vV (v:=.int .i64 0) (w':=w) g1 (by unfold execOp;rw[p1];rfl) ?_;rw[d1];refine wp_block (JR (λj a w'=>∃D es1 akH k1,afo (UZ P E8 mt tx acts) es1 k1 akH k'/\D++akH=es'/\j=es1.length/\(D++es1).length=n/\BS (.slice ad n cap) D.length k1 fn.ntmps a/\Post P g I w q (.slice ad n cap) T (.sl sz (D++es1)) w') ?_ ?_)
 ·exact⟨es.length,[],es,es',k,hrun,rfl,rfl,hn.1,H7,hg,⟨rfl,rfl,rfl,aC _,λ_ _ _=>rfl⟩,⟨I,hA,λ_ _=>rfl,hrd⟩,hty⟩
 ·rintro j a w1 ⟨D,es1,akH,k1,hr,hD,rfl,hlen,bs,hp⟩;refine wp_seq (C.head bs (λhlt a' bs'=>?_) (λhge a' bs'=>?_))
  ·
   cases hr with
   |nil=>simp at hlen;omega
   | @cons e e' es2 apv _ k2 _ hS hr=>
   obtain⟨kb,n',c',e1,hkb⟩:∃kb n' c',DI ad n cap = .slice (some ⟨kb,0,none⟩) n' c'/\g.at kb n' T q:=by
    rcases hgr with e1|⟨kb,n',c',e1,h2⟩
    ·cases e1;omega
    ·exact⟨kb,n',c',e1,h2⟩
   cases e1;obtain⟨pg,pF,⟨J,pJ1,pJ2,pJ3⟩,pty⟩:=hp;have hE:EX P g I0 J w1 T q kb n cap sz (D++e::es2):=
    { good:=pg,tabs:=hTb,PU:=hA0.other λb c hb=>pF.block b (hA0.lt hb) λhx=>(by obtain⟨T2,p,h2⟩:=hx.owned;have:=hold b c hb;rw[h2]at this;cases this),old:=hold,ag:=pJ1,at':=hkb,root:=hroot,rd:=pJ3,ty:=pty }
   obtain⟨rs,hrs,apF⟩:=C.steps;refine wp_seq (wp_block (alc hrs (hS apF hE hlt (by simp[cZ]) hm5 ht (BS.es (ad:=⟨0,0,none⟩) bs') (λa2 w2 J2 hs2 hE2 hF2 hJ2=>?_))));refine wp_region_list (XP C.inc hs2.size hs2.defers hs2.idx (by have:=hn.2;simp only[maxLen]at this;omega) hm5 (.inr (.inr rfl)) (λa3 c1 c2 c3 c4=>?_));refine⟨es2.length,mg,D++[e'],es2,apv,k2,hr,by rw[<- hD];simp,rfl,by simp at hlen⊢;omega,?_,hE2.good,pF.trans hF2 λ_ _ h=>h,⟨J2,hE2.ag,λb hb=>(hJ2 b hb).trans (pJ2 b hb),?_⟩,?_⟩
   ·exact⟨c1,c2,by rw[c4 0 aI (.inl rfl)];exact hs2.arr,by rw[c4 1 aI (.inr (.inl rfl))];exact hs2.cnt,by rw[c3];simp⟩
   ·have:=hE2.rd;rwa[set_mid]at this
   ·have:=hE2.ty;rwa[set_mid]at this
  ·
   have hnil:es1=[]/\akH=[]/\k1=k':=by
    cases hr with
    |nil=>exact⟨rfl,rfl,rfl⟩
    |cons _ _=>simp at hlen;omega
   obtain⟨rfl,rfl,rfl⟩:=hnil;show Ad b0 _ (.exit b0) a' w1;simp only[Ad,jY];obtain⟨z1,z2,t,l4,g4,d4,p4,g5,d5,p5,htm⟩:=C.last;refine wp_seq (wp_region_list ?_);rw[l4];refine vV (v:=.int .i64 k1) (w':=w1) g4 (by unfold execOp;rw[p4];exact sK (λv=>oO (nU v) w1) bs'.cnt) ?_;rw[d4];have e2:(a'.put (some t) (.int .i64 k1)).tmps.getD t undef = .int .i64 k1:=iq (by rw[bs'.size];exact htm);refine vV (v:=.int .i64 k1) (w':=w1) g5 (by unfold execOp;rw[p5];exact sK (λv=>oO (nU v) w1) e2) ?_;rw[d5];refine wp_ret ?_;refine⟨bs'.defers,.int .i64 k1,?_,rfl,?_⟩
   ·have e3:((a'.put (some t) (.int .i64 k1)).put (some 4) (.int .i64 k1)).tmps.getD 4 undef = .int .i64 k1:=iq (by simp[jH,bs'.size];omega);have e4:fn.results = #[.tmp 4]:=(by apply Array.toList_inj.1;rw[C.res]);rw[Lu,e4];simp[Uo,e3]
   ·rw[<- hD];simpa using hp
theorem aa4 {P:Program}{E8:Nat}{mt:FP}{tx:Int->List UInt8}(hall:∀f,(mt f).isSome=true->acG P E8 mt f=true)(ht:LW P E8 tx){j:Jb}(h:CX mt tx j):match j with
 |.C f c k c' k'=>aht P mt f c k c' k'/\inR k/\(∃sz es,c = .sl sz es)
 |.L acts es k es' k'=>afo (UZ P E8 mt tx acts) es k es' k'
 |.E acts e k e' k'=>UZ P E8 mt tx acts e k e' k':=by
 induction h with
 |c h hk hl ih=>exact⟨ah7 (hall _ (by rw[h];rfl)) h ht hk ih,hk,_,_,rfl⟩
 |l0=>exact .nil
 |l1 _ _ ih1 ih2=>exact .cons ih1 ih2
 |e0=>exact an1
 | ei hk hk' ho _ ih=>
   intro T sz m rs hc g I0 I w q kb n cap es i a Q hE hi he hm ht' hs hK
   match rs,hc with
   | x::y::rs,hc=>simp only[Ui,ah]at hc;exact aeo (sv:=.cnt) rfl rfl (λJ _=>.lit _ rfl) (λ_ _ e=>by cases e) hk hk' (λhd=>⟨hd,λe=>by cases e⟩) (λ_ J=>.lit _ rfl) ih hc.1.1.1 hc.1.1.2 hc.1.2 hc.2 hE hi he hm ht' hs hK
 | es hk hk' ho _ ih=>
   intro T sz m rs hc g I0 I w q kb n cap es i a Q hE hi he hm ht' hs hK
   match rs,hc with
   | x::y::rs,hc=>simp only[Ui,ah]at hc;exact aeo (sv:=.txt) rfl rfl (λJ hl=>.str _ hl) (λ_ _ e=>by cases e) hk hk' (λhd=>⟨hd.1,λ_=>hd.2⟩) (λe=>eF rfl e) ih hc.1.1.1 hc.1.1.2 hc.1.2 hc.2 hE hi he hm ht' hs hK
 | ef hc0 _ _ ih1 ih2=>
   intro T sz m rs hc g I0 I w q kb n cap es i a Q hE hi he hm ht' hs hK
   match rs,hc with
   | x::rs,hc=>
     simp only[Ui,ah]at hc;obtain⟨⟨h1,h2⟩,h3⟩:=hc;split at h2
     ·rename_i T' sz' anU hmt;simp only[ah,kU,bf,iJ,bne_iff_ne,aZ]at h2;exact an2 hc0 ih1.2.2 ih1.2.1 ih1.1 ih2 h1 ⟨_,_,hmt⟩ h2.1 (λT2 h4=>by
       rcases h2.2 _ h4 with h5|h5
       ·exact eF rfl h5
       ·exact h5) h3 hE hi he hm ht' hs hK
     ·cases h2
end
section
inductive Stp where
 |sl (o g:Nat)
 |st (o sz g:Nat)
 deriving DecidableEq
abbrev acf :=Nat->Option (Nat×List Stp)
inductive SR (mt:FP)(sb:acf)(tx:Int->List UInt8):(Nat->Nat)->List Stp->List Cell->Int->List Cell->Int->Prop
 |nil {ty:Nat->Nat} {cs:List Cell} {k:Int} : SR mt sb tx ty [] cs k cs k
 |sl {ty:Nat->Nat} {o g:Nat} {r:List Stp} {cs cs':List Cell} {c c1:Cell} {k k1 k2:Int} (hc:cs[o]? = some c) (hT:∃sz acts,mt g=some (ty o,sz,acts)) (hm:CX mt tx (.C g c k c1 k1)) (t:SR mt sb tx ty r (cs.set o c1) k1 cs' k2):SR mt sb tx ty (.sl o g::r) cs k cs' k2
 |st {ty:Nat->Nat} {o sz g:Nat} {r steps:List Stp} {cs cs2 cs':List Cell} {k k1 k2:Int} (hs:sb g=some (sz,steps)) (hl:o+sz<=cs.length) (h:SR mt sb tx (λj=>ty (o+j)) steps ((cs.drop o).take sz) k cs2 k1) (hl2:cs2.length=sz) (t:SR mt sb tx ty r (cs.take o++cs2++cs.drop (o+sz)) k1 cs' k2):SR mt sb tx ty (.st o sz g::r) cs k cs' k2
structure SX (P:Program)(g:Own)(I0 I:IH)(w:World)(vs:List Value)(cs:List Cell)(L:List Nat)(ty:Nat->Nat)(pid:Nat->zo):Prop where
 good:Good P g w
 tabs:Tabs P I0
 PU:Agree I0 w
 old:∀b c,I0 b=some c->g b=none
 ag:Agree I w
 len:vs.length=cs.length
 rd:∀(j:Nat) (v:Value) (c:Cell),vs[j]? = some v->cs[j]? = some c->Rd I v c
 isl:∀(j sz:Nat) (es:List (List Cell)),cs[j]? = some (.sl sz es)->j∈L
 own:∀(j:Nat),j∈L->∀(v:Value),vs[j]? = some v->GR g v (ty j) (pid j)
 root:∀j,j∈L->O3 g (pid j)
 typ:∀(j sz:Nat) (es:List (List Cell)),cs[j]? = some (.sl sz es)->N7 P (ty j) (.sl sz es)
 dis:∀i j b,i∈L->j∈L->Under g (pid i) b->Under g (pid j) b->i=j
structure DK (P:Program)(g:Own)(I:IH)(w:World)(vs:List Value)(cs':List Cell)(L:List Nat)(ty:Nat->Nat)(pid:Nat->zo)(w':World):Prop where
 good:Good P g w'
 DT:DW w w' λb=>∃j,j∈L/\Under g (pid j) b
 rd:∃J,Agree J w'/\(∀b,(∀j,j∈L->¬Under g (pid j) b)->J b=I b)/\∀(j:Nat) (v:Value) (c:Cell),vs[j]? = some v->cs'[j]? = some c->Rd J v c
 len:vs.length=cs'.length
 isl:∀(j sz:Nat) (es:List (List Cell)),cs'[j]? = some (.sl sz es)->j∈L
 typ:∀(j sz:Nat) (es:List (List Cell)),cs'[j]? = some (.sl sz es)->N7 P (ty j) (.sl sz es)
section
variable {P:Program} {g:Own} {I0 I J:IH} {w w':World} {vs:List Value} {cs cs':List Cell} {L:List Nat} {ty:Nat->Nat} {pid:Nat->zo}
theorem SX.quiet (h:SX P g I0 I w vs cs L ty pid)(hF:DW w w' λ_=>False):SX P g I0 I w' vs cs L ty pid:=
 { h with good:=h.good.quiet hF,PU:=h.PU.quiet hF,ag:=h.ag.quiet hF }
theorem DK.next (h:SX P g I0 I w vs cs L ty pid)(hp:DK P g I w vs cs' L ty pid w'):∃J,SX P g I0 J w' vs cs' L ty pid/\∀b,(∀j,j∈L->¬Under g (pid j) b)->J b=I b:=by obtain⟨pg,pF,⟨J,p1,p2,p3⟩,pl,pi,pt⟩:=hp;refine⟨J,{ good:=pg,tabs:=h.tabs,PU:=h.PU.other λb c hb=>pF.block b (h.PU.lt hb) ?_,old:=h.old,ag:=p1,len:=pl,rd:=p3,isl:=pi,own:=h.own,root:=h.root,typ:=pt,dis:=h.dis },p2⟩;rintro⟨j,_,hu⟩;obtain⟨T2,p,h2⟩:=hu.owned;have:=h.old b c hb;rw[h2]at this;cases this
theorem DK.trans {I':IH}{w1:World}(hF:DW w w1 λb=>∃j,j∈L/\Under g (pid j) b)(hI:∀b,(∀j,j∈L->¬Under g (pid j) b)->I' b=I b)(hp:DK P g I' w1 vs cs' L ty pid w'):DK P g I w vs cs' L ty pid w':=
 { hp with DT:=hF.trans hp.DT λ_ _ h=>h,rd:=let ⟨J,p1,p2,p3⟩:=hp.rd;⟨J,p1,λb hb=>(p2 b hb).trans (hI b hb),p3⟩ }
theorem DK.refl (h:SX P g I0 I w vs cs L ty pid):DK P g I w vs cs L ty pid w:=
 ⟨h.good,⟨rfl,rfl,rfl,aC _,λ_ _ _=>rfl⟩,⟨I,h.ag,λ_ _=>rfl,h.rd⟩,h.len,h.isl,h.typ⟩
theorem SX.slice (h:SX P g I0 I w vs cs L ty pid){o:Nat}{sz:Nat}{es:List (List Cell)}{c1:Cell}{v:Value}(hc:cs[o]? = some (.sl sz es))(hv:vs[o]? = some v)(hc1:∃sz es,c1 = .sl sz es)(hp:Post P g I w (pid o) v (ty o) c1 w'):DK P g I w vs (cs.set o c1) L ty pid w':=by
 obtain⟨pg,pF,⟨J,p1,p2,p3⟩,pt⟩:=hp;have hoL:=h.isl _ _ _ hc;have ho:o<cs.length:=(aT.1 hc).1;have hget:∀(j:Nat) (c:Cell),(cs.set o c1)[j]? = some c->(j=o/\c=c1)\/(j≠o/\cs[j]? = some c):=λj c hj=>by
  rw[rq]at hj;split at hj
  ·rename_i e;subst e;cases hj;exact .inl ⟨rfl,rfl⟩
  ·rename_i e;exact .inr ⟨λe'=>e e'.symm,hj⟩
 refine⟨pg,⟨pF.os,pF.tape,pF.output,pF.size,λb hb hn=>pF.block b hb λhx=>hn ⟨o,hoL,hx⟩⟩,⟨J,p1,λb hb=>p2 b (hb o hoL),λj x c hx hj=>?_⟩,by simpa using h.len,λj sz' es' hj=>?_,λj sz' es' hj=>?_⟩
 ·rcases hget j c hj with⟨rfl,rfl⟩|⟨hne,hj⟩
  ·rw[hv]at hx;cases hx;exact p3
  ·have hr:=h.rd j x c hx hj;cases c with
   |lit _=>exact hr.QD
   |str _=>exact hr.Q8
   | sl sz' es'=>have hjL:=h.isl _ _ _ hj;exact hr.under h.good h.ag (h.own j hjL x hx) (h.typ _ _ _ hj) λb hb=>p2 b λhb2=>hne (h.dis j o b hjL hoL hb hb2)
 ·rcases hget j _ hj with⟨rfl,_⟩|⟨_,hj⟩
  ·exact hoL
  ·exact h.isl _ _ _ hj
 ·rcases hget j _ hj with⟨rfl,e⟩|⟨_,hj⟩
  ·rw[e];exact pt
  ·exact h.typ _ _ _ hj
def abk (L:List Nat)(o sz:Nat):List Nat:=(List.range sz).filter λj=>L.contains (o+j)
theorem Dn {o sz j:Nat} : j∈abk L o sz<->j<sz/\o+j∈L:=by simp[abk]
theorem VZ {α:Type}(l:List α)(o sz j:Nat):((l.drop o).take sz)[j]? = if j<sz then l[o+j]? else none:=by
 by_cases h:j<sz
 ·rw[aA h,yC h,gW]
 ·rw[au h,kV];rw[iK];omega
theorem IJ {α:Type}{l:List α}{o sz j:Nat}{x:α}(h:((l.drop o).take sz)[j]? = some x):j<sz/\l[o+j]? = some x:=by
 rw[VZ]at h;split at h
 ·rename_i h1;exact⟨h1,h⟩
 ·cases h
theorem SX.part (h:SX P g I0 I w vs cs L ty pid){o sz:Nat}(hl:o+sz<=cs.length):SX P g I0 I w ((vs.drop o).take sz) ((cs.drop o).take sz) (abk L o sz) (λj=>ty (o+j)) λj=>pid (o+j) where
 good:=h.good
 tabs:=h.tabs
 PU:=h.PU
 old:=h.old
 ag:=h.ag
 len:=by have:=h.len;simp;omega
 rd:=λj v c hv hc=>h.rd _ v c (IJ hv).2 (IJ hc).2
 isl:=λj sz' es hj=>Dn.2 ⟨(IJ hj).1,h.isl _ _ _ (IJ hj).2⟩
 own:=λj hj v hv=>h.own _ (Dn.1 hj).2 v (IJ hv).2
 root:=λj hj=>h.root _ (Dn.1 hj).2
 typ:=λj sz' es hj=>h.typ _ _ _ (IJ hj).2
 dis:=λi j b hi hj h1 h2=>by have:=h.dis _ _ b (Dn.1 hi).2 (Dn.1 hj).2 h1 h2;omega
theorem SX.ano (h:SX P g I0 I w vs cs L ty pid){o sz:Nat}{cs2:List Cell}(hl:o+sz<=cs.length)(hl2:cs2.length=sz)(hp:DK P g I w ((vs.drop o).take sz) cs2 (abk L o sz) (λj=>ty (o+j)) (λj=>pid (o+j)) w') :
 DK P g I w vs (cs.take o++cs2++cs.drop (o+sz)) L ty pid w':=by
 obtain⟨pg,pF,⟨J,p1,p2,p3⟩,pl,pi,pt⟩:=hp;have hsub:∀{b},(∃j,j∈abk L o sz/\Under g (pid (o+j)) b)->∃j,j∈L/\Under g (pid j) b:=λ⟨j,hj,hu⟩=>⟨o+j,(Dn.1 hj).2,hu⟩;have hto:(cs.take o).length=o:=by rw[iK];omega
 have hget:∀(j:Nat) (c:Cell),(cs.take o++cs2++cs.drop (o+sz))[j]? = some c->(∃i,j=o+i/\i<sz/\cs2[i]? = some c)\/((j<o\/o+sz<=j)/\cs[j]? = some c):=λj c hj=>by
  by_cases h1:j<o
  ·rw[jh,cu aI,yC h1]at hj;exact .inr ⟨.inl h1,hj⟩
  ·by_cases h2:j<o+sz
   ·rw[cu (by simp[hl2];omega),dU aI,hto]at hj;exact .inl ⟨j-o,aI,aI,hj⟩
   ·have hl3:(cs.take o++cs2).length=o+sz:=(by rw[bZ,hto,hl2]);rw[dU aI,hl3,gW,show o+sz+(j-(o+sz))=j by omega]at hj;exact .inr ⟨.inr aI,hj⟩
 refine⟨pg,⟨pF.os,pF.tape,pF.output,pF.size,λb hb hn=>pF.block b hb λhx=>hn (hsub hx)⟩,⟨J,p1,λb hb=>p2 b λj hj hu=>hb _ (Dn.1 hj).2 hu,λj x c hx hj=>?_⟩,?_,λj sz' es' hj=>?_,λj sz' es' hj=>?_⟩
 ·rcases hget j c hj with⟨i,rfl,hi,hc⟩|⟨hne,hj⟩
  ·exact p3 i x c (by rw[VZ,aA hi];exact hx) hc
  ·have hr:=h.rd j x c hx hj;cases c with
   |lit _=>exact hr.QD
   |str _=>exact hr.Q8
   | sl sz' es'=>
     have hjL:=h.isl _ _ _ hj;exact hr.under h.good h.ag (h.own j hjL x hx) (h.typ _ _ _ hj) λb hb=>p2 b λi hi hb2=>by have:=h.dis j (o+i) b hjL (Dn.1 hi).2 hb hb2;have:=(Dn.1 hi).1;omega
 ·have:=h.len;simp[hl2];omega
 ·rcases hget j _ hj with⟨i,rfl,hi,hc⟩|⟨_,hj⟩
  ·exact(Dn.1 (pi _ _ _ hc)).2
  ·exact h.isl _ _ _ hj
 ·rcases hget j _ hj with⟨i,rfl,hi,hc⟩|⟨_,hj⟩
  ·exact pt _ _ _ hc
  ·exact h.typ _ _ _ hj
end
def stepS (P:Program)(s:Stp)(m:Nat):List Oper->Bool
 | [x,y,z,u,v]=>(match x.guard,x.dst,x.op,y.guard,y.dst,y.op with
   | none,some t1,.fieldAddr S (.tmp 2) fi,none,some t2,.load t (.tmp t1')=>t1'==t1&&decide (2<t1/\2<t2/\t1<m/\t2<m)&&(match z.guard,z.dst,z.op,u.guard,u.dst,u.op with
     | none,some t3,.move (.tmp 1),none,some t4,.call ⟨.value (.func f),⟨[.tmp t2',.tmp t3']⟩,_⟩=>t2'==t2&&t3'==t3&&decide (2<t3/\t3≠t2/\t3<m/\2<t4/\t4<m)&&zL P f&&(match v.guard,v.dst,v.op with
       |none,some 1,.assign (.tmp t4')=>t4'==t4
       |_,_,_=>false)&&(match s with
       |.sl o g=>f==g&&FY P S fi o&&MG P t false 1
       |.st o sz g=>f==g&&FY P S fi o&&MG P t true sz)
     |_,_,_,_,_,_=>false)
   |_,_,_,_,_,_=>false)
 |_=>false
def Zm : Code->Option (List (Array Oper)×Array Oper)
 |.seq (.region _ ops false) .ret=>some ([],ops)
 |.seq (.region _ ops false) c=>(Zm c).map λp=>(ops::p.1,p.2)
 |_=>none
def WC (P:Program)(m:Nat):List Stp->List (Array Oper)->Bool
 |[],[]=>true
 |s::r,x::rs=>stepS P s m x.toList&&WC P m r rs
 |_,_=>false
def aky (P:Program)(sb:acf)(f:Nat):Bool:=match sb f,P.funcs[f]? with
 | some (sz,steps),some fn=>(match fn.body with
   | some (.seq (.region _ r0 false) rest)=>(match r0.toList with
     | [x,y]=>(match x.guard,x.dst,x.op,y.guard,y.dst,y.op with
       |none,some 2,.box _ (.tmp 0),none,some 4,.assign (.const (.int .i64 0))=>true
       |_,_,_,_,_,_=>false)
     |_=>false)&&(match Zm rest with
     | some (rs,last)=>WC P fn.ntmps steps rs&&(match last.toList with
       | [z1,z2]=>(match z1.guard,z1.dst,z1.op,z2.guard,z2.dst,z2.op with
         |none,some t,.move (.tmp 1),none,some 4,.assign (.tmp t')=>t'==t&&decide (t<fn.ntmps)
         |_,_,_,_,_,_=>false)
       |_=>false)
     |none=>false)&&decide (4<fn.ntmps)&&(match fn.results.toList with
     |[.tmp 4]=>true
     |_=>false)
   |_=>false)
 |_,_=>false
end
section
structure TS (kx:Nat)(k:Int)(m:Nat)(a:Act):Prop where
 size:a.tmps.size=m
 defers:a.defers=[]
 cnt:a.tmps.getD 1 undef = .int .i64 k
 ptr:a.tmps.getD 2 undef = .pointer (some ⟨kx,0,none⟩)
theorem TS.put {kx m:Nat}{k:Int}{a:Act}(h:TS kx k m a){d:Nat}(hd:2<d)(v:Value):TS kx k m (a.put (some d) v):=
 ⟨by simp[jH,h.size],h.defers,by rw[o7 aI];exact h.cnt,by rw[o7 aI];exact h.ptr⟩
def Stp.arg (vs:List Value):Stp->Option Value
 |.sl o _=>vs[o]?
 |.st o sz _=>if o+sz<=vs.length then some (.agg ((vs.drop o).take sz).toArray)else none
def Stp.fn : Stp->Nat
 |.sl _ g=>g
 |.st _ _ g=>g
section
variable {P:Program} {Q:Exit->Act->World->Prop} {a:Act} {w:World} {ops:Array Oper}
theorem agI {o:Oper}{S:TypeId}{t fi off kx base:Nat}(ho:o.op = .fieldAddr S (.tmp t) fi)(hf:FY P S fi off=true)(hv:a.tmps.getD t undef = .pointer (some ⟨kx,base,none⟩)) :
 (execOp a.eval o).run P w = .ok (.value (.pointer (some ⟨kx,base+off,none⟩))) w:=by
 unfold FY at hf;split at hf
 ·rename_i fs hs;split at hf
  ·rename_i TL hfld;simp only[ah,aZ]at hf;obtain⟨rfl,hf⟩:=hf;split at hf
   ·rename_i ti hti;simp at hf;have v1:a.eval (.tmp t) = .pointer (some ⟨kx,base,none⟩):=hv;simp[execOp,ho,BM,run_underlying hs,hfld,v1,kY,fieldPlace,sizeOf,typeInfo,hti,hf,Addr.uw]
   ·cases hf
  ·cases hf
 ·cases hf
theorem Ua {s:Stp}{m kx:Nat}{k k1:Int}{os:List Oper}{vs:List Value}{e:TypeId}{x:Value}{R:World->Prop}(hc:stepS P s m os=true)(ts:TS kx k m a)(hm:2<m)(hw:w.heap[kx]? = some (.cells vs.toArray e (0,0)))(hx:s.arg vs=some x)
 (hcall:Calls P s.fn #[x,.int .i64 k] w λe w'=>e = .returned (.int .i64 k1)/\R w') (hk:∀a' w',TS kx k1 m a'->R w'->Q .normal a' w'):wpList P ops Q os a w:=by
 unfold stepS at hc;split at hc
 ·rename_i x1 y z u v;split at hc
  ·rename_i t1 S fi t2 t t1' g1 d1 p1 g2 d2 p2;simp only[ah,aZ,aF]at hc;obtain⟨⟨e1,q1,q2,q3,q4⟩,hc⟩:=hc;rw[e1]at p2;split at hc
   ·rename_i t3 t4 f t2' t3' ts' g3 d3 p3 g4 d4 p4;simp only[ah,aZ,aF]at hc;obtain⟨⟨⟨⟨⟨e2,e3⟩,q5,q6,q7,q8,q9⟩,hok⟩,hc5⟩,hs⟩:=hc;rw[e2,e3]at p4;split at hc5
    ·rename_i t4' g5 d5 p5;simp only[aZ]at hc5;rw[hc5]at p5;have hload:∃off,FY P S fi off=true/\(loadVar t ⟨kx,off,none⟩).run P w = .ok x w/\f=s.fn:=by
      cases s with
      | sl o g=>simp only[ah,aZ]at hs;refine⟨o,hs.1.2,LC hs.2 ?_,hs.1.1⟩;simp only[iy,hw];simpa[Stp.arg]using hx
      | st o sz g=>
        simp only[ah,aZ]at hs;refine⟨o,hs.1.2,?_,hs.1.1⟩;simp only[Stp.arg]at hx;split at hx
        ·rename_i hl;cases hx;obtain⟨h1,h2⟩:=IK hs.2 w;have h3:=run_loadCells_list (P:=P) w ⟨kx,o,none⟩ ((vs.drop o).take sz) (λj u hu=>by
          rw[VZ]at hu;split at hu
          ·rw[Addr.uw];simp only[iy,hw];simpa using hu
          ·cases hu)
         rw[show((vs.drop o).take sz).length=sz by simp;omega]at h3;simp[loadVar,h1,h2,h3]
        ·cases hx
     obtain⟨off,hf,hl,rfl⟩:=hload;refine vV (v:=.pointer (some ⟨kx,off,none⟩)) (w':=w) g1 (by have:=agI (P:=P) (w:=w) p1 hf ts.ptr;rwa[fV]at this) ?_;rw[d1];have b1:=ts.put q1 (.pointer (some ⟨kx,off,none⟩));have v1:(a.put (some t1) (.pointer (some ⟨kx,off,none⟩))).eval (.tmp t1) = .pointer (some ⟨kx,off,none⟩):=(by rw[FX];exact iq (by rw[ts.size];exact q3));refine vV (v:=x) (w':=w) g2 (by simp[execOp,p2,v1,kY,qM,hl]) ?_;rw[d2];have b2:=b1.put q2 x;refine vV (v:=.int .i64 k) (w':=w) g3 (by unfold execOp;rw[p3];exact sK (λv=>oO (nU v) w) b2.cnt) ?_;rw[d3];have b3:=b2.put q5 (.int .i64 k);have v2:(((a.put (some t1) (.pointer (some ⟨kx,off,none⟩))).put (some t2) x).put (some t3) (.int .i64 k)).eval (.tmp t2)=x:=(by rw[FX,o7 (Gm q6)];exact iq (by rw[b1.size];exact q4));have v3:(((a.put (some t1) (.pointer (some ⟨kx,off,none⟩))).put (some t2) x).put (some t3) (.int .i64 k)).eval (.tmp t3) = .int .i64 k:=(by rw[FX];exact iq (by rw[b2.size];exact q7));have he:=Hf (w:=w) (a:=(((a.put (some t1) (.pointer (some ⟨kx,off,none⟩))).put (some t2) x).put (some t3) (.int .i64 k))) p4 (x:=.func s.fn) (caps:= #[]) rfl hok;refine Ou g4 (f:=s.fn) (args:= #[x,.int .i64 k]) (by simpa[v2,v3]using he) (hcall.mono ?_);rintro e w' ⟨rfl,hR⟩;refine⟨_,rfl,?_⟩;rw[d4];have b4:=b3.put q8 (.int .i64 k1);have v4:((((a.put (some t1) (.pointer (some ⟨kx,off,none⟩))).put (some t2) x).put (some t3) (.int .i64 k)).put (some t4) (.int .i64 k1)).tmps.getD t4 undef = .int .i64 k1:=iq (by rw[b3.size];exact q9);refine vV (v:=.int .i64 k1) (w':=w') g5 (by unfold execOp;rw[p5];exact sK (λv=>oO (nU v) w') v4) ?_;rw[d5];exact hk _ w' ⟨by simp[jH,b4.size]<;>(have:=b4.size;simpa[jH]using this),b4.defers,iq (by rw[b4.size];omega),by rw[o7 aI];exact b4.ptr⟩ hR
    ·cases hc5
   ·cases hc
  ·cases hc
 ·cases hc
end
theorem ajc {P:Program}{Q:Exit->Act->World->Prop}{K:Act->World->Prop} : ∀{c:Code} {rs:List (Array Oper)} {last:Array Oper} {a:Act} {w:World},Zm c=some (rs,last) ->
 (∀a w,K a w->wpList P last (Exit.then (Q .ret) Q) last.toList a w)->D8 P (Exit.then K Q) rs a w->c.wp P Q a w:=by
 intro c rs last a w hc hK h
 fun_induction Zm c generalizing rs a w with
 | case1 id ops=>
   cases hc;refine wp_seq (wp_mono (wp_region_list (hK a w h)) λe a w hq=>?_);cases e with
   |normal=>exact wp_ret hq
   |_=>exact hq
 | case2 id ops c hne ih=>
   simp only[dD]at hc;obtain⟨⟨rs',l'⟩,hp,e⟩:=hc;cases e;simp only[D8]at h;refine wp_seq (wp_mono (wp_region_list h) λe a w hq=>?_);cases e with
   |normal=>exact ih hp hq
   |_=>exact hq
 |case3=>cases hc
def alE (P:Program)(ty:Nat->Nat)(steps:List Stp)(cs:List Cell)(k:Int)(cs':List Cell)(k':Int):Prop:=
 ∀ {g:Own} {I0 I:IH} {w:World} {vs:List Value} {L:List Nat} {pid:Nat->zo},SX P g I0 I w vs cs L ty pid->∀{m kx:Nat} {rs:List (Array Oper)} {e:TypeId} {a:Act} {Q:Exit->Act->World->Prop},WC P m steps rs=true->2<m->TS kx k m a ->
   w.heap[kx]? = some (.cells vs.toArray e (0,0))->g kx=none->(∀a' w',TS kx k' m a'->DK P g I w vs cs' L ty pid w'->Q .normal a' w')->D8 P Q rs a w
def Xu (P:Program)(f:Nat)(ty:Nat->Nat)(cs:List Cell)(k:Int)(cs':List Cell)(k':Int):Prop:=
 ∀{g:Own} {I0 I:IH} {w:World} {vs:List Value} {L:List Nat} {pid:Nat->zo},SX P g I0 I w vs cs L ty pid->Calls P f #[.agg vs.toArray,.int .i64 k] w λe w'=>e = .returned (.int .i64 k')/\DK P g I w vs cs' L ty pid w'
theorem Pm {P:Program}{sb:acf}{f sz:Nat}{steps:List Stp}{ty:Nat->Nat}{cs cs':List Cell}{k k':Int}(hc:aky P sb f=true)(hs:sb f=some (sz,steps))(hr:alE P ty steps cs k cs' k'):Xu P f ty cs k cs' k':=by
 intro g I0 I w vs L pid hX;unfold aky at hc;rw[hs]at hc;split at hc
 ·rename_i sz' steps' fn e1 hf;cases e1;split at hc
  ·rename_i id r0 rest hb;simp only[ah,aF]at hc;obtain⟨⟨⟨h1,h2⟩,hm⟩,h3⟩:=hc;refine calls_of_wp hf hb (wp_seq (wp_region_list ?_));split at h1
   ·rename_i x y l0;split at h1
    ·rename_i S g1 d1 p1 g2 d2 p2;rw[l0]
     let a0:Act:={ tmps:= #[Value.agg vs.toArray,.int .i64 k]++tH (fn.ntmps-2) undef,defers:=[] }
     have hs0:a0.tmps.size=fn.ntmps:=(by simp[a0];omega);have ha0:a0.tmps.getD 0 undef = .agg vs.toArray/\a0.tmps.getD 1 undef = .int .i64 k:=(by constructor<;>(simp only[a0,fH];rw[sH mg];rfl));have v0:a0.eval (.tmp 0) = .agg vs.toArray:=ha0.1;refine vV (v:=.pointer (some ⟨w.heap.size,0,none⟩)) (w':=w.alloc (.cells vs.toArray S)) g1 ?_ ?_
     ·have e1:(Value.agg vs.toArray).cells=vs.toArray:=rfl;show(execOp a0.eval x).run P w=_;simp only[execOp,p1,v0,Go.Instr.box,dN,bT,GY,dA,e1]
     rw[d1];refine vV (v:=.int .i64 0) (w':=w.alloc (.cells vs.toArray S)) g2 (by unfold execOp;rw[p2];rfl) ?_;rw[d2];have ts:TS w.heap.size k fn.ntmps ((a0.put (some 2) (.pointer (some ⟨w.heap.size,0,none⟩))).put (some 4) (.int .i64 0)):=
      ⟨by simp[jH,hs0],rfl,by rw[o7 aI,o7 aI];exact ha0.2,by rw[o7 aI];exact iq (by rw[hs0];omega)⟩
     have hF:DW w (w.alloc (.cells vs.toArray S)) λ_=>False:=⟨rfl,rfl,rfl,by show _<=(w.heap.push _).size;simp,λb hb _=>XN w _ b hb⟩;split at h2
     ·rename_i rs last hp;simp only[ah]at h2;obtain⟨h4,h5⟩:=h2;have hgk:g w.heap.size=none:=by
       cases hx:g w.heap.size with
       |none=>rfl
       |some B=>exact eF (hX.good.lt hx) (Nat.lt_irrefl _)
      show rest.wp P _ _ _;refine ajc (K:=λa w'=>TS w.heap.size k' fn.ntmps a/\DK P g I w vs cs' L ty pid w') hp (λa w' hK=>?_) (hr (hX.quiet hF) h4 aI ts (heap_alloc_new w _) hgk (λa' w' ts' hp'=>⟨ts',DK.trans hF.any (λ_ _=>rfl) hp'⟩));obtain⟨ts',hP⟩:=hK;split at h5
      ·rename_i z1 z2 l4;split at h5
       ·rename_i t t' g4 d4 p4 g5 d5 p5;simp only[ah,aZ,aF]at h5;obtain⟨e5,htm⟩:=h5;rw[e5]at p5;rw[l4];refine vV (v:=.int .i64 k') (w':=w') g4 (by unfold execOp;rw[p4];exact sK (λv=>oO (nU v) w') ts'.cnt) ?_;rw[d4];have e2:(a.put (some t) (.int .i64 k')).tmps.getD t undef = .int .i64 k':=iq (by rw[ts'.size];exact htm);refine vV (v:=.int .i64 k') (w':=w') g5 (by unfold execOp;rw[p5];exact sK (λv=>oO (nU v) w') e2) ?_;rw[d5];refine⟨ts'.defers,.int .i64 k',?_,rfl,hP⟩;have e3:((a.put (some t) (.int .i64 k')).put (some 4) (.int .i64 k')).tmps.getD 4 undef = .int .i64 k':=iq (by simp[jH,ts'.size];omega);split at h3
        ·rename_i er;have e4:fn.results = #[.tmp 4]:=(by apply Array.toList_inj.1;rw[er]);rw[Lu,e4];simp[Uo,e3]
        ·cases h3
       ·cases h5
      ·cases h5
     ·cases h2
    ·cases h1
   ·cases h1
  ·cases hc
 ·cases hc
theorem abE {P:Program}{E8:Nat}{mt:FP}{sb:acf}{tx:Int->List UInt8}(hall:∀f,(mt f).isSome=true->acG P E8 mt f=true)(hst:∀f,(sb f).isSome=true->aky P sb f=true)(ht:LW P E8 tx)
 {ty:Nat->Nat} {steps:List Stp} {cs cs':List Cell} {k k':Int} (h:SR mt sb tx ty steps cs k cs' k'):alE P ty steps cs k cs' k':=by
 induction h with
 | nil=>
   intro g I0 I w vs L pid hX m kx rs e a Q hc hm ts hw hg hk
   match rs,hc with
   |[],_=>exact hk a w ts (DK.refl hX)
 | @sl ty o g r cs cs' c c1 k k1 k2 hc0 hT hmk _ ih=>
   intro gh I0 I w vs L pid hX m kx rs e a Q hc hm ts hw hg hk
   match rs,hc with
   | x::rs,hc=>
     simp only[WC,ah]at hc;have hsl:(∃sz es,c = .sl sz es)/\∃sz es,c1 = .sl sz es:=by cases hmk with|c _ _ _=>exact⟨⟨_,_,rfl⟩,_,_,rfl⟩
     obtain⟨⟨sz',es,rfl⟩,hc1⟩:=hsl;have ho:o<vs.length:=(by rw[hX.len];exact(aT.1 hc0).1);have hv:=aB ho;have hoL:=hX.isl _ _ _ hc0;have hC:=(aa4 hall ht hmk).1;refine Ua (Q:=Exit.then (D8 P Q rs) Q) hc.1 ts hm hw (x:=vs[o]) hv (k1:=k1) (R:=λw'=>DK P gh I w vs (cs.set o c1) L ty pid w') ?_ (λa' w' ts' hP=>?_)
     ·refine(hC gh I0 I w (ty o) (pid o) _ hT hX.good hX.tabs hX.PU hX.old hX.ag (hX.own o hoL _ hv) (hX.root o hoL) (hX.rd o _ _ hv hc0) (hX.typ o _ _ hc0)).mono ?_;rintro e w' ⟨rfl,hp⟩;exact⟨rfl,hX.slice hc0 hv hc1 hp⟩
     ·obtain⟨J,hX2,hJ⟩:=DK.next hX hP;refine ih (e:=e) hX2 hc.2 hm ts' ?_ hg (λa2 w2 ts2 hP2=>hk a2 w2 ts2 (DK.trans hP.DT hJ hP2));rw[hP.DT.block kx (Ac hw) (λ⟨j,_,hu⟩=>by obtain⟨T2,p,h2⟩:=hu.owned;rw[hg]at h2;cases h2)];exact hw
 | @st ty o sz g r steps cs cs2 cs' k k1 k2 hs hl _ hl2 _ ih1 ih2=>
   intro gh I0 I w vs L pid hX m kx rs e a Q hc hm ts hw hg hk
   match rs,hc with
   | x::rs,hc=>
     simp only[WC,ah]at hc;have hF:Xu P g (λj=>ty (o+j)) ((cs.drop o).take sz) k cs2 k1:=Pm (hst g (by rw[hs];rfl)) hs ih1;refine Ua (Q:=Exit.then (D8 P Q rs) Q) hc.1 ts hm hw (x:=.agg ((vs.drop o).take sz).toArray) (by simp only[Stp.arg];rw[aA (by rw[hX.len];exact hl)]) (k1:=k1) (R:=λw'=>DK P gh I w vs (cs.take o++cs2++cs.drop (o+sz)) L ty pid w') ?_ (λa' w' ts' hP=>?_)
     ·refine(hF (hX.part hl)).mono ?_;rintro e w' ⟨rfl,hp⟩;exact⟨rfl,hX.ano hl hl2 hp⟩
     ·obtain⟨J,hX2,hJ⟩:=DK.next hX hP;refine ih2 (e:=e) hX2 hc.2 hm ts' ?_ hg (λa2 w2 ts2 hP2=>hk a2 w2 ts2 (DK.trans hP.DT hJ hP2));rw[hP.DT.block kx (Ac hw) (λ⟨j,_,hu⟩=>by obtain⟨T2,p,h2⟩:=hu.owned;rw[hg]at h2;cases h2)];exact hw
end
section
def takeA : Nat->dI->dI
 |n+1,.seq x y=>.seq x (takeA n y)
 |_,_=>.skip
def Qk : Nat->dI->dI
 |n+1,.seq _ y=>Qk n y
 |_,c=>c
def L8 : Nat->Code->Code
 |n+1,.seq _ b=>L8 n b
 |_,c=>c
def Jd (P:Program)(pl:List Nat):Nat->Code->dI->List OF->Option (List OF)
 |0,_,_,Γ =>some Γ
 | n+1,.seq a b,.seq x y,Γ =>(match oC P pl (λ_=>true) a x Γ with
   |some (some Mc,_)=>Jd P pl n b y Mc
   |_=>none)
 |_,_,_,_=>none
def QA (K R:gY->Prop):AQ
 |.normal,st=>K st
 |.ret,st=>R st
 |.exit _,_=>False
section
variable {P:Program} {E:Env P} {N:Nat} {g0:Own} {dp:Nat} {pa:List (Nat×Value)} {pl:List Nat}
theorem Jt (hm:E.m<=10)(hpl:∀e,e∈pa->e.1∈pl){K R:gY->Prop}{Q:Exit->Act->World->Prop} : ∀{n:Nat} {c:Code} {ac:dI} {Γ Dt:List OF} {a:Act} {w:World},xy P N E.m c ac=true->Jd P pl n c ac Γ = some Dt ->
 AO E g0 pa dp N (wpC P (takeA n ac) (QA K R)) Γ a w->(∀a w,AO E g0 pa dp N K Dt a w->(L8 n c).wp P Q a w)->(∀a w,AK E N R a w->Q .ret a w)->c.wp P Q a w
 | 0,c,ac,Γ,Dt,a,w,hc,ho,h,hk,hr=>by simp only[Jd,aH]at ho;subst ho;exact hk a w (by simpa[takeA,wpC,QA]using h)
 | n+1,c,ac,Γ,Dt,a,w,hc,ho,h,hk,hr=>by
   cases c<;>cases ac<;>try(simp[Jd]at ho;done)
   rename_i p q x y;simp only[xy,ah]at hc;simp only[Jd]at ho;split at ho
   ·rename_i Mc xs hq;have h':AO E g0 pa dp N (wpC P x (xQ.then (wpC P (takeA n y) (QA K R)) (QA K R))) Γ a w:=h;refine wp_seq (wp_mono (yw hm hpl hc.1 hq h') λe a' w' he=>?_);cases e with
    | normal=>obtain⟨Γ2,e1,h2⟩:=he;cases e1;exact Jt hm hpl hc.2 ho h2 hk hr
    | ret=>obtain⟨Γ2,_,h2⟩:=he;exact hr a' w' h2.1.1
    | exit id=>obtain⟨Γ2,_,h2⟩:=he;obtain⟨_,_,_,h3,_⟩:=h2.1.1;exact h3.elim
    |goto l=>exact he.elim
    |panic ch=>exact he.elim
    |outgrown=>exact he.elim
   ·cases ho
end
def Yn : Ren:=λ_=>none
def Z4 (J:IH)(a:Act)(ts:List (Nat×Slot)):Prop:=∀t s,(t,s)∈ts->GSl J Yn (a.tmps.getD t undef) s
theorem Z4.mono {I J:IH}{a:Act}{ts:List (Nat×Slot)}(h:Z4 I a ts)(hle:I.le J):Z4 J a ts:=λt s hs=>(h t s hs).mono hle (λ_ _ h=>h)
theorem XU : ∀{ts:List (Nat×Slot)} {t:Nat},Cb ts t = .none\/(t,Cb ts t)∈ts
 |[],t=>.inl rfl
 | (x,s)::r,t=>by
   simp only[Cb];by_cases h:x=t
   ·subst h;simp
   ·rw[au h];rcases XU (ts:=r) (t:=t)with h2|h2
    ·exact .inl h2
    ·exact .inr (fJ _ h2)
noncomputable def IH.with (I:IH)(w:World)(V:Nat->Prop):IH:=λk=>open Classical in if V k then(match w.heap[k]? with
 |some (.cells c _ _)=>some c
 |_=>I k)else I k
theorem WR {I:IH}{w:World}{V:Nat->Prop}{k:Nat}{c:Array Value}{e:TypeId}{fr:Nat×Nat}(hk:V k)(hw:w.heap[k]? = some (.cells c e fr)):I.with w V k=some c:=by unfold IH.with;rw[aA hk,hw]
theorem UQ {I:IH}{w:World}{V:Nat->Prop}(hA:Agree I w):I.le (I.with w V):=λk c h=>by
 obtain⟨e,fr,hw⟩:=hA k c h;unfold IH.with
 split
 ·rw[hw]
 ·exact h
theorem PR {I:IH}{w:World}{V:Nat->Prop}(hA:Agree I w):Agree (I.with w V) w:=λk c h=>by
 unfold IH.with at h;split at h
 ·split at h
  ·rename_i c' e fr hw;cases h;exact⟨e,fr,hw⟩
  ·exact hA k c h
 ·exact hA k c h
section
variable {P:Program} {N:Nat} {a:Act} {w:World} {J:IH}
abbrev E1 (w:World)(J:IH)(hT:Tabs P J):Env P:=⟨w,J,λk=>∃b,(Dj ([]:List Box) b).uses (Yn b) k,Yn,([]:List Box).length,hT⟩
theorem aie (hT:Tabs P J)(hA:Agree J w){ts:List (Nat×Slot)}(hs:Z4 J a ts)(hn:a.tmps.size=N)(hd:a.defers=[]):GX (E1 w J hT) J Yn N (gY.of ts []) a w where
 agree:=hA
 bx:=⟨λb=>by rw[Fq];exact rfl,λb b' k h _=>by rw[Fq]at h;exact h.elim,λb k h=>by rw[Fq]at h;exact h.elim⟩
 tm:=λt _=>by
  rw[KE];rcases XU (ts:=ts) (t:=t)with h|h
  ·rw[h];trivial
  ·exact hs t _ h
 size:=hn
 defers:=hd
 DT:=DW.refl _ _
 own:=λb k h=>by rw[Fq]at h;exact h.elim
 Nq:=IH.le_refl _
 I7:=λ_ _ _=>rfl
 zU:=λb hb=>eF hb (Nat.not_lt_zero b)
theorem acR {w':World}{hT:Tabs P J}(h:DW w w' (E1 w J hT).M):DW w w' λ_=>False:=⟨h.os,h.tape,h.output,h.size,λk hk _=>h.block k hk (by rintro⟨b,hb⟩;exact hb)⟩
def TR : Own:=⟨λ_=>none,λ_=>0⟩
theorem Zi {dp:Nat} : OW P FV TR dp [] a w:=⟨⟨λk T p h=>(by cases h),λk row d b h=>(by cases h)⟩,λf hf=>(by cases hf)⟩
end
theorem X8 {P:Program}{f:FuncId}{args:List AV}(hk:Xe f true=true)(h:∀(I:IH) (w:World) (vs:List Value),Tabs P I->Agree I w->UX I Yn vs args->Calls P f vs.toArray w λe w'=>e = .returned (.bool true)/\DW w w' λ_=>False):fF P f args (xX true):=by
 refine pO.of0 hk λI ρ w vs hT hA hB hV=>?_;have hρ:ρ=Yn:=by
  funext b
  have:=hB.ok b;exact this
 subst hρ;refine(h I w vs hT hA hV).mono ?_;rintro e w' ⟨rfl,hF⟩;refine⟨.bool true,I,Yn,_,_,rfl,⟨rfl,rfl⟩,Rd.lit _ rfl,hA.quiet hF,⟨λb=>rfl,λb b' k h=>h.elim,λb k h=>h.elim⟩,IH.le_refl I,hF.any,λb k h=>h.elim,λ_ _ _=>rfl,λ_ _=>rfl⟩
theorem akR {P:Program}{Q:Exit->Act->World->Prop}{id:Nat}{ops:Array Oper}{c r:Code}{a:Act}{w:World}(h:c = .seq (.region id ops false) r)(hw:(Dz id ops false).wp P (Exit.then (r.wp P Q) Q) a w):c.wp P Q a w:=by subst h;exact wp_seq hw
end
def adh (P:Program)(N:Nat):List Oper->Option (Option Nat×Nat×Nat×Nat×List Nat)
 | [o1,o2,o3,o4]=>(match o1.guard,o1.dst,o2.guard,o2.dst,o2.op with
   | none,some t1,none,some t2,.move (.tmp y)=>(match o3.guard,o3.dst,o3.op,o4.guard,o4.dst,o4.op with
     | none,some t3,.call ⟨.value (.func f),⟨[.tmp u1,.tmp u2]⟩,_⟩,none,some y',.assign (.tmp u3)=>
       if u1=t1/\u2=t2/\u3=t3/\y'=y/\t1≠t2/\y≠t1/\t1<N/\t2<N/\t3<N/\y<N/\zL P f=true then(match o1.op with
        | .load t (.tmp x)=>(match P.info? t with
          |some i=>if MG P t true i.size=true then some (some i.size,x,y,f,[t1,t2,t3,y])else none
          |none=>none)
        |.move (.tmp x)=>some (none,x,y,f,[t1,t2,t3,y])
        |_=>none)
       else none
     |_,_,_,_,_,_=>none)
   |_,_,_,_,_=>none)
 |_=>none
def Held (a:Act)(w:World)(x:Nat)(vs:List Value):Option Nat->Prop
 |some sz=>∃kx e,a.tmps.getD x undef = .pointer (some ⟨kx,0,none⟩)/\w.heap[kx]? = some (.cells vs.toArray e (0,0))/\vs.length=sz
 |none=>∃v,vs=[v]/\a.tmps.getD x undef=v
def OL (vs:List Value):Option Nat->Value
 |some _=>.agg vs.toArray
 |none=>vs.headD undef
theorem agr {P:Program}{N id x y f:Nat}{k k':Int}{s:Option Nat}{tms:List Nat}{ops:Array Oper}{Q:Exit->Act->World->Prop}{a:Act}{w:World}{vs:List Value}{R:World->Prop}(hm:adh P N ops.toList=some (s,x,y,f,tms))(hN:a.tmps.size=N)(hd:a.defers=[])
 (hv:Held a w x vs s) (hk:a.tmps.getD y undef = .int .i64 k) (hcall:Calls P f #[OL vs s,.int .i64 k] w λe w'=>e = .returned (.int .i64 k')/\R w')
 (hQ:∀a' w',a'.tmps.size=N->a'.defers=[]->a'.tmps.getD y undef = .int .i64 k'->(∀t,t ∉ tms->a'.tmps.getD t undef=a.tmps.getD t undef)->R w'->Q .normal a' w'):(Dz id ops false).wp P Q a w:=by
 refine wp_region_list ?_;generalize ops.toList=os at hm;unfold adh at hm;split at hm
 ·rename_i o1 o2 o3 o4;split at hm
  ·rename_i t1 t2 y' g1 d1 g2 d2 p2;split at hm
   ·rename_i t3 f' u1 u2 ts y2 u3 g3 d3 p3 g4 d4 p4;split at hm
    ·rename_i hc;obtain⟨rfl,rfl,rfl,rfl,n1,n2,l1,l2,l3,l4,hok⟩:=hc;have fin:∀{x0:Nat},(execOp a.eval o1).run P w = .ok (.value (OL vs s)) w->(s,x0,y2,f',[u1,u2,u3,y2])=(s,x,y,f,tms)->wpList P ops Q [o1,o2,o3,o4] a w:=λhr e=>by
      cases e;refine vV g1 hr ?_;rw[d1];refine vV (v:=.int .i64 k) (w':=w) g2 (by unfold execOp;rw[p2];exact sK (λv=>oO (nU v) w) ((o7 n2).trans hk)) ?_;rw[d2];have v1:((a.put (some u1) (OL vs s)).put (some u2) (.int .i64 k)).eval (.tmp u1)=OL vs s:=(by rw[FX,o7 n1];exact iq (by rw[hN];exact l1));have v2:((a.put (some u1) (OL vs s)).put (some u2) (.int .i64 k)).eval (.tmp u2) = .int .i64 k:=(by rw[FX];exact iq (by simp[jH,hN];exact l2));have he:=Hf (w:=w) (a:=((a.put (some u1) (OL vs s)).put (some u2) (.int .i64 k))) p3 (x:=.func f) (caps:= #[]) rfl hok;refine Ou g3 (f:=f) (args:= #[OL vs s,.int .i64 k]) (by simpa[v1,v2]using he) (hcall.mono ?_);rintro e w' ⟨rfl,hR⟩;refine⟨_,rfl,?_⟩;rw[d3];have v3:(((a.put (some u1) (OL vs s)).put (some u2) (.int .i64 k)).put (some u3) (.int .i64 k')).tmps.getD u3 undef = .int .i64 k':=iq (by simp[jH,hN];exact l3);refine vV (v:=.int .i64 k') (w':=w') g4 (by unfold execOp;rw[p4];exact sK (λv=>oO (nU v) w') v3) ?_;rw[d4];refine hQ _ w' (by simp[jH,hN]) hd (iq (by simp[jH,hN];exact l4)) (λt ht=>?_) hR;simp only[aK,List.not_mem_nil,or_false,not_or]at ht;rw[o7 ht.2.2.2,o7 ht.2.2.1,o7 ht.2.1,o7 ht.1]
     split at hm
     ·rename_i t x0 p1;split at hm
      ·rename_i i hi;split at hm
       ·rename_i hty;have e:s=some i.size/\x0=x:=by cases hm;exact⟨rfl,rfl⟩
        obtain⟨rfl,rfl⟩:=e;obtain⟨kx,e,h1,h2,h3⟩:=hv;refine fin (x0:=x0) ?_ (by simpa using hm);obtain⟨q1,q2⟩:=IK hty w;have q3:=run_loadCells_list (P:=P) w ⟨kx,0,none⟩ vs (λj u hu=>by rw[Addr.uw,fV];simp only[iy,h2];simpa using hu)
        rw[h3]at q3;have v1:a.eval (.tmp x0) = .pointer (some ⟨kx,0,none⟩):=h1;simp[execOp,p1,v1,kY,qM,loadVar,q1,q2,q3,OL]
       ·cases hm
      ·cases hm
     ·rename_i x0 p1;have e:s=none/\x0=x:=by cases hm;exact⟨rfl,rfl⟩
      obtain⟨rfl,rfl⟩:=e;obtain⟨v,rfl,h1⟩:=hv;refine fin (x0:=x0) ?_ (by simpa using hm);unfold execOp;rw[p1];exact sK (λv=>oO (nU v) w) h1
     ·cases hm
    ·cases hm
   ·cases hm
  ·cases hm
 ·cases hm
section
section
variable {P:Program} {E:Env P} {I I0 J:IH} {ρ:Ren} {N dp:Nat} {st:gY} {a:Act} {w w':World} {g:Own} {Γ : List OF}
theorem aek {I:IH}{ρ:Ren}{cells:Array Value}{xs:List AC}{cs:List Cell}(hxs:xs=cs.map .c)(hg:∀(j:Nat) (u:Value) (x:AC),cells[j]? = some u->xs[j]? = some x->GC I ρ u x)(j:Nat)(v:Value)(c:Cell)(hv:cells.toList[j]? = some v)(hc:cs[j]? = some c):Rd I v c:=
 hg j v (.c c) (by simpa using hv) (by rw[hxs,List.getElem?_map,hc];rfl)
theorem Yg (hG:GX E I ρ N st a w)(hO:OW P FV g dp Γ a w){x b:Nat}{xs:List AC}{cs:List Cell}{rows:List (Nat×Nat×Nat)}(hx:x<N)(htm:st.tm x = .v true (.one (.ptr b 0)))(hb:st.bx b = .var xs)(hxs:xs=cs.map .c)(hvp:OF.vp x x 0 ∈ Γ)
 (hr:∀r,r∈rows->OF.row x ⟨r.1,r.2.1,r.2.2⟩ ∈ Γ) :
 ∃ (kx:Nat) (vs:List Value) (e:TypeId),a.tmps.getD x undef = .pointer (some ⟨kx,0,none⟩)/\w.heap[kx]? = some (.cells vs.toArray e (0,0))/\vs.length=cs.length/\(∀(j:Nat) (v:Value) (c:Cell),vs[j]? = some v->cs[j]? = some c->Rd I v c) /\
   (∃row d b,g kx=some (.var row d b))/\∀r,r∈rows->∀v,vs[r.1]? = some v->GR g v r.2.1 (.tag dp r.2.2):=by
 obtain⟨kx,row,h1,_,h2⟩:=hO.fs _ hvp;have h3:=hG.tm x hx;rw[htm]at h3;obtain⟨k,cap,h4,h5⟩:=h3.1 rfl;have h6:=hG.bx.ok b;rw[hb]at h6;obtain⟨k',cap',cells,h7,h8,h9,h10⟩:=h6;rw[h4]at h7;cases h7;rw[h1]at h5;cases h5;refine⟨kx,cells.toList,_,h1,by simpa using h8,by rw[nN,h9,hxs];simp,λj v c hv hc=>aek hxs h10 j v c hv hc,⟨_,_,_,h2⟩,λr hrr v hv=>?_⟩;obtain⟨k2,OC,q1,q2,q3⟩:=hO.fs _ (hr r hrr);rw[h1]at q1;cases q1;obtain⟨cells2,e2,q4,q5⟩:=hO.good.var _ _ _ _ q2;rw[h8]at q4;cases q4;obtain⟨u,q6,q7⟩:=q5 _ q3;rw[show cells.toList[r.1]? = cells[r.1]? by simp,q6]at hv;cases hv;exact q7
theorem Yf (hG:GX E I ρ N st a w)(hO:OW P FV g dp Γ a w){x T m:Nat}{c:Cell}(hx:x<N)(htm:st.tm x = .v true (.one (.c c)))(hr:OF.ref x ⟨0,T,m⟩ ∈ Γ):Rd I (a.tmps.getD x undef) c/\GR g (a.tmps.getD x undef) T (.tag dp m):=by
 have h3:=hG.tm x hx;rw[htm]at h3;obtain⟨u,h1,h2⟩:=hO.fs _ hr;refine⟨h3.1 rfl,?_⟩;have h4:u=a.tmps.getD x undef:=by
  have hs:∃b n c,u = .slice b n c:=by rcases h2 with e|⟨k,n,c,e,_⟩<;>exact⟨_,_,_,e⟩
  have h5:=Rd.one (h3.1 rfl)
  dsimp only at h1
  cases hq:a.tmps.getD x undef<;>rw[hq]at h1 h5<;>simp[oH]at h1<;>first|exact h1.symm|(simp[Value.oneCell']at h5)
 rwa[h4]at h2
def tyR (rows:List (Nat×Nat×Nat))(j:Nat):Nat:=match rows.find? (λr=>r.1==j)with
 |some r=>r.2.1
 |none=>0
def Zn (dp:Nat)(rows:List (Nat×Nat×Nat))(j:Nat):zo:=match rows.find? (λr=>r.1==j)with
 |some r=>.tag dp r.2.2
 |none=>.dead
def PI (rows:List (Nat×Nat×Nat)):Bool:=Ja (rows.map (·.1))&&Ja (rows.map (·.2.2))
theorem I5 {rows:List (Nat×Nat×Nat)}(h:PI rows=true){r:Nat×Nat×Nat}(hr:r∈rows):rows.find? (λq=>q.1==r.1)=some r:=by
 unfold PI at h;simp only[ah]at h;have hn:=Jc h.1;clear h
 induction rows with
 |nil=>cases hr
 | cons q rows ih=>
   simp only[bU,Ag]at hn;rw[List.find?_cons];rcases aK.1 hr with rfl|hr
   ·simp
   ·have:(q.1==r.1)=false:=by
     simp only[beq_eq_false_iff_ne,ne_eq];intro e;exact hn.1 (e▸bu.2 ⟨r,hr,rfl⟩)
    rw[this];exact ih hr hn.2
theorem alp {rows:List (Nat×Nat×Nat)}(h:PI rows=true){r q:Nat×Nat×Nat}(hr:r∈rows)(hq:q∈rows)(e:r.2.2=q.2.2):r=q:=by
 unfold PI at h;simp only[ah]at h;have hn:=Jc h.2;clear h
 induction rows with
 |nil=>cases hr
 | cons z rows ih=>
   simp only[bU,Ag]at hn;rcases aK.1 hr with e1|hr'<;>rcases aK.1 hq with e2|hq'
   ·rw[e1,e2]
   ·subst e1;exact eF (show _∈rows.map (·.2.2)from bu.2 ⟨q,hq',e.symm⟩) hn.1
   ·subst e2;exact eF (show _∈rows.map (·.2.2)from bu.2 ⟨r,hr',e⟩) hn.1
   ·exact ih hr' hq' hn.2
theorem ae2 (hg:Good P g w)(hT:Tabs P I0)(hA0:Agree I0 w)(hold:∀b c,I0 b=some c->g b=none)(hA:Agree I w){vs:List Value}{cs:List Cell}(hlen:vs.length=cs.length)(hrd:∀(j:Nat) (v:Value) (c:Cell),vs[j]? = some v->cs[j]? = some c->Rd I v c)
 {rows:List (Nat×Nat×Nat)} (hok:PI rows=true) (hgr:∀r,r∈rows->∀v,vs[r.1]? = some v->GR g v r.2.1 (.tag dp r.2.2)) (hcov:∀(j sz:Nat) (es:List (List Cell)),cs[j]? = some (.sl sz es)->∃r,r∈rows/\r.1=j/\N7 P r.2.1 (.sl sz es)) :
 SX P g I0 I w vs cs (rows.map (·.1)) (tyR rows) (Zn dp rows) where
 good:=hg
 tabs:=hT
 PU:=hA0
 old:=hold
 ag:=hA
 len:=hlen
 rd:=hrd
 isl:=λj sz es h=>by obtain⟨r,h1,h2,_⟩:=hcov j sz es h;exact bu.2 ⟨r,h1,h2⟩
 own:=λj hj v hv=>by obtain⟨r,h1,rfl⟩:=bu.1 hj;simp only[tyR,Zn,I5 hok h1];exact hgr r h1 v hv
 root:=λj hj=>by obtain⟨r,h1,rfl⟩:=bu.1 hj;simp only[Zn,I5 hok h1];exact .inl ⟨_,_,rfl⟩
 typ:=λj sz es h=>by obtain⟨r,h1,rfl,h2⟩:=hcov j sz es h;simp only[tyR,I5 hok h1];exact h2
 dis:=λi j b hi hj h1 h2=>by obtain⟨r,q1,rfl⟩:=bu.1 hi;obtain⟨q,q2,rfl⟩:=bu.1 hj;simp only[Zn,I5 hok q1]at h1;simp only[Zn,I5 hok q2]at h2;rw[alp hok q1 q2 (h1.ajF h2).2]
theorem apart {rA rB:List (Nat×Nat×Nat)}(hA:PI rA=true)(hB:PI rB=true)(h:∀r,r∈rA->∀q,q∈rB->r.2.2≠q.2.2)(i:Nat)(hi:i∈rA.map (·.1))(j:Nat)(hj:j∈rB.map (·.1))(b:Nat)(h1:Under g (Zn dp rA i) b):¬Under g (Zn dp rB j) b:=λh2=>by obtain⟨r,q1,rfl⟩:=bu.1 hi;obtain⟨q,q2,rfl⟩:=bu.1 hj;simp only[Zn,I5 hA q1]at h1;simp only[Zn,I5 hB q2]at h2;exact h r q1 q q2 (h1.ajF h2).2
theorem SX.keep {vs:List Value}{cs:List Cell}{L LA:List Nat}{ty:Nat->Nat}{pid ajd:Nat->zo}(h:SX P g I0 I w vs cs L ty pid)(hg:Good P g w')(hF:DW w w' λb=>∃j,j∈LA/\Under g (ajd j) b)(hA:Agree J w')(hJ:∀b,(∀j,j∈LA->¬Under g (ajd j) b)->J b=I b)
 (hd:∀i,i∈LA->∀j,j∈L->∀b,Under g (ajd i) b->¬Under g (pid j) b):SX P g I0 J w' vs cs L ty pid:=
 { h with
   good:=hg
   PU:=h.PU.other λb c hb=>hF.block b (h.PU.lt hb) (by rintro⟨j,_,hu⟩;obtain⟨T2,p,h2⟩:=hu.owned;have:=h.old b c hb;rw[h2]at this;cases this)
   ag:=hA
   rd:=λj v c hv hc=>by
    have hr:=h.rd j v c hv hc;cases c with
    |lit _=>exact hr.QD
    |str _=>exact hr.Q8
    | sl sz es=>have hj:=h.isl _ _ _ hc;exact hr.under h.good h.ag (h.own j hj v hv) (h.typ _ _ _ hc) λb hb=>hJ b λi hi h2=>hd i hi j hj b h2 hb }
theorem am5 {IA:IH}{LA:List Nat}{ajd:Nat->zo}(hold:∀b c,IA b=some c->g b=none)(hle:IA.le I)(hJ:∀b,(∀j,j∈LA->¬Under g (ajd j) b)->J b=I b):IA.le J:=λb c h=>by
 rw[hJ b (λj _ hu=>by obtain⟨T2,p,h2⟩:=hu.owned;have:=hold b c h;rw[h2]at this;cases this)]
 exact hle b c h
theorem Tm {kx:Nat}{vs:List Value}{cs:List Cell}{x:Nat}(h1:a.tmps.getD x undef = .pointer (some ⟨kx,0,none⟩))(h2:J kx=some vs.toArray)(hl:vs.length=cs.length)(hrd:∀(j:Nat) (v:Value) (c:Cell),vs[j]? = some v->cs[j]? = some c->Rd J v c) :
 GSl J Yn (a.tmps.getD x undef) (.v true (.one (.Iq cs))):=by
 refine⟨λ_=>⟨⟨kx,0,none⟩,h1,λj c hc=>?_⟩,λe=>by cases e⟩;have hj:j<vs.length:=by rw[hl];exact(aT.1 hc).1
 refine⟨vs[j],?_,hrd j _ c (aB hj) hc⟩;rw[Addr.uw,fV];unfold IH.cell;simp[h2,hj]
def anp (ρ:Ren)(st:gY)(k:Nat):Prop:=∃b xs cap,st.bx b = .var xs/\ρ b=some (k,cap)
theorem abC (hG:GX E I ρ N st a w){x b:Nat}{xs:List AC}{cs:List Cell}(hx:x<N)(htm:st.tm x = .v true (.one (.ptr b 0)))(hb:st.bx b = .var xs)(hxs:xs=cs.map .c):GSl (I.with w (anp ρ st)) Yn (a.tmps.getD x undef) (.v true (.one (.Iq cs))):=by have h3:=hG.tm x hx;rw[htm]at h3;obtain⟨k,cap,h4,h5⟩:=h3.1 rfl;have h6:=hG.bx.ok b;rw[hb]at h6;obtain⟨k',cap',cells,h7,h8,h9,h10⟩:=h6;rw[h4]at h7;cases h7;exact Tm (vs:=cells.toList) h5 (by rw[WR ⟨b,xs,_,hb,h4⟩ h8]) (by rw[nN,h9,hxs];simp) λj v c hv hc=>(aek hxs h10 j v c hv hc).mono (UQ hG.agree)
theorem adP (hG:GX E I ρ N st a w){x:Nat}{c:Cell}(hx:x<N)(htm:st.tm x = .v true (.one (.c c)))(hle:I.le J):GSl J Yn (a.tmps.getD x undef) (.v true (.one (.c c))):=by have h3:=hG.tm x hx;rw[htm]at h3;exact⟨λ_=>Rd.mono hle (h3.1 rfl),λe=>by cases e⟩
end
end
section
abbrev RL : gY->Prop:=LU [.tmp 4] 0 (λr bs=>r=xX true/\bs=[])
abbrev Bd (P:Program)(fn:Func)(w0:World):Exit->Act->World->Prop:=bodyPost P fn λe w'=>e = .returned (.bool true)/\DW w0 w' λ_=>False
structure ahn (K:gY->Prop)(S:gY):Prop where
 f:K S
section
variable {P:Program} {fn:Func} {w0 w w' wA:World} {I J JA:IH} {a a':Act} {g:Own} {c:Code} {ac:dI}
theorem QB (hcr:EW P fn.ntmps fn.results.toList [.tmp 4]=true){hT:Tabs P J}(hF:DW w0 w λ_=>False)(h:AK (E1 w J hT) fn.ntmps RL a w'):Bd P fn w0 .ret a w':=by obtain⟨h1,v,h2,v',J',σ,r,bs,e,⟨rfl,rfl⟩,h3,_,_,_,h4,_⟩:=UH (fp:=[]) hcr h;refine⟨h1,v,h2,?_,hF.trans (acR (hT:=hT) h4) λ_ _ h=>h⟩;cases e;cases h3;rfl
structure Mid (P:Program)(N:Nat)(w0:World)(J:IH)(ts:List (Nat×Slot))(a:Act)(w:World):Prop where
 tabs:Tabs P J
 ag:Agree J w
 sl:Z4 J a ts
 size:a.tmps.size=N
 defers:a.defers=[]
 DT:DW w0 w λ_=>False
structure Aft (P:Program)(N:Nat)(w0 wA:World)(JA:IH)(I:IH)(ρ:Ren)(g:Own)(pa:List (Nat×Value))(Γ : List OF)(st:gY)(a:Act)(w:World):Prop where
 tabs:Tabs P JA
 gx:∃hT:Tabs P JA,GX (E1 wA JA hT) I ρ N st a w
 ow:OW P FV g 0 Γ a w
 new:∀k,k<wA.heap.size->g k=none
 old:∀b c,JA b=some c->g b=none
 PU:Agree JA w
 ag:Agree I w
 pa:PA pa a
 afW:DW wA w λ_=>False
 DT:DW w0 w λ_=>False
 Nq:JA.le I
theorem QO {N:Nat}(h:Rel 0 N TR g)(k:Nat)(hk:k<N):g k=none:=by
 cases hx:g k with
 |none=>rfl
 |some B=>obtain⟨B',h1,_⟩:=h.old k B hk hx;cases h1
theorem XR (hcr:EW P fn.ntmps fn.results.toList [.tmp 4]=true){ts:List (Nat×Slot)}{S:gY}{pa:List (Nat×Value)}{pl:List Nat}{n:Nat}{Γ : List OF}(h:Mid P fn.ntmps w0 JA ts a wA)(hpl:∀e,e∈pa->e.1∈pl)(hpa:PA pa a)
 (hc:xy P fn.ntmps 0 c ac=true) (ho:Jd P pl n c ac []=some Γ) (hw:∀K,ahn K S->wpC P (takeA n ac) (QA K RL) (gY.of ts []))
 (hk:∀{I ρ g a w},Aft P fn.ntmps w0 wA JA I ρ g pa Γ S a w->(L8 n c).wp P (Bd P fn w0) a w):c.wp P (Bd P fn w0) a wA:=by
 have hG:=aie h.tabs h.ag h.sl h.size h.defers;refine Jt (E:=E1 wA JA h.tabs) (g0:=TR) (dp:=0) (pa:=pa) (K:=λst=>st=S) (R:=RL) (oN 10) hpl hc ho ⟨⟨⟨JA,Yn,_,hw _ ⟨rfl⟩,hG⟩,⟨TR,Rel.refl _ _ _,Zi⟩⟩,hpa⟩ (λa w hA=>?_) λa w hA=>QB hcr h.DT hA;obtain⟨⟨⟨I,ρ,st,rfl,hG⟩,g,hR,hO⟩,hPA⟩:=hA;have hF:=acR hG.DT;refine hk ⟨h.tabs,⟨_,hG⟩,hO,QO hR,λb c hb=>QO hR b (h.ag.lt hb),h.ag.quiet hF,hG.agree,hPA,hF,h.DT.trans hF λ_ _ h=>h,hG.Nq⟩
theorem aiH (hcr:EW P fn.ntmps fn.results.toList [.tmp 4]=true){ts:List (Nat×Slot)}(h:Mid P fn.ntmps w0 J ts a w)(hc:xy P fn.ntmps 0 c ac=true)(hw:wpC P ac (QF [.tmp 4] 0 (λr bs=>r=xX true/\bs=[])) (gY.of ts [])):c.wp P (Bd P fn w0) a w:=by
 have hG:=aie h.tabs h.ag h.sl h.size h.defers;refine wp_mono (zO (E:=E1 w J h.tabs) (oN 10) hc ⟨J,Yn,_,hw,hG⟩) λe a w' hq=>?_;cases e with
 |normal=>exact QB hcr h.DT hq
 |ret=>exact QB hcr h.DT hq
 |exit id=>obtain⟨_,_,_,h,_⟩:=hq;exact h.elim
 |goto l=>exact hq.elim
 |panic ch=>exact hq.elim
 |outgrown=>exact hq.elim
theorem agc {f:FuncId}{args:List AV}(hf:P.funcs[f]? = some fn)(hb:fn.body=some c)(hk:Xe f true=true)(hl:args.length<=fn.ntmps)(hcr:EW P fn.ntmps fn.results.toList [.tmp 4]=true){S:gY}{n:Nat}{Γ : List OF}(hc:xy P fn.ntmps 0 c ac=true)(ho:Jd P [] n c ac []=some Γ)
 (hw:∀K,ahn K S->wpC P (takeA n ac) (QA K RL) (st0 args []))
 (hk':∀{w0 wA JA I ρ g a w},Aft P fn.ntmps w0 wA JA I ρ g [] Γ S a w->(L8 n c).wp P (Bd P fn w0) a w):fF P f args (xX true):=by
 refine X8 hk λI w vs hT hA hV=>?_;have hB:BX I Yn w (Dj []):=Zf I w;have hG:=Oc (fn:=fn) hl hT hA hB hV;refine calls_of_wp hf hb ?_;refine Jt (E:=E1 w I hT) (g0:=TR) (dp:=0) (pa:=[]) (K:=λst=>st=S) (R:=RL) (oN 10) (λe he=>by cases he) hc ho ⟨⟨⟨I,Yn,_,hw _ ⟨rfl⟩,hG⟩,⟨TR,Rel.refl _ _ _,Zi⟩⟩,λe he=>by cases he⟩ (λa w' hA'=>?_) λa w' hA'=>QB hcr (DW.refl _ _) hA';obtain⟨⟨⟨I',ρ,st,rfl,hG⟩,g,hR,hO⟩,hPA⟩:=hA';have hF:=acR hG.DT;exact hk' ⟨hT,⟨_,hG⟩,hO,QO hR,λb c hb=>QO hR b (hA.lt hb),hA.quiet hF,hG.agree,hPA,hF,hF,hG.Nq⟩
theorem agb {f:FuncId}{args:List AV}(hf:P.funcs[f]? = some fn)(hb:fn.body=some c)(hk:Xe f true=true)(hl:args.length<=fn.ntmps)(hcr:EW P fn.ntmps fn.results.toList [.tmp 4]=true){n:Nat}{Γ : List OF}(hc:xy P fn.ntmps 0 c ac=true)(ho:Jd P [] n c ac []=some Γ)
 (hw:wpC P (takeA n ac) (QA (λ_=>False) RL) (st0 args [])):fF P f args (xX true):=by
 refine X8 hk λI w vs hT hA hV=>?_;have hG:=Oc (fn:=fn) hl hT hA (Zf I w) hV;refine calls_of_wp hf hb ?_;refine Jt (E:=E1 w I hT) (g0:=TR) (dp:=0) (pa:=[]) (K:=λ_=>False) (R:=RL) (oN 10) (λe he=>by cases he) hc ho ⟨⟨⟨I,Yn,_,hw,hG⟩,⟨TR,Rel.refl _ _ _,Zi⟩⟩,λe he=>by cases he⟩ (λa w' hA'=>?_) λa w' hA'=>QB hcr (DW.refl _ _) hA';obtain⟨⟨⟨I',ρ,st,h,hG⟩,_⟩,hPA⟩:=hA';exact h.elim
structure Mks (P:Program)(N:Nat)(w0 wA:World)(JA J:IH)(g:Own)(a:Act)(w:World):Prop where
 new:∀k,k<wA.heap.size->g k=none
 sz:wA.heap.size<=w.heap.size
 old:∀b c,JA b=some c->g b=none
 Nq:JA.le J
 ag:Agree J w
 size:a.tmps.size=N
 defers:a.defers=[]
 DT:DW w0 w λ_=>False
 sz0:w0.heap.size<=wA.heap.size
def ahs (P:Program)(s:Option Nat)(f:Nat)(ty:Nat->Nat)(cs:List Cell)(k:Int)(cs':List Cell)(k':Int):Prop:=
 ∀{g:Own} {I0 I:IH} {w:World} {vs:List Value} {L:List Nat} {pid:Nat->zo},SX P g I0 I w vs cs L ty pid->Calls P f #[OL vs s,.int .i64 k] w λe w'=>e = .returned (.int .i64 k')/\DK P g I w vs cs' L ty pid w'
theorem Xu.any {f n:Nat}{ty:Nat->Nat}{cs cs':List Cell}{k k':Int}(h:Xu P f ty cs k cs' k'):ahs P (some n) f ty cs k cs' k':=h
def SC (P:Program)(N:Nat):Code->Option (Option Nat×Nat×Nat×Nat×List Nat)
 |.seq (.region _ ops false) _=>adh P N ops.toList
 |_=>none
theorem aey {x kx:Nat}{vs:List Value}{e:TypeId}{n:Nat}(h1:a.tmps.getD x undef = .pointer (some ⟨kx,0,none⟩))(h2:w.heap[kx]? = some (.cells vs.toArray e (0,0)))(h3:vs.length=n):Held a w x vs (some n):=⟨kx,e,h1,h2,h3⟩
theorem aex {x:Nat}{v:Value}(h:a.tmps.getD x undef=v):Held a w x [v] none:=⟨v,rfl,h⟩
theorem abD {E8:Nat}{mt:FP}{tx:Int->List UInt8}(hall:∀f,(mt f).isSome=true->acG P E8 mt f=true)(ht:LW P E8 tx){f:Nat}{ty:Nat->Nat}{c c1:Cell}{k k':Int}(hmk:CX mt tx (.C f c k c1 k'))(hT:∃sz acts,mt f=some (ty 0,sz,acts)):ahs P none f ty [c] k [c1] k':=by
 intro g I0 I w vs L pid hX;obtain⟨v,rfl⟩:=List.length_eq_one_iff.1 hX.len;have hsl:(∃sz es,c = .sl sz es)/\∃sz es,c1 = .sl sz es:=by cases hmk with|c _ _ _=>exact⟨⟨_,_,rfl⟩,_,_,rfl⟩
 obtain⟨⟨sz',es,rfl⟩,hc1⟩:=hsl;have hoL:=hX.isl 0 _ _ rfl;have hC:=(aa4 hall ht hmk).1;refine(hC g I0 I w (ty 0) (pid 0) _ hT hX.good hX.tabs hX.PU hX.old hX.ag (hX.own 0 hoL _ rfl) (hX.root 0 hoL) (hX.rd 0 _ _ rfl rfl) (hX.typ 0 _ _ rfl)).mono ?_;rintro e w' ⟨rfl,hp⟩;exact⟨rfl,hX.slice rfl rfl hc1 hp⟩
theorem ajk {J:IH}{v:Value}{c:Cell}(h:Rd J v c)(j:Nat)(u:Value)(d:Cell)(hu:[v][j]? = some u)(hd:[c][j]? = some d):Rd J u d:=by
 match j,hu,hd with
 |0,hu,hd=>cases hu;cases hd;exact h
theorem aic {T m dp:Nat}{v:Value}(h:GR g v T (.tag dp m))(r:Nat×Nat×Nat)(hr:r∈[(0,T,m)])(u:Value)(hu:[v][r.1]? = some u):GR g u r.2.1 (.tag dp r.2.2):=by obtain rfl:=List.mem_singleton.1 hr;cases hu;exact h
theorem aeZ {J:IH}{v:Value}{c:Cell}{x:Nat}(h:Rd J v c)(hx:a.tmps.getD x undef=v):GSl J Yn (a.tmps.getD x undef) (.v true (.one (.c c))):=by rw[hx];exact⟨λ_=>h,λe=>by cases e⟩
theorem QC {N x y f:Nat}{k k':Int}{s:Option Nat}{tms:List Nat}{Q:Exit->Act->World->Prop}{vs:List Value}{cs cs':List Cell}{L:List Nat}{ty:Nat->Nat}{pid:Nat->zo}
 (hM:Mks P N w0 wA JA J g a w) (hS:SX P g JA J w vs cs L ty pid) (hm:SC P N c=some (s,x,y,f,tms)) (hv:Held a w x vs s) (hk:a.tmps.getD y undef = .int .i64 k) (hf:ahs P s f ty cs k cs' k')
 (hQ:∀{a' w' J'},Mks P N w0 wA JA J' g a' w'->SX P g JA J' w' vs cs' L ty pid->a'.tmps.getD y undef = .int .i64 k'->(∀t,t ∉ tms->a'.tmps.getD t undef=a.tmps.getD t undef) ->
  (∀b row d m,g b=some (.var row d m)->w'.heap[b]? = w.heap[b]?) ->
  (∀{vs2 cs2 L2 ty2 am9},SX P g JA J w vs2 cs2 L2 ty2 am9->(∀i,i∈L->∀j,j∈L2->∀b,Under g (pid i) b->¬Under g (am9 j) b)->SX P g JA J' w' vs2 cs2 L2 ty2 am9)->(L8 1 c).wp P Q a' w'):c.wp P Q a w:=by
 unfold SC at hm;split at hm
 case h_2=>cases hm
 refine akR rfl (agr (R:=DK P g J w vs cs' L ty pid) hm hM.size hM.defers hv hk (hf hS) λa' w' h1 h2 h3 h4 hp=>?_);obtain⟨J',hS',hJ'⟩:=DK.next hS hp;have hF:DW w w' λb=>wA.heap.size<=b:=⟨hp.DT.os,hp.DT.tape,hp.DT.output,hp.DT.size,λk hk hn=>hp.DT.block k hk (by rintro⟨j,_,hu⟩;obtain⟨T2,p,h2⟩:=hu.owned;rw[hM.new k aI]at h2;cases h2)⟩
 refine hQ ⟨hM.new,bM hM.sz hF.size,hM.old,am5 hM.old hM.Nq hJ',hS'.ag,h1,h2,hM.DT.trans hF λb hb hn=>by have:=hM.sz0;omega,hM.sz0⟩ hS' h3 h4 (λb row d m hb=>hp.DT.block b (by obtain⟨_,e,hw,_⟩:=hS.good.var b row d m hb;exact Ac hw) ?_) λh2 hd=>h2.keep hp.good hp.DT hS'.ag hJ' hd
 rintro⟨j,_,hu⟩;obtain⟨T2,p,h2⟩:=hu.owned;rw[hb]at h2;cases h2
end
end
section
def ET (e:TypeId)(v:Value)(l:List UInt8)(w:World):Prop:=
 (v = .slice none 0 0/\l=[])\/∃g cap cs,v = .slice (some ⟨g,0,none⟩) l.length cap/\cap≠0/\l.length<=cap/\cap<=maxLen/\w.heap[g]? = some (.cells cs e (0,0))/\cs.size=cap /\
  (∀(j:Nat) (u:Value),cs[j]? = some u->u.oneCell'=true)/\∀(j:Nat) (x:UInt8),l[j]? = some x->cs[j]? = some (.int .u8 x.toNat)
def UY (w w':World)(v v':Value):Prop:=w.grownBy w' v.ownBlock/\(v'.ownBlock=v.ownBlock\/∃g,v'.ownBlock=some g/\w.heap.size<=g)
section
variable {P:Program} {w:World}
theorem Yw (l:List UInt8)(j:Nat):(dP l)[j]? = (l[j]?).map λx=>mX .u8 x.toNat:=by simp[dP]
theorem acp (l:List UInt8):∀u∈dP l,u.oneCell'=true:=λu hu=>by simp[dP]at hu;obtain⟨a,_,rfl⟩:=hu;rfl
theorem abx {e:TypeId}(l:List UInt8)(h0:l≠[])(cap:Nat)(hc:l.length<=cap)(hm:cap<=maxLen)(w0:World)(z:Array Value)(hz:z=(dP l).toArray++di (mX .u8 0).cells (cap-l.length)) :
 ET e (.slice (some ⟨w0.heap.size,0,none⟩) l.length cap) l (w0.alloc (.cells z e)):=by
 have hl:0<l.length:=pK.2 h0;have hzs:(di (mX .u8 0).cells (cap-l.length)).size=cap-l.length:=by rw[size_zeroCells];exact xA _
 refine .inr ⟨w0.heap.size,cap,z,rfl,aI,hc,hm,heap_alloc_new w0 _,?_,λj u hu=>?_,λj x hx=>?_⟩
 ·rw[hz,Array.size_append,hzs,List.size_toArray,nC];omega
 ·rw[hz]at hu;rcases eH.1 hu with⟨hj,hu⟩
  have hm:u∈(dP l).toArray++di (mX .u8 0).cells (cap-l.length):=hu▸Array.getElem_mem hj;rcases Array.mem_append.1 hm with hm|hm
  ·exact acp l u (by simpa using hm)
  ·simp[di,oH]at hm;obtain⟨i,_,h⟩:=hm;rw[Nat.mod_one]at h;rw[<- h];rfl
 ·have hj:=(aT.1 hx).1;rw[hz,sH (by simpa[nC]using hj)];simpa[hx]using Yw l j
theorem aby {e:TypeId}{g cap:Nat}{cs:Array Value}{l s:List UInt8}(hg:w.heap[g]? = some (.cells cs e (0,0)))(hs:cs.size=cap)(hc0:cap≠0)(hm:cap<=maxLen)(h1:∀(j:Nat) (u:Value),cs[j]? = some u->u.oneCell'=true)
 (hb:∀(j:Nat) (x:UInt8),l[j]? = some x->cs[j]? = some (.int .u8 x.toNat)) (hr:l.length+s.length<=cap) :
 ET e (.slice (some ⟨g,0,none⟩) (l++s).length cap) (l++s) (w.setRow g (cs.toList.take l.length++dP s++cs.toList.drop (l.length+s.length)).toArray):=by
 have hlen:(cs.toList.take l.length).length=l.length:=by simp;omega
 refine .inr ⟨g,cap,_,rfl,hc0,by simpa using hr,hm,setRow_heap w g cs _ e _ hg,?_,λj u hu=>?_,λj x hx=>?_⟩
 ·simp[nC];omega
 ·have hm':=List.mem_of_getElem? (show(cs.toList.take l.length++dP s++cs.toList.drop (l.length+s.length))[j]? = some u by simpa using hu);rcases bG.1 hm' with hm'|hm'
  ·rcases bG.1 hm' with hm'|hm'
   ·obtain⟨i,hi⟩:=List.mem_iff_getElem?.1 (List.mem_of_mem_take hm');exact h1 i u (by simpa using hi)
   ·exact acp s u hm'
  ·obtain⟨i,hi⟩:=List.mem_iff_getElem?.1 (List.mem_of_mem_drop hm');exact h1 i u (by simpa using hi)
 ·have hj:=(aT.1 hx).1;show(cs.toList.take l.length++dP s++cs.toList.drop (l.length+s.length)).toArray[j]? = _;rw[List.getElem?_toArray,jh];by_cases hjl:j<l.length
  ·rw[cu hjl]at hx;rw[cu aI,List.getElem?_take,aA hjl];simpa using hb j x hx
  ·rw[dU aI]at hx;rw[dU aI,hlen,cu (by rw[nC];exact(aT.1 hx).1),Yw,hx];rfl
theorem F7 (g n c:Nat):EH (.slice (some ⟨g,0,none⟩) n c)=some g:=rfl
theorem ahA {t u ty e:TypeId}{i:TypeInfo}(ht:P.underlying t=some (.slice e))(hu:P.underlying u=some .string)(hi:P.info? e=some i)(hz:i.zero=some (.int .u8 0))(hs1:i.size=1)(hby:i.bytes=1)
 {v:Value} {l:List UInt8} (hv:ET e v l w) (s:List UInt8) (hl:l.length+s.length<=140737488355328) :
 ∃v' w',(iM #[t,u] ty #[v,.string ⟨⟨s⟩⟩]).run P w = .ok v' w'/\ET e v' (l++s) w'/\UY w w' v v':=by
 have hmax:(140737488355328:Nat)<=maxLen:=by unfold maxLen;omega
 have hss:(En ⟨s⟩).size=s.length:=rfl;have hsc:Lib.strCells (En ⟨s⟩)=dP s:=Lib.strCells_eq _;have fresh:∀(old:Nat) (v:Value),old<l.length+s.length ->
  ET e (.slice (some ⟨w.heap.size,0,none⟩) (l++s).length (grownCap w (l.length+s.length) old e)) (l++s)
   (w.drew.alloc (.cells ((dP l).toArray++(dP s).toArray++di (mX .u8 0).cells (grownCap w (l.length+s.length) old e-(l.length+s.length))) e)) /\
  UY w (w.drew.alloc (.cells ((dP l).toArray++(dP s).toArray++di (mX .u8 0).cells (grownCap w (l.length+s.length) old e-(l.length+s.length))) e)) v
   (.slice (some ⟨w.heap.size,0,none⟩) (l++s).length (grownCap w (l.length+s.length) old e)):=by
  intro old v ho;refine⟨abx (l++s) (λh=>?_) _ ?_ (grownCap_le_maxLen _ _ _ _ aI) w.drew _ ?_,⟨rfl,rfl,rfl,mg,λk hk _=>zF w.drew _ k hk⟩,.inr ⟨w.heap.size,rfl,aC _⟩⟩
  ·have:=sK List.length h;rw[bZ,iT]at this;omega
  ·simpa using grownCap_ge w (l.length+s.length) old e
  ·rw[Lib.byteCells_append];simp
 rcases hv with⟨rfl,rfl⟩|⟨g,cap,cs,rfl,hc0,hle,hcm,hg,hcs,h1,hb⟩
 ·by_cases h0:s=[]
  ·subst h0;refine⟨.slice none 0 0,w,?_,.inl ⟨rfl,rfl⟩,⟨rfl,rfl,rfl,aC _,λ_ _ _=>rfl⟩,.inl rfl⟩;have hf:=Lib.run_firstCells_string (P:=P) w 1 ⟨⟨[]⟩⟩;have e0:(En ⟨[]⟩).size=0:=rfl;rw[e0]at hf;simp[iM,run_underlying ht,run_underlying hu,sizeOf,typeInfo,hi,hs1,Go.Builtin.lenOf,e0,hf]
  ·have hp:0<s.length:=pK.2 h0;have hr:=run_append_nil_string (P:=P) w t u ty e i (.int .u8 0) ht hu hi hz ⟨⟨s⟩⟩ (by rw[hss];omega) (by rw[hss];simp at hl;omega) (by rw[hby,hss];simp at hl;omega);have hf:=fresh 0 (.slice none 0 0) (by simpa using hp);simp only[lC,iT,fV,Array.append_assoc]at hf;have e1:((En ⟨s⟩).data.map λb=>mX .u8 b.toNat)=(dP s).toArray:=(by apply Array.ext';simp[dP]);rw[e1,hss]at hr;have e2:(dP ([]:List UInt8)).toArray = #[]:=rfl;rw[e2,uU]at hf;exact⟨_,_,hr,hf.1,hf.2⟩
 ·by_cases hroom:l.length+s.length<=cap
  ·have hr:=Lib.run_append_room_string (P:=P) w t u ty e i ht hu hi hs1 g l.length cap cs hg ⟨⟨s⟩⟩ (by rw[hss];exact hroom) (by rw[hss];omega);rw[hss,hsc]at hr;have hR:=aby hg hcs hc0 hcm h1 hb hroom;rw[bZ]at hR;exact⟨_,_,hr,hR,⟨rfl,rfl,rfl,mg,λk _ hk=>setRow_other w g k _ (λe=>hk (by simp[EH,e]))⟩,.inl rfl⟩
  ·have hr:=Lib.run_append_grow_string (P:=P) w t u ty e i (.int .u8 0) ht hu hi hz ⟨g,0,none⟩ l.length cap (dP l) (by rw[hs1,nC,xA]) (λj x hx=>by
    rw[Yw]at hx;cases hlj:l[j]? with
    |none=>rw[hlj]at hx;cases hx
    |some y=>rw[hlj]at hx;simp at hx;subst hx;rw[Addr.uw];simp[iy,hg,hb j y hlj]) ⟨⟨s⟩⟩ (by rw[hss];omega) (by rw[hss];omega) (by rw[hby,hss];exact growslice_fits aI aI)
   rw[hss,hsc]at hr;have hf:=fresh cap (.slice (some ⟨g,0,none⟩) l.length cap) aI;rw[bZ]at hf;exact⟨_,_,hr,hf.1,hf.2⟩
theorem aks {t ty e:TypeId}{i:TypeInfo}(ht:P.underlying t=some (.slice e))(hi:P.info? e=some i)(hz:i.zero=some (.int .u8 0))(hs1:i.size=1)(hby:i.bytes=1)
 {v:Value} {l:List UInt8} (hv:ET e v l w) (s:List UInt8) (h0:s≠[]) (ad:Addr) (c:Nat) (hnews:∀j v,(dP s)[j]? = some v->w.cell? (ad.add j)=some v) (hl:l.length+s.length<=140737488355328) :
 ∃v' w',(iM #[t,t] ty #[v,.slice (some ad) s.length c]).run P w = .ok v' w'/\ET e v' (l++s) w'/\UY w w' v v':=by
 have hmax:(140737488355328:Nat)<=maxLen:=by unfold maxLen;omega
 have hp:0<s.length:=pK.2 h0;have fresh:∀(old:Nat) (v:Value),old<l.length+s.length ->
  ET e (.slice (some ⟨w.heap.size,0,none⟩) (l++s).length (grownCap w (l.length+s.length) old e)) (l++s)
   (w.drew.alloc (.cells ((dP l).toArray++(dP s).toArray++di (mX .u8 0).cells (grownCap w (l.length+s.length) old e-(l.length+s.length))) e)) /\
  UY w (w.drew.alloc (.cells ((dP l).toArray++(dP s).toArray++di (mX .u8 0).cells (grownCap w (l.length+s.length) old e-(l.length+s.length))) e)) v
   (.slice (some ⟨w.heap.size,0,none⟩) (l++s).length (grownCap w (l.length+s.length) old e)):=by
  intro old v ho;refine⟨abx (l++s) (λh=>?_) _ ?_ (grownCap_le_maxLen _ _ _ _ aI) w.drew _ ?_,⟨rfl,rfl,rfl,mg,λk hk _=>zF w.drew _ k hk⟩,.inr ⟨w.heap.size,rfl,aC _⟩⟩
  ·have:=sK List.length h;rw[bZ,iT]at this;omega
  ·simpa using grownCap_ge w (l.length+s.length) old e
  ·rw[Lib.byteCells_append];simp
 have hn:(dP s).length=s.length*i.size:=by rw[hs1,nC,xA]
 rcases hv with⟨rfl,rfl⟩|⟨g,cap,cs,rfl,hc0,hle,hcm,hg,hcs,h1,hb⟩
 ·have hr:=run_append_nil (P:=P) w t ty e i (.int .u8 0) ht hi hz ad s.length c (dP s) hn hnews hp (by simp at hl;omega) (by rw[hby];simp at hl;omega);have hf:=fresh 0 (.slice none 0 0) (by simpa using hp);simp only[lC,iT,fV,Array.append_assoc]at hf;have e2:(dP ([]:List UInt8)).toArray = #[]:=rfl;rw[e2,uU]at hf;exact⟨_,_,hr,hf.1,hf.2⟩
 ·by_cases hroom:l.length+s.length<=cap
  ·have hr:=run_append_room' (P:=P) (w:=w) (ty:=ty) t e e i ht hi g l.length cap cs hg ad s.length c (dP s) hn hnews (acp s) hroom (by rw[hs1,nC];omega);rw[hs1,nC,xA]at hr;have hR:=aby hg hcs hc0 hcm h1 hb hroom;rw[bZ]at hR;exact⟨_,_,hr,hR,⟨rfl,rfl,rfl,mg,λk _ hk=>setRow_other w g k _ (λe=>hk (by simp[EH,e]))⟩,.inl rfl⟩
  ·have hr:=run_append_grow (P:=P) w t ty e i (.int .u8 0) ht hi hz ⟨g,0,none⟩ l.length cap (dP l) (by rw[hs1,nC,xA]) (λj x hx=>by
    rw[Yw]at hx;cases hlj:l[j]? with
    |none=>rw[hlj]at hx;cases hx
    |some y=>rw[hlj]at hx;simp at hx;subst hx;rw[Addr.uw];simp[iy,hg,hb j y hlj]) ad s.length c (dP s) hn hnews aI aI (by rw[hby];exact growslice_fits aI aI)
   have hf:=fresh cap (.slice (some ⟨g,0,none⟩) l.length cap) aI;rw[bZ]at hf;exact⟨_,_,hr,hf.1,hf.2⟩
end
end
end Go.Ab
section
namespace Go.Ab
open Go Go.Shelf Go.RowKit Go.Proofs
section
variable {P:Program} {w:World}
theorem ET.alloc {e:TypeId}{v:Value}{l:List UInt8}(h:ET e v l w)(o:Obj):ET e v l (w.alloc o):=by
 rcases h with h|⟨g,cap,cs,h1,h2,h3,h4,h5,h6⟩
 ·exact .inl h
 ·exact .inr ⟨g,cap,cs,h1,h2,h3,h4,(zF w o g (Ac h5)).trans h5,h6⟩
theorem ET.same {e:TypeId}{v:Value}{l:List UInt8}{w':World}(h:ET e v l w)(hk:∀g,v.ownBlock=some g->w'.heap[g]? = w.heap[g]?):ET e v l w':=by
 rcases h with h|⟨g,cap,cs,h1,h2,h3,h4,h5,h6⟩
 ·exact .inl h
 ·exact .inr ⟨g,cap,cs,h1,h2,h3,h4,(hk g (by rw[h1];rfl)).trans h5,h6⟩
theorem ET.adA {e:TypeId}{v:Value}{l:List UInt8}(h:ET e v l w){g:Nat}(hg:v.ownBlock=some g):g<w.heap.size/\∃cs,w.heap[g]? = some (.cells cs e (0,0)):=by
 rcases h with⟨rfl,_⟩|⟨g',cap,cs,rfl,h2,h3,h4,h5,h6⟩
 ·cases hg
 ·simp only[F7,aH]at hg;subst hg;exact⟨Ac h5,cs,h5⟩
theorem ET.ne {e T:TypeId}{v:Value}{l:List UInt8}{k:Nat}{cs:Array Value}(h:ET e v l w)(hk:w.heap[k]? = some (.cells cs T (0,0)))(hT:T≠e):v.ownBlock≠some k:=λhe=>by obtain⟨_,c,hc⟩:=h.adA he;rw[hk]at hc;simp only[aH,Obj.cells.injEq]at hc;exact hT hc.2.1
theorem Uz {ops:Array Oper}{rest:List Oper}{o:Oper}{a:Act}{Q:Exit->Act->World->Prop}(hgd:o.guard=none)(sl x:Operand)(t u:TypeId)
 (ho:o.op = .call { callee:=.builtin .append,args:= #[sl,x],argTypes:= #[t,u] })
 (e:TypeId) (i:TypeInfo) (ht:P.underlying t=some (.slice e)) (hu:P.underlying u=some .string) (hi:P.info? e=some i) (hz:i.zero=some (.int .u8 0)) (hsize:i.size=1) (hby:i.bytes=1)
 (v:Value) (l:List UInt8) (hs:a.eval sl=v) (hv:ET e v l w) (s:List UInt8) (hx:a.eval x = .string ⟨⟨s⟩⟩) (hl:l.length+s.length<=140737488355328)
 (h:∀v' w',ET e v' (l++s) w'->UY w w' v v'->wpList P ops Q rest (a.put o.dst v') w'):wpList P ops Q (o::rest) a w:=by
 refine wpList_plain hgd λK hK=>?_;obtain⟨v',w',hr,h2,h3⟩:=ahA (P:=P) (ty:=o.type) ht hu hi hz hsize hby hv s hl;unfold xg execOp;simp only[ho,resolve,invoke,builtin,dN,dA,bT,lU,bU,jP,hs,hx,hr];exact hK _ _ (h v' w' h2 h3)
theorem WT {ops:Array Oper}{rest:List Oper}{o:Oper}{a:Act}{Q:Exit->Act->World->Prop}(hgd:o.guard=none)(sl x:Operand)(t:TypeId)
 (ho:o.op = .call { callee:=.builtin .append,args:= #[sl,x],argTypes:= #[t,t] })
 (e:TypeId) (i:TypeInfo) (ht:P.underlying t=some (.slice e)) (hi:P.info? e=some i) (hz:i.zero=some (.int .u8 0)) (hsize:i.size=1) (hby:i.bytes=1)
 (v:Value) (l:List UInt8) (hs:a.eval sl=v) (hv:ET e v l w) (s:List UInt8) (h0:s≠[]) (ad:Addr) (c:Nat) (hx:a.eval x = .slice (some ad) s.length c) (hnews:∀j v,(dP s)[j]? = some v->w.cell? (ad.add j)=some v)
 (hl:l.length+s.length<=140737488355328)
 (h:∀v' w',ET e v' (l++s) w'->UY w w' v v'->wpList P ops Q rest (a.put o.dst v') w'):wpList P ops Q (o::rest) a w:=by
 refine wpList_plain hgd λK hK=>?_;obtain⟨v',w',hr,h2,h3⟩:=aks (P:=P) (ty:=o.type) ht hi hz hsize hby hv s h0 ad c hnews hl;unfold xg execOp;simp only[ho,resolve,invoke,builtin,dN,dA,bT,lU,bU,jP,hs,hx,hr];exact hK _ _ (h v' w' h2 h3)
end
variable {P:Program} {ρ:Go.Shelf.Ren}
def akd (k:Nat)(p:Value):Prop:=p = .pointer none\/p = .pointer (some ⟨k,0,none⟩)
structure Hid (p:Prop):Prop where
 h:p
theorem XA (L:Lays.n240 P ρ)(X:Builder.X72 P ρ)(k:Nat)(p v:Value)(w:World)(hk:w.heap[k]? = some (.cells #[p,v] (ρ.t 72) (0,0)))(hp:akd k p) :
 Calls P (ρ.f 240) #[.pointer (some ⟨k,0,none⟩)] w λe w'=>e = .returned (.tuple #[])/\w'.heap[k]? = some (.cells #[.pointer (some ⟨k,0,none⟩),v] (ρ.t 72) (0,0))/\Hid (w'.heap.size=w.heap.size)/\DW w w' (λk'=>k'=k):=by
 rcases hp with rfl|rfl
 ·refine(Any.Builder_copyCheck_fresh L X k w (by rw[mD hk];rfl) (by simp[CP,hk]) (Dc hk 0)).mono ?_;rintro e w' ⟨rfl,rfl⟩;refine⟨rfl,?_,⟨by simp[zH]⟩,⟨rfl,rfl,rfl,by simp[zH],λk' _ hk'=>Below.heap_setCell _ _ _ _ (λe=>hk' (by simp[e]))⟩⟩;simp[zH,zV,hk]
 ·refine(Any.Builder_copyCheck_used L X k w (by rw[mD hk];rfl)).mono ?_;rintro e w' ⟨rfl,rfl⟩;exact⟨rfl,hk,⟨rfl⟩,DW.refl _ _⟩
def Wrote (T e:TypeId)(k:Nat)(v:Value)(l:List UInt8)(w w':World):Prop:=
 ∃v',w'.heap[k]? = some (.cells #[.pointer (some ⟨k,0,none⟩),v'] T (0,0))/\ET e v' l w'/\(v'.ownBlock=v.ownBlock\/∃g,v'.ownBlock=some g/\w.heap.size<=g)/\DW w w' (λk'=>k'=k\/some k'=v.ownBlock)
theorem abV {T e:TypeId}{k:Nat}{v v':Value}{l:List UInt8}{w w1 w1' w2:World}(hT:T≠e)(hv:ET e v l w)(hlt:k<w.heap.size)(h1:w1.heap[k]? = some (.cells #[.pointer (some ⟨k,0,none⟩),v] T (0,0)))(hs:w1.heap.size=w.heap.size)(hF:DW w w1 (λk'=>k'=k))
 (ha:w1'=w1\/∃o,w1'=w1.alloc o) {l':List UInt8} (hr:ET e v' l' w2) (hg:UY w1' w2 v v') (hne:v.ownBlock≠some k) :
 w2.heap[k]? = some (.cells #[.pointer (some ⟨k,0,none⟩),v] T (0,0))/\Wrote T e k v l' w (w2.setCell ⟨k,1,none⟩ v'):=by
 have hsz:w.heap.size<=w1'.heap.size:=by
  rcases ha with rfl|⟨o,rfl⟩
  ·omega
  ·simp;omega
 have hk1:∀k',k'<w.heap.size->w1'.heap[k']? = w1.heap[k']?:= λk' hk'=>by
  rcases ha with rfl|⟨o,rfl⟩
  ·rfl
  ·exact zF w1 o k' aI
 have hk2:w2.heap[k]? = some (.cells #[.pointer (some ⟨k,0,none⟩),v] T (0,0)):=by rw[hg.1.block k aI (λe=>hne e.symm),hk1 k hlt];exact h1
 have hne2:v'.ownBlock≠some k:=hr.ne hk2 hT;refine⟨hk2,v',?_,?_,?_,?_⟩
 ·simp[zH,zV,hk2]
 ·exact hr.same λg hg'=>Below.heap_setCell _ _ _ _ (λe=>hne2 (by rw[hg'];simp at e;rw[e]))
 ·rcases hg.2 with h|⟨g,h,hb⟩
  ·exact .inl h
  ·exact .inr ⟨g,h,aI⟩
 ·have ha':DW w1 w1' (λ_=>False):=by
   rcases ha with rfl|⟨o,rfl⟩
   ·exact DW.refl _ _
   ·exact⟨rfl,rfl,rfl,mg,λk' h _=>zF w1 o k' h⟩
  have h01:=hF.trans ha' (λ_ _ h=>h.elim);exact⟨hg.1.os.trans h01.os,hg.1.tape.trans h01.tape,hg.1.output.trans h01.output,by have:=hg.1.size;simp[zH];omega,λk' hlt' hm=>by rw[Below.heap_setCell _ _ _ _ (λe=>hm (.inl (by simpa using e))),hg.1.block k' aI (λe=>hm (.inr e))];exact h01.block k' hlt' (λe=>hm (.inl e))⟩
set_option maxHeartbeats 2000000 in
set_option maxRecDepth 100000 in
theorem Ug (L:Lays.n166 P ρ)(X:Builder.Extra P ρ)(k:Nat)(p v:Value)(l s:List UInt8)(w:World)(hk:w.heap[k]? = some (.cells #[p,v] (ρ.t 72) (0,0)))(hp:akd k p)(hv:ET (ρ.t 5) v l w)
 (hlen:l.length+s.length<=140737488355328) :
 Calls P (ρ.f 166) #[.pointer (some ⟨k,0,none⟩),.string ⟨⟨s⟩⟩] w λe w'=>e = .returned (.tuple #[.int .i64 s.length,.nilIface])/\Wrote (ρ.t 72) (ρ.t 5) k v (l++s) w w':=by
 obtain⟨i0,hi,hz0,hz1,hz2⟩:=info_parts X.infoByte;have hlt:=Ac hk;have hne:=hv.ne hk X.neB5;have mixed:=L.mixed;have t72:=L.t72;have a72:=L.a72;have z72:=L.z72;have v72:=L.v72;have u72:=run_underlying L.t72;have t70:=L.t70;have a70:=L.a70;have z70:=L.z70;have v70:=L.v70;have u70:=run_underlying L.t70;have t37:=L.t37;have a37:=L.a37;have z37:=L.z37;have v37:=L.v37;have u37:=run_underlying L.t37;have t3:=L.t3;have a3:=L.a3;have z3:=L.z3;have v3:=L.v3;have u3:=run_underlying L.t3;have t9:=L.t9;have a9:=L.a9;have z9:=L.z9;have v9:=L.v9;have u9:=run_underlying L.t9;have t4:=L.t4;have a4:=L.a4;have z4:=L.z4;have v4:=L.v4;have u4:=run_underlying L.t4;have t164:=L.t164;have a164:=L.a164;have z164:=L.z164;have v164:=L.v164;have u164:=run_underlying L.t164;have t5:=X.t5;have a5:=X.a5;have z5:=X.z5;have v5:=X.v5;have u5:=run_underlying X.t5;have e240:∀args w,(callFunc (ρ.f 240) args).run P w = .ok (.enter (ρ.f 240) args) w:=enters_of L.f240 lS rfl
 go_enter L.f166,Body.n166_ntmps ρ
 go_wp2_with (go_at_fn (ρ.f 240);refine(XA { L with } X.toX72 k p v _ hk hp).mono ?_)
 rintro e w1 ⟨rfl,hk1,hs1,hF1⟩;have hv1:ET (ρ.t 5) v l w1:=hv.same λg hg=>hF1.block g (hv.adA hg).1 (λe=>hne (by rw[hg,e]));have c0:w1.cell? ⟨k,0,none⟩=some (.pointer (some ⟨k,0,none⟩)):=by rw[mD hk1];rfl
 have c1:w1.cell? ⟨k,1,none⟩=some v:=by rw[mD hk1];rfl
 go_wp2_with (at_builtin;refine Uz rfl _ _ (ρ.t 37) (ρ.t 9) rfl (ρ.t 5) i0 L.t37 L.t9 hi hz0 hz1 hz2 _ _ rfl hv1 s rfl hlen ?_)
 intro v' w2 hr hg;obtain⟨hb2,hW⟩:=abV X.neB5 hv hlt hk1 hs1.h hF1 (.inl rfl) hr hg hne;have d0:w2.cell? ⟨k,0,none⟩=some (.pointer (some ⟨k,0,none⟩)):=by rw[mD hb2];rfl
 have d1:w2.cell? ⟨k,1,none⟩=some v:=by rw[mD hb2];rfl
 have f1:w2.frozen? ⟨k,1,none⟩=false:=Dc hb2 1;obtain⟨ao,n',cap,rfl⟩:∃ao n' cap,v' = .slice ao n' cap:=by
  rcases hr with⟨hv,_⟩|⟨g,cap,cs,hv,_⟩
  ·exact⟨_,_,_,hv⟩
  ·exact⟨_,_,_,hv⟩
 go_wp2
 go_ret2
 exact⟨rfl,hW⟩
theorem ahF (c:Int)(hc:0<=c/\c<256):mX .u8 (gz c.toNat).toNat = .int .u8 c:=by
 have:((gz c.toNat).toNat:Int)=c:=by simp[UInt8.toNat_ofNat'];omega
 rw[this]
set_option maxHeartbeats 2000000 in
set_option maxRecDepth 100000 in
theorem Xa (L:Lays.n167 P ρ)(X:Builder.Extra P ρ)(k:Nat)(p v:Value)(l:List UInt8)(c:Int)(w:World)(hk:w.heap[k]? = some (.cells #[p,v] (ρ.t 72) (0,0)))(hp:akd k p)(hv:ET (ρ.t 5) v l w)
 (hc:0<=c/\c<256) (hlen:l.length+1<=140737488355328) :
 Calls P (ρ.f 167) #[.pointer (some ⟨k,0,none⟩),.int .u8 c] w λe w'=>e = .returned .nilIface/\Wrote (ρ.t 72) (ρ.t 5) k v (l++[gz c.toNat]) w w':=by
 obtain⟨i0,hi,hz0,hz1,hz2⟩:=info_parts X.infoByte;have hlt:=Ac hk;have hne:=hv.ne hk X.neB5;have hbc:dP [gz c.toNat]=[mX .u8 c]:=by simp only[dP,bU,jP,ahF c hc]
 have hnews:∀w1:World,∀j u,(dP [gz c.toNat])[j]? = some u->(w1.alloc (.cells #[.int .u8 c] (ρ.t 5))).cell? ((⟨w1.heap.size,0,none⟩:Addr).add j)=some u:=by
  intro w1 j u hj;rw[hbc]at hj
  match j,hj with
  |0,hj=>simp at hj;subst hj;simp[Go.Addr.add]
 have mixed:=L.mixed;have t72:=L.t72;have a72:=L.a72;have z72:=L.z72;have v72:=L.v72;have u72:=run_underlying L.t72;have t70:=L.t70;have a70:=L.a70;have z70:=L.z70;have v70:=L.v70;have u70:=run_underlying L.t70;have t5:=L.t5;have a5:=L.a5;have z5:=L.z5;have v5:=L.v5;have u5:=run_underlying L.t5;have t37:=L.t37;have a37:=L.a37;have z37:=L.z37;have v37:=L.v37;have u37:=run_underlying L.t37;have t9:=L.t9;have a9:=L.a9;have z9:=L.z9;have v9:=L.v9;have u9:=run_underlying L.t9;have t4:=L.t4;have a4:=L.a4;have z4:=L.z4;have v4:=L.v4;have u4:=run_underlying L.t4;have t164:=L.t164;have a164:=L.a164;have z164:=L.z164;have v164:=L.v164;have u164:=run_underlying L.t164;have e240:∀args w,(callFunc (ρ.f 240) args).run P w = .ok (.enter (ρ.f 240) args) w:=enters_of L.f240 lS rfl
 go_enter L.f167,Body.n167_ntmps ρ
 go_wp2_with (go_at_fn (ρ.f 240);refine(XA { L with } X.toX72 k p v _ hk hp).mono ?_)
 rintro e w1 ⟨rfl,hk1,hs1,hF1⟩;have hv1:ET (ρ.t 5) v l w1:=hv.same λg hg=>hF1.block g (hv.adA hg).1 (λe=>hne (by rw[hg,e]));have c0:w1.cell? ⟨k,0,none⟩=some (.pointer (some ⟨k,0,none⟩)):=by rw[mD hk1];rfl
 have c1:w1.cell? ⟨k,1,none⟩=some v:=by rw[mD hk1];rfl
 go_wp2_with (at_builtin;refine WT rfl _ _ (ρ.t 37) rfl (ρ.t 5) i0 L.t37 hi hz0 hz1 hz2 _ _ rfl (hv1.alloc _) [gz c.toNat] (List.cons_ne_nil _ _) ⟨w1.heap.size,0,none⟩ 1 rfl (hnews w1) hlen ?_)
 intro v' w2 hr hg;obtain⟨hb2,hW⟩:=abV X.neB5 hv hlt hk1 hs1.h hF1 (.inr ⟨_,rfl⟩) hr hg hne;have d0:w2.cell? ⟨k,0,none⟩=some (.pointer (some ⟨k,0,none⟩)):=by rw[mD hb2];rfl
 have d1:w2.cell? ⟨k,1,none⟩=some v:=by rw[mD hb2];rfl
 have f1:w2.frozen? ⟨k,1,none⟩=false:=Dc hb2 1;obtain⟨ao,n',cap,rfl⟩:∃ao n' cap,v' = .slice ao n' cap:=by
  rcases hr with⟨hv,_⟩|⟨g,cap,cs,hv,_⟩
  ·exact⟨_,_,_,hv⟩
  ·exact⟨_,_,_,hv⟩
 go_wp2
 go_ret
 exact⟨rfl,hW⟩
theorem ac2 (w:World)(g n:Nat):DW w (w.drew.freeze ⟨g,0,none⟩ n) (λk'=>k'=g):=by
 unfold World.freeze;split
 ·exact⟨rfl,rfl,rfl,aC _,λ_ _ _=>rfl⟩
 ·exact⟨rfl,rfl,rfl,by simp only[Array.size_modify];exact aC _,λk hk hm=>by simp only[zV];rw[au (λe=>hm e.symm)];rfl⟩
theorem RV {w w':World}(h:Below w.heap.size w w')(M:Nat->Prop):DW w w' M:=⟨h.os,h.tape,h.output,h.size,λk hk _=>h.block k hk⟩
set_option maxHeartbeats 2000000 in
set_option maxRecDepth 100000 in
theorem acu (L:Lays.n169 P ρ)(X:Builder.Extra P ρ)(k:Nat)(p v:Value)(l:List UInt8)(w:World)(hk:w.heap[k]? = some (.cells #[p,v] (ρ.t 72) (0,0)))(hv:ET (ρ.t 5) v l w) :
 Calls P (ρ.f 169) #[.pointer (some ⟨k,0,none⟩)] w λe w'=>e = .returned (.string ⟨⟨l⟩⟩)/\DW w w' (λk'=>some k'=v.ownBlock):=by
 rcases hv with⟨rfl,rfl⟩|⟨g,cap,cs,rfl,hc0,hle,hcm,hg,hcs,h1,hb⟩
 ·refine(Any.Builder_String_nil L X w.heap.size k p w hk).mono ?_;rintro e w' ⟨rfl,h⟩;exact⟨rfl,RV h _⟩
 by_cases h0:l=[]
 ·subst h0;refine(Any.Builder_String_room L X w.heap.size k g cap p w hc0 hk).mono ?_;rintro e w' ⟨rfl,h⟩;exact⟨rfl,RV h _⟩
 have hl0:l.length≠0:=by simpa using h0
 have c1:w.drew.cell? ⟨k,1,none⟩=some (.slice (some ⟨g,0,none⟩) l.length cap):=by have:w.drew.heap[k]? = some (.cells #[p,.slice (some ⟨g,0,none⟩) l.length cap] (ρ.t 72) (0,0)):=hk;rw[mD this];rfl
 have hSD:(Builtin.unsafeSliceData_ #[(ρ.t 37)] (ρ.t 127) #[.slice (some ⟨g,0,none⟩) l.length cap]).run P w.drew = .ok (.pointer (some ⟨g,0,none⟩)) w.drew:=
  Lib.run_unsafeSliceData_row _ _ _ _ _ _ aI
 have hUS:(Builtin.unsafeString_ #[(ρ.t 127),(ρ.t 3)] (ρ.t 9) #[.pointer (some ⟨g,0,none⟩),.int .i64 l.length]).run P w.drew = .ok (.string ⟨l.toArray⟩) (w.drew.freeze ⟨g,0,none⟩ l.length):=by refine Lib.run_unsafeString_row w.drew (ρ.t 127) (ρ.t 3) (ρ.t 9) (ρ.t 5) L.t127 X.cellsByte g cs.size (by have hg':w.drew.heap[g]? = some (.cells cs (ρ.t 5) (0,0)):=hg;simp[CP,hg']) l h0 aI (by unfold maxLen at hcm;omega) ?_;intro j x hx;rw[Addr.uw];have hg':w.drew.heap[g]? = some (.cells cs (ρ.t 5) (0,0)):=hg;simp[iy,hg',hb j x hx]
 have mixed:=L.mixed;have t72:=L.t72;have a72:=L.a72;have z72:=L.z72;have v72:=L.v72;have u72:=run_underlying L.t72;have t70:=L.t70;have a70:=L.a70;have z70:=L.z70;have v70:=L.v70;have u70:=run_underlying L.t70;have t37:=L.t37;have a37:=L.a37;have z37:=L.z37;have v37:=L.v37;have u37:=run_underlying L.t37;have t127:=L.t127;have a127:=L.a127;have z127:=L.z127;have v127:=L.v127;have u127:=run_underlying L.t127;have t3:=L.t3;have a3:=L.a3;have z3:=L.z3;have v3:=L.v3;have u3:=run_underlying L.t3;have t9:=L.t9;have a9:=L.a9;have z9:=L.z9;have v9:=L.v9;have u9:=run_underlying L.t9;have t5:=X.t5;have a5:=X.a5;have z5:=X.z5;have v5:=X.v5;have u5:=run_underlying X.t5;have hF:=ac2 w g l.length;clear hb hcs hg hle hcm h1 hk
 go_enter L.f169,Body.n169_ntmps ρ
 go_wp2
 go_region_o
 all_goals(go_wp2;go_ret;exact⟨rfl,hF.os,hF.tape,hF.output,hF.size,λk' hk' hm=>hF.block k' hk' (λe=>hm (by rw[e];rfl))⟩)
end Go.Ab
end
section
namespace Go.Ab
open Go Go.Shelf Go.Proofs
section
variable {P:Program} {I:IH} {ρ:Ren} {w:World}
structure Bld (I:IH)(ρ:Ren)(w:World)(T e k:Nat)(p v:Value)(l:List UInt8):Prop where
 r0:ρ 0=some (k,T)
 hk:w.heap[k]? = some (.cells #[p,v] T (0,0))
 hp:akd k p
 hv:ET e v l w
 own:∀g,v.ownBlock=some g->∃cap,ρ 1=some (g,cap)/\cap≠0
 i0:I k=none
 i1:∀g,v.ownBlock=some g->I g=none
theorem apo {cs:Array Value}(h:cs.size=2):∃p v,cs = #[p,v]:=by
 match cs,h with
 |⟨[p,v]⟩,_=>exact⟨p,v,rfl⟩
theorem acs {T e:Nat}{l:List UInt8}(h:BX I ρ w (Dj [.var [.opt T 0,.zW 1 l.length],.row e l])):∃k p v,Bld I ρ w T e k p v l:=by
 obtain⟨k,cap,cs,hr,hw,hs,hc⟩:=h.ok 0;obtain⟨p,v,rfl⟩:=apo hs;obtain⟨k',hr',hp⟩:=hc 0 p (.opt T 0) rfl rfl;rw[hr]at hr';simp only[aH,dF]at hr';obtain⟨rfl,rfl⟩:=hr';obtain⟨g,cp,hg,hn,hv⟩:=hc 1 v (.zW 1 l.length) rfl rfl;obtain⟨g',cp',hg',hl,hm,hrow⟩:=h.ok 1;rw[hg]at hg';simp only[aH,dF]at hg';obtain⟨rfl,rfl⟩:=hg';have i0:I k=none:=h.fresh 0 k ⟨_,hr⟩;rcases hv with⟨h0,rfl⟩|⟨h0,rfl⟩
 ·refine⟨k,p,_,hr,hw,hp,.inl ⟨rfl,?_⟩,(λg hx=>by cases hx),i0,(λg hx=>by cases hx)⟩;exact List.eq_nil_of_length_eq_zero aI
 ·obtain⟨cs,h1,h2,h3,h4⟩:=hrow h0;refine⟨k,p,_,hr,hw,hp,.inr ⟨g,cp,cs,rfl,h0,hl,hm,h1,h2,h3,h4⟩,λg' hx=>?_,i0,λg' hx=>?_⟩
  ·simp only[F7,aH]at hx;subst hx;exact⟨cp,hg,h0⟩
  ·simp only[F7,aH]at hx;subst hx;exact h.fresh 1 g ⟨cp,hg,h0⟩
theorem aan {T e k:Nat}{p v:Value}{l l':List UInt8}{w':World}(hT:T≠e)(hA:Agree I w)(hB:BX I ρ w (Dj [.var [.opt T 0,.zW 1 l.length],.row e l]))(b:Bld I ρ w T e k p v l)(h:Wrote T e k v l' w w') :
 ∃ σ:Ren,Agree I w'/\BX I σ w' (Dj [.var [.opt T 0,.zW 2 l'.length],.dead,.row e l']) /\
   DW w w' (λk=>∃c,(Dj [.var [.opt T 0,.zW 1 l.length],.row e l] c).uses (ρ c) k) /\
   (∀c k',(Dj [.var [.opt T 0,.zW 2 l'.length],.dead,.row e l'] c).uses (σ c) k'->w.heap.size<=k'\/∃c',(Dj [.var [.opt T 0,.zW 1 l.length],.row e l] c').uses (ρ c') k') /\
   (∀c,c<2->σ c=ρ c):=by
 obtain⟨v',hk',hv',hown,hF⟩:=h;have hu0:(Dj [.var [.opt T 0,.zW 1 l.length],.row e l] 0).uses (ρ 0) k:=⟨_,b.r0⟩;have hu1:∀g,v.ownBlock=some g->(Dj [.var [.opt T 0,.zW 1 l.length],.row e l] 1).uses (ρ 1) g:=λg hg=>b.own g hg;have hρ:∀c,2<=c->ρ c=none:=λc hc=>by have h1:=hB.ok c;rw[JI (by simpa using hc)]at h1;exact h1
 have hne:v'.ownBlock≠some k:=hv'.ne hk' hT;obtain⟨g,cap,hg⟩:∃g cap,(cap=0/\v' = .slice none 0 0/\l'=[])\/(cap≠0/\v' = .slice (some ⟨g,0,none⟩) l'.length cap/\l'.length<=cap/\cap<=maxLen/\∃cs,w'.heap[g]? = some (.cells cs e (0,0))/\cs.size=cap /\
  (∀(j:Nat) (u:Value),cs[j]? = some u->u.oneCell'=true)/\∀(j:Nat) (x:UInt8),l'[j]? = some x->cs[j]? = some (.int .u8 x.toNat)):=by
  rcases hv' with⟨rfl,rfl⟩|⟨g,cap,cs,h1,h2,h3,h4,h5⟩
  ·exact⟨0,0,.inl ⟨rfl,rfl,rfl⟩⟩
  ·exact⟨g,cap,.inr ⟨h2,h1,h3,h4,cs,h5⟩⟩
 have hnew:cap≠0->I g=none/\g≠k/\(w.heap.size<=g\/(Dj [.var [.opt T 0,.zW 1 l.length],.row e l] 1).uses (ρ 1) g):=λh0=>by
  rcases hg with⟨h1,_⟩|⟨_,rfl,_⟩
  ·exact eF h1 h0
  ·rw[F7]at hne hown;refine⟨?_,λe=>hne (by rw[e]),?_⟩
   ·rcases hown with h|⟨g',h,hb⟩
    ·exact b.i1 g h.symm
    ·simp only[aH]at h;subst h;exact hA.aa8 hb
   ·rcases hown with h|⟨g',h,hb⟩
    ·exact .inr (hu1 g h.symm)
    ·simp only[aH]at h;subst h;exact .inl hb
 have hle:ρ.le (ρ.set 2 g cap):=Ren.Pq (hρ 2 (aC _));have s2:(ρ.set 2 g cap) 2=some (g,cap):=Ren.pz _ _ _ _;have s0:(ρ.set 2 g cap) 0=some (k,T):=(Ren.yl xB).trans b.r0;have u0:∀k',(Dj [.var [.opt T 0,.zW 2 l'.length],.dead,.row e l'] 0).uses ((ρ.set 2 g cap) 0) k'->k'=k:=λk' hu=>by obtain⟨c,hc⟩:=hu;rw[s0]at hc;simp only[aH,dF]at hc;exact hc.1.symm
 have u2:∀k',(Dj [.var [.opt T 0,.zW 2 l'.length],.dead,.row e l'] 2).uses ((ρ.set 2 g cap) 2) k'->k'=g/\cap≠0:=λk' hu=>by obtain⟨c,hc,h0⟩:=hu;rw[s2]at hc;simp only[aH,dF]at hc;exact⟨hc.1.symm,by rw[hc.2];exact h0⟩
 have uu:∀c k',(Dj [.var [.opt T 0,.zW 2 l'.length],.dead,.row e l'] c).uses ((ρ.set 2 g cap) c) k'->(c=0/\k'=k)\/(c=2/\k'=g/\cap≠0):=λc k' hu=>by
  match c with
  |0=>exact .inl ⟨rfl,u0 k' hu⟩
  |1=>exact hu.elim
  |2=>exact .inr ⟨rfl,u2 k' hu⟩
  |c+3=>rw[JI mg]at hu;exact hu.elim
 refine⟨ρ.set 2 g cap,?_,⟨λc=>?_,λc c' k' hc hc'=>?_,λc k' hc=>?_⟩,⟨hF.os,hF.tape,hF.output,hF.size,λk' hlt hm=>hF.block k' hlt λe=>hm ?_⟩,λc k' hc=>?_,λc hc=>Ren.yl aI⟩
 ·refine hA.other λk1 c hc=>hF.block k1 (hA.lt hc) λe=>?_;rcases e with rfl|e
  ·rw[b.i0]at hc;cases hc
  ·rw[b.i1 k1 e.symm]at hc;cases hc
 ·match c with
  | 0=>
    refine⟨k,T,_,s0,hk',rfl,λj u x hu hx=>?_⟩
    match j with
    | 0=>simp at hu hx;subst hu;subst hx;exact⟨k,s0,.inr rfl⟩
    | 1=>
      simp at hu hx;subst hu;subst hx;rcases hg with⟨h1,h2,h3⟩|⟨h1,h2,h3,_⟩
      ·exact⟨g,cap,s2,by rw[h3];exact oN _,.inl ⟨h1,h2⟩⟩
      ·exact⟨g,cap,s2,h3,.inr ⟨h1,h2⟩⟩
    |j+2=>simp at hu
  |1=>trivial
  | 2=>
    rcases hg with⟨h1,h2,h3⟩|⟨h1,h2,h3,h4,h5⟩
    ·exact⟨g,cap,s2,by rw[h3];exact oN _,by rw[h1];exact oN _,λh=>eF h1 h⟩
    ·exact⟨g,cap,s2,h3,h4,λ_=>h5⟩
  | c+3=>rw[JI mg];exact(Ren.yl aI).trans (hρ _ aI)
 ·rcases uu c k' hc with⟨rfl,h1⟩|⟨rfl,h1,h2⟩<;>rcases uu c' k' hc' with⟨rfl,h3⟩|⟨rfl,h3,h4⟩
  ·rfl
  ·exact eF (h3.symm.trans h1) (hnew h4).2.1
  ·exact eF (h1.symm.trans h3) (hnew h2).2.1
  ·rfl
 ·rcases uu c k' hc with⟨rfl,rfl⟩|⟨rfl,rfl,h2⟩
  ·exact b.i0
  ·exact(hnew h2).1
 ·rcases e with rfl|e
  ·exact⟨0,hu0⟩
  ·exact⟨1,hu1 k' e.symm⟩
 ·rcases uu c k' hc with⟨rfl,rfl⟩|⟨rfl,rfl,h2⟩
  ·exact .inr ⟨0,hu0⟩
  ·rcases(hnew h2).2.2 with h|h
   ·exact .inl h
   ·exact .inr ⟨1,h⟩
end
variable {P:Program} {ρ:Go.Shelf.Ren}
structure jO where
 buf:List UInt8
 deriving Inhabited
theorem aaK {I:IH}{r:Ren}{vs:List Value}{x y:AV}(h:UX I r vs [x,y]):∃a b,vs=[a,b]/\GV I r a x/\GV I r b y:=by
 obtain⟨h1,h2⟩:=h
 match vs,h1 with
 |[a,b],_=>exact⟨a,b,rfl,h2 0 a x rfl rfl,h2 1 b y rfl rfl⟩
theorem aaJ {I:IH}{r:Ren}{vs:List Value}{x:AV}(h:UX I r vs [x]):∃a,vs=[a]/\GV I r a x:=by
 obtain⟨h1,h2⟩:=h
 match vs,h1 with
 |[a],_=>exact⟨a,rfl,h2 0 a x rfl rfl⟩
theorem Yt (L:Lays.n167 P ρ)(X:Builder.Extra P ρ){l:List UInt8}{c:Int}(hc:0<=c/\c<256)(hl:l.length+1<=140737488355328)(hk:Xe (ρ.f 167) false=true:=by rfl) :
 pO P (ρ.f 167) [.one (.ptr 0 0),.one (.c (.lit (.int .u8 c)))] [.var [.opt (ρ.t 72) 0,.zW 1 l.length],.row (ρ.t 5) l] λr bs=>r = .one (.c (.lit .nilIface))/\bs=[.var [.opt (ρ.t 72) 0,.zW 2 (l++[gz c.toNat]).length],.dead,.row (ρ.t 5) (l++[gz c.toNat])]:=by
 refine pO.of0 hk ?_;intro I r w vs hT hA hB hG;obtain⟨a,b',rfl,ha,hb⟩:=aaK hG;obtain⟨k,p,v,b⟩:=acs hB;obtain⟨k',cap',hr,rfl⟩:=ha;rw[b.r0]at hr;simp only[aH,dF]at hr;obtain⟨rfl,_⟩:=hr;cases hb;refine(Xa L X k p v l c w b.hk b.hp b.hv hc hl).mono ?_;rintro e w' ⟨rfl,hW⟩;obtain⟨σ,h1,h2,h3,h4,h5⟩:=aan X.neB5 hA hB b hW;exact⟨_,I,σ,_,_,rfl,⟨rfl,rfl⟩,Rd.lit _ rfl,h1,h2,IH.le_refl I,h3,h4,λ_ _ _=>rfl,h5⟩
theorem U3 (L:Lays.n166 P ρ)(X:Builder.Extra P ρ){l s:List UInt8}(hl:l.length+s.length<=140737488355328)(hk:Xe (ρ.f 166) false=true:=by rfl) :
 pO P (ρ.f 166) [.one (.ptr 0 0),.one (.c (.str s))] [.var [.opt (ρ.t 72) 0,.zW 1 l.length],.row (ρ.t 5) l] λr bs=>r = .AB [(false,[.c (.lit (.int .i64 s.length))]),(false,[.c (.lit .nilIface)])]/\bs=[.var [.opt (ρ.t 72) 0,.zW 2 (l++s).length],.dead,.row (ρ.t 5) (l++s)]:=by
 refine pO.of0 hk ?_;intro I r w vs hT hA hB hG;obtain⟨a,b',rfl,ha,hb⟩:=aaK hG;obtain⟨k,p,v,b⟩:=acs hB;obtain⟨k',cap',hr,rfl⟩:=ha;rw[b.r0]at hr;simp only[aH,dF]at hr;obtain⟨rfl,_⟩:=hr;cases hb;refine(Ug L X k p v l s w b.hk b.hp b.hv hl).mono ?_;rintro e w' ⟨rfl,hW⟩;obtain⟨σ,h1,h2,h3,h4,h5⟩:=aan X.neB5 hA hB b hW;refine⟨_,I,σ,_,_,rfl,⟨rfl,rfl⟩,⟨_,rfl,rfl,λj u q hu hq=>?_⟩,h1,h2,IH.le_refl I,h3,h4,λ_ _ _=>rfl,h5⟩
 match j with
 |0=>simp at hu hq;subst hu;subst hq;exact⟨_,rfl,Rd.lit _ rfl⟩
 |1=>simp at hu hq;subst hu;subst hq;exact⟨_,rfl,Rd.lit _ rfl⟩
 |j+2=>simp at hu
theorem afs (L:Lays.n169 P ρ)(X:Builder.Extra P ρ){l:List UInt8}(hl:l.length<=maxLen)(hk:Xe (ρ.f 169) false=true:=by rfl) :
 pO P (ρ.f 169) [.one (.ptr 0 0)] [.var [.opt (ρ.t 72) 0,.zW 1 l.length],.row (ρ.t 5) l] λr bs=>r = .one (.c (.str l))/\bs=[.dead,.dead]:=by
 refine pO.of0 hk ?_;intro I r w vs hT hA hB hG;obtain⟨a,rfl,ha⟩:=aaJ hG;obtain⟨k,p,v,b⟩:=acs hB;obtain⟨k',cap',hr,rfl⟩:=ha;rw[b.r0]at hr;simp only[aH,dF]at hr;obtain⟨rfl,_⟩:=hr;refine(acu L X k p v l w b.hk b.hv).mono ?_;rintro e w' ⟨rfl,hF⟩;have hρ:∀c,2<=c->r c=none:=λc hc=>by have h1:=hB.ok c;rw[JI (by simpa using hc)]at h1;exact h1
 have un:∀c k',(Dj [.dead,.dead] c).uses (r c) k'->False:=λc k' hu=>by
  match c with
  |0=>exact hu
  |1=>exact hu
  |c+2=>rw[JI mg]at hu;exact hu
 refine⟨_,I,r,_,_,rfl,⟨rfl,rfl⟩,Rd.str _ hl,?_,⟨λc=>?_,λc c' k' hc=>(un c k' hc).elim,λc k' hc=>(un c k' hc).elim⟩,IH.le_refl I,⟨hF.os,hF.tape,hF.output,hF.size,λk' hlt hm=>hF.block k' hlt λe=>hm ⟨1,?_⟩⟩,λc k' hc=>(un c k' hc).elim,λ_ _ _=>rfl,λ_ _=>rfl⟩
 ·exact hA.other λk1 c hc=>hF.block k1 (hA.lt hc) λe=>by rw[b.i1 k1 e.symm]at hc;cases hc
 ·match c with
  |0=>trivial
  |1=>trivial
  |c+2=>rw[JI mg];exact hρ _ aI
 ·exact b.own k' e.symm
end Go.Ab
end
section
namespace Go.Ab
open Go Go.Shelf Go.Proofs
variable {P:Program} {ρ:Go.Shelf.Ren}
theorem anl {I:IH} {w:World} (hT:Tabs P I) (hA:Agree I w) {g:Nat} (hg:P.globalNamed "internal/strconv.uint64pow10" = some g):Lib.TabIs P w "internal/strconv.uint64pow10" .u64 Go.Lib.pow10Tab:=by
 obtain⟨e,fr,h⟩:=hA g _ (hT.pow g hg);unfold Lib.TabIs World.var?;simp only[hg,Option.bind_some,h]
theorem akn (L:LaysM.n171 P ρ){n:Int}(h0 : -9223372036854775808<=n/\n<=9223372036854775807)(hl:(Go.Lib.itoa n).length<=maxLen){r:List UInt8}(hr:r=Go.Lib.itoa n)(hk:Xe (ρ.f 171) true=true:=by rfl) :
 fF P (ρ.f 171) [.one (.c (.lit (.int .i64 n)))] (.one (.c (.str r))):=by
 subst hr;refine pO.of0 hk ?_;intro I r w vs hT hA hB hG;obtain⟨a,rfl,ha⟩:=aaJ hG;cases ha;have hB':∀b,Dj [] b = .absent:=λb=>JI (oN _);refine(Any.strconv_Itoa L n h0.1 h0.2 w (anl hT hA L.m17)).mono ?_;rintro e w' ⟨rfl,k,os,rfl⟩;have hb:=Lib.below_grow w.heap.size w (aC _) k os;refine⟨_,I,r,_,_,rfl,⟨rfl,rfl⟩,Rd.str _ hl,hA.other λk1 c hc=>hb.block k1 (hA.lt hc),⟨λb=>?_,λb b' k hu=>?_,λb k hu=>?_⟩,IH.le_refl I,RV hb _,λb k hu=>?_,λ_ _ _=>rfl,λ_ _=>rfl⟩
 ·have:=hB.ok b;rw[hB']at this⊢;exact this
 all_goals(rw[hB']at hu;exact hu.elim)
end Go.Ab
end
