/- What abstract values, states and codes of the program's language mean, and that they are sound (part 3). No conditions. -/
import Derived.Test.YtfengbmckcgbiaaGreatDoorX2
set_option linter.unusedVariables false
set_option linter.unusedSimpArgs false
open Array renaming getElem?_eq_some_iff->dK,getD_eq_getD_getElem?->dX,length_toList->mY,getElem?_append_left->rU,replicate->sK,empty_append->uz,getElem?_modify->yU
open Bool renaming and_eq_true->ah,or_eq_true->gV,false_eq_true->pR
open ByteArray renaming mk->Ed
open Go.Act renaming put->jC
open Go.Builtin renaming zeroCells->bK,append_->gY
open Go.Code renaming region->CZ
open Go.Exit renaming inBlock->zn
open Go.Instr renaming fieldAt->Bj,sureAddr->kJ,loadAt->qj
open Go.IntKind renaming wrap->af
open Go.Lib renaming frozen_of_heap->CB,byteCells->dm,cell_of_heap->lQ,byteCells_length->mF,alloc_old->yK
open Go.Next renaming value->nG
open Go.Oper renaming wp->vZ
open Go.Result renaming andThen_ok->bn,ok->og
open Go.Sem renaming run_pure->bQ,run_bind->cZ
open Go.Value renaming slice->Dh,ownBlock->EC,int->kT
open Go.World renaming shape?->BV,cell?->gI,setCell->yL
open List renaming drop_eq_nil_of_le->BI,getElem?_eq_some_iff->aK,all_eq_true->aP,mem_map->aS,take_of_length_le->aT,mem_filter->aX,mem_append->aY,map_cons->aZ,map->ai,drop_of_length_le->au,getElem?_eq_getElem->ax,mem_cons->ay,replicate->bC,length_append->bD,getElem?_append_left->bF,getD_eq_getElem?_getD->bf,getElem?_append_right->dA,all_cons->dH,mem_cons_of_mem->dY,getElem?_drop->fV,length_take->gW,append_assoc->gX,append_nil->iQ,length_nil->iy,map_nil->jH,nil_append->jI,flatMap_cons->jU,contains_iff_mem->kE,getElem?_eq_none->kF,map_toArray->lC,drop->nX,length_pos_iff->oQ,getElem?_set->qG,getElem_of_mem->vG,take_append_of_le_length->vT,getElem?_take_of_lt->xM,nodup_cons->zy
open Nat renaming le_refl->aA,le_trans->bH,zero_add->eU,zero_le->nY,add_assoc->sU,mul_one->wJ,add_comm->xE
open Ne renaming symm->Gq
open Option renaming isSome_none->Ak,map_eq_some_iff->bW,isNone_iff_eq_none->uZ
open Option.some renaming injEq->aC
open Prod.mk renaming injEq->bI
open UInt8 renaming ofNat->fB
namespace Go.Ab
open Go
section
inductive SV where
 |arr
 |idx
 |cnt
 |ptr (off:Nat)
 |txt
 |val (off:Nat)
 deriving DecidableEq
abbrev Ku :=List (Nat×SV)
def Ku.look (env:Ku)(t:Nat):Option SV:=match env with
 |[]=>none
 |(x,v)::r=>if x==t then some v else Ku.look r t
def qop (P:Program)(ET sz:Nat)(env:Ku)(o:Oper):Option Ku:=
 match o.guard,o.dst with
 | none,some d=>if d==0||d==1||d==5||(env.look d).isSome then none else(match o.op with
   |.move (.tmp s)=>(env.look s).map λv=>(d,v)::env
   |.indexAddr t (.tmp x) (.tmp y)=>if env.look x=some .arr/\env.look y=some .idx/\NL P t sz=true then some ((d,.ptr 0)::env)else none
   | .fieldAddr s (.tmp x) f=>(match env.look x with
     | some (.ptr off)=>(match P.underlying s with
       | some (.struct fs)=>(match fs[f]? with
         |some UF=>if FT P s f UF.offset=true then some ((d,.ptr (off+UF.offset))::env)else none
         |none=>none)
       |_=>none)
     |_=>none)
   | .load t (.tmp x)=>(match env.look x with
     |some (.ptr off)=>if Nc P t false 1=true/\off<sz then some ((d,.val off)::env)else none
     |_=>none)
   |.call ⟨.value (.func f),⟨[.tmp x]⟩,_⟩=>if f=ET/\env.look x=some .cnt/\yO P f=true then some ((d,.txt)::env)else none
   |_=>none)
 |_,_=>none
def JF (P:Program)(ET:Nat)(tx:Int->List UInt8):Prop:=∀k:Int,0<=k->k<4611686018427387904->dI P ET [.one (.c (.lit (.int .i64 k)))] (.one (.c (.str (tx k))))
section
variable {P:Program} {ET sz:Nat} {tx:Int->List UInt8} {kb i n c:Nat} {k:Int}
def SV.den (tx:Int->List UInt8)(sz kb i n c:Nat)(k:Int)(w:World)(v:Value):SV->Prop
 |.arr=>v = .slice (some ⟨kb,0,none⟩) n c
 |.idx=>v = .int .i64 (i:Int)
 |.cnt=>v = .int .i64 k
 |.ptr off=>v = .pointer (some ⟨kb,i*sz+off,none⟩)
 |.txt=>v = .string ⟨⟨tx k⟩⟩/\(tx k).length<=maxLen
 |.val off=>w.cell? ⟨kb,i*sz+off,none⟩=some v
structure ES (tx:Int->List UInt8)(sz kb i n c m:Nat)(k:Int)(env:Ku)(a:Act)(w:World):Prop where
 size:a.tmps.size=m
 defers:a.defers=[]
 den:∀t v,env.look t=some v->v.den tx sz kb i n c k w (a.tmps.getD t undef)
theorem SV.af4 {w w':World}(hb:w'.heap[kb]? = w.heap[kb]?){v:SV}{x:Value}(h:v.den tx sz kb i n c k w x):v.den tx sz kb i n c k w' x:=by
 cases v with
 |val off=>simp only[SV.den,gI,hb]at h⊢;exact h
 |_=>exact h
theorem ES.put {m:Nat}{env:Ku}{a:Act}{w:World}(h:ES tx sz kb i n c m k env a w){d:Nat}(hd:env.look d=none)(hm:d<m){v:Value}{s:SV}(hv:s.den tx sz kb i n c k w v):ES tx sz kb i n c m k ((d,s)::env) (a.put (some d) v) w:=by
 refine⟨by simp[jC,h.size],h.defers,λt x hx=>?_⟩;simp only[Ku.look]at hx;by_cases e:d=t
 ·subst e;simp only[beq_self_eq_true,amB,aC]at hx;subst hx;rw[gB (by rw[h.size];exact hm)];exact hv
 ·rw[ahk (by simpa using e)]at hx;rw[oK (Gq e)];exact h.den t x hx
theorem ES.world {m:Nat}{env:Ku}{a:Act}{w w':World}(h:ES tx sz kb i n c m k env a w)(hb:w'.heap[kb]? = w.heap[kb]?):ES tx sz kb i n c m k env a w':=
 ⟨h.size,h.defers,λt v hv=>SV.af4 hb (h.den t v hv)⟩
variable {ops:Array Oper} {Q:Exit->Act->World->Prop} {rest:List Oper} {o:Oper} {a:Act} {w w':World} {v:Value}
theorem uX (hg:o.guard=none)(hr:(execOp a.eval o).run P w = .ok (.value v) w')(h:wpList P ops Q rest (a.put o.dst v) w'):wpList P ops Q (o::rest) a w:=
 wpList_plain hg λK hK=>by unfold vZ;rw[hr,Oper.upon_value];exact hK _ _ h
theorem step_skip (hg:o.guard=none)(hr:(execOp a.eval o).run P w = .ok .skip w')(h:wpList P ops Q rest (a.put o.dst undef) w'):wpList P ops Q (o::rest) a w:=
 wpList_plain hg λK hK=>by unfold vZ;rw[hr,Go.Oper.upon_skip];exact hK _ _ h
theorem O6 (hg:o.guard=none){f:FuncId}{args:Array Value}(hr:(execOp a.eval o).run P w = .ok (.enter f args) w)
 (h:Calls P f args w λe w'=>∃v,e = .returned v/\wpList P ops Q rest (a.put o.dst v) w'):wpList P ops Q (o::rest) a w:=
 wpList_plain hg λK hK=>by unfold vZ;rw[hr,Oper.upon_enter];refine h.mono ?_;rintro e w' ⟨v,rfl,h⟩;exact hK _ _ h
theorem ag4 (ht:JF P ET tx)(h0:0<=k)(h1:k<4611686018427387904){I0:IH}(hT:Tabs P I0)(hA:Agree I0 w) :
 Calls P ET #[.int .i64 k] w λe w'=>e = .returned (.string ⟨⟨tx k⟩⟩)/\(tx k).length<=maxLen/\Dp w w' λ_=>False:=by
 refine(ht k h0 h1 I0 (λ_=>none) w [.int .i64 k] hT hA ⟨λb=>rfl,λb b' k h=>h.elim,λb k h=>h.elim⟩ ⟨rfl,λj v x hv hx=>?_⟩ _ .acs).mono ?_
 ·match j with
  |0=>cases hv;cases hx;exact Rd.lit _ rfl
  |j+1=>cases hv
 ·rintro e w' ⟨⟨v,J,σ,r,bs,rfl,⟨rfl,rfl⟩,hgv,_,_,_,hF,_⟩,_⟩;cases hgv with
  |str l hl=>exact⟨rfl,hl,hF.os,hF.tape,hF.output,hF.size,λb hb _=>hF.block b hb (by rintro⟨b,hb⟩;exact hb)⟩
theorem YS {m:Nat}{env env':Ku}(hq:qop P ET sz env o=some env')(hm:∀d,o.dst=some d->d<m)(h:ES tx sz kb i n c m k env a w)(hi:i<n)(ht:JF P ET tx)(h0:0<=k)(h1:k<4611686018427387904){I0:IH}(hT:Tabs P I0)(hA:Agree I0 w)(hkb:kb<w.heap.size)
 (hcell:∀off,off<sz->∃x,w.cell? ⟨kb,i*sz+off,none⟩=some x)
 (hk:∀a' w',ES tx sz kb i n c m k env' a' w'->Dp w w' (λ_=>False)->wpList P ops Q rest a' w'):wpList P ops Q (o::rest) a w:=by
 unfold qop at hq;split at hq
 ·rename_i d hg hd;split at hq
  ·cases hq
  ·rename_i hdd;simp only[gV,not_or,Bool.not_eq_true,Option.isSome_eq_false_iff,uZ]at hdd;have hdn:=hdd.2;have hdm:=hm d hd;have fin:∀{v:Value} {s:SV},(execOp a.eval o).run P w = .ok (.value v) w->s.den tx sz kb i n c k w v->env'=(d,s)::env->wpList P ops Q (o::rest) a w:=λhr hs e=>by
    subst e;refine uX hg hr ?_;rw[hd];exact hk _ _ (h.put hdn hdm hs) (Dp.refl _ _)
   split at hq
   ·rename_i s ho;simp only[bW]at hq;obtain⟨x,hx,rfl⟩:=hq;exact fin (v:=a.tmps.getD s undef) (by unfold execOp;rw[ho];rfl) (h.den s x hx) rfl
   ·rename_i t x y ho;split at hq
    ·rename_i hc;cases hq;obtain⟨c1,c2,c3⟩:=hc;obtain⟨e,ti,ht,hti,hsz⟩:=Dw c3;have v1:a.eval (.tmp x) = .slice (some ⟨kb,0,none⟩) n c:=h.den x _ c1;have v2:a.eval (.tmp y) = .int .i64 (i:Int):=h.den y _ c2;refine fin (v:=.pointer (some ((⟨kb,0,none⟩:Addr).add ((i:Int).toNat*sz)))) (s:=.ptr 0) ?_ ?_ rfl
     ·have e0:(0:Int)<=i:=(by omega);have e1:(i:Int)<n:=(by omega);simp[execOp,ho,Go.Instr.indexAt,v1,v2,asIntOf,run_underlying ht,e1,hi,sizeOf,typeInfo,hti,hsz]
     ·simp only[SV.den,Addr.tJ,eU,Int.toNat_natCast,Nat.add_zero]
    ·cases hq
   ·rename_i s x f ho;split at hq
    ·rename_i off hx;split at hq
     ·rename_i fs hs;split at hq
      ·rename_i UF hf;split at hq
       ·rename_i hfa;cases hq;have v1:a.eval (.tmp x) = .pointer (some ⟨kb,i*sz+off,none⟩):=h.den x _ hx;unfold FT at hfa;rw[hs]at hfa;simp only[hf,ah]at hfa;obtain⟨_,hfa⟩:=hfa;split at hfa
        ·rename_i ti hti;simp at hfa;refine fin (v:=.pointer (some ((⟨kb,i*sz+off,none⟩:Addr).add UF.offset))) (s:=.ptr (off+UF.offset)) ?_ ?_ rfl
         ·simp[execOp,ho,Bj,run_underlying hs,hf,v1,kJ,fieldPlace,sizeOf,typeInfo,hti,hfa]
         ·simp only[SV.den,Addr.tJ,sU]
        ·cases hfa
       ·cases hq
      ·cases hq
     ·cases hq
    ·cases hq
   ·rename_i t x ho;split at hq
    ·rename_i off hx;split at hq
     ·rename_i hty;cases hq;obtain⟨hty,hlt⟩:=hty;have v1:a.eval (.tmp x) = .pointer (some ⟨kb,i*sz+off,none⟩):=h.den x _ hx;obtain⟨u,hu⟩:=hcell off hlt;refine fin (v:=u) (s:=.val off) ?_ hu rfl;simp[execOp,ho,v1,kJ,qj,L6 hty hu]
     ·cases hq
    ·cases hq
   ·rename_i f x ts ho;split at hq
    ·rename_i hc;cases hq;obtain⟨rfl,hx,hok⟩:=hc;have v1:a.eval (.tmp x) = .int .i64 k:=h.den x _ hx;have he:=Ht (w:=w) (a:=a) ho (f:=f) (x:=.func f) (caps:= #[]) rfl hok;refine O6 hg (f:=f) (args:= #[.int .i64 k]) (by simpa[v1]using he) ((ag4 ht h0 h1 hT hA).mono ?_);rintro e w' ⟨rfl,hl,hF⟩;refine⟨_,rfl,?_⟩;rw[hd];exact hk _ _ ((h.world (hF.block kb hkb (λh=>h))).put hdn hdm ⟨rfl,hl⟩) hF
    ·cases hq
   ·cases hq
 ·cases hq
theorem ab8 {env env':Ku}(hq:qop P ET sz env o=some env'){t:Nat}{v:SV}(h:env.look t=some v):env'.look t=some v:=by
 have fin:∀{d:Nat} {s:SV},env.look d=none->Ku.look ((d,s)::env) t=some v:=λ{d s} hd=>by simp only[Ku.look];rw[ahk (by simp only[akg];rintro rfl;rw[hd]at h;cases h)];exact h
 unfold qop at hq;split at hq
 ·split at hq
  ·cases hq
  ·rename_i hdd;simp only[gV,not_or,Bool.not_eq_true,Option.isSome_eq_false_iff,uZ]at hdd;have hd:=hdd.2;split at hq
   ·simp only[bW]at hq;obtain⟨x,_,rfl⟩:=hq;exact fin hd
   all_goals(repeat' split at hq)<;>first|(cases hq;exact fin hd)|cases hq
 ·cases hq
end
end
section
def XY : List (Nat×Nat)->Nat->Option Nat
 |[],_=>none
 |(b,c)::r,x=>if b=x then some c else XY r x
def acD (zs:List Nat)(bx:Nat->Box)(π:Nat->Option Nat)(vs:List Nat)(ts0:List (Nat×Slot)):List (Nat×Slot)->Prop
 |[]=>True
 |(t,s)::r=>Yi zs bx π vs (BF ts0 t) s/\acD zs bx π vs ts0 r
def XQ (zs:List Nat)(bx:Nat->Box)(π:Nat->Option Nat)(vs:List Nat):List (Nat×Box)->Prop
 |[]=>True
 |(b,x)::r=>wkB zs bx π vs b x/\XQ zs bx π vs r
def Box.isAbs : Box->Bool
 |.absent=>true
 |_=>false
def nodupB : List Nat->Bool
 |[]=>true
 |x::r=> !r.contains x&&nodupB r
def fst' {α:Type} : List (Nat×α)->List Nat
 |[]=>[]
 |x::r=>x.1::fst' r
def snd' : List (Nat×Nat)->List Nat
 |[]=>[]
 |x::r=>x.2::snd' r
def TJ (m:Nat)(Ij bs:List (Nat×Box))(pi:List (Nat×Nat))(vs:List Nat):Bool:=
 nodupB (snd' (pi.filter λp=> !(uq bs p.1).TE))&&nodupB (fst' pi)&&(fst' pi).all (λb=>(fst' bs).contains b)&&vs.all (λb=>(fst' bs).contains b && !(fst' pi).contains b) &&
  (List.range m).all λb=>XY pi b==some b||(!(fst' pi).contains b && !vs.contains b&&(uq Ij b).isAbs)
theorem Qh {l:List Nat} : nodupB l=true<->l.Nodup:=by
 induction l with
 |nil=>simp[nodupB]
 |cons x r ih=>simp[nodupB,ih]
theorem RF : ∀{pi:List (Nat×Nat)} {b c:Nat},XY pi b=some c->(b,c)∈pi
 |[],_,_,h=>by cases h
 | (x,y)::r,b,c,h=>by
   simp only[XY]at h;split at h
   ·rename_i e;subst e;cases h;exact List.mem_cons_self ..
   ·exact dY _ (RF h)
theorem abd {α:Type} : ∀{l:List (Nat×α)} {b:Nat},b∈fst' l<->∃x,(b,x)∈l
 |[],b=>by simp[fst']
 | (a,y)::r,b=>by
   simp only[fst',ay,abd (l:=r)];constructor
   ·rintro(h|⟨x,hx⟩)
    ·subst h;exact⟨y,.inl rfl⟩
    ·exact⟨x,.inr hx⟩
   ·rintro⟨x,h|h⟩
    ·cases h;exact .inl rfl
    ·exact .inr ⟨x,h⟩
theorem afg : ∀{l:List (Nat×Nat)},snd' l=l.map (·.2)
 |[]=>rfl
 |x::r=>by simp[snd',afg (l:=r)]
theorem Xh {pi:List (Nat×Nat)}{b:Nat}(h:b ∉ fst' pi):XY pi b=none:=by
 cases hp:XY pi b with
 |none=>rfl
 |some c=>exact al7 (abd.2 ⟨c,RF hp⟩) h
theorem acB {zs vs:List Nat}{bx:Nat->Box}{π:Nat->Option Nat} : ∀{bs:List (Nat×Box)},XQ zs bx π vs bs->∀b x,(b,x)∈bs->wkB zs bx π vs b x
 |[],_,_,_,h=>by cases h
 | (c,y)::r,hw,b,x,h=>by
   rcases ay.1 h with h|h
   ·cases h;exact hw.1
   ·exact acB hw.2 b x h
theorem YZ {zs vs:List Nat}{bx:Nat->Box}{π:Nat->Option Nat}{ts0:List (Nat×Slot)} : ∀{ts:List (Nat×Slot)},acD zs bx π vs ts0 ts->∀t,Yi zs bx π vs (BF ts0 t) (BF ts t)
 |[],_,_=>by simp[BF,Yi]
 | (c,y)::r,hw,t=>by
   simp only[BF];split
   ·rename_i e;subst e;exact hw.1
   ·exact YZ hw.2 t
theorem agr {bs:List (Nat×Box)}{b:Nat} : (b,uq bs b)∈bs\/(b ∉ fst' bs/\uq bs b = .absent):=by
 induction bs with
 |nil=>right;simp[fst',uq]
 | cons p r ih=>
   obtain⟨c,y⟩:=p;simp only[uq];by_cases h:c=b
   ·subst h;left;simp
   ·rw[ahk h];rcases ih with ih|⟨h1,h2⟩
    ·left;exact dY _ ih
    ·right;refine⟨?_,h2⟩;simp only[fst',ay,not_or];exact⟨λe=>h e.symm,h1⟩
theorem ajS {m:Nat}{Ij bs:List (Nat×Box)}(zs:List Nat)(pi:List (Nat×Nat))(vs:List Nat)(hk:TJ m Ij bs pi vs=true)(hb:XQ zs (uq Ij) (XY pi) vs bs):WkS m (uq Ij) (uq bs) zs (XY pi) vs:=by
 simp only[TJ,ah,aP,gV,akg,Bool.not_eq_true',List.mem_range,Qh,kE]at hk;obtain⟨⟨⟨⟨h1,_⟩,h3⟩,h4⟩,h5⟩:=hk;have ail:∀{l:List Nat} {x:Nat},l.contains x=false->x ∉ l:=λh hm=>by rw[kE.2 hm]at h;cases h
 refine⟨λb=>?_,λb b' c hd1 hd2 hb1 hb2=>?_,λb hv=>Xh (ail (h4 b hv).2),λb hlt=>?_⟩
 ·rcases agr (bs:=bs) (b:=b)with h|⟨h,e⟩
  ·exact acB hb b _ h
  ·rw[e];exact⟨Xh λhm=>h (h3 b hm),λhm=>h (h4 b hm).1⟩
 ·have m1:(b,c)∈pi.filter λp=> !(uq bs p.1).TE:=aX.2 ⟨RF hb1,by simp[hd1]⟩;have m2:(b',c)∈pi.filter λp=> !(uq bs p.1).TE:=aX.2 ⟨RF hb2,by simp[hd2]⟩;rw[afg]at h1;obtain⟨i,hi,ei⟩:=vG m1;obtain⟨j,hj,ej⟩:=vG m2;have hpw:=List.pairwise_iff_getElem.1 h1;rcases Nat.lt_trichotomy i j with h|h|h
  ·have:=hpw i j (by simpa using hi) (by simpa using hj) h;simp[ei,ej]at this
  ·subst h;rw[ei]at ej;cases ej;rfl
  ·have:=hpw j i (by simpa using hj) (by simpa using hi) h;simp[ei,ej]at this
 ·rcases h5 b hlt with h|⟨⟨h,h'⟩,h''⟩
  ·exact .inl h
  ·refine .inr ⟨Xh (ail h),ail h',?_⟩;cases hx:uq Ij b with
   |absent=>rfl
   |_=>rw[hx]at h'';cases h''
theorem Qi (ts:List (Nat×Slot))(bs:List (Nat×Box)):(fH.of ts bs).bx=uq bs:=funext λb=>Ff ts bs b
theorem alD {m:Nat}{ts0 ts:List (Nat×Slot)}{Ij bs:List (Nat×Box)}(zs:List Nat)(pi:List (Nat×Nat))(vs:List Nat)(hk:TJ m Ij bs pi vs=true)
 (hb:XQ zs (uq Ij) (XY pi) vs bs) (ht:acD zs (uq Ij) (XY pi) vs ts0 ts):Ph m (fH.of ts0 Ij) (fH.of ts bs):=by
 refine⟨zs,XY pi,vs,?_,λt=>?_⟩
 ·rw[Qi,Qi];exact ajS zs pi vs hk hb
 ·rw[Qi,KT,KT];exact YZ ht t
def dC (bx:Nat->Box):AC->AC->Prop
 |.c x,.c y=>x=y
 |.lF sz,.c y=>y = .sl sz []
 | .own b n sz,.c y=>match(bx b).arr with
   |some (sz',es)=>sz'=sz/\n<=es.length/\y = .sl sz (es.take n)
   |none=>False
 |_,_=>False
def dCs (bx:Nat->Box):List AC->List AC->Prop
 |[],[]=>True
 |x::xs,y::ys=>dC bx x y/\dCs bx xs ys
 |_,_=>False
def dPs (bx:Nat->Box):List (Bool×List AC)->List (Bool×List AC)->Prop
 |[],[]=>True
 |(g,x)::xs,(g',y)::ys=>g=g'/\dCs bx x y/\dPs bx xs ys
 |_,_=>False
def dV (bx:Nat->Box):AV->AV->Prop
 |.one x,.one y=>dC bx x y
 |.agg xs,.agg ys=>dCs bx xs ys
 |.zi xs,.zi ys=>dPs bx xs ys
 |_,_=>False
theorem alP {bx:Nat->Box}{zs:List Nat}{x y:AC}(h:dC bx x y)(hz:∀b,b∈qg [x]->b∈zs):Nj zs bx (λ_=>none) [] x y:=by
 cases x<;>cases y<;>simp only[dC]at h<;>try exact h
 exact⟨hz _ (by simp[qg]),h⟩
theorem adn {bx:Nat->Box}{zs:List Nat} : ∀{xs ys:List AC},dCs bx xs ys->(∀b,b∈qg xs->b∈zs)->Qu zs bx (λ_=>none) [] xs ys
 |[],[],_,_=>trivial
 |x::xs,y::ys,h,hz=>⟨alP h.1 λb hb=>hz b (Fg.2 (.inl hb)),adn h.2 λb hb=>hz b (Fg.2 (.inr hb))⟩
 |[],_::_,h,_=>h.elim
 |_::_,[],h,_=>h.elim
theorem ahM {bx:Nat->Box}{zs:List Nat} : ∀{xs ys:List (Bool×List AC)},dPs bx xs ys->(∀b,b∈(AV.zi xs).owns->b∈zs)->Yh zs bx (λ_=>none) [] xs ys
 |[],[],_,_=>trivial
 | (g,x)::xs,(g',y)::ys,h,hz=>⟨h.1,adn h.2.1 λb hb=>hz b (by simp only[AV.owns,jU,aY];exact .inl hb),ahM h.2.2 λb hb=>hz b (by simp only[AV.owns,jU,aY]at hb⊢;exact .inr hb)⟩
 |[],_::_,h,_=>h.elim
 |_::_,[],h,_=>h.elim
theorem anZ {bx:Nat->Box}{x y:AV}(h:dV bx x y):wkV x.owns bx (λ_=>none) [] x y:=by
 cases x<;>cases y<;>simp only[dV]at h<;>first|exact h.elim|skip
 ·exact alP h λb hb=>hb
 ·exact adn h λb hb=>hb
 ·exact ahM h λb hb=>hb
def UX (rs:List yx)(r:AV)(st:fH):Prop:=Jp st rs/\dV st.bx (Yb st rs) r
def QP (rs:List yx)(r:AV):AQ
 |.normal,st=>UX rs r st
 |.ret,st=>UX rs r st
 |.exit _,_=>False
theorem UX.ret {rs:List yx}{r:AV}{st:fH}(h:UX rs r st):MJ rs 0 (λr' bs=>r'=r/\bs=[]) st:=
 ⟨h.1,r,[],_,_,[],⟨rfl,rfl⟩,⟨λb=>by rw[Zc];exact⟨rfl,by simp⟩,λb b' c _ _ h=>by simp at h,λb _=>rfl,λb hb=>by omega⟩,anZ h.2⟩
section
variable {P:Program}
theorem XT : ∀{l:List kX} {st:fH} {K K':fH->Prop},(∀st,K st->K' st)->wpOps P l st K->wpOps P l st K'
 |[],st,_,_,hk,h=>hk st h
 |x::r,_,_,_,hk,h=>SK (λ_ _ _ h=>XT (l:=r) hk h) (show T P x _ (λ_ _ st'=>wpOps P r st' _)from h)
theorem acE : ∀{l:List (kX×List Nat)} {i:Nat} {log:Log} {st:fH} {K K':fH->Prop},(∀st,K st->K' st)->wpD P l i log st K->wpD P l i log st K'
 |[],_,_,st,_,_,hk,h=>hk st h
 |(o,IB)::r,i,log,_,_,_,hk,h=>SK (λ_ _ _ h=>⟨h.1,acE (l:=r) hk h.2⟩) (show T P o _ (λrd wr st'=>zO IB rd wr log=true/\wpD P r (i+1) ((i,rd,wr)::log) st' _)from h)
theorem wpC_mono : ∀{c:bU} {Q Q':AQ} {st:fH},(∀e st,Q e st->Q' e st)->wpC P c Q st->wpC P c Q' st
 |.skip,_,_,st,hq,h=>hq .normal st h
 |.reg ops keep,_,_,st,hq,h=>XT (λst h=>hq .normal _ h) h
 |.sH ops keep,_,_,st,hq,h=>acE (λst h=>hq .normal _ h) h
 |.seq a b,_,_,st,hq,h=>wpC_mono (c:=a) (λe st h=>by
  cases e with
  |normal=>exact wpC_mono (c:=b) hq h
  |exit id=>exact hq _ _ h
  |ret=>exact hq _ _ h) h
 |.cut a b,_,_,st,hq,⟨X,J,S,h1,h2⟩=>⟨X,J,S,wpC_mono (c:=a) (λe st h=>by
  cases e with
  |normal=>exact h
  |exit id=>exact hq _ _ h
  |ret=>exact hq _ _ h) h1,λx hx=>wpC_mono (c:=b) hq (h2 x hx)⟩
 |.cond c a b,_,_,st,hq,⟨h1,h2⟩=>⟨h1,by
  split at h2
  ·exact⟨λe=>wpC_mono (c:=a) hq (h2.1 e),λe=>wpC_mono (c:=b) hq (h2.2 e)⟩
  ·exact h2.elim⟩
 |.block id a,_,_,st,hq,h=>wpC_mono (c:=a) (λe st h=>by
  cases e with
  |normal=>exact hq _ _ h
  | exit id'=>
    simp only[wX.inBlock]at h⊢;split
    ·rename_i e;rw[ahl e]at h;exact hq _ _ h
    ·rename_i e;rw[ahk e]at h;exact hq _ _ h
  |ret=>exact hq _ _ h) h
 |.loop a,_,_,st,hq,⟨X,J,S,μ,h0,h1⟩=>⟨X,J,S,μ,h0,λx hx=>wpC_mono (c:=a) (λe st h=>by
  cases e with
  |normal=>exact h
  |exit id=>exact hq _ _ h
  |ret=>exact hq _ _ h) (h1 x hx)⟩
 |.exit id,_,_,st,hq,h=>hq _ _ h
 |.ret,_,_,st,hq,h=>hq _ _ h
theorem aU {f:FuncId}{ac:bU}{rs:List yx}{args:List AV}{r:AV}(hc:jl P f args.length 0 ac rs=true)(hwp:wpC P ac (QP rs r) (st0 args [])):dI P f args r:=by
 refine x8 (fp:=[]) hc (wpC_mono (λe st h=>?_) hwp);cases e with
 |normal=>exact UX.ret h
 |ret=>exact UX.ret h
 |exit id=>exact h.elim
theorem Lm.intro {body:AQ->fH->Prop}{Q:AQ}{st:fH}{d1:DU body}{d2:DU Q}{X:Type}(J:X->Prop)(S:X->fH)(μ:X->Nat)(x0:X)(h0:J x0)(hw:Ph 10 st (S x0))
 (h:∀x,J x->body (wX.then (λst'=>∃x',(J x'/\μ x'<μ x)/\Ph 10 st' (S x')) Q) (S x)):Lm body Q st d1 d2:=
 ⟨X,J,S,μ,⟨x0,h0,hw⟩,h⟩
theorem QB.intro {wa wb:AQ->fH->Prop}{Q:AQ}{st:fH}{d1:DU wa}{d2:DU wb}{d3:DU Q}{X:Type}(J:X->Prop)(S:X->fH)
 (h1:wa (wX.then (λst'=>∃x,J x/\Ph 10 st' (S x)) Q) st) (h2:∀x,J x->wb Q (S x)):QB wa wb Q st d1 d2 d3:=
 ⟨X,J,S,h1,h2⟩
def Il (bx:Nat->Box):AC->AC
 |.lF sz=>.c (.sl sz [])
 | .own b n sz=>match(bx b).arr with
   |some (_,es)=>.c (.sl sz (es.take n))
   |none=>.NV
 |x=>x
def Em (bx:Nat->Box):AV->AV
 |.one x=>.one (Il bx x)
 |.agg xs=>.agg (xs.map (Il bx))
 |.zi xs=>.zi xs
def zY (bx:Nat->Box):List AV->Prop
 |[]=>True
 |.zi _::_=>False
 |x::r=>AZ bx x.cells/\zY bx r
theorem NZ {bx:Nat->Box} : ∀{xs:List AC},AZ bx xs->CvL bx xs (xs.map (Il bx))
 |[],_=>.nil
 | x::r,h=>by
   cases x with
   | own b n sz=>
     obtain⟨h1,h2⟩:=h;refine .cons ?_ (NZ h2);simp only[Il];cases hb:(bx b).arr with
     |none=>rw[hb]at h1;exact h1.elim
     |some p=>obtain⟨sz',es⟩:=p;rw[hb]at h1;obtain⟨rfl,h1⟩:=h1;exact .own b n sz' es hb h1
   |lF sz=>exact .cons (.lF sz) (NZ (xs:=r) h)
   |_=>exact .cons (.refl _) (NZ (xs:=r) h)
theorem N7 {bx:Nat->Box} : ∀{xs:List AV},zY bx xs->PR bx xs (xs.map (Em bx))
 |[],_=>.nil
 | x::r,h=>by
   cases x with
   | one x=>
     refine .cons ?_ (N7 h.2);have:=NZ (xs:=[x]) h.1;cases this with
     |cons h t=>exact .one h
   |agg xs=>exact .cons (.agg (NZ h.1)) (N7 h.2)
   |zi xs=>exact h.elim
variable {f:FuncId} {wC:List AV} {p:Bool} {d:Option Nat} {st:fH} {K:List Nat->List Nat->fH->Prop} {du:DU K}
theorem wR.lit (r:AV)(h:p=true->dI P f (wC.map (Em st.bx)) r)(hl:p=true->zY st.bx wC)(hd:(wC.map (Em st.bx)).all (·.all AC.yA)=true)(hr:r.all AC.isLit=true)
 (k:K (wC.flatMap AV.owns) [] (st.A8 d (.v p r))):wR P f wC p d st K du:=
 Pv.lit _ r (λe=>N7 (hl e)) hd h hr k
theorem wR.pure (r:AV)(hp:p=true)(h:dI P f (wC.map (Em st.bx)) r)(hl:zY st.bx wC)(hd:(wC.map (Em st.bx)).all (·.all AC.yA)=true)(hr:r.all AC.yA=true)
 (k:K (wC.flatMap AV.owns) (wC.flatMap AV.owns) ((st.Ik (wC.flatMap AV.owns)).A8 d (.v true r))):wR P f wC p d st K du:=
 Pv.pure _ r hp (N7 hl) hd h hr k
end
end
section
def TK (P:Program)(o:kX)(st:fH)(K:List Nat->List Nat->fH->Prop)(_:DU o)(_:DU K):Prop:=T P o st K
def Un (P:Program)(ops:List kX)(st:fH)(K:fH->Prop)(_:DU ops)(_:DU K):Prop:=wpOps P ops st K
def ahd (P:Program)(ops:List (kX×List Nat))(i:Nat)(log:List (Nat×List Nat×List Nat))(st:fH)(K:fH->Prop)(_:DU ops)(_:DU K):Prop:=wpD P ops i log st K
def DI (P:Program)(c:bU)(Q:AQ)(st:fH)(_:DU c)(_:DU Q):Prop:=wpC P c Q st
def QK (Q:AQ)(e:wX)(st:fH)(_:DU Q):Prop:=Q e st
def PN (c:bU)(P:Program)(Q:AQ):AQ:=wX.then (wpC P c Q) Q
section
variable {P:Program} {st:fH} {K:List Nat->List Nat->fH->Prop} {k:fH->Prop} {Q:AQ}
theorem aky {g:Option (Nat×Bool)}{d:Option Nat}{f:FuncId}{args:List oW}{d1:DU (kX.mk g d (.call f args))}{d2:DU K} :
 TK P ⟨g,d,.call f args⟩ st K d1 d2=(EH st.tm g/\(uA st.tm g=true->∀x,x∈args->(x.ev st.tm).g=true)/\wR P f (args.map (dZ st.tm)) (uA st.tm g) d st K .mk):=by
 unfold TK T;rfl
def SI (P:Program)(x:AV)(args:List AV)(p:Bool)(d:Option Nat)(st:fH)(K:List Nat->List Nat->fH->Prop)(_:DU K):Prop:=
 match p,x with
 |false,_=>wR P 0 [] false d st K .mk
 |true,.one (.fn f caps)=>yO P f=true/\wR P f (args++caps.map λb=>.one (.ptr b 0)) true d st K .mk
 |true,_=>False
theorem afF {f:FuncId}{caps:List Nat}{args:List AV}{d:Option Nat}{du:DU K} : SI P (.one (.fn f caps)) args true d st K du=(yO P f=true/\wR P f (args++caps.map λb=>.one (.ptr b 0)) true d st K .mk):=by unfold SI;rfl
theorem aht {x:AV}{args:List AV}{d:Option Nat}{du:DU K} : SI P x args false d st K du=wR P 0 [] false d st K .mk:=by unfold SI;rfl
theorem ahu {g:Option (Nat×Bool)}{d:Option Nat}{x:oW}{args:List oW}{d1:DU (kX.mk g d (.Ja x args))}{d2:DU K} :
 TK P ⟨g,d,.Ja x args⟩ st K d1 d2=(EH st.tm g/\(uA st.tm g=true->(x.ev st.tm).g=true/\∀x,x∈args->(x.ev st.tm).g=true)/\SI P (dZ st.tm x) (args.map (dZ st.tm)) (uA st.tm g) d st K .mk):=by
 unfold TK T SI;rfl
theorem aew {d1:DU ([]:List kX)}{d2:DU k} : Un P [] st k d1 d2=k st:=by unfold Un wpOps;rfl
theorem acF {o:kX}{r:List kX}{d1:DU (o::r)}{d2:DU k} : Un P (o::r) st k d1 d2=TK P o st (λ_ _ st'=>Un P r st' k .mk .mk) .mk .mk:=by unfold Un TK;rfl
theorem ajY {i:Nat}{log:List (Nat×List Nat×List Nat)}{d1:DU ([]:List (kX×List Nat))}{d2:DU k} : ahd P [] i log st k d1 d2=k st:=by unfold ahd wpD;rfl
theorem ahe {i:Nat}{log:List (Nat×List Nat×List Nat)}{o:kX}{IB:List Nat}{r:List (kX×List Nat)}{d1:DU ((o,IB)::r)}{d2:DU k} :
 ahd P ((o,IB)::r) i log st k d1 d2=TK P o st (λrd wr st'=>zO IB rd wr log=true/\ahd P r (i+1) ((i,rd,wr)::log) st' k .mk .mk) .mk .mk:=by
 unfold ahd TK;rfl
theorem ahc {d1:DU bU.skip}{d2:DU Q} : DI P .skip Q st d1 d2=QK Q .normal st .mk:=by unfold DI wpC;rfl
theorem ajU {ops:List kX}{keep:List Nat}{d1:DU (bU.reg ops keep)}{d2:DU Q} : DI P (.reg ops keep) Q st d1 d2=Un P ops st (λst=>QK Q .normal (st.keep keep) .mk) .mk .mk:=by unfold DI wpC;rfl
theorem ahb {ops:List (kX×List Nat)}{keep:List Nat}{d1:DU (bU.sH ops keep)}{d2:DU Q} : DI P (.sH ops keep) Q st d1 d2=ahd P ops 0 [] st (λst=>QK Q .normal (st.keep keep) .mk) .mk .mk:=by unfold DI wpC;rfl
theorem ajW {a b:bU}{d1:DU (bU.seq a b)}{d2:DU Q} : DI P (.seq a b) Q st d1 d2=DI P a (PN b P Q) st .mk .mk:=by unfold DI;rw[wpC];rfl
theorem ajT {a b:bU}{d1:DU (bU.cut a b)}{d2:DU Q} : DI P (.cut a b) Q st d1 d2=QB (wpC P a) (wpC P b) Q st .mk .mk .mk:=by unfold DI;rw[wpC]
theorem aha {a:bU}{d1:DU (bU.loop a)}{d2:DU Q} : DI P (.loop a) Q st d1 d2=Lm (wpC P a) Q st .mk .mk:=by unfold DI;rw[wpC]
theorem aet {id:Nat}{a:bU}{d1:DU (bU.block id a)}{d2:DU Q} : DI P (.block id a) Q st d1 d2=DI P a (wX.inBlock id Q) st .mk .mk:=by unfold DI;rw[wpC]
theorem ag9 {id:Nat}{d1:DU (bU.exit id)}{d2:DU Q} : DI P (.exit id) Q st d1 d2=QK Q (.exit id) st .mk:=by unfold DI wpC;rfl
theorem ajV {d1:DU bU.ret}{d2:DU Q} : DI P .ret Q st d1 d2=QK Q .ret st .mk:=by unfold DI wpC;rfl
def Yx (P:Program)(c:AV)(a b:bU)(Q:AQ)(st:fH)(_:DU a)(_:DU b)(_:DU Q):Prop:=
 match c with
 |.one (.c (.lit (.bool t)))=>(t=true->wpC P a Q st)/\(t=false->wpC P b Q st)
 |_=>False
theorem ag8 {c:oW}{a b:bU}{d1:DU (bU.cond c a b)}{d2:DU Q} : DI P (.cond c a b) Q st d1 d2=((c.ev st.tm).g=true/\Yx P (c.ev st.tm).x a b Q st .mk .mk .mk):=by unfold DI Yx;rw[wpC]<;>rfl
theorem akM {a b:bU}{d1:DU a}{d2:DU b}{d3:DU Q} : Yx P (.one (.c (.lit (.bool true)))) a b Q st d1 d2 d3=DI P a Q st .mk .mk:=by unfold Yx DI;simp
theorem akL {a b:bU}{d1:DU a}{d2:DU b}{d3:DU Q} : Yx P (.one (.c (.lit (.bool false)))) a b Q st d1 d2 d3=DI P b Q st .mk .mk:=by unfold Yx DI;simp
theorem afB {b:bU}{du:DU (PN b P Q)} : QK (PN b P Q) .normal st du=DI P b Q st .mk .mk:=by unfold QK PN DI;rfl
theorem afA {b:bU}{id:Nat}{du:DU (PN b P Q)} : QK (PN b P Q) (.exit id) st du=QK Q (.exit id) st .mk:=by unfold QK PN;rfl
theorem afC {b:bU}{du:DU (PN b P Q)} : QK (PN b P Q) .ret st du=QK Q .ret st .mk:=by unfold QK PN;rfl
theorem afy {k:fH->Prop}{du:DU (wX.then k Q)} : QK (wX.then k Q) .normal st du=k st:=by unfold QK;rfl
theorem afx {k:fH->Prop}{id:Nat}{du:DU (wX.then k Q)} : QK (wX.then k Q) (.exit id) st du=QK Q (.exit id) st .mk:=by unfold QK;rfl
theorem afz {k:fH->Prop}{du:DU (wX.then k Q)} : QK (wX.then k Q) .ret st du=QK Q .ret st .mk:=by unfold QK;rfl
theorem acQ {id:Nat}{du:DU (wX.inBlock id Q)} : QK (wX.inBlock id Q) .normal st du=QK Q .normal st .mk:=by unfold QK;rfl
theorem acP {id id':Nat}{du:DU (wX.inBlock id Q)} : QK (wX.inBlock id Q) (.exit id') st du=if id'=id then QK Q .normal st .mk else QK Q (.exit id') st .mk:=by unfold QK;rfl
theorem acR {id:Nat}{du:DU (wX.inBlock id Q)} : QK (wX.inBlock id Q) .ret st du=QK Q .ret st .mk:=by unfold QK;rfl
theorem akt {rs:List yx}{r:AV}{du:DU (QP rs r)} : QK (QP rs r) .normal st du=UX rs r st:=by unfold QK;rfl
theorem aku {rs:List yx}{r:AV}{du:DU (QP rs r)} : QK (QP rs r) .ret st du=UX rs r st:=by unfold QK;rfl
theorem akr {rs:List yx}{m:Nat}{post:AV->List Box->Prop}{du:DU (QF rs m post)} : QK (QF rs m post) .normal st du=MJ rs m post st:=by unfold QK;rfl
theorem aks {rs:List yx}{m:Nat}{post:AV->List Box->Prop}{du:DU (QF rs m post)} : QK (QF rs m post) .ret st du=MJ rs m post st:=by unfold QK;rfl
theorem qw {c:bU}(h:DI P c Q st .mk .mk):wpC P c Q st:=h
theorem aoB {a:bU}{d1:DU (wpC P a)}{d2:DU Q}{X:Type}(J:X->Prop)(S:X->fH)(μ:X->Nat)(x0:X)(h0:J x0)(hw:Ph 10 st (S x0))
 (h:∀x,J x->DI P a (wX.then (λst'=>∃x',(J x'/\μ x'<μ x)/\Ph 10 st' (S x')) Q) (S x) .mk .mk):Lm (wpC P a) Q st d1 d2:=
 Lm.intro J S μ x0 h0 hw h
theorem aph {a b:bU}{d1:DU (wpC P a)}{d2:DU (wpC P b)}{d3:DU Q}{X:Type}(J:X->Prop)(S:X->fH)
 (h1:DI P a (wX.then (λst'=>∃x,J x/\Ph 10 st' (S x)) Q) st .mk .mk) (h2:∀x,J x->DI P b Q (S x) .mk .mk):QB (wpC P a) (wpC P b) Q st d1 d2 d3:=
 QB.intro J S h1 h2
end
end
section
inductive Nd where
 |mk (k w:Int) (s:List UInt8) (ws:List (List UInt8)) (ks:List Nd)
abbrev dR :=List UInt8
def apW (ws:List dR):List (List Cell):=ws.map λw=>[.str w]
mutual
def Nd.cells : Nd->List Cell
 |.mk k w s ws ks=>[.lit (.int .i64 k),.lit (.int .i64 w),.str s,.sl 1 (apW ws),.sl 5 (Nd.Ls ks)]
def Nd.Ls : List Nd->List (List Cell)
 |[]=>[]
 |x::r=>x.cells::Nd.Ls r
end
theorem Nd.Yq (ks:List Nd):Nd.Ls ks=ks.map Nd.cells:=by
 induction ks with
 |nil=>rfl
 |cons x r ih=>simp[Nd.Ls,ih]
def aap : List AC->Bool
 |[]=>true
 |.c _::r=>aap r
 |_=>false
def O3 : List AV->Bool
 |[]=>true
 |.one (.c _)::r=>O3 r
 |.agg xs::r=>aap xs&&O3 r
 |_=>false
theorem RU {bx:Nat->Box} : ∀{xs:List AC},aap xs=true->xs.map (Il bx)=xs/\AZ bx xs/\xs.all AC.yA=true/\qg xs=[]
 |[],_=>⟨rfl,trivial,rfl,rfl⟩
 | x::r,h=>by
   cases x with
   | c x=>obtain⟨h1,h2,h3,h4⟩:=RU (bx:=bx) (xs:=r) h;exact⟨by simp[Il,h1],h2,by simp[AC.yA,h3],by simp[qg,h4]⟩
   |_=>cases h
theorem IL {bx:Nat->Box} : ∀{xs:List AV},O3 xs=true->xs.map (Em bx)=xs/\zY bx xs/\xs.all (·.all AC.yA)=true/\xs.flatMap AV.owns=[]
 |[],_=>⟨rfl,trivial,rfl,rfl⟩
 | x::r,h=>by
   cases x with
   | one x=>
     cases x with
     | c x=>obtain⟨h1,h2,h3,h4⟩:=IL (bx:=bx) (xs:=r) h;exact⟨by simp[Em,Il,h1],⟨trivial,h2⟩,by rw[dH,h3];rfl,by simp[AV.owns,qg,h4]⟩
     |_=>cases h
   | agg xs=>simp only[O3,ah]at h;obtain⟨h1,h2,h3,h4⟩:=IL (bx:=bx) (xs:=r) h.2;obtain⟨j1,j2,j3,j4⟩:=RU (bx:=bx) h.1;refine⟨by simp only[aZ,Em,j1,h1],⟨j2,h2⟩,?_,by simp only[jU,AV.owns,j4,h4,iQ]⟩;rw[dH,h3,Bool.and_true];exact j3
   |zi xs=>cases h
section
variable {P:Program} {f:FuncId} {wC:List AV} {p:Bool} {d:Option Nat} {st:fH} {K:List Nat->List Nat->fH->Prop} {du:DU K}
theorem akV (st:fH):st.Ik []=st:=by
 apply fH.ext'
 ·rfl
 ·funext b;simp[fH.Ik]
theorem ahH {r:AV}(h:dI P f wC r)(hs:O3 wC=true)(hr:r.all AC.yA=true)(k:K [] [] (st.A8 d (.v true r))):wR P f wC true d st K du:=by obtain⟨h1,h2,h3,h4⟩:=IL (bx:=st.bx) hs;refine wR.pure r rfl (by rw[h1];exact h) h2 (by rw[h1];exact h3) hr ?_;rw[h4,akV];exact k
theorem ahF {r:AV}(h:p=true->dI P f wC r)(hs:O3 wC=true)(hr:r.all AC.isLit=true)(k:K [] [] (st.A8 d (.v p r))):wR P f wC p d st K du:=by obtain⟨h1,h2,h3,h4⟩:=IL (bx:=st.bx) hs;refine wR.lit r (λe=>by rw[h1];exact h e) (λ_=>h2) (by rw[h1];exact h3) hr ?_;rw[h4];exact k
end
theorem apg (b:Bool):(b==true)=b:=by cases b<;>rfl
theorem apf (b:Bool):(b==false) = !b:=by cases b<;>rfl
end
section
def cI (x:Int):List Cell:=[.lit (.int .i64 x)]
def cU (x:Int):List Cell:=[.lit (.int .u8 x)]
def cK (k:IntKind)(x:Int):List Cell:=[.lit (.int k x)]
def cB (x:Bool):List Cell:=[.lit (.bool x)]
def cS (x:dR):List Cell:=[.str x]
def cL {α:Type}(sz:Nat)(f:α->List Cell)(xs:List α):List Cell:=[.sl sz (ai f xs)]
def chk (c:Prop)[Decidable c]{α:Type}(k:Option α):Option α:=if c then k else none
theorem Eg {c:Prop}[Decidable c]{α:Type}{k:Option α}{r:α} : chk c k=some r<->c/\k=some r:=by unfold chk;split<;>simp[*]
theorem afZ {b:Bool}{α:Type}{x y:Option α}{r:α} : cond b x y=some r<->(b=true/\x=some r)\/(b=false/\y=some r):=by cases b<;>simp
def I9 (xs:List Int):dR:=xs.map λx=>fB x.toNat
theorem ac5 (xs:List Int):bytesOf (ai cU xs)=some (I9 xs):=by
 induction xs with
 |nil=>rfl
 |cons x r ih=>simp[cU,bytesOf,ih,I9]
theorem aaX : bytesOf []=some []:=rfl
theorem aaY (n:Int)(r:List (List Cell)):bytesOf ([.lit (.int .u8 n)]::r)=Option.map (λl=>fB n.toNat::l) (bytesOf r):=by simp only[bytesOf];cases bytesOf r<;>rfl
theorem H9 (xs:List Int):(I9 xs).length=xs.length:=by simp[I9]
theorem agb {α:Type}[Inhabited α]{f:α->List Cell}{xs:List α}{i:Nat}(h:i<xs.length):(ai f xs).getD i []=f (xs.getD i default):=by simp[h]
theorem take_len {α:Type}{l:List α}{n:Nat}(h:l.length=n):l.take n=l:=by subst h;simp
theorem O7 {α:Type}{x:α}{l:List α}{n:Nat}(h:l.length=n):(x::l).take (1+n)=x::l:=by subst h;rw[xE];simp
theorem O8 {α:Type}{x y:α}{l:List α}{n:Nat}(h:l.length=n):(x::y::l).take (2+n)=x::y::l:=by subst h;rw[xE];simp
def WL (l:List Nat):List (Nat×Box)->List (Nat×Box)
 |[]=>[]
 |(b,x)::r=>(b,if l.contains b then JY x else x)::WL l r
theorem aga (l:List Nat)(bs:List (Nat×Box))(b:Nat):uq (WL l bs) b=if b∈l then JY (uq bs b)else uq bs b:=by
 induction bs with
 |nil=>simp[WL,uq,JY]
 | cons p r ih=>
   obtain⟨c,x⟩:=p;simp only[WL,uq,ih];by_cases h:c=b
   ·subst h;simp
   ·simp[h]
theorem ae6 (ts:List (Nat×Slot))(bs:List (Nat×Box))(l:List Nat):(fH.of ts bs).Ik l=fH.of ts (WL l bs):=by
 apply fH.ext'
 ·rfl
 ·funext b
  simp only[fH.Ik];rw[Ff,Ff,aga]
theorem ah2 (bs:List (Nat×Box)):WL [] bs=bs:=by
 induction bs with
 |nil=>rfl
 |cons p r ih=>obtain⟨c,x⟩:=p;simp[WL,ih]
def TGK (g:Bool)(o:ny)(d:Option Nat)(st:fH)(K:List Nat->List Nat->fH->Prop)(_:DU o)(_:DU K):Prop:=TOp o g d st K
def amk (valid:Prop)(rd:List Nat)(r:FR)(d:Option Nat)(st:fH)(K:List Nat->List Nat->fH->Prop)(_:DU K):Prop:=
 valid/\r.vc/\K rd (r.sets.map (·.1)) ((st.uN r.sets).A8 d (.v true r.v))
section
variable {P:Program} {st:fH} {K:List Nat->List Nat->fH->Prop}
theorem amj {g:Option (Nat×Bool)}{d:Option Nat}{op:ny}{d1:DU (kX.mk g d (.op op))}{d2:DU K} :
 TK P ⟨g,d,.op op⟩ st K d1 d2=(EH st.tm g/\TGK (uA st.tm g) op d st K .mk .mk):=by
 unfold TK T TGK;rfl
theorem anT {op:ny}{d:Option Nat}{d1:DU op}{d2:DU K} : TGK true op d st K d1 d2=amk (op.valid (oW.ev st.tm)) (op.rd (dZ st.tm)) (op.f (dZ st.tm) st.bx) d st K .mk:=by unfold TGK TOp amk;simp
theorem anS {op:ny}{d:Option Nat}{d1:DU op}{d2:DU K} : TGK false op d st K d1 d2=K [] [] (st.A8 d (.v false (.one .NV))):=by unfold TGK TOp;simp
theorem aml {valid:Prop}{rd:List Nat}{vc:Prop}{v:AV}{sets:List (Nat×Box)}{d:Option Nat}{du:DU K} :
 amk valid rd ⟨vc,v,sets⟩ d st K du=(valid/\vc/\K rd (sets.map (·.1)) ((st.uN sets).A8 d (.v true v))):=rfl
end
section
variable {P:Program} {f:FuncId} {wC:List AV} {d:Option Nat} {st:fH} {K:List Nat->List Nat->fH->Prop} {du:DU K}
theorem alK {acX:List AV}{r:AV}(h:dI P f acX r)(he:wC.map (Em st.bx)=acX)(hl:zY st.bx wC)(hd:acX.all (·.all AC.yA)=true)(hr:r.all AC.yA=true)
 (k:K (wC.flatMap AV.owns) (wC.flatMap AV.owns) ((st.Ik (wC.flatMap AV.owns)).A8 d (.v true r))):wR P f wC true d st K du:=by
 subst he;exact wR.pure r rfl h hl hd hr k
theorem alL {acX:List AV}{r:AV}(h:dI P f acX r)(he:wC.map (Em st.bx)=acX)(hl:zY st.bx wC)(hd:acX.all (·.all AC.yA)=true)(hr:r.all AC.isLit=true)
 (k:K (wC.flatMap AV.owns) [] (st.A8 d (.v true r))):wR P f wC true d st K du:=by
 subst he;exact wR.lit r (λ_=>h) (λ_=>hl) hd hr k
theorem ahG (k:K (wC.flatMap AV.owns) [] (st.A8 d (.v false (.one (.c (.lit (.bool true))))))):wR P f wC false d st K du:=
 Pv.lit [] (.one (.c (.lit (.bool true)))) (λe=>by cases e) rfl (λe=>by cases e) rfl k
def Ye (st:fH)(sg:List Nat):List Box->Nat->Prop
 |[],_=>True
 |x::r,i=>st.bx (sg.getD i 0)=EU (λb=>sg.getD b 0) x/\Ye st sg r (i+1)
theorem aan {st:fH}{sg:List Nat} : ∀{fp:List Box} {i0 i:Nat},Ye st sg fp i0->i<fp.length->st.bx (sg.getD (i0+i) 0)=EU (λb=>sg.getD b 0) (fp.getD i .absent)
 |[],_,_,_,h=>by simp at h
 |x::r,i0,0,h,_=>by simpa using h.1
 | x::r,i0,i+1,h,hi=>by have:=aan (i:=i) h.2 (by simpa using hi);simpa[sU,xE 1 i]using this
def Ya (st:fH):List Nat->Prop
 |[]=>True
 |b::r=>st.bx b = .absent/\10<=b/\Ya st r
theorem ZY {st:fH} : ∀{nu:List Nat},Ya st nu->∀b,b∈nu->st.bx b = .absent/\10<=b
 |[],_,_,h=>by cases h
 | c::r,h,b,hb=>by
   rcases ay.1 hb with e|e
   ·subst e;exact⟨h.1,h.2.1⟩
   ·exact ZY h.2.2 b e
theorem anX {ds:List AV}{fp Ij:List Box}{r0:AV}(sg nu:List Nat)(h:oV P f ds fp (λr bs=>r=r0/\bs=Ij))(hl:sg.length=fp.length)(hn:nodupB (sg++nu)=true)(hf:Ye st (sg++nu) fp 0)(hv:Ya st nu)
 (hra:(ds.all λx=>x.all (AC.wV fp.length))=true) (hrf:fp.all (Box.wV fp.length)=true) (ha:wC=ds.map (FH λb=>(sg++nu).getD b 0)) (hb:Ij.length=(sg++nu).length)
 (k:K (sg++nu) (sg++nu) ((st.uN ((sg++nu).zip (Ij.map (EU λb=>(sg++nu).getD b 0)))).A8 d (.v true (FH (λb=>(sg++nu).getD b 0) r0)))):wR P f wC true d st K du:=by
 refine Pv.gen rfl ds fp sg nu _ hl (Qh.1 hn) (λi hi=>?_) ⟨r0,Ij,rfl,rfl⟩ (ZY hv) hra hrf ha h (λr bs hp=>?_)
 ·have:=aan (i:=i) hf hi;rw[eU]at this;exact this
 ·obtain⟨rfl,rfl⟩:=hp;exact⟨hb,k⟩
end
section
variable {P:Program} {f:FuncId} {wC:List AV} {d:Option Nat} {st:fH} {K:List Nat->List Nat->fH->Prop} {du:DU K}
theorem anY {ds:List AV}{fp Ij:List Box}{r0:AV}(sg nu:List Nat)(h:oV P f ds fp (λr bs=>r=r0/\bs=Ij))(he:wC.map (Em st.bx)=ds.map (FH λb=>(sg++nu).getD b 0))(hlo:zY st.bx wC)
 (hl:sg.length=fp.length) (hn:nodupB (sg++nu)=true) (hf:Ye (st.Ik (wC.flatMap AV.owns)) (sg++nu) fp 0) (hv:Ya st nu)
 (hra:(ds.all λx=>x.all (AC.wV fp.length))=true) (hrf:fp.all (Box.wV fp.length)=true) (hb:Ij.length=(sg++nu).length)
 (k:K (wC.flatMap AV.owns++(sg++nu)) (wC.flatMap AV.owns++(sg++nu)) (((st.Ik (wC.flatMap AV.owns)).uN ((sg++nu).zip (Ij.map (EU λb=>(sg++nu).getD b 0)))).A8 d (.v true (FH (λb=>(sg++nu).getD b 0) r0)))):wR P f wC true d st K du:=by
 refine Pv.U2 rfl _ (N7 hlo) ds fp sg nu _ hl (Qh.1 hn) (λi hi=>?_) ⟨r0,Ij,rfl,rfl⟩ (ZY hv) hra hrf he h (λr bs hp=>?_)
 ·have:=aan (i:=i) hf hi;rw[eU]at this;exact this
 ·obtain⟨rfl,rfl⟩:=hp;exact⟨hb,k⟩
end
theorem aiP (IB:List Nat)(log:List (Nat×List Nat×List Nat)):zO IB [] [] log=true:=by
 induction log with
 |nil=>rfl
 |cons e r ih=>obtain⟨j,a,b⟩:=e;simp[zO,Qa,ih]
theorem aiO (IB rd wr:List Nat):zO IB rd wr []=true:=rfl
theorem amq (bs:List Box):CO bs=uq (FP bs 0):=by
 funext b
 rw[Oa];simp[CO]
theorem Ue {rs:List yx}{ts:List (Nat×Slot)}{Ij:List (Nat×Box)}{m:Nat}{r:AV}{bs:List Box}(zs:List Nat)(pi:List (Nat×Nat))(vs:List Nat)(hk:TJ m Ij (FP bs 0) pi vs=true)
 (hok:Jp (fH.of ts Ij) rs) (hb:XQ zs (uq Ij) (XY pi) vs (FP bs 0)) (hv:wkV zs (uq Ij) (XY pi) vs (Yb (fH.of ts Ij) rs) r) :
 MJ rs m (λr1 b1=>r1=r/\b1=bs) (fH.of ts Ij):=by
 refine⟨hok,r,bs,zs,XY pi,vs,⟨rfl,rfl⟩,?_,?_⟩
 ·rw[Qi,amq];exact ajS zs pi vs hk hb
 ·rw[Qi];exact hv
end
theorem Hl {x:Int}(h0:0<=x)(h1:x<9223372036854775808):af .i64 x=x:=by simp only[af,Go.IntKind.bits,Go.IntKind.signed];simp;omega
theorem apO {α:Type}(es:List α)(v:α)(i:Nat)(h:i<es.length) :
 splice (splice es (i+1) (((es.drop i).take (min (es.length+1-i) (es.length+1-(i+1)))).take (es.length+1-(i+1)))) i ([v].take (es.length+1-i))=es.take i++v::es.drop i:=by
 have e1:[v].take (es.length+1-i)=[v]:=aT (by simp;omega);have e2:((es.drop i).take (min (es.length+1-i) (es.length+1-(i+1)))).take (es.length+1-(i+1))=es.drop i:=by rw[aT (by simp;omega),aT (by simp;omega)]
 rw[e1,e2];simp only[splice];have e3:es.drop (i+1+(es.drop i).length)=[]:=BI (by simp;omega);rw[e3,iQ];have e4:(es.take (i+1)).length=i+1:=by simp;omega
 rw[vT (by omega),List.take_take,Nat.min_eq_left (by omega),List.length_singleton,List.drop_append_of_le_length (by omega),au (by omega)];simp
theorem apP {α:Type}(es:List α)(v z:α)(i k:Nat)(h:i<es.length)(hk:k=i+(es.length+1-i)) :
 splice (splice (es.take i++bC (es.length+1-i) z) i ([v].take (k-i))) (i+1) (((es.drop i).take (min (es.length-i) (k-(i+1)))).take (k-(i+1)))=es.take i++v::es.drop i:=by
 have hk2:k=es.length+1:=by omega
 subst hk2;have e1:[v].take (es.length+1-i)=[v]:=aT (by simp;omega);have e2:((es.drop i).take (min (es.length-i) (es.length+1-(i+1)))).take (es.length+1-(i+1))=es.drop i:=by rw[aT (by simp),aT (by simp)]
 rw[e1,e2];have e4:(es.take i).length=i:=by simp;omega
 obtain⟨q,hq⟩:∃q,es.length+1-i=q+1:=⟨es.length-i,by omega⟩;rw[hq,List.replicate_succ];have e5:splice (es.take i++z::bC q z) i [v]=es.take i++[v]++bC q z:=by simp only[splice];rw[vT (by omega),aT (by omega),List.drop_append,au (by rw[e4];omega),jI,e4];simp
 rw[e5];have e6:(es.take i++[v]).length=i+1:=by rw[bD,e4];rfl
 simp only[splice];have e7:(es.take i++[v]++bC q z).drop (i+1+(es.drop i).length)=[]:=BI (by rw[bD,e6,List.length_replicate,List.length_drop];omega);rw[e7,vT (by omega),aT (by omega)];simp
theorem an1 {α:Type}(f:α->List Cell)(k:Nat)(hf:∀t,(f t).length<=k){l:List α}{i j:Nat}{v:List Cell}(hv:v.length<=k):nX k (((ai f l).set i v).getD j [])=[]:=by
 have key:∀(m:List (List Cell)),(∀y,y∈m->y.length<=k)->nX k (m.getD j [])=[]:=by
  intro m hm;apply au;by_cases hj:j<m.length
  ·rw[show m.getD j []=m[j] by simp[List.getD,hj]];exact hm _ (List.getElem_mem hj)
  ·rw[show m.getD j []=[] by simp[List.getD,kF (Nat.le_of_not_lt hj)]];simp
 apply key;intro y hy;rcases List.mem_or_eq_of_mem_set hy with h|h
 ·obtain⟨t,_,rfl⟩:=aS.1 h;exact hf t
 ·rw[h];exact hv
theorem amz {l:List dR}{i j:Nat}{x:Cell} : nX 1 (((ai cS l).set i [x]).getD j [])=[]:=an1 cS 1 (λt=>by simp[cS]) (by simp)
section
inductive MA where
 |int (o:Nat)
 |str (o:Nat)
 |sub (o f:Nat)
 deriving DecidableEq
abbrev D6 :=Nat->Option (Nat×Nat×List MA)
inductive Jb where
 |C (f:Nat) (c:Cell) (k:Int) (c':Cell) (k':Int)
 |L (acts:List MA) (es:List (List Cell)) (k:Int) (es':List (List Cell)) (k':Int)
 |E (acts:List MA) (e:List Cell) (k:Int) (e':List Cell) (k':Int)
def inR (k:Int):Prop:=0<=k/\k<4611686018427387904
inductive BB (mt:D6)(tx:Int->List UInt8):Jb->Prop
 |c {f T sz:Nat} {acts:List MA} {es es':List (List Cell)} {k k':Int} (h:mt f=some (T,sz,acts)) (hk:inR k) (hl:BB mt tx (.L acts es k es' k')):BB mt tx (.C f (.sl sz es) k (.sl sz es') k')
 |l0 {acts:List MA} {k:Int} : BB mt tx (.L acts [] k [] k)
 |l1 {acts:List MA} {e e':List Cell} {es es':List (List Cell)} {k k1 k2:Int} (h:BB mt tx (.E acts e k e' k1)) (t:BB mt tx (.L acts es k1 es' k2)):BB mt tx (.L acts (e::es) k (e'::es') k2)
 |e0 {e:List Cell} {k:Int} : BB mt tx (.E [] e k e k)
 |ei {o:Nat} {r:List MA} {e e':List Cell} {k k':Int} (hk:inR k) (hk':inR (k+1)) (ho:o<e.length) (h:BB mt tx (.E r (e.set o (.lit (.int .i64 k))) (k+1) e' k')):BB mt tx (.E (.int o::r) e k e' k')
 |es {o:Nat} {r:List MA} {e e':List Cell} {k k':Int} (hk:inR k) (hk':inR (k+1)) (ho:o<e.length) (h:BB mt tx (.E r (e.set o (.str (tx k))) (k+1) e' k')):BB mt tx (.E (.str o::r) e k e' k')
 |ef {o f:Nat} {r:List MA} {e e':List Cell} {c c1:Cell} {k k1 k2:Int} (hc:e[o]? = some c) (h:BB mt tx (.C f c k c1 k1)) (t:BB mt tx (.E r (e.set o c1) k1 e' k2)):BB mt tx (.E (.sub o f::r) e k e' k2)
def E0 : Ku:=[(0,.arr),(1,.cnt),(5,.idx)]
def stR (P:Program)(ET sz m o:Nat)(sv:SV):Ku->List Oper->Bool
 | env,[x]=>(match x.guard,x.dst,x.op with
   |none,none,.store t (.tmp p) (.tmp v)=>Nc P t false 1&&decide (env.look p=some (.ptr o)/\env.look v=some sv/\o<sz)
   |_,_,_=>false)
 | env,x::r=>(match qop P ET sz env x,x.dst with
   |some env',some d=>decide (d<m)&&stR P ET sz m o sv env' r
   |_,_=>false)
 |_,[]=>false
def aco (P:Program)(ET sz m o f:Nat):Ku->List Oper->Bool
 | env,[x,y]=>(match x.guard,x.dst,x.op with
   | none,some d,.call ⟨.value (.func f'),⟨[.tmp v,.tmp c]⟩,_⟩=>decide (f'=f/\env.look v=some (.val o)/\env.look c=some .cnt/\env.look d=none/\d<m/\o<sz)&&yO P f'&&(match y.guard,y.dst,y.op with
     |none,some 1,.assign (.tmp d')=>d'==d
     |_,_,_=>false)
   |_,_,_=>false)
 | env,x::r=>(match qop P ET sz env x,x.dst with
   |some env',some d=>decide (d<m)&&aco P ET sz m o f env' r
   |_,_=>false)
 |_,[]=>false
def adI (m c:Nat):List Oper->Bool
 | [x,y,z]=>(match x.guard,x.dst,x.op,y.guard,y.dst,y.op with
   | none,some t,.move (.tmp s),none,some t',.binOp .add _ (.tmp u) (.const (.int .i64 1)) _=>s==c&&u==t&&decide (t≠0/\t≠1/\t≠5/\t'≠0/\t'≠1/\t'≠5/\t<m/\t'<m)&&(match z.guard,z.dst,z.op with
     |none,some d,.assign (.tmp s')=>d==c&&s'==t'
     |_,_,_=>false)
   |_,_,_,_,_,_=>false)
 |_=>false
section
variable {P:Program} {ET sz:Nat} {tx:Int->List UInt8} {kb i n c m:Nat} {k:Int}
variable {ops:Array Oper} {Q:Exit->Act->World->Prop} {rest:List Oper} {o:Oper} {a:Act} {w w':World} {v:Value}
theorem ES.base {env:Ku}(h:ES tx sz kb i n c m k env a w)(hb:∀t v,E0.look t=some v->env.look t=some v):ES tx sz kb i n c m k E0 a w:=⟨h.size,h.defers,λt v hv=>h.den t v (hb t v hv)⟩
theorem adq (h1:a.tmps.size=m)(h2:a.defers=[])(h3:a.tmps.getD 0 undef = .slice (some ⟨kb,0,none⟩) n c)(h4:a.tmps.getD 1 undef = .int .i64 k)(h5:a.tmps.getD 5 undef = .int .i64 (i:Int)):ES tx sz kb i n c m k E0 a w:=by
 refine⟨h1,h2,λt v hv=>?_⟩;simp only[E0,Ku.look]at hv;split at hv
 ·rename_i e;simp at e;subst e;cases hv;exact h3
 ·split at hv
  ·rename_i e;simp at e;subst e;cases hv;exact h4
  ·split at hv
   ·rename_i e;simp at e;subst e;cases hv;exact h5
   ·cases hv
theorem ES.arr (h:ES tx sz kb i n c m k E0 a w):a.tmps.getD 0 undef = .slice (some ⟨kb,0,none⟩) n c:=h.den 0 .arr rfl
theorem ES.cnt (h:ES tx sz kb i n c m k E0 a w):a.tmps.getD 1 undef = .int .i64 k:=h.den 1 .cnt rfl
theorem ES.idx (h:ES tx sz kb i n c m k E0 a w):a.tmps.getD 5 undef = .int .i64 (i:Int):=h.den 5 .idx rfl
theorem alq (t:TypeId)(x:Int)(w:World):(binOp .add t (.int .i64 x) (.int .i64 1)).run P w = .ok (.int .i64 (Go.IntKind.i64.wrap (x+1))) w:=by simp[binOp,Go.Op.intArith]
theorem YE {cc:Nat}{os:List Oper}(hc:adI m cc os=true)(hs:a.tmps.size=m)(hd:a.defers=[]){x:Int}(hx:a.tmps.getD cc undef = .int .i64 x)(hr:0<=x+1/\x+1<9223372036854775808)(hcc:cc<m)(aqE:cc=0\/cc=1\/cc=5)
 (hk:∀a',a'.tmps.size=m->a'.defers=[]->a'.tmps.getD cc undef = .int .i64 (x+1)->(∀t,t≠cc->(t=0\/t=1\/t=5)->a'.tmps.getD t undef=a.tmps.getD t undef)->Q .normal a' w):wpList P ops Q os a w:=by
 unfold adI at hc;split at hc
 ·rename_i x0 y z;split at hc
  ·rename_i t s t' ty1 u ty2 g1 d1 p1 g2 d2 p2;simp only[ah,akg,ahm]at hc;obtain⟨⟨⟨es,eu⟩,q1,q2,q3,q4,q5,q6,q7,q8⟩,hc⟩:=hc;split at hc
   ·rename_i d s' g3 d3 p3;simp only[ah,akg]at hc;obtain⟨ed,es'⟩:=hc;rw[es]at p1;rw[eu]at p2;rw[ed]at d3;rw[es']at p3;have hts:t<a.tmps.size:=(by rw[hs];exact q7);have e1:(a.put (some t) (a.tmps.getD cc undef)).tmps.getD t undef = .int .i64 x:=(by rw[gB hts,hx]);refine uX (v:=a.tmps.getD cc undef) g1 (by unfold execOp;rw[p1];rfl) ?_;rw[d1];refine uX (v:=.int .i64 (x+1)) (w':=w) g2 ?_ ?_
    ·have v1:(a.put (some t) (a.tmps.getD cc undef)).eval (.tmp t) = .int .i64 x:=e1;have hr0:(binOp .add ty1 (.int .i64 x) (.int .i64 1)).run P w = .ok (.int .i64 (x+1)) w:=(by rw[alq,Hl hr.1 hr.2]);have hq:∀v,(eqGuard .add ty1 (.tmp t) (.const (.int .i64 1)) (.int .i64 x) v).run P w = .ok () w:=λv=>EJ _ _ _ _ _ _ _ _;have v2:(a.put (some t) (a.tmps.getD cc undef)).eval (.const (.int .i64 1)) = .int .i64 1:=rfl;unfold execOp;rw[p2];simp only[v1,v2,cZ,hq,hr0,bn,bQ]
    rw[d2];have apJ:t'<((a.put (some t) (a.tmps.getD cc undef))).tmps.size:=(by simp[jC,hs];exact q8);have e2:((a.put (some t) (a.tmps.getD cc undef)).put (some t') (.int .i64 (x+1))).tmps.getD t' undef = .int .i64 (x+1):=gB apJ;refine uX (v:=.int .i64 (x+1)) (w':=w) g3 (by unfold execOp;rw[p3];exact anr (λv=>og (nG v) w) e2) ?_;rw[d3];refine hk _ (by simp[jC,hs]) hd (gB (by simp[jC,hs];exact hcc)) (λy hy h3=>?_);have n1:y≠t:=(by rcases h3 with rfl|rfl|rfl<;>first|exact λe=>q1 e.symm|exact λe=>q2 e.symm|exact λe=>q3 e.symm);have n2:y≠t':=(by rcases h3 with rfl|rfl|rfl<;>first|exact λe=>q4 e.symm|exact λe=>q5 e.symm|exact λe=>q6 e.symm);rw[oK hy,oK n2,oK n1]
   ·cases hc
  ·cases hc
 ·cases hc
theorem YX {oo:Nat}{sv:SV} : ∀{os:List Oper} {env:Ku} {a:Act} {w:World},stR P ET sz m oo sv env os=true->ES tx sz kb i n c m k env a w->(∀t v,E0.look t=some v->env.look t=some v)->i<n->JF P ET tx->0<=k->k<4611686018427387904 ->
 ∀{I0:IH},Tabs P I0->Agree I0 w->∀{cs:Array Value} {e:TypeId},w.heap[kb]? = some (.cells cs e (0,0))->(∀off,off<sz->i*sz+off<cs.size)->(∀x w,sv.den tx sz kb i n c k w x->x.cells = #[x]/\x.oneCell'=true) ->
 (∀a' w1 x,ES tx sz kb i n c m k E0 a' w1->Dp w w1 (λ_=>False)->w1.heap[kb]? = some (.cells cs e (0,0))->sv.den tx sz kb i n c k w1 x->oo<sz->Q .normal a' (w1.setRow kb (splice cs.toList (i*sz+oo) [x]).toArray))->wpList P ops Q os a w
 |[],_,_,_,hc,_,_,_,_,_,_,_,_,_,_,_,_,_,_,_=>by simp[stR]at hc
 | [x],env,a,w,hc,h,hb,hi,ht,h0,h1,I0,hT,hA,cs,e,hw,hfit,hone,hk=>by
   simp only[stR]at hc;split at hc
   ·rename_i t p v g1 d1 p1;simp only[ah,ahm]at hc;obtain⟨hty,l1,l2,hlt⟩:=hc;have v1:a.eval (.tmp p) = .pointer (some ⟨kb,i*sz+oo,none⟩):=h.den p _ l1;have v2:=h.den v _ l2;obtain⟨o1,o2⟩:=hone _ _ v2;have hst:=RQ (P:=P) (off:=i*sz+oo) (v:=a.tmps.getD v undef) hty (by rw[o1];rfl) hw (by have:=hfit oo hlt;omega) (λj u hu=>by
     rw[o1]at hu
     match j with
     |0=>cases hu;exact o2
     |j+1=>simp at hu)
    rw[o1]at hst;have v3:a.eval (.tmp v)=a.tmps.getD v undef:=rfl;refine step_skip (w':=w.setRow kb (splice cs.toList (i*sz+oo) [a.tmps.getD v undef]).toArray) g1 (by simp only[execOp,p1,v1,v3,cZ,hst,bn,bQ]) ?_;rw[d1];exact hk _ w _ (h.base hb) (Dp.refl _ _) hw v2 hlt
   ·cases hc
 | x::y::r,env,a,w,hc,h,hb,hi,ht,h0,h1,I0,hT,hA,cs,e,hw,hfit,hone,hk=>by
   simp only[stR]at hc;split at hc
   ·rename_i env' d hq hd;simp only[ah,ahm]at hc;have hkb:kb<w.heap.size:=xN hw;refine YS hq (λd' hd'=>by rw[hd]at hd';cases hd';exact hc.1) h hi ht h0 h1 hT hA hkb (λoff ho=>?_) (λa' w1 h' hF=>?_)
    ·exact⟨cs[i*sz+off]'(hfit off ho),by simp only[gI,hw];simp[hfit off ho]⟩
    ·refine YX hc.2 h' (λt v hv=>ab8 hq (hb t v hv)) hi ht h0 h1 hT (hA.other λk' c' hc'=>hF.block k' (hA.lt hc') λh=>h) (by rw[hF.block kb hkb (λh=>h)];exact hw) hfit hone (λa2 w2 x h2 hF2=>hk a2 w2 x h2 (hF.trans hF2 λ_ _ h=>h))
   ·cases hc
theorem XF {oo f:Nat} : ∀{os:List Oper} {env:Ku} {a:Act} {w:World},aco P ET sz m oo f env os=true->ES tx sz kb i n c m k env a w->(∀t v,E0.look t=some v->env.look t=some v)->i<n->JF P ET tx->0<=k->k<4611686018427387904 ->
 ∀{I0:IH},Tabs P I0->Agree I0 w->∀{cs:Array Value} {e:TypeId},w.heap[kb]? = some (.cells cs e (0,0))->(∀off,off<sz->i*sz+off<cs.size)->5<m->∀{k1:Int} {R:World->World->Prop},
 (∀w1 x,Dp w w1 (λ_=>False)->cs[i*sz+oo]? = some x->oo<sz->Calls P f #[x,.int .i64 k] w1 λe w'=>e = .returned (.int .i64 k1)/\R w1 w') ->
 (∀a' w1 w',ES tx sz kb i n c m k1 E0 a' w'->Dp w w1 (λ_=>False)->R w1 w'->Q .normal a' w')->wpList P ops Q os a w
 |[],_,_,_,hc,_,_,_,_,_,_,_,_,_,_,_,_,_,_,_,_,_,_=>by simp[aco]at hc
 | [x],env,a,w,hc,_,_,_,_,_,_,_,_,_,_,_,_,_,_,_,_,_,_=>by
   simp only[aco]at hc;split at hc
   ·simp at hc
   ·cases hc
 | [x,y],env,a,w,hc,h,hb,hi,ht,h0,h1,I0,hT,hA,cs,e,hw,hfit,hm5,k1,R,hcall,hk=>by
   simp only[aco]at hc;split at hc
   ·rename_i d f' v cc ts g1 d1 p1;simp only[ah,ahm]at hc;obtain⟨⟨⟨rfl,l1,l2,l3,l4,l5⟩,hok⟩,hc⟩:=hc;split at hc
    ·rename_i d' g2 d2 p2;simp only[akg]at hc;subst hc;have v1:=h.den v _ l1;have v2:a.eval (.tmp cc) = .int .i64 k:=h.den cc _ l2;have hx:cs[i*sz+oo]? = some (a.tmps.getD v undef):=by
      simp only[SV.den,gI,hw]at v1;simpa using v1
     have he:=Ht (w:=w) (a:=a) p1 (f:=f') (x:=.func f') (caps:= #[]) rfl hok;have v3:a.eval (.tmp v)=a.tmps.getD v undef:=rfl;refine O6 g1 (f:=f') (args:= #[a.tmps.getD v undef,.int .i64 k]) (by simpa[v2,v3]using he) ((hcall w _ (Dp.refl _ _) hx l5).mono ?_);rintro e w' ⟨rfl,hR⟩;refine⟨_,rfl,?_⟩;rw[d1];have e2:(a.put (some d') (.int .i64 k1)).tmps.getD d' undef = .int .i64 k1:=gB (by rw[h.size];exact l4);refine uX (v:=.int .i64 k1) (w':=w') g2 (by unfold execOp;rw[p2];exact anr (λv=>og (nG v) w') e2) ?_;rw[d2];have hb0:=h.base hb;have nd:∀{t v},env.look t=some v->t≠d':=λht e=>(by subst e;rw[l3]at ht;cases ht);refine hk _ w w' (adq (by simp[jC,h.size]) h.defers ?_ (gB (by simp[jC,h.size];omega)) ?_) (Dp.refl _ _) hR
     ·rw[oK (by omega),oK (nd (hb 0 .arr rfl))];exact hb0.arr
     ·rw[oK (by omega),oK (nd (hb 5 .idx rfl))];exact hb0.idx
    ·cases hc
   ·cases hc
 | x::y::z::r,env,a,w,hc,h,hb,hi,ht,h0,h1,I0,hT,hA,cs,e,hw,hfit,hm5,k1,R,hcall,hk=>by
   simp only[aco]at hc;split at hc
   ·rename_i env' d hq hd;simp only[ah,ahm]at hc;have hkb:kb<w.heap.size:=xN hw;refine YS hq (λd' hd'=>by rw[hd]at hd';cases hd';exact hc.1) h hi ht h0 h1 hT hA hkb (λoff ho=>?_) (λa' w1 h' hF=>?_)
    ·exact⟨cs[i*sz+off]'(hfit off ho),by simp only[gI,hw];simp[hfit off ho]⟩
    ·exact XF hc.2 h' (λt v hv=>ab8 hq (hb t v hv)) hi ht h0 h1 hT (hA.other λk' c' hc'=>hF.block k' (hA.lt hc') λh=>h) (by rw[hF.block kb hkb (λh=>h)];exact hw) hfit hm5
      (λw2 x hF2=>hcall w2 x (hF.trans hF2 λ_ _ h=>h)) (λa2 w2 w3 h2 hF2=>hk a2 w2 w3 h2 (hF.trans hF2 λ_ _ h=>h))
   ·cases hc
end
end
section
def DJ (P:Program)(Q:Exit->Act->World->Prop):List (Array Oper)->Act->World->Prop
 |[]=>Q .normal
 |ops::r=>λa w=>wpList P ops (Exit.then (DJ P Q r) Q) ops.toList a w
def Xo : Code->Option (List (Array Oper))
 |.region _ ops false=>some [ops]
 |.seq (.region _ ops false) c=>(Xo c).map (ops :: ·)
 |_=>none
theorem alk {P:Program}{Q:Exit->Act->World->Prop} : ∀{c:Code} {L:List (Array Oper)} {a:Act} {w:World},Xo c=some L->DJ P Q L a w->c.wp P Q a w:=by
 intro c L a w hc h
 fun_induction Xo c generalizing L a w with
 | case1 id ops=>cases hc;have e:Exit.then (Q .normal) Q=Q:=(by funext e;cases e<;>rfl);simp only[DJ,e]at h;exact wp_region_list h
 | case2 id ops c ih=>
   simp only[bW]at hc;obtain⟨L',hL,rfl⟩:=hc;simp only[DJ]at h;refine wp_seq (wp_mono (wp_region_list h) ?_);intro e a w hq;cases e with
   |normal=>exact ih hL hq
   |_=>exact hq
 |case3=>cases hc
def U1 (P:Program)(ET:Nat)(mt:D6)(T sz m:Nat):List MA->List (Array Oper)->Bool
 |[],[]=>true
 |.int o::r,x::y::rs=>stR P ET sz m o .cnt E0 x.toList&&adI m 1 y.toList&&((lZ P T).all λe=>e.1 != o)&&U1 P ET mt T sz m r rs
 |.str o::r,x::y::rs=>stR P ET sz m o .txt E0 x.toList&&adI m 1 y.toList&&((lZ P T).all λe=>e.1 != o)&&U1 P ET mt T sz m r rs
 | .sub o f::r,x::rs=>aco P ET sz m o f E0 x.toList&&(match mt f with
   |some (T',_,_)=>(lZ P T).contains (o,T')&&(lZ P T).all λe=>e.1 != o||e.2==T'
   |none=>false)&&U1 P ET mt T sz m r rs
 |_,_=>false
structure EX (P:Program)(g:Own)(I0 I:IH)(w:World)(T:Nat)(q:yE)(kb n cap sz:Nat)(es:List (List Cell)):Prop where
 good:Good P g w
 tabs:Tabs P I0
 MO:Agree I0 w
 old:∀b c,I0 b=some c->g b=none
 ag:Agree I w
 at':g.at kb n T q
 root:PW g q
 rd:Rd I (.slice (some ⟨kb,0,none⟩) n cap) (.sl sz es)
 ty:OD P T (.sl sz es)
structure Post (P:Program)(g:Own)(I:IH)(w:World)(q:yE)(u:Value)(T:Nat)(c':Cell)(w':World):Prop where
 good:Good P g w'
 Be:Dp w w' (Under g q)
 rd:∃J,Agree J w'/\(∀b,¬Under g q b->J b=I b)/\Rd J u c'
 ty:OD P T c'
def ahs (P:Program)(mt:D6)(f:Nat)(c:Cell)(k:Int)(c':Cell)(k':Int):Prop:=∀(g:Own) (I0 I:IH) (w:World) (T:Nat) (q:yE) (u:Value),(∃sz acts,mt f=some (T,sz,acts))->Good P g w->Tabs P I0->Agree I0 w->(∀b c,I0 b=some c->g b=none)->Agree I w ->
 GR g u T q->PW g q->Rd I u c->OD P T c->Calls P f #[u,.int .i64 k] w λe w'=>e = .returned (.int .i64 k')/\Post P g I w q u T c' w'
section
variable {P:Program} {g:Own} {I0 I J:IH} {w w':World} {T kb n cap sz i o:Nat} {q:yE} {es:List (List Cell)}
theorem Agree.quiet (h:Agree I w)(hF:Dp w w' λ_=>False):Agree I w':=h.other λk' c' hc'=>hF.block k' (h.lt hc') λh=>h
theorem Good.quiet (h:Good P g w)(hF:Dp w w' λ_=>False):Good P g w':=h.world λk hk=>by
 cases hx:g k with
 |none=>exact al7 hx hk
 |some B=>exact hF.block k (h.lt hx) λh=>h
theorem EX.quiet (h:EX P g I0 I w T q kb n cap sz es)(hF:Dp w w' λ_=>False):EX P g I0 I w' T q kb n cap sz es:=
 { h with good:=h.good.quiet hF,MO:=h.MO.quiet hF,ag:=h.ag.quiet hF }
theorem EX.row (h:EX P g I0 I w T q kb n cap sz es)(hi:i<n):∃cs e,w.heap[kb]? = some (.cells cs e (0,0))/\(0<sz->I kb=some cs)/\(∀off,off<sz->i*sz+off<cs.size)/\(∀off,off<sz->∃u,cs[i*sz+off]? = some u/\∀c,(es.getD i [])[off]? = some c->Rd I u c):=by
 obtain⟨cs,e,hw,_⟩:=h.good.arr _ _ _ h.at'.1;have hrd:=h.rd;cases hrd with
 |sl _ _ _ _ _ u hlen hcap hmax hsz ha hcl hr=>
 have hI:∀off,off<sz->∃row,I kb=some row/\row[i*sz+off]? = some (u i off):=λoff ho=>by
  have h0:=hcl _ rfl i off hi ho;rw[Addr.tJ,eU]at h0;unfold IH.cell at h0;simp only[Ak,pR,if_false]at h0;cases hx:I kb with
  |none=>rw[hx]at h0;cases h0
  |some row=>rw[hx]at h0;exact⟨row,rfl,h0⟩
 have hrow:∀row,I kb=some row->row=cs:=λrow hx=>by obtain⟨e',fr',hw'⟩:=h.ag kb row hx;rw[hw]at hw';cases hw';rfl
 refine⟨cs,e,hw,λhs=>?_,λoff ho=>?_,λoff ho=>?_⟩
 ·obtain⟨row,h1,_⟩:=hI 0 hs;rw[h1,hrow row h1]
 ·obtain⟨row,h1,h2⟩:=hI off ho;rw[hrow row h1]at h2;exact(dK.1 h2).1
 ·obtain⟨row,h1,h2⟩:=hI off ho;rw[hrow row h1]at h2;exact⟨_,h2,λc hc=>hr i off c hc⟩
theorem Tu {α:Type}{es:List (List α)}{i i':Nat}{x:List α}(hi:i<es.length):(es.set i x).getD i' []=if i'=i then x else es.getD i' []:=by
 simp only[bf,qG];by_cases e:i=i'
 ·subst e;simp[hi]
 ·rw[ahk e,ahk (λh=>e h.symm)]
theorem OD.set {c':Cell}{T':Nat}(h:OD P T (.sl sz es))(hi:i<es.length)(hc:∀sz' es',c' = .sl sz' es'->(o,T')∈lZ P T/\OD P T' c')(hu:∀T2,(o,T2)∈lZ P T->T2=T'):OD P T (.sl sz (es.set i ((es.getD i []).set o c'))):=by
 cases h with
 |sl _ _ _ t hs h1 h2=>
 have hget:∀i' j' x,((es.set i ((es.getD i []).set o c')).getD i' [])[j']? = some x->(i'=i/\j'=o/\x=c')\/(es.getD i' [])[j']? = some x:=by
  intro i' j' x hx;rw[Tu hi]at hx;by_cases e:i'=i
  ·rw[ahl e,qG]at hx;split at hx
   ·rename_i e2;split at hx
    ·cases hx;exact .inl ⟨e,e2.symm,rfl⟩
    ·cases hx
   ·right;rw[e];exact hx
  ·rw[ahk e]at hx;exact .inr hx
 refine .sl _ _ _ (λy=>if y=o then T' else t y) hs (λi' j' sz' es' hx=>?_) (λi' j' sz' es' hx=>?_)
 ·rcases hget _ _ _ hx with⟨_,e2,e3⟩|h3
  ·rw[ahl e2,e2];exact(hc _ _ e3.symm).1
  ·have:=h1 _ _ _ _ h3;by_cases e:j'=o
   ·subst e;rw[ahl rfl,<- hu _ this];exact this
   ·rw[ahk e];exact this
 ·rcases hget _ _ _ hx with⟨_,e2,e3⟩|h3
  ·rw[ahl e2,e3];exact(hc _ _ e3.symm).2
  ·have:=h2 _ _ _ _ h3;by_cases e:j'=o
   ·subst e;rw[ahl rfl,<- hu _ (h1 _ _ _ _ h3)];exact this
   ·rw[ahk e];exact this
theorem EX.store (h:EX P g I0 I w T q kb n cap sz es)(hi:i<n)(ho:o<sz)(hno:((lZ P T).all λe=>e.1 != o)=true){x:Value}{c':Cell}(h1:x.cells = #[x])(hx:∀J,Rd J x c')(hc':∀sz' es',c' ≠ .sl sz' es'){cs:Array Value}{e:TypeId}(hw:w.heap[kb]? = some (.cells cs e (0,0))) :
 ∃J,EX P g I0 J (w.setRow kb (splice cs.toList (i*sz+o) [x]).toArray) T q kb n cap sz (es.set i ((es.getD i []).set o c'))/\Dp w (w.setRow kb (splice cs.toList (i*sz+o) [x]).toArray) (Under g q)/\∀b,¬Under g q b->J b=I b:=by
 obtain⟨cs',e',hw',hI,hfit,hcell⟩:=h.row hi;rw[hw]at hw';cases hw';have hIk:=hI (by omega);have hf:=hfit o ho;have aqN:es.length=n:=by have:=h.rd;cases this with|sl _ _ _ _ _ u hlen _ _ _ _ _ _=>exact hlen
 have hnew:=setRow_heap w kb cs (splice cs.toList (i*sz+o) [x]).toArray e (0,0) hw;have hsp:∀j,(splice cs.toList (i*sz+o) [x]).toArray[j]? = if j=i*sz+o then some x else cs[j]?:= λj=>by
  have:=Js (cs:=cs) (off:=i*sz+o) (vs:= #[x]) (by simp;omega) j;rw[this];by_cases e1:j=i*sz+o
  ·subst e1;simp
  ·rw[ahk e1];by_cases e2:j<i*sz+o
   ·rw[ahl e2]
   ·rw[ahk e2,ahk (by simp;omega)]
 have hsize:kb<w.heap.size:=xN hw;obtain⟨d,m,hkd⟩:=h.root.under (.here h.at'.1)
 let J:IH:=λb=>if b=kb then some (splice cs.toList (i*sz+o) [x]).toArray else I b
 have hJ:∀b,b≠kb->J b=I b:=λb hb=>ahk hb;have apy:Dp w (w.setRow kb (splice cs.toList (i*sz+o) [x]).toArray) (Under g q):=⟨rfl,rfl,rfl,by rw[setRow_size];exact aA _,λb _ hb=>G7 w _ (λe=>hb (e ▸ .here h.at'.1))⟩;refine⟨J,{ good:=?_,tabs:=h.tabs,MO:=?_,old:=h.old,ag:=?_,at':=h.at',root:=h.root,rd:=?_,ty:=?_ },apy,λb hb=>hJ b (λe=>hb (e ▸ .here h.at'.1))⟩
 ·refine(OW.aam (F:=FV) (dp:=0) (Γ :=[]) (a:=⟨#[],[]⟩) ⟨h.good,λf hf=>by cases hf⟩ hw λB hB=>?_).good;rw[h.at'.1]at hB;cases hB;refine⟨_,_,rfl,λj u T' hj hu ht=>?_⟩;rw[hsp]at hu;obtain⟨cs2,e2,hw2,hown⟩:=h.good.arr _ _ _ h.at'.1;rw[hw]at hw2;cases hw2;split at hu
  ·rename_i e1;subst e1;have hs:wz P T=sz:=by
    have:=h.ty;cases this with|sl _ _ _ t hs _ _=>exact hs
   rw[hs,Jj ho]at ht;have:=aP.1 hno _ ht;simp at this
  ·exact hown j u T' hj hu ht
 ·exact h.MO.other λb c hb=>G7 w _ (λe=>by subst e;have:=h.old _ _ hb;rw[h.at'.1]at this;cases this)
 ·intro b c hb;by_cases e1:b=kb
  ·subst e1;simp only[J,amB]at hb;cases hb;exact⟨e,(0,0),hnew⟩
  ·rw[hJ b e1]at hb;obtain⟨e2,fr,h2⟩:=h.ag b c hb;exact⟨e2,fr,by rw[G7 w _ e1];exact h2⟩
 ·refine h.rd.upd h.good h.ag h.at' h.root h.ty hi ho (u':=x) (c':=c') (λy=>?_) (λy b hy hb=>hJ b (λe1=>?_)) (hx J)
  ·unfold IH.cell;simp only[Ak,pR,if_false,J,amB,hIk];exact hsp y
  ·subst e1;exact hkd.irrefl _ hb
 ·exact h.ty.set (T':=0) (by omega) (λsz' es' e1=>al7 e1 (hc' _ _)) (λT2 h2=>by have:=aP.1 hno _ h2;simp at this)
end
end
section
section
variable {P:Program} {g:Own} {I0 I J:IH} {w w':World} {T kb n cap sz i o:Nat} {q:yE} {es:List (List Cell)}
theorem EX.len (h:EX P g I0 I w T q kb n cap sz es):es.length=n/\wz P T=sz:=by have h1:=h.rd;have h2:=h.ty;cases h1 with|sl _ _ _ _ _ u hlen _ _ _ _ _ _=>cases h2 with|sl _ _ _ t hs _ _=>exact⟨hlen,hs⟩
theorem EX.child (h:EX P g I0 I w T q kb n cap sz es)(hi:i<n)(ho:o<sz){cs:Array Value}{e:TypeId}(hw:w.heap[kb]? = some (.cells cs e (0,0))){x:Value}(hx:cs[i*sz+o]? = some x){T' sz':Nat}{es':List (List Cell)}(hc:(es.getD i [])[o]? = some (.sl sz' es'))(ht:(o,T')∈lZ P T)(hu:∀T2,(o,T2)∈lZ P T->T2=T') :
 GR g x T' (.blk kb (i*sz+o))/\PW g (.blk kb (i*sz+o))/\Rd I x (.sl sz' es')/\OD P T' (.sl sz' es'):=by
 obtain⟨cs',e',hw',hI,hfit,hcell⟩:=h.row hi;rw[hw]at hw';cases hw';obtain⟨u,h1,h2⟩:=hcell o ho;rw[hx]at h1;cases h1;obtain⟨d,m,hkd⟩:=h.root.under (.here h.at'.1);refine⟨VX h.good h.ag h.at' h.len.2 hi ho ?_ ht,.inr ⟨kb,_,d,m,rfl,hkd⟩,h2 _ hc,?_⟩
 ·rw[Addr.tJ,eU];unfold IH.cell;simp only[Ak,pR,if_false,hI (by omega)];exact hx
 ·have h3:=h.ty;cases h3 with
  |sl _ _ _ t hs t1 t2=>
  have:=t2 _ _ _ _ hc
  rwa[hu _ (t1 _ _ _ _ hc)]at this
theorem EX.after (h:EX P g I0 I w T q kb n cap sz es)(hi:i<n)(ho:o<sz){cs:Array Value}{e:TypeId}(hw:w.heap[kb]? = some (.cells cs e (0,0))){x:Value}(hx:cs[i*sz+o]? = some x){T':Nat}{c1:Cell}(ht:(o,T')∈lZ P T)(hu:∀T2,(o,T2)∈lZ P T->T2=T')
 (hp:Post P g I w (.blk kb (i*sz+o)) x T' c1 w'):∃J,EX P g I0 J w' T q kb n cap sz (es.set i ((es.getD i []).set o c1))/\Dp w w' (Under g q)/\∀b,¬Under g q b->J b=I b:=by
 obtain⟨hg',hF,⟨J,j1,j2,j3⟩,hty⟩:=hp;obtain⟨cs',e',hw',hI,hfit,hcell⟩:=h.row hi;rw[hw]at hw';cases hw';have hIk:=hI (by omega);have hl:=h.len;obtain⟨d,m,hkd⟩:=h.root.under (.here h.at'.1);have hup:∀{b},Under g (.blk kb (i*sz+o)) b->Under g q b:=λhb=>hb.trans (.here h.at'.1);have hJk:J kb=I kb:=j2 kb (hkd.irrefl _);refine⟨J,{ good:=hg',tabs:=h.tabs,MO:=?_,old:=h.old,ag:=j1,at':=h.at',root:=h.root,rd:=?_,ty:=?_ },⟨hF.os,hF.tape,hF.output,hF.size,λb hb hn=>hF.block b hb λhx=>hn (hup hx)⟩,λb hb=>j2 b λhx=>hb (hup hx)⟩
 ·exact h.MO.other λb c hb=>hF.block b (h.MO.lt hb) λhx=>by obtain⟨T2,p,h2⟩:=hx.owned;have:=h.old b c hb;rw[h2]at this;cases this
 ·refine h.rd.upd h.good h.ag h.at' h.root h.ty hi ho (u':=x) (c':=c1) (λy=>?_) (λy b hy hb=>j2 b λhx=>hy (hkd.ajk hb hx)) j3;unfold IH.cell;simp only[Ak,pR,if_false,hJk,hIk];split
  ·rename_i e1;subst e1;exact hx
  ·rfl
 ·exact h.ty.set (T':=T') (by omega) (λsz' es' e1=>⟨ht,hty⟩) hu
end
def VP (P:Program)(ET:Nat)(mt:D6)(tx:Int->List UInt8)(acts:List MA)(e:List Cell)(k:Int)(e':List Cell)(k':Int):Prop:=
 ∀ {T sz m:Nat} {rs:List (Array Oper)},U1 P ET mt T sz m acts rs=true->∀{g:Own} {I0 I:IH} {w:World} {q:yE} {kb n cap:Nat} {es:List (List Cell)} {i:Nat} {a:Act} {Q:Exit->Act->World->Prop},
   EX P g I0 I w T q kb n cap sz es->i<n->es.getD i []=e->5<m->JF P ET tx->ES tx sz kb i n cap m k E0 a w ->
   (∀a' w' J,ES tx sz kb i n cap m k' E0 a' w'->EX P g I0 J w' T q kb n cap sz (es.set i e')->Dp w w' (Under g q)->(∀b,¬Under g q b->J b=I b)->Q .normal a' w')->DJ P Q rs a w
section
variable {P:Program} {ET:Nat} {mt:D6} {tx:Int->List UInt8} {r:List MA} {e e':List Cell} {k k':Int} {o:Nat}
theorem Dp.any {w w':World}{M:Nat->Prop}(h:Dp w w' λ_=>False):Dp w w' M:=⟨h.os,h.tape,h.output,h.size,λk hk _=>h.block k hk λh=>h⟩
theorem set_self {α:Type}{es:List (List α)}{i:Nat}(hi:i<es.length):es.set i (es.getD i [])=es:=by
 apply List.ext_getElem?;intro j;rw[qG];split
 ·rename_i e1;subst e1;rw[bf,ax hi];simp
 ·rfl
theorem an2 : VP P ET mt tx [] e k e k:=by
 intro T sz m rs hc g I0 I w q kb n cap es i a Q hE hi he hm ht hs hk;cases rs with
 |cons _ _=>simp[U1]at hc
 | nil=>refine hk a w I hs ?_ ⟨rfl,rfl,rfl,aA _,λ_ _ _=>rfl⟩ λb _=>rfl;rw[<- he,set_self (by rw[hE.len.1];exact hi)];exact hE
theorem aeJ {sv:SV}{c':Cell}{x0:Value}(h1:x0.cells = #[x0])(hone:x0.oneCell'=true)(hx:∀J,(tx k).length<=maxLen->Rd J x0 c')(hc':∀sz' es',c' ≠ .sl sz' es')(hk:inR k)(hk':inR (k+1))
 (hden:∀{sz kb i n c:Nat} {w:World} {x:Value},sv.den tx sz kb i n c k w x->x=x0/\(sv = .txt->(tx k).length<=maxLen)) (htx:sv ≠ .txt->∀J,Rd J x0 c')
 (ih:VP P ET mt tx r (e.set o c') (k+1) e' k') {T sz m:Nat} {x y:Array Oper} {rs:List (Array Oper)} (s1:stR P ET sz m o sv E0 x.toList=true) (s2:adI m 1 y.toList=true) (s3:((lZ P T).all λe=>e.1 != o)=true) (s4:U1 P ET mt T sz m r rs=true)
 {g:Own} {I0 I:IH} {w:World} {q:yE} {kb n cap:Nat} {es:List (List Cell)} {i:Nat} {a:Act} {Q:Exit->Act->World->Prop} (hE:EX P g I0 I w T q kb n cap sz es) (hi:i<n) (he:es.getD i []=e) (hm:5<m) (ht:JF P ET tx) (hs:ES tx sz kb i n cap m k E0 a w)
 (hK:∀a' w' J,ES tx sz kb i n cap m k' E0 a' w'->EX P g I0 J w' T q kb n cap sz (es.set i e')->Dp w w' (Under g q)->(∀b,¬Under g q b->J b=I b)->Q .normal a' w'):DJ P Q (x::y::rs) a w:=by
 obtain⟨cs,ty,hw,_,hfit,_⟩:=hE.row hi;refine YX (Q:=Exit.then (DJ P Q (y::rs)) Q) s1 hs (λ_ _ h=>h) hi ht hk.1 hk.2 hE.tabs hE.MO hw hfit (λx w hd=>by rw[(hden hd).1];exact⟨h1,hone⟩) (λa' w1 x hs' hF hw1 hd ho=>?_);obtain⟨rfl,hl⟩:=hden hd;have hrd:∀J,Rd J x c':=λJ=>by
  by_cases hsv:sv = .txt
  ·exact hx J (hl hsv)
  ·exact htx hsv J
 obtain⟨J,hE2,hF2,hJ⟩:=(hE.quiet hF).store hi ho s3 h1 hrd hc' hw1;show wpList P y (Exit.then (DJ P Q rs) Q) y.toList a' _;refine YE s2 hs'.size hs'.defers hs'.cnt ⟨hk'.1,by have:=hk'.2;omega⟩ (by omega) (.inr (.inl rfl)) (λa2 b1 b2 b3 b4=>?_);show DJ P Q rs a2 _;have hs2:ES tx sz kb i n cap m (k+1) E0 a2 (w1.setRow kb (splice cs.toList (i*sz+o) [x]).toArray):=adq b1 b2 (by rw[b4 0 (by omega) (.inl rfl)];exact hs'.arr) b3 (by rw[b4 5 (by omega) (.inr (.inr rfl))];exact hs'.idx);refine ih s4 hE2 hi ?_ hm ht hs2 (λa3 w3 J3 hs3 hE3 hF3 hJ3=>?_)
 ·rw[Tu (by rw[hE.len.1];exact hi),ahl rfl,he]
 ·rw[List.set_set]at hE3;exact hK a3 w3 J3 hs3 hE3 ((hF.any.trans hF2 λ_ _ h=>h).trans hF3 λ_ _ h=>h) (λb hb=>(hJ3 b hb).trans (hJ b hb))
theorem an3 {f:Nat}{c c1:Cell}{k1 k2:Int}(hc0:e[o]? = some c)(hsl:∃sz es,c = .sl sz es)(hk:inR k)(hC:ahs P mt f c k c1 k1)(ih:VP P ET mt tx r (e.set o c1) k1 e' k2){T sz m:Nat}{x:Array Oper}{rs:List (Array Oper)}(s1:aco P ET sz m o f E0 x.toList=true)
 {T':Nat} (hmt:∃sz acts,mt f=some (T',sz,acts)) (hin:(o,T')∈lZ P T) (hu:∀T2,(o,T2)∈lZ P T->T2=T') (s4:U1 P ET mt T sz m r rs=true)
 {g:Own} {I0 I:IH} {w:World} {q:yE} {kb n cap:Nat} {es:List (List Cell)} {i:Nat} {a:Act} {Q:Exit->Act->World->Prop} (hE:EX P g I0 I w T q kb n cap sz es) (hi:i<n) (he:es.getD i []=e) (hm:5<m) (ht:JF P ET tx) (hs:ES tx sz kb i n cap m k E0 a w)
 (hK:∀a' w' J,ES tx sz kb i n cap m k2 E0 a' w'->EX P g I0 J w' T q kb n cap sz (es.set i e')->Dp w w' (Under g q)->(∀b,¬Under g q b->J b=I b)->Q .normal a' w'):DJ P Q (x::rs) a w:=by
 obtain⟨cs,ty,hw,_,hfit,_⟩:=hE.row hi;obtain⟨sz',es',rfl⟩:=hsl;refine XF (Q:=Exit.then (DJ P Q rs) Q) s1 hs (λ_ _ h=>h) hi ht hk.1 hk.2 hE.tabs hE.MO hw hfit hm (k1:=k1) (R:=λw1 w'=>∃J,EX P g I0 J w' T q kb n cap sz (es.set i ((es.getD i []).set o c1))/\Dp w1 w' (Under g q)/\∀b,¬Under g q b->J b=I b) (λw1 x hF hx ho=>?_) (λa' w1 w' hs' hF hR=>?_)
 ·have hE1:=hE.quiet hF;have hw1:w1.heap[kb]? = some (.cells cs ty (0,0)):=by rw[hF.block kb (xN hw) λh=>h];exact hw
  obtain⟨g1,g2,g3,g4⟩:=hE1.child hi ho hw1 hx (by rw[he];exact hc0) hin hu;refine(hC g I0 I w1 T' _ x hmt hE1.good hE1.tabs hE1.MO hE1.old hE1.ag g1 g2 g3 g4).mono ?_;rintro e w' ⟨rfl,hp⟩;exact⟨rfl,hE1.after hi ho hw1 hx hin hu hp⟩
 ·obtain⟨J,hE2,hF2,hJ⟩:=hR;show DJ P Q rs a' w';refine ih s4 hE2 hi ?_ hm ht hs' (λa3 w3 J3 hs3 hE3 hF3 hJ3=>?_)
  ·rw[Tu (by rw[hE.len.1];exact hi),ahl rfl,he]
  ·rw[List.set_set]at hE3;exact hK a3 w3 J3 hs3 hE3 ((hF.any.trans hF2 λ_ _ h=>h).trans hF3 λ_ _ h=>h) (λb hb=>(hJ3 b hb).trans (hJ b hb))
end
def Zn (P:Program)(ET:Nat)(mt:D6)(f:Nat):Bool:=match mt f,P.funcs[f]? with
 | some (T,sz,acts),some fn=>(match fn.body with
   | some (.seq (.region _ r0 false) (.seq (.seq (.region _ r1 false) (.block b0 (.loop (.seq (.seq (.region _ r2 false) (.cond (.tmp c) .skip (.exit b0'))) (.seq (.block b1 body) (.region _ r3 false)))))) (.seq (.region _ r4 false) .ret)))=>
     (match r0.toList,r1.toList,r2.toList,r4.toList with
     | [x0],[x1],[y1,y2,y3,y4],[z1,z2]=>
       (match x0.guard,x0.dst,x0.op,x1.guard,x1.dst,x1.op with
        |none,some 4,.assign (.const (.int .i64 0)),none,some 5,.assign (.const (.int .i64 0))=>true
        |_,_,_,_,_,_=>false) &&
       (match y1.guard,y1.dst,y1.op,y2.guard,y2.dst,y2.op with
        | none,some t1,.move (.tmp 5),none,some t2,.move (.tmp 0)=>decide (5<t1/\5<t2/\t1≠t2/\t1<fn.ntmps/\t2<fn.ntmps)&&(match y3.guard,y3.dst,y3.op,y4.guard,y4.dst,y4.op with
          |none,some t3,.call ⟨.builtin .len,⟨[.tmp t2']⟩,⟨[ts]⟩⟩,none,some t4,.binOp .lss _ (.tmp t1') (.tmp t3') _=>(match P.underlying ts with|some (.slice _)=>true|_=>false)&&t1'==t1&&t2'==t2&&t3'==t3&&t4==c&&decide (5<t3/\t3≠t1/\t3≠t2/\5<t4/\t3<fn.ntmps/\t4<fn.ntmps)
          |_,_,_,_,_,_=>false)
        |_,_,_,_,_,_=>false) &&
       (match z1.guard,z1.dst,z1.op,z2.guard,z2.dst,z2.op with
        |none,some t,.move (.tmp 1),none,some 4,.assign (.tmp t')=>t'==t&&decide (t<fn.ntmps)
        |_,_,_,_,_,_=>false)
     | _,_,_,_=>false)&&b0'==b0&&adI fn.ntmps 5 r3.toList&&(match Xo body with
       |some rs=>U1 P ET mt T sz fn.ntmps acts rs
       |none=>false)&&decide (5<fn.ntmps)&&(match fn.results.toList with
       |[.tmp 4]=>true
       |_=>false)
   |_=>false)
 |_,_=>false
end
section
structure BS (u:Value)(i:Nat)(k:Int)(m:Nat)(a:Act):Prop where
 size:a.tmps.size=m
 defers:a.defers=[]
 arr:a.tmps.getD 0 undef=u
 cnt:a.tmps.getD 1 undef = .int .i64 k
 idx:a.tmps.getD 5 undef = .int .i64 (i:Int)
theorem BS.put {u:Value}{i:Nat}{k:Int}{m:Nat}{a:Act}(h:BS u i k m a){d:Nat}(hd:5<d)(v:Value):BS u i k m (a.put (some d) v):=
 ⟨by simp[jC,h.size],h.defers,by rw[oK (by omega)];exact h.arr,by rw[oK (by omega)];exact h.cnt,by rw[oK (by omega)];exact h.idx⟩
theorem BS.es {ad:Addr}{kb n c i m:Nat}{k:Int}{a:Act}{w:World}{tx:Int->List UInt8}{sz:Nat}(h:BS (.slice (some ⟨kb,0,none⟩) n c) i k m a):ES tx sz kb i n c m k E0 a w:=adq h.size h.defers h.arr h.cnt h.idx
theorem ES.bs {kb n c i m:Nat}{k:Int}{a:Act}{w:World}{tx:Int->List UInt8}{sz:Nat}(h:ES tx sz kb i n c m k E0 a w):BS (.slice (some ⟨kb,0,none⟩) n c) i k m a:=⟨h.size,h.defers,h.arr,h.cnt,h.idx⟩
theorem FQ (a:Act)(t:Nat):a.eval (.tmp t)=a.tmps.getD t undef:=rfl
section
variable {P:Program} {Q:Exit->Act->World->Prop} {a:Act} {w:World}
theorem adB {id cc b0 i m n cap t1 t2 t3:Nat}{k:Int}{ad:Option Addr}{r2:Array Oper}{y1 y2 y3 y4:Oper}{ty ty2 e:TypeId}{ts:TypeId}(hr:r2.toList=[y1,y2,y3,y4])(g1:y1.guard=none)(d1:y1.dst=some t1)(p1:y1.op = .move (.tmp 5))(g2:y2.guard=none)(d2:y2.dst=some t2)(p2:y2.op = .move (.tmp 0))
 (g3:y3.guard=none) (d3:y3.dst=some t3) (p3:y3.op = .call ⟨.builtin .len,⟨[.tmp t2]⟩,⟨[ts]⟩⟩) (ht:P.underlying ts=some (.slice e)) (g4:y4.guard=none) (d4:y4.dst=some cc) (p4:y4.op = .binOp .lss ty (.tmp t1) (.tmp t3) ty2)
 (q:5<t1/\5<t2/\t1≠t2/\t1<m/\t2<m) (q':5<t3/\t3≠t1/\t3≠t2/\5<cc/\t3<m/\cc<m) (bs:BS (.slice ad n cap) i k m a)
 (h1:i<n->∀a',BS (.slice ad n cap) i k m a'->Q .normal a' w) (h2:¬i<n->∀a',BS (.slice ad n cap) i k m a'->Q (.exit b0) a' w) :
 (Code.seq (.region id r2 false) (.cond (.tmp cc) .skip (.exit b0))).wp P Q a w:=by
 refine wp_seq (wp_region_list ?_);rw[hr];refine uX (v:=.int .i64 (i:Int)) (w':=w) g1 (by unfold execOp;rw[p1];exact anr (λv=>og (nG v) w) bs.idx) ?_;rw[d1];have b1:=bs.put q.1 (.int .i64 (i:Int));refine uX (v:=.slice ad n cap) (w':=w) g2 (by unfold execOp;rw[p2];exact anr (λv=>og (nG v) w) b1.arr) ?_;rw[d2];have b2:=b1.put q.2.1 (.slice ad n cap);have e2:((a.put (some t1) (.int .i64 (i:Int))).put (some t2) (.slice ad n cap)).eval (.tmp t2) = .slice ad n cap:=by rw[FQ];exact gB (by rw[b1.size];exact q.2.2.2.2)
 refine uX (v:=.int .i64 (n:Int)) (w':=w) g3 (by simp[execOp,p3,resolve,invoke,builtin,Go.Builtin.len_,run_underlying ht,e2,goInt]) ?_;rw[d3];have b3:=b2.put q'.1 (.int .i64 (n:Int));have e3:(((a.put (some t1) (.int .i64 (i:Int))).put (some t2) (.slice ad n cap)).put (some t3) (.int .i64 (n:Int))).eval (.tmp t3) = .int .i64 (n:Int):=by rw[FQ];exact gB (by rw[b2.size];exact q'.2.2.2.2.1)
 have e1:(((a.put (some t1) (.int .i64 (i:Int))).put (some t2) (.slice ad n cap)).put (some t3) (.int .i64 (n:Int))).eval (.tmp t1) = .int .i64 (i:Int):=by rw[FQ,oK (Gq q'.2.1),oK q.2.2.1];exact gB (by rw[bs.size];exact q.2.2.2.1)
 refine uX (v:=.bool (decide (i<n))) (w':=w) g4 ?_ ?_
 ·have hq:∀v,(eqGuard .lss ty (.tmp t1) (.tmp t3) (.int .i64 (i:Int)) v).run P w = .ok () w:=λv=>EJ _ _ _ _ _ _ _ _;have hr0:(binOp .lss ty (.int .i64 (i:Int)) (.int .i64 (n:Int))).run P w = .ok (.bool (decide (i<n))) w:=by simp[binOp,Op.intCmp]
  unfold execOp;rw[p4];simp only[e1,e3,cZ,hq,hr0,bn,bQ]
 rw[d4];have b4:=b3.put q'.2.2.2.1 (.bool (decide (i<n)));refine wp_cond_split (t:=decide (i<n)) (by rw[FQ];exact gB (by rw[b3.size];exact q'.2.2.2.2.2)) (λh=>wp_skip (h1 (by simpa using h) _ b4)) (λh=>wp_exit (h2 (by simpa using h) _ b4))
end
structure anR (P:Program)(ET:Nat)(mt:D6)(T sz:Nat)(acts:List MA)(fn:Func)(id0 id1 id2 id3 id4 b0 b1 cc:Nat)(r0 r1 r2 r3 r4:Array Oper)(body:Code):Prop where
 code:fn.body=some (.seq (.region id0 r0 false) (.seq (.seq (.region id1 r1 false) (.block b0 (.loop (.seq (.seq (.region id2 r2 false) (.cond (.tmp cc) .skip (.exit b0))) (.seq (.block b1 body) (.region id3 r3 false)))))) (.seq (.region id4 r4 false) .ret)))
 m5:5<fn.ntmps
 res:fn.results.toList=[.tmp 4]
 first:∃x0,r0.toList=[x0]/\x0.guard=none/\x0.dst=some 4/\x0.op = .assign (.const (.int .i64 0))
 second:∃x1,r1.toList=[x1]/\x1.guard=none/\x1.dst=some 5/\x1.op = .assign (.const (.int .i64 0))
 head:∀{Q:Exit->Act->World->Prop} {a:Act} {w:World} {i n cap:Nat} {k:Int} {ad:Option Addr},BS (.slice ad n cap) i k fn.ntmps a->(i<n->∀a',BS (.slice ad n cap) i k fn.ntmps a'->Q .normal a' w)->(¬i<n->∀a',BS (.slice ad n cap) i k fn.ntmps a'->Q (.exit b0) a' w) ->
  (Code.seq (.region id2 r2 false) (.cond (.tmp cc) .skip (.exit b0))).wp P Q a w
 inc:adI fn.ntmps 5 r3.toList=true
 steps:∃rs,Xo body=some rs/\U1 P ET mt T sz fn.ntmps acts rs=true
 last:∃z1 z2 t,r4.toList=[z1,z2]/\z1.guard=none/\z1.dst=some t/\z1.op = .move (.tmp 1)/\z2.guard=none/\z2.dst=some 4/\z2.op = .assign (.tmp t)/\t<fn.ntmps
theorem akJ {P:Program}{ET:Nat}{mt:D6}{f T sz:Nat}{acts:List MA}(h:Zn P ET mt f=true)(hmt:mt f=some (T,sz,acts)):∃fn,P.funcs[f]? = some fn/\∃id0 id1 id2 id3 id4 b0 b1 cc r0 r1 r2 r3 r4 body,anR P ET mt T sz acts fn id0 id1 id2 id3 id4 b0 b1 cc r0 r1 r2 r3 r4 body:=by
 unfold Zn at h;rw[hmt]at h;split at h
 ·rename_i T' sz' anW fn e1 hf;cases e1;refine⟨fn,hf,?_⟩;split at h
  ·rename_i id0 r0 id1 r1 b0 id2 r2 cc b0' b1 body id3 r3 id4 r4 hb;simp only[ah,akg,ahm]at h;obtain⟨⟨⟨⟨⟨h1,rfl⟩,h2⟩,h3⟩,h4⟩,h5⟩:=h;refine⟨id0,id1,id2,id3,id4,b0',b1,cc,r0,r1,r2,r3,r4,body,?_⟩;split at h1
   ·rename_i x0 x1 y1 y2 y3 y4 z1 z2 l0 l1 l2 l4;simp only[ah]at h1;obtain⟨⟨q1,q2⟩,q3⟩:=h1;refine⟨hb,h4,?_,?_,?_,?_,h2,?_,?_⟩
    ·split at h5
     ·rename_i e;exact e
     ·cases h5
    ·split at q1
     ·exact⟨x0,l0,by assumption,by assumption,by assumption⟩
     ·cases q1
    ·split at q1
     ·exact⟨x1,l1,by assumption,by assumption,by assumption⟩
     ·cases q1
    ·split at q2
     ·rename_i t1 t2 g1 d1 p1 g2 d2 p2;simp only[ah,ahm]at q2;obtain⟨q2,q4⟩:=q2;split at q4
      ·rename_i t3 t2' ts t4 ty t1' t3' ty2 g3 d3 p3 g4 d4 p4;simp only[ah,akg,ahm]at q4;obtain⟨⟨⟨⟨⟨hu,rfl⟩,rfl⟩,rfl⟩,rfl⟩,q5⟩:=q4;split at hu
       ·rename_i e hu2;intro Q a w i n cap k ad bs k1 k2;exact adB l2 g1 d1 p1 g2 d2 p2 g3 d3 p3 hu2 g4 d4 p4 q2 q5 bs k1 k2
       ·cases hu
      ·cases q4
     ·cases q2
    ·split at h3
     ·exact⟨_,by assumption,h3⟩
     ·cases h3
    ·split at q3
     ·rename_i t t' g1 d1 p1 g2 d2 p2;simp only[ah,akg,ahm]at q3;obtain⟨rfl,q3⟩:=q3;exact⟨z1,z2,_,l4,g1,d1,p1,g2,d2,p2,q3⟩
     ·cases q3
   ·cases h1
  ·cases h
 ·cases h
inductive afD (S:List Cell->Int->List Cell->Int->Prop):List (List Cell)->Int->List (List Cell)->Int->Prop
 |nil {k:Int} : afD S [] k [] k
 |cons {e e':List Cell} {es es':List (List Cell)} {k k1 k2:Int} (h:S e k e' k1) (t:afD S es k1 es' k2):afD S (e::es) k (e'::es') k2
theorem set_mid {α:Type}{D es:List α}{e e':α} : (D++e::es).set D.length e'=(D++[e'])++es:=by rw[List.set_append_right _ _ (aA _)];simp
theorem ah4 {P:Program}{ET:Nat}{mt:D6}{tx:Int->List UInt8}{f T sz:Nat}{acts:List MA}(hc:Zn P ET mt f=true)(hmt:mt f=some (T,sz,acts))(ht:JF P ET tx){es es':List (List Cell)}{k k':Int}(hk:inR k)
 (hrun:afD (VP P ET mt tx acts) es k es' k'):ahs P mt f (.sl sz es) k (.sl sz es') k':=by
 intro g I0 I w T1 q u hT hg hTb hA0 hold hA hgr hroot hrd hty;obtain⟨sz1,ap5,hm1⟩:=hT;rw[hmt]at hm1;cases hm1;obtain⟨fn,hf,id0,id1,id2,id3,id4,b0,b1,cc,r0,r1,r2,r3,r4,body,C⟩:=akJ hc hmt;obtain⟨ad,n,cap,rfl⟩:∃ad n cap,u = .slice ad n cap:=by rcases hgr with e|⟨_,_,_,e,_⟩<;>exact⟨_,_,_,e⟩
 have hn:es.length=n/\n<=maxLen:=by cases hrd with|sl _ _ _ _ _ _ h1 h2 h3 _ _ _ _=>exact⟨h1,bH h2 h3⟩
 refine calls_of_wp hf C.code ?_;obtain⟨x0,l0,g0,d0,p0⟩:=C.first;obtain⟨x1,l1,g1,d1,p1⟩:=C.second;have hm5:=C.m5
 let a0:Act:={ tmps:= #[Dh ad n cap,.int .i64 k]++sK (fn.ntmps-2) undef,defers:=[] }
 have hs0:a0.tmps.size=fn.ntmps:=by simp[a0];omega
 have ha0:a0.tmps.getD 0 undef = .slice ad n cap/\a0.tmps.getD 1 undef = .int .i64 k:=by constructor<;>(simp only[a0,dX];rw[rU (by simp)];rfl)
 have Ij:BS (.slice ad n cap) 0 k fn.ntmps ((a0.put (some 4) (.int .i64 0)).put (some 5) (.int .i64 0)):=
  ⟨by simp[jC,hs0],rfl,by rw[oK (by omega),oK (by omega)];exact ha0.1,by rw[oK (by omega),oK (by omega)];exact ha0.2,gB (by simp[jC,hs0];exact hm5)⟩
 refine wp_seq (wp_region_list ?_);rw[l0];refine uX (v:=.int .i64 0) (w':=w) g0 (by unfold execOp;rw[p0];rfl) ?_;rw[d0];refine wp_seq (wp_seq (wp_region_list ?_));rw[l1];refine uX (v:=.int .i64 0) (w':=w) g1 (by unfold execOp;rw[p1];rfl) ?_;rw[d1];refine wp_block (J9 (λj a w'=>∃D es1 akS k1,afD (VP P ET mt tx acts) es1 k1 akS k'/\D++akS=es'/\j=es1.length/\(D++es1).length=n/\BS (.slice ad n cap) D.length k1 fn.ntmps a/\Post P g I w q (.slice ad n cap) T (.sl sz (D++es1)) w') ?_ ?_)
 ·exact⟨es.length,[],es,es',k,hrun,rfl,rfl,hn.1,Ij,hg,⟨rfl,rfl,rfl,aA _,λ_ _ _=>rfl⟩,⟨I,hA,λ_ _=>rfl,hrd⟩,hty⟩
 ·rintro j a w1 ⟨D,es1,akS,k1,hr,hD,rfl,hlen,bs,hp⟩;refine wp_seq (C.head bs (λhlt a' bs'=>?_) (λhge a' bs'=>?_))
  ·
   cases hr with
   |nil=>simp at hlen;omega
   | @cons e e' es2 apk _ k2 _ hS hr=>
   obtain⟨kb,n',c',e1,hkb⟩:∃kb n' c',Dh ad n cap = .slice (some ⟨kb,0,none⟩) n' c'/\g.at kb n' T q:=by
    rcases hgr with e1|⟨kb,n',c',e1,h2⟩
    ·cases e1;omega
    ·exact⟨kb,n',c',e1,h2⟩
   cases e1;obtain⟨pg,pF,⟨J,pJ1,pJ2,pJ3⟩,pty⟩:=hp;have hE:EX P g I0 J w1 T q kb n cap sz (D++e::es2):=
    { good:=pg,tabs:=hTb,MO:=hA0.other λb c hb=>pF.block b (hA0.lt hb) λhx=>(by obtain⟨T2,p,h2⟩:=hx.owned;have:=hold b c hb;rw[h2]at this;cases this),old:=hold,ag:=pJ1,at':=hkb,root:=hroot,rd:=pJ3,ty:=pty }
   obtain⟨rs,hrs,apv⟩:=C.steps;refine wp_seq (wp_block (alk hrs (hS apv hE hlt (by simp[bf]) hm5 ht (BS.es (ad:=⟨0,0,none⟩) bs') (λa2 w2 J2 hs2 hE2 hF2 hJ2=>?_))));refine wp_region_list (YE C.inc hs2.size hs2.defers hs2.idx (by have:=hn.2;simp only[maxLen]at this;omega) hm5 (.inr (.inr rfl)) (λa3 c1 c2 c3 c4=>?_));refine⟨es2.length,by simp,D++[e'],es2,apk,k2,hr,by rw[<- hD];simp,rfl,by simp at hlen⊢;omega,?_,hE2.good,pF.trans hF2 λ_ _ h=>h,⟨J2,hE2.ag,λb hb=>(hJ2 b hb).trans (pJ2 b hb),?_⟩,?_⟩
   ·exact⟨c1,c2,by rw[c4 0 (by omega) (.inl rfl)];exact hs2.arr,by rw[c4 1 (by omega) (.inr (.inl rfl))];exact hs2.cnt,by rw[c3];simp⟩
   ·have:=hE2.rd;rwa[set_mid]at this
   ·have:=hE2.ty;rwa[set_mid]at this
  ·
   have hnil:es1=[]/\akS=[]/\k1=k':=by
    cases hr with
    |nil=>exact⟨rfl,rfl,rfl⟩
    |cons _ _=>simp at hlen;omega
   obtain⟨rfl,rfl,rfl⟩:=hnil;show zn b0 _ (.exit b0) a' w1;simp only[zn,amB];obtain⟨z1,z2,t,l4,g4,d4,p4,g5,d5,p5,htm⟩:=C.last;refine wp_seq (wp_region_list ?_);rw[l4];refine uX (v:=.int .i64 k1) (w':=w1) g4 (by unfold execOp;rw[p4];exact anr (λv=>og (nG v) w1) bs'.cnt) ?_;rw[d4];have e2:(a'.put (some t) (.int .i64 k1)).tmps.getD t undef = .int .i64 k1:=gB (by rw[bs'.size];exact htm);refine uX (v:=.int .i64 k1) (w':=w1) g5 (by unfold execOp;rw[p5];exact anr (λv=>og (nG v) w1) e2) ?_;rw[d5];refine wp_ret ?_;refine⟨bs'.defers,.int .i64 k1,?_,rfl,?_⟩
   ·have e3:((a'.put (some t) (.int .i64 k1)).put (some 4) (.int .i64 k1)).tmps.getD 4 undef = .int .i64 k1:=gB (by simp[jC,bs'.size];omega);have e4:fn.results = #[.tmp 4]:=(by apply Array.toList_inj.1;rw[C.res]);rw[LZ,e4];simp[U8,e3]
   ·rw[<- hD];simpa using hp
theorem abI {P:Program}{ET:Nat}{mt:D6}{tx:Int->List UInt8}(hall:∀f,(mt f).isSome=true->Zn P ET mt f=true)(ht:JF P ET tx){j:Jb}(h:BB mt tx j):match j with
 |.C f c k c' k'=>ahs P mt f c k c' k'/\inR k/\(∃sz es,c = .sl sz es)
 |.L acts es k es' k'=>afD (VP P ET mt tx acts) es k es' k'
 |.E acts e k e' k'=>VP P ET mt tx acts e k e' k':=by
 induction h with
 |c h hk hl ih=>exact⟨ah4 (hall _ (by rw[h];rfl)) h ht hk ih,hk,_,_,rfl⟩
 |l0=>exact .nil
 |l1 _ _ ih1 ih2=>exact .cons ih1 ih2
 |e0=>exact an2
 | ei hk hk' ho _ ih=>
   intro T sz m rs hc g I0 I w q kb n cap es i a Q hE hi he hm ht' hs hK
   match rs,hc with
   | x::y::rs,hc=>simp only[U1,ah]at hc;exact aeJ (sv:=.cnt) rfl rfl (λJ _=>.lit _ rfl) (λ_ _ e=>by cases e) hk hk' (λhd=>⟨hd,λe=>by cases e⟩) (λ_ J=>.lit _ rfl) ih hc.1.1.1 hc.1.1.2 hc.1.2 hc.2 hE hi he hm ht' hs hK
 | es hk hk' ho _ ih=>
   intro T sz m rs hc g I0 I w q kb n cap es i a Q hE hi he hm ht' hs hK
   match rs,hc with
   | x::y::rs,hc=>simp only[U1,ah]at hc;exact aeJ (sv:=.txt) rfl rfl (λJ hl=>.str _ hl) (λ_ _ e=>by cases e) hk hk' (λhd=>⟨hd.1,λ_=>hd.2⟩) (λe=>al7 rfl e) ih hc.1.1.1 hc.1.1.2 hc.1.2 hc.2 hE hi he hm ht' hs hK
 | ef hc0 _ _ ih1 ih2=>
   intro T sz m rs hc g I0 I w q kb n cap es i a Q hE hi he hm ht' hs hK
   match rs,hc with
   | x::rs,hc=>
     simp only[U1,ah]at hc;obtain⟨⟨h1,h2⟩,h3⟩:=hc;split at h2
     ·rename_i T' sz' anW hmt;simp only[ah,kE,aP,gV,bne_iff_ne,akg]at h2;exact an3 hc0 ih1.2.2 ih1.2.1 ih1.1 ih2 h1 ⟨_,_,hmt⟩ h2.1 (λT2 h4=>by
       rcases h2.2 _ h4 with h5|h5
       ·exact al7 rfl h5
       ·exact h5) h3 hE hi he hm ht' hs hK
     ·cases h2
end
section
inductive Stp where
 |sl (o g:Nat)
 |st (o sz g:Nat)
 deriving DecidableEq
abbrev Y5 :=Nat->Option (Nat×List Stp)
inductive SR (mt:D6)(sb:Y5)(tx:Int->List UInt8):(Nat->Nat)->List Stp->List Cell->Int->List Cell->Int->Prop
 |nil {ty:Nat->Nat} {cs:List Cell} {k:Int} : SR mt sb tx ty [] cs k cs k
 |sl {ty:Nat->Nat} {o g:Nat} {r:List Stp} {cs cs':List Cell} {c c1:Cell} {k k1 k2:Int} (hc:cs[o]? = some c) (hT:∃sz acts,mt g=some (ty o,sz,acts)) (hm:BB mt tx (.C g c k c1 k1)) (t:SR mt sb tx ty r (cs.set o c1) k1 cs' k2):SR mt sb tx ty (.sl o g::r) cs k cs' k2
 |st {ty:Nat->Nat} {o sz g:Nat} {r steps:List Stp} {cs cs2 cs':List Cell} {k k1 k2:Int} (hs:sb g=some (sz,steps)) (hl:o+sz<=cs.length) (h:SR mt sb tx (λj=>ty (o+j)) steps ((cs.drop o).take sz) k cs2 k1) (hl2:cs2.length=sz) (t:SR mt sb tx ty r (cs.take o++cs2++cs.drop (o+sz)) k1 cs' k2):SR mt sb tx ty (.st o sz g::r) cs k cs' k2
structure SX (P:Program)(g:Own)(I0 I:IH)(w:World)(vs:List Value)(cs:List Cell)(L:List Nat)(ty:Nat->Nat)(pid:Nat->yE):Prop where
 good:Good P g w
 tabs:Tabs P I0
 MO:Agree I0 w
 old:∀b c,I0 b=some c->g b=none
 ag:Agree I w
 len:vs.length=cs.length
 rd:∀(j:Nat) (v:Value) (c:Cell),vs[j]? = some v->cs[j]? = some c->Rd I v c
 isl:∀(j sz:Nat) (es:List (List Cell)),cs[j]? = some (.sl sz es)->j∈L
 own:∀(j:Nat),j∈L->∀(v:Value),vs[j]? = some v->GR g v (ty j) (pid j)
 root:∀j,j∈L->PW g (pid j)
 typ:∀(j sz:Nat) (es:List (List Cell)),cs[j]? = some (.sl sz es)->OD P (ty j) (.sl sz es)
 dis:∀i j b,i∈L->j∈L->Under g (pid i) b->Under g (pid j) b->i=j
structure Dj (P:Program)(g:Own)(I:IH)(w:World)(vs:List Value)(cs':List Cell)(L:List Nat)(ty:Nat->Nat)(pid:Nat->yE)(w':World):Prop where
 good:Good P g w'
 Be:Dp w w' λb=>∃j,j∈L/\Under g (pid j) b
 rd:∃J,Agree J w'/\(∀b,(∀j,j∈L->¬Under g (pid j) b)->J b=I b)/\∀(j:Nat) (v:Value) (c:Cell),vs[j]? = some v->cs'[j]? = some c->Rd J v c
 len:vs.length=cs'.length
 isl:∀(j sz:Nat) (es:List (List Cell)),cs'[j]? = some (.sl sz es)->j∈L
 typ:∀(j sz:Nat) (es:List (List Cell)),cs'[j]? = some (.sl sz es)->OD P (ty j) (.sl sz es)
section
variable {P:Program} {g:Own} {I0 I J:IH} {w w':World} {vs:List Value} {cs cs':List Cell} {L:List Nat} {ty:Nat->Nat} {pid:Nat->yE}
theorem SX.quiet (h:SX P g I0 I w vs cs L ty pid)(hF:Dp w w' λ_=>False):SX P g I0 I w' vs cs L ty pid:=
 { h with good:=h.good.quiet hF,MO:=h.MO.quiet hF,ag:=h.ag.quiet hF }
theorem Dj.next (h:SX P g I0 I w vs cs L ty pid)(hp:Dj P g I w vs cs' L ty pid w'):∃J,SX P g I0 J w' vs cs' L ty pid/\∀b,(∀j,j∈L->¬Under g (pid j) b)->J b=I b:=by obtain⟨pg,pF,⟨J,p1,p2,p3⟩,pl,pi,pt⟩:=hp;refine⟨J,{ good:=pg,tabs:=h.tabs,MO:=h.MO.other λb c hb=>pF.block b (h.MO.lt hb) ?_,old:=h.old,ag:=p1,len:=pl,rd:=p3,isl:=pi,own:=h.own,root:=h.root,typ:=pt,dis:=h.dis },p2⟩;rintro⟨j,_,hu⟩;obtain⟨T2,p,h2⟩:=hu.owned;have:=h.old b c hb;rw[h2]at this;cases this
theorem Dj.trans {I':IH}{w1:World}(hF:Dp w w1 λb=>∃j,j∈L/\Under g (pid j) b)(hI:∀b,(∀j,j∈L->¬Under g (pid j) b)->I' b=I b)(hp:Dj P g I' w1 vs cs' L ty pid w'):Dj P g I w vs cs' L ty pid w':=
 { hp with Be:=hF.trans hp.Be λ_ _ h=>h,rd:=let ⟨J,p1,p2,p3⟩:=hp.rd;⟨J,p1,λb hb=>(p2 b hb).trans (hI b hb),p3⟩ }
theorem Dj.refl (h:SX P g I0 I w vs cs L ty pid):Dj P g I w vs cs L ty pid w:=
 ⟨h.good,⟨rfl,rfl,rfl,aA _,λ_ _ _=>rfl⟩,⟨I,h.ag,λ_ _=>rfl,h.rd⟩,h.len,h.isl,h.typ⟩
theorem SX.slice (h:SX P g I0 I w vs cs L ty pid){o:Nat}{sz:Nat}{es:List (List Cell)}{c1:Cell}{v:Value}(hc:cs[o]? = some (.sl sz es))(hv:vs[o]? = some v)(hc1:∃sz es,c1 = .sl sz es)(hp:Post P g I w (pid o) v (ty o) c1 w'):Dj P g I w vs (cs.set o c1) L ty pid w':=by
 obtain⟨pg,pF,⟨J,p1,p2,p3⟩,pt⟩:=hp;have hoL:=h.isl _ _ _ hc;have ho:o<cs.length:=(aK.1 hc).1;have hget:∀(j:Nat) (c:Cell),(cs.set o c1)[j]? = some c->(j=o/\c=c1)\/(j≠o/\cs[j]? = some c):=λj c hj=>by
  rw[qG]at hj;split at hj
  ·rename_i e;subst e;cases hj;exact .inl ⟨rfl,rfl⟩
  ·rename_i e;exact .inr ⟨λe'=>e e'.symm,hj⟩
 refine⟨pg,⟨pF.os,pF.tape,pF.output,pF.size,λb hb hn=>pF.block b hb λhx=>hn ⟨o,hoL,hx⟩⟩,⟨J,p1,λb hb=>p2 b (hb o hoL),λj x c hx hj=>?_⟩,by simpa using h.len,λj sz' es' hj=>?_,λj sz' es' hj=>?_⟩
 ·rcases hget j c hj with⟨rfl,rfl⟩|⟨hne,hj⟩
  ·rw[hv]at hx;cases hx;exact p3
  ·have hr:=h.rd j x c hx hj;cases c with
   |lit _=>exact hr.Rj
   |str _=>exact hr.RX
   | sl sz' es'=>have hjL:=h.isl _ _ _ hj;exact hr.under h.good h.ag (h.own j hjL x hx) (h.typ _ _ _ hj) λb hb=>p2 b λhb2=>hne (h.dis j o b hjL hoL hb hb2)
 ·rcases hget j _ hj with⟨rfl,_⟩|⟨_,hj⟩
  ·exact hoL
  ·exact h.isl _ _ _ hj
 ·rcases hget j _ hj with⟨rfl,e⟩|⟨_,hj⟩
  ·rw[e];exact pt
  ·exact h.typ _ _ _ hj
def abZ (L:List Nat)(o sz:Nat):List Nat:=(List.range sz).filter λj=>L.contains (o+j)
theorem CU {o sz j:Nat} : j∈abZ L o sz<->j<sz/\o+j∈L:=by simp[abZ]
theorem Xf {α:Type}(l:List α)(o sz j:Nat):((l.drop o).take sz)[j]? = if j<sz then l[o+j]? else none:=by
 by_cases h:j<sz
 ·rw[ahl h,xM h,fV]
 ·rw[ahk h,kF];rw[gW];omega
theorem IX {α:Type}{l:List α}{o sz j:Nat}{x:α}(h:((l.drop o).take sz)[j]? = some x):j<sz/\l[o+j]? = some x:=by
 rw[Xf]at h;split at h
 ·rename_i h1;exact⟨h1,h⟩
 ·cases h
theorem SX.part (h:SX P g I0 I w vs cs L ty pid){o sz:Nat}(hl:o+sz<=cs.length):SX P g I0 I w ((vs.drop o).take sz) ((cs.drop o).take sz) (abZ L o sz) (λj=>ty (o+j)) λj=>pid (o+j) where
 good:=h.good
 tabs:=h.tabs
 MO:=h.MO
 old:=h.old
 ag:=h.ag
 len:=by have:=h.len;simp;omega
 rd:=λj v c hv hc=>h.rd _ v c (IX hv).2 (IX hc).2
 isl:=λj sz' es hj=>CU.2 ⟨(IX hj).1,h.isl _ _ _ (IX hj).2⟩
 own:=λj hj v hv=>h.own _ (CU.1 hj).2 v (IX hv).2
 root:=λj hj=>h.root _ (CU.1 hj).2
 typ:=λj sz' es hj=>h.typ _ _ _ (IX hj).2
 dis:=λi j b hi hj h1 h2=>by have:=h.dis _ _ b (CU.1 hi).2 (CU.1 hj).2 h1 h2;omega
theorem SX.anq (h:SX P g I0 I w vs cs L ty pid){o sz:Nat}{cs2:List Cell}(hl:o+sz<=cs.length)(hl2:cs2.length=sz)(hp:Dj P g I w ((vs.drop o).take sz) cs2 (abZ L o sz) (λj=>ty (o+j)) (λj=>pid (o+j)) w') :
 Dj P g I w vs (cs.take o++cs2++cs.drop (o+sz)) L ty pid w':=by
 obtain⟨pg,pF,⟨J,p1,p2,p3⟩,pl,pi,pt⟩:=hp;have hsub:∀{b},(∃j,j∈abZ L o sz/\Under g (pid (o+j)) b)->∃j,j∈L/\Under g (pid j) b:=λ⟨j,hj,hu⟩=>⟨o+j,(CU.1 hj).2,hu⟩;have hto:(cs.take o).length=o:=by rw[gW];omega
 have hget:∀(j:Nat) (c:Cell),(cs.take o++cs2++cs.drop (o+sz))[j]? = some c->(∃i,j=o+i/\i<sz/\cs2[i]? = some c)\/((j<o\/o+sz<=j)/\cs[j]? = some c):=λj c hj=>by
  by_cases h1:j<o
  ·rw[gX,bF (by omega),xM h1]at hj;exact .inr ⟨.inl h1,hj⟩
  ·by_cases h2:j<o+sz
   ·rw[bF (by simp[hl2];omega),dA (by omega),hto]at hj;exact .inl ⟨j-o,by omega,by omega,hj⟩
   ·have hl3:(cs.take o++cs2).length=o+sz:=(by rw[bD,hto,hl2]);rw[dA (by omega),hl3,fV,show o+sz+(j-(o+sz))=j by omega]at hj;exact .inr ⟨.inr (by omega),hj⟩
 refine⟨pg,⟨pF.os,pF.tape,pF.output,pF.size,λb hb hn=>pF.block b hb λhx=>hn (hsub hx)⟩,⟨J,p1,λb hb=>p2 b λj hj hu=>hb _ (CU.1 hj).2 hu,λj x c hx hj=>?_⟩,?_,λj sz' es' hj=>?_,λj sz' es' hj=>?_⟩
 ·rcases hget j c hj with⟨i,rfl,hi,hc⟩|⟨hne,hj⟩
  ·exact p3 i x c (by rw[Xf,ahl hi];exact hx) hc
  ·have hr:=h.rd j x c hx hj;cases c with
   |lit _=>exact hr.Rj
   |str _=>exact hr.RX
   | sl sz' es'=>
     have hjL:=h.isl _ _ _ hj;exact hr.under h.good h.ag (h.own j hjL x hx) (h.typ _ _ _ hj) λb hb=>p2 b λi hi hb2=>by have:=h.dis j (o+i) b hjL (CU.1 hi).2 hb hb2;have:=(CU.1 hi).1;omega
 ·have:=h.len;simp[hl2];omega
 ·rcases hget j _ hj with⟨i,rfl,hi,hc⟩|⟨_,hj⟩
  ·exact(CU.1 (pi _ _ _ hc)).2
  ·exact h.isl _ _ _ hj
 ·rcases hget j _ hj with⟨i,rfl,hi,hc⟩|⟨_,hj⟩
  ·exact pt _ _ _ hc
  ·exact h.typ _ _ _ hj
end
def stepS (P:Program)(s:Stp)(m:Nat):List Oper->Bool
 | [x,y,z,u,v]=>(match x.guard,x.dst,x.op,y.guard,y.dst,y.op with
   | none,some t1,.fieldAddr S (.tmp 2) fi,none,some t2,.load t (.tmp t1')=>t1'==t1&&decide (2<t1/\2<t2/\t1<m/\t2<m)&&(match z.guard,z.dst,z.op,u.guard,u.dst,u.op with
     | none,some t3,.move (.tmp 1),none,some t4,.call ⟨.value (.func f),⟨[.tmp t2',.tmp t3']⟩,_⟩=>t2'==t2&&t3'==t3&&decide (2<t3/\t3≠t2/\t3<m/\2<t4/\t4<m)&&yO P f&&(match v.guard,v.dst,v.op with
       |none,some 1,.assign (.tmp t4')=>t4'==t4
       |_,_,_=>false)&&(match s with
       |.sl o g=>f==g&&FT P S fi o&&Nc P t false 1
       |.st o sz g=>f==g&&FT P S fi o&&Nc P t true sz)
     |_,_,_,_,_,_=>false)
   |_,_,_,_,_,_=>false)
 |_=>false
def Z9 : Code->Option (List (Array Oper)×Array Oper)
 |.seq (.region _ ops false) .ret=>some ([],ops)
 |.seq (.region _ ops false) c=>(Z9 c).map λp=>(ops::p.1,p.2)
 |_=>none
def XD (P:Program)(m:Nat):List Stp->List (Array Oper)->Bool
 |[],[]=>true
 |s::r,x::rs=>stepS P s m x.toList&&XD P m r rs
 |_,_=>false
def afV (P:Program)(sb:Y5)(f:Nat):Bool:=match sb f,P.funcs[f]? with
 | some (sz,steps),some fn=>(match fn.body with
   | some (.seq (.region _ r0 false) rest)=>(match r0.toList with
     | [x,y]=>(match x.guard,x.dst,x.op,y.guard,y.dst,y.op with
       |none,some 2,.box _ (.tmp 0),none,some 4,.assign (.const (.int .i64 0))=>true
       |_,_,_,_,_,_=>false)
     |_=>false)&&(match Z9 rest with
     | some (rs,last)=>XD P fn.ntmps steps rs&&(match last.toList with
       | [z1,z2]=>(match z1.guard,z1.dst,z1.op,z2.guard,z2.dst,z2.op with
         |none,some t,.move (.tmp 1),none,some 4,.assign (.tmp t')=>t'==t&&decide (t<fn.ntmps)
         |_,_,_,_,_,_=>false)
       |_=>false)
     |none=>false)&&decide (4<fn.ntmps)&&(match fn.results.toList with
     |[.tmp 4]=>true
     |_=>false)
   |_=>false)
 |_,_=>false
end
section
structure TS (kx:Nat)(k:Int)(m:Nat)(a:Act):Prop where
 size:a.tmps.size=m
 defers:a.defers=[]
 cnt:a.tmps.getD 1 undef = .int .i64 k
 ptr:a.tmps.getD 2 undef = .pointer (some ⟨kx,0,none⟩)
theorem TS.put {kx m:Nat}{k:Int}{a:Act}(h:TS kx k m a){d:Nat}(hd:2<d)(v:Value):TS kx k m (a.put (some d) v):=
 ⟨by simp[jC,h.size],h.defers,by rw[oK (by omega)];exact h.cnt,by rw[oK (by omega)];exact h.ptr⟩
def Stp.arg (vs:List Value):Stp->Option Value
 |.sl o _=>vs[o]?
 |.st o sz _=>if o+sz<=vs.length then some (.agg ((vs.drop o).take sz).toArray)else none
def Stp.fn : Stp->Nat
 |.sl _ g=>g
 |.st _ _ g=>g
section
variable {P:Program} {Q:Exit->Act->World->Prop} {a:Act} {w:World} {ops:Array Oper}
theorem agP {o:Oper}{S:TypeId}{t fi off kx base:Nat}(ho:o.op = .fieldAddr S (.tmp t) fi)(hf:FT P S fi off=true)(hv:a.tmps.getD t undef = .pointer (some ⟨kx,base,none⟩)) :
 (execOp a.eval o).run P w = .ok (.value (.pointer (some ⟨kx,base+off,none⟩))) w:=by
 unfold FT at hf;split at hf
 ·rename_i fs hs;split at hf
  ·rename_i UF hfld;simp only[ah,akg]at hf;obtain⟨rfl,hf⟩:=hf;split at hf
   ·rename_i ti hti;simp at hf;have v1:a.eval (.tmp t) = .pointer (some ⟨kx,base,none⟩):=hv;simp[execOp,ho,Bj,run_underlying hs,hfld,v1,kJ,fieldPlace,sizeOf,typeInfo,hti,hf,Addr.tJ]
   ·cases hf
  ·cases hf
 ·cases hf
theorem UT {s:Stp}{m kx:Nat}{k k1:Int}{os:List Oper}{vs:List Value}{e:TypeId}{x:Value}{R:World->Prop}(hc:stepS P s m os=true)(ts:TS kx k m a)(hm:2<m)(hw:w.heap[kx]? = some (.cells vs.toArray e (0,0)))(hx:s.arg vs=some x)
 (hcall:Calls P s.fn #[x,.int .i64 k] w λe w'=>e = .returned (.int .i64 k1)/\R w') (hk:∀a' w',TS kx k1 m a'->R w'->Q .normal a' w'):wpList P ops Q os a w:=by
 unfold stepS at hc;split at hc
 ·rename_i x1 y z u v;split at hc
  ·rename_i t1 S fi t2 t t1' g1 d1 p1 g2 d2 p2;simp only[ah,akg,ahm]at hc;obtain⟨⟨e1,q1,q2,q3,q4⟩,hc⟩:=hc;rw[e1]at p2;split at hc
   ·rename_i t3 t4 f t2' t3' ts' g3 d3 p3 g4 d4 p4;simp only[ah,akg,ahm]at hc;obtain⟨⟨⟨⟨⟨e2,e3⟩,q5,q6,q7,q8,q9⟩,hok⟩,hc5⟩,hs⟩:=hc;rw[e2,e3]at p4;split at hc5
    ·rename_i t4' g5 d5 p5;simp only[akg]at hc5;rw[hc5]at p5;have hload:∃off,FT P S fi off=true/\(loadVar t ⟨kx,off,none⟩).run P w = .ok x w/\f=s.fn:=by
      cases s with
      | sl o g=>simp only[ah,akg]at hs;refine⟨o,hs.1.2,L6 hs.2 ?_,hs.1.1⟩;simp only[gI,hw];simpa[Stp.arg]using hx
      | st o sz g=>
        simp only[ah,akg]at hs;refine⟨o,hs.1.2,?_,hs.1.1⟩;simp only[Stp.arg]at hx;split at hx
        ·rename_i hl;cases hx;obtain⟨h1,h2⟩:=IY hs.2 w;have h3:=run_loadCells_list (P:=P) w ⟨kx,o,none⟩ ((vs.drop o).take sz) (λj u hu=>by
          rw[Xf]at hu;split at hu
          ·rw[Addr.tJ];simp only[gI,hw];simpa using hu
          ·cases hu)
         rw[show((vs.drop o).take sz).length=sz by simp;omega]at h3;simp[loadVar,h1,h2,h3]
        ·cases hx
     obtain⟨off,hf,hl,rfl⟩:=hload;refine uX (v:=.pointer (some ⟨kx,off,none⟩)) (w':=w) g1 (by have:=agP (P:=P) (w:=w) p1 hf ts.ptr;rwa[eU]at this) ?_;rw[d1];have b1:=ts.put q1 (.pointer (some ⟨kx,off,none⟩));have v1:(a.put (some t1) (.pointer (some ⟨kx,off,none⟩))).eval (.tmp t1) = .pointer (some ⟨kx,off,none⟩):=(by rw[FQ];exact gB (by rw[ts.size];exact q3));refine uX (v:=x) (w':=w) g2 (by simp[execOp,p2,v1,kJ,qj,hl]) ?_;rw[d2];have b2:=b1.put q2 x;refine uX (v:=.int .i64 k) (w':=w) g3 (by unfold execOp;rw[p3];exact anr (λv=>og (nG v) w) b2.cnt) ?_;rw[d3];have b3:=b2.put q5 (.int .i64 k);have v2:(((a.put (some t1) (.pointer (some ⟨kx,off,none⟩))).put (some t2) x).put (some t3) (.int .i64 k)).eval (.tmp t2)=x:=(by rw[FQ,oK (Gq q6)];exact gB (by rw[b1.size];exact q4));have v3:(((a.put (some t1) (.pointer (some ⟨kx,off,none⟩))).put (some t2) x).put (some t3) (.int .i64 k)).eval (.tmp t3) = .int .i64 k:=(by rw[FQ];exact gB (by rw[b2.size];exact q7));have he:=Ht (w:=w) (a:=(((a.put (some t1) (.pointer (some ⟨kx,off,none⟩))).put (some t2) x).put (some t3) (.int .i64 k))) p4 (x:=.func s.fn) (caps:= #[]) rfl hok;refine O6 g4 (f:=s.fn) (args:= #[x,.int .i64 k]) (by simpa[v2,v3]using he) (hcall.mono ?_);rintro e w' ⟨rfl,hR⟩;refine⟨_,rfl,?_⟩;rw[d4];have b4:=b3.put q8 (.int .i64 k1);have v4:((((a.put (some t1) (.pointer (some ⟨kx,off,none⟩))).put (some t2) x).put (some t3) (.int .i64 k)).put (some t4) (.int .i64 k1)).tmps.getD t4 undef = .int .i64 k1:=gB (by rw[b3.size];exact q9);refine uX (v:=.int .i64 k1) (w':=w') g5 (by unfold execOp;rw[p5];exact anr (λv=>og (nG v) w') v4) ?_;rw[d5];exact hk _ w' ⟨by simp[jC,b4.size]<;>(have:=b4.size;simpa[jC]using this),b4.defers,gB (by rw[b4.size];omega),by rw[oK (by omega)];exact b4.ptr⟩ hR
    ·cases hc5
   ·cases hc
  ·cases hc
 ·cases hc
end
theorem aji {P:Program}{Q:Exit->Act->World->Prop}{K:Act->World->Prop} : ∀{c:Code} {rs:List (Array Oper)} {last:Array Oper} {a:Act} {w:World},Z9 c=some (rs,last) ->
 (∀a w,K a w->wpList P last (Exit.then (Q .ret) Q) last.toList a w)->DJ P (Exit.then K Q) rs a w->c.wp P Q a w:=by
 intro c rs last a w hc hK h
 fun_induction Z9 c generalizing rs a w with
 | case1 id ops=>
   cases hc;refine wp_seq (wp_mono (wp_region_list (hK a w h)) λe a w hq=>?_);cases e with
   |normal=>exact wp_ret hq
   |_=>exact hq
 | case2 id ops c hne ih=>
   simp only[bW]at hc;obtain⟨⟨rs',l'⟩,hp,e⟩:=hc;cases e;simp only[DJ]at h;refine wp_seq (wp_mono (wp_region_list h) λe a w hq=>?_);cases e with
   |normal=>exact ih hp hq
   |_=>exact hq
 |case3=>cases hc
def alJ (P:Program)(ty:Nat->Nat)(steps:List Stp)(cs:List Cell)(k:Int)(cs':List Cell)(k':Int):Prop:=
 ∀ {g:Own} {I0 I:IH} {w:World} {vs:List Value} {L:List Nat} {pid:Nat->yE},SX P g I0 I w vs cs L ty pid->∀{m kx:Nat} {rs:List (Array Oper)} {e:TypeId} {a:Act} {Q:Exit->Act->World->Prop},XD P m steps rs=true->2<m->TS kx k m a ->
   w.heap[kx]? = some (.cells vs.toArray e (0,0))->g kx=none->(∀a' w',TS kx k' m a'->Dj P g I w vs cs' L ty pid w'->Q .normal a' w')->DJ P Q rs a w
def ML (P:Program)(f:Nat)(ty:Nat->Nat)(cs:List Cell)(k:Int)(cs':List Cell)(k':Int):Prop:=
 ∀{g:Own} {I0 I:IH} {w:World} {vs:List Value} {L:List Nat} {pid:Nat->yE},SX P g I0 I w vs cs L ty pid->Calls P f #[.agg vs.toArray,.int .i64 k] w λe w'=>e = .returned (.int .i64 k')/\Dj P g I w vs cs' L ty pid w'
theorem BL {P:Program}{sb:Y5}{f sz:Nat}{steps:List Stp}{ty:Nat->Nat}{cs cs':List Cell}{k k':Int}(hc:afV P sb f=true)(hs:sb f=some (sz,steps))(hr:alJ P ty steps cs k cs' k'):ML P f ty cs k cs' k':=by
 intro g I0 I w vs L pid hX;unfold afV at hc;rw[hs]at hc;split at hc
 ·rename_i sz' steps' fn e1 hf;cases e1;split at hc
  ·rename_i id r0 rest hb;simp only[ah,ahm]at hc;obtain⟨⟨⟨h1,h2⟩,hm⟩,h3⟩:=hc;refine calls_of_wp hf hb (wp_seq (wp_region_list ?_));split at h1
   ·rename_i x y l0;split at h1
    ·rename_i S g1 d1 p1 g2 d2 p2;rw[l0]
     let a0:Act:={ tmps:= #[Value.agg vs.toArray,.int .i64 k]++sK (fn.ntmps-2) undef,defers:=[] }
     have hs0:a0.tmps.size=fn.ntmps:=(by simp[a0];omega);have ha0:a0.tmps.getD 0 undef = .agg vs.toArray/\a0.tmps.getD 1 undef = .int .i64 k:=(by constructor<;>(simp only[a0,dX];rw[rU (by simp)];rfl));have v0:a0.eval (.tmp 0) = .agg vs.toArray:=ha0.1;refine uX (v:=.pointer (some ⟨w.heap.size,0,none⟩)) (w':=w.alloc (.cells vs.toArray S)) g1 ?_ ?_
     ·have e1:(Value.agg vs.toArray).cells=vs.toArray:=rfl;show(execOp a0.eval x).run P w=_;simp only[execOp,p1,v0,Go.Instr.box,cZ,bn,G6,bQ,e1]
     rw[d1];refine uX (v:=.int .i64 0) (w':=w.alloc (.cells vs.toArray S)) g2 (by unfold execOp;rw[p2];rfl) ?_;rw[d2];have ts:TS w.heap.size k fn.ntmps ((a0.put (some 2) (.pointer (some ⟨w.heap.size,0,none⟩))).put (some 4) (.int .i64 0)):=
      ⟨by simp[jC,hs0],rfl,by rw[oK (by omega),oK (by omega)];exact ha0.2,by rw[oK (by omega)];exact gB (by rw[hs0];omega)⟩
     have hF:Dp w (w.alloc (.cells vs.toArray S)) λ_=>False:=⟨rfl,rfl,rfl,by show _<=(w.heap.push _).size;simp,λb hb _=>YC w _ b hb⟩;split at h2
     ·rename_i rs last hp;simp only[ah]at h2;obtain⟨h4,h5⟩:=h2;have hgk:g w.heap.size=none:=by
       cases hx:g w.heap.size with
       |none=>rfl
       |some B=>exact al7 (hX.good.lt hx) (Nat.lt_irrefl _)
      show rest.wp P _ _ _;refine aji (K:=λa w'=>TS w.heap.size k' fn.ntmps a/\Dj P g I w vs cs' L ty pid w') hp (λa w' hK=>?_) (hr (hX.quiet hF) h4 (by omega) ts (heap_alloc_new w _) hgk (λa' w' ts' hp'=>⟨ts',Dj.trans hF.any (λ_ _=>rfl) hp'⟩));obtain⟨ts',hP⟩:=hK;split at h5
      ·rename_i z1 z2 l4;split at h5
       ·rename_i t t' g4 d4 p4 g5 d5 p5;simp only[ah,akg,ahm]at h5;obtain⟨e5,htm⟩:=h5;rw[e5]at p5;rw[l4];refine uX (v:=.int .i64 k') (w':=w') g4 (by unfold execOp;rw[p4];exact anr (λv=>og (nG v) w') ts'.cnt) ?_;rw[d4];have e2:(a.put (some t) (.int .i64 k')).tmps.getD t undef = .int .i64 k':=gB (by rw[ts'.size];exact htm);refine uX (v:=.int .i64 k') (w':=w') g5 (by unfold execOp;rw[p5];exact anr (λv=>og (nG v) w') e2) ?_;rw[d5];refine⟨ts'.defers,.int .i64 k',?_,rfl,hP⟩;have e3:((a.put (some t) (.int .i64 k')).put (some 4) (.int .i64 k')).tmps.getD 4 undef = .int .i64 k':=gB (by simp[jC,ts'.size];omega);split at h3
        ·rename_i er;have e4:fn.results = #[.tmp 4]:=(by apply Array.toList_inj.1;rw[er]);rw[LZ,e4];simp[U8,e3]
        ·cases h3
       ·cases h5
      ·cases h5
     ·cases h2
    ·cases h1
   ·cases h1
  ·cases hc
 ·cases hc
theorem Hy {P:Program}{ET:Nat}{mt:D6}{sb:Y5}{tx:Int->List UInt8}(hall:∀f,(mt f).isSome=true->Zn P ET mt f=true)(hst:∀f,(sb f).isSome=true->afV P sb f=true)(ht:JF P ET tx)
 {ty:Nat->Nat} {steps:List Stp} {cs cs':List Cell} {k k':Int} (h:SR mt sb tx ty steps cs k cs' k'):alJ P ty steps cs k cs' k':=by
 induction h with
 | nil=>
   intro g I0 I w vs L pid hX m kx rs e a Q hc hm ts hw hg hk
   match rs,hc with
   |[],_=>exact hk a w ts (Dj.refl hX)
 | @sl ty o g r cs cs' c c1 k k1 k2 hc0 hT hmk _ ih=>
   intro gh I0 I w vs L pid hX m kx rs e a Q hc hm ts hw hg hk
   match rs,hc with
   | x::rs,hc=>
     simp only[XD,ah]at hc;have hsl:(∃sz es,c = .sl sz es)/\∃sz es,c1 = .sl sz es:=by cases hmk with|c _ _ _=>exact⟨⟨_,_,rfl⟩,_,_,rfl⟩
     obtain⟨⟨sz',es,rfl⟩,hc1⟩:=hsl;have ho:o<vs.length:=(by rw[hX.len];exact(aK.1 hc0).1);have hv:=ax ho;have hoL:=hX.isl _ _ _ hc0;have hC:=(abI hall ht hmk).1;refine UT (Q:=Exit.then (DJ P Q rs) Q) hc.1 ts hm hw (x:=vs[o]) hv (k1:=k1) (R:=λw'=>Dj P gh I w vs (cs.set o c1) L ty pid w') ?_ (λa' w' ts' hP=>?_)
     ·refine(hC gh I0 I w (ty o) (pid o) _ hT hX.good hX.tabs hX.MO hX.old hX.ag (hX.own o hoL _ hv) (hX.root o hoL) (hX.rd o _ _ hv hc0) (hX.typ o _ _ hc0)).mono ?_;rintro e w' ⟨rfl,hp⟩;exact⟨rfl,hX.slice hc0 hv hc1 hp⟩
     ·obtain⟨J,hX2,hJ⟩:=Dj.next hX hP;refine ih (e:=e) hX2 hc.2 hm ts' ?_ hg (λa2 w2 ts2 hP2=>hk a2 w2 ts2 (Dj.trans hP.Be hJ hP2));rw[hP.Be.block kx (xN hw) (λ⟨j,_,hu⟩=>by obtain⟨T2,p,h2⟩:=hu.owned;rw[hg]at h2;cases h2)];exact hw
 | @st ty o sz g r steps cs cs2 cs' k k1 k2 hs hl _ hl2 _ ih1 ih2=>
   intro gh I0 I w vs L pid hX m kx rs e a Q hc hm ts hw hg hk
   match rs,hc with
   | x::rs,hc=>
     simp only[XD,ah]at hc;have hF:ML P g (λj=>ty (o+j)) ((cs.drop o).take sz) k cs2 k1:=BL (hst g (by rw[hs];rfl)) hs ih1;refine UT (Q:=Exit.then (DJ P Q rs) Q) hc.1 ts hm hw (x:=.agg ((vs.drop o).take sz).toArray) (by simp only[Stp.arg];rw[ahl (by rw[hX.len];exact hl)]) (k1:=k1) (R:=λw'=>Dj P gh I w vs (cs.take o++cs2++cs.drop (o+sz)) L ty pid w') ?_ (λa' w' ts' hP=>?_)
     ·refine(hF (hX.part hl)).mono ?_;rintro e w' ⟨rfl,hp⟩;exact⟨rfl,hX.anq hl hl2 hp⟩
     ·obtain⟨J,hX2,hJ⟩:=Dj.next hX hP;refine ih2 (e:=e) hX2 hc.2 hm ts' ?_ hg (λa2 w2 ts2 hP2=>hk a2 w2 ts2 (Dj.trans hP.Be hJ hP2));rw[hP.Be.block kx (xN hw) (λ⟨j,_,hu⟩=>by obtain⟨T2,p,h2⟩:=hu.owned;rw[hg]at h2;cases h2)];exact hw
end
section
def takeA : Nat->bU->bU
 |n+1,.seq x y=>.seq x (takeA n y)
 |_,_=>.skip
def Ce : Nat->bU->bU
 |n+1,.seq _ y=>Ce n y
 |_,c=>c
def BC : Nat->Code->Code
 |n+1,.seq _ b=>BC n b
 |_,c=>c
def DD (P:Program)(pl:List Nat):Nat->Code->bU->List OF->Option (List OF)
 |0,_,_,Γ =>some Γ
 | n+1,.seq a b,.seq x y,Γ =>(match oC P pl (λ_=>true) a x Γ with
   |some (some MX,_)=>DD P pl n b y MX
   |_=>none)
 |_,_,_,_=>none
def QA (K R:fH->Prop):AQ
 |.normal,st=>K st
 |.ret,st=>R st
 |.exit _,_=>False
section
variable {P:Program} {E:Env P} {N:Nat} {g0:Own} {dp:Nat} {pa:List (Nat×Value)} {pl:List Nat}
theorem JJ (hm:E.m<=10)(hpl:∀e,e∈pa->e.1∈pl){K R:fH->Prop}{Q:Exit->Act->World->Prop} : ∀{n:Nat} {c:Code} {ac:bU} {Γ CX:List OF} {a:Act} {w:World},uO P N E.m c ac=true->DD P pl n c ac Γ = some CX ->
 AO E g0 pa dp N (wpC P (takeA n ac) (QA K R)) Γ a w->(∀a w,AO E g0 pa dp N K CX a w->(BC n c).wp P Q a w)->(∀a w,AK E N R a w->Q .ret a w)->c.wp P Q a w
 | 0,c,ac,Γ,CX,a,w,hc,ho,h,hk,hr=>by simp only[DD,aC]at ho;subst ho;exact hk a w (by simpa[takeA,wpC,QA]using h)
 | n+1,c,ac,Γ,CX,a,w,hc,ho,h,hk,hr=>by
   cases c<;>cases ac<;>try(simp[DD]at ho;done)
   rename_i p q x y;simp only[uO,ah]at hc;simp only[DD]at ho;split at ho
   ·rename_i MX xs hq;have h':AO E g0 pa dp N (wpC P x (wX.then (wpC P (takeA n y) (QA K R)) (QA K R))) Γ a w:=h;refine wp_seq (wp_mono (xH hm hpl hc.1 hq h') λe a' w' he=>?_);cases e with
    | normal=>obtain⟨Γ2,e1,h2⟩:=he;cases e1;exact JJ hm hpl hc.2 ho h2 hk hr
    | ret=>obtain⟨Γ2,_,h2⟩:=he;exact hr a' w' h2.1.1
    | exit id=>obtain⟨Γ2,_,h2⟩:=he;obtain⟨_,_,_,h3,_⟩:=h2.1.1;exact h3.elim
    |goto l=>exact he.elim
    |panic ch=>exact he.elim
    |outgrown=>exact he.elim
   ·cases ho
end
def VE : Ren:=λ_=>none
def aaF (J:IH)(a:Act)(ts:List (Nat×Slot)):Prop:=∀t s,(t,s)∈ts->XV J VE (a.tmps.getD t undef) s
theorem aaF.mono {I J:IH}{a:Act}{ts:List (Nat×Slot)}(h:aaF I a ts)(hle:I.le J):aaF J a ts:=λt s hs=>(h t s hs).mono hle (λ_ _ h=>h)
theorem YG : ∀{ts:List (Nat×Slot)} {t:Nat},BF ts t = .none\/(t,BF ts t)∈ts
 |[],t=>.inl rfl
 | (x,s)::r,t=>by
   simp only[BF];by_cases h:x=t
   ·subst h;simp
   ·rw[ahk h];rcases YG (ts:=r) (t:=t)with h2|h2
    ·exact .inl h2
    ·exact .inr (dY _ h2)
noncomputable def IH.with (I:IH)(w:World)(V:Nat->Prop):IH:=λk=>open Classical in if V k then(match w.heap[k]? with
 |some (.cells c _ _)=>some c
 |_=>I k)else I k
theorem Gi {I:IH}{w:World}{V:Nat->Prop}{k:Nat}{c:Array Value}{e:TypeId}{fr:Nat×Nat}(hk:V k)(hw:w.heap[k]? = some (.cells c e fr)):I.with w V k=some c:=by unfold IH.with;rw[ahl hk,hw]
theorem Hg {I:IH}{w:World}{V:Nat->Prop}(hA:Agree I w):I.le (I.with w V):=λk c h=>by
 obtain⟨e,fr,hw⟩:=hA k c h;unfold IH.with
 split
 ·rw[hw]
 ·exact h
theorem BP {I:IH}{w:World}{V:Nat->Prop}(hA:Agree I w):Agree (I.with w V) w:=λk c h=>by
 unfold IH.with at h;split at h
 ·split at h
  ·rename_i c' e fr hw;cases h;exact⟨e,fr,hw⟩
  ·exact hA k c h
 ·exact hA k c h
section
variable {P:Program} {N:Nat} {a:Act} {w:World} {J:IH}
abbrev E1 (w:World)(J:IH)(hT:Tabs P J):Env P:=⟨w,J,λk=>∃b,(CO ([]:List Box) b).uses (VE b) k,VE,([]:List Box).length,hT⟩
theorem aia (hT:Tabs P J)(hA:Agree J w){ts:List (Nat×Slot)}(hs:aaF J a ts)(hn:a.tmps.size=N)(hd:a.defers=[]):GX (E1 w J hT) J VE N (fH.of ts []) a w where
 agree:=hA
 bx:=⟨λb=>by rw[Ff];exact rfl,λb b' k h _=>by rw[Ff]at h;exact h.elim,λb k h=>by rw[Ff]at h;exact h.elim⟩
 tm:=λt _=>by
  rw[KT];rcases YG (ts:=ts) (t:=t)with h|h
  ·rw[h];trivial
  ·exact hs t _ h
 size:=hn
 defers:=hd
 Be:=Dp.refl _ _
 own:=λb k h=>by rw[Ff]at h;exact h.elim
 Jw:=IH.le_refl _
 Jg:=λ_ _ _=>rfl
 yS:=λb hb=>al7 hb (Nat.not_lt_zero b)
theorem adp {w':World}{hT:Tabs P J}(h:Dp w w' (E1 w J hT).M):Dp w w' λ_=>False:=⟨h.os,h.tape,h.output,h.size,λk hk _=>h.block k hk (by rintro⟨b,hb⟩;exact hb)⟩
def UL : Own:=⟨λ_=>none,λ_=>0⟩
theorem Z4 {dp:Nat} : OW P FV UL dp [] a w:=⟨⟨λk T p h=>(by cases h),λk row d b h=>(by cases h)⟩,λf hf=>(by cases hf)⟩
end
theorem YR {P:Program}{f:FuncId}{args:List AV}(hk:X7 f true=true)(h:∀(I:IH) (w:World) (vs:List Value),Tabs P I->Agree I w->VL I VE vs args->Calls P f vs.toArray w λe w'=>e = .returned (.bool true)/\Dp w w' λ_=>False):dI P f args (vz true):=by
 refine oV.of0 hk λI ρ w vs hT hA hB hV=>?_;have hρ:ρ=VE:=by
  funext b
  have:=hB.ok b;exact this
 subst hρ;refine(h I w vs hT hA hV).mono ?_;rintro e w' ⟨rfl,hF⟩;refine⟨.bool true,I,VE,_,_,rfl,⟨rfl,rfl⟩,Rd.lit _ rfl,hA.quiet hF,⟨λb=>rfl,λb b' k h=>h.elim,λb k h=>h.elim⟩,IH.le_refl I,hF.any,λb k h=>h.elim,λ_ _ _=>rfl,λ_ _=>rfl⟩
theorem ak0 {P:Program}{Q:Exit->Act->World->Prop}{id:Nat}{ops:Array Oper}{c r:Code}{a:Act}{w:World}(h:c = .seq (.region id ops false) r)(hw:(CZ id ops false).wp P (Exit.then (r.wp P Q) Q) a w):c.wp P Q a w:=by subst h;exact wp_seq hw
end
def adL (P:Program)(N:Nat):List Oper->Option (Option Nat×Nat×Nat×Nat×List Nat)
 | [o1,o2,o3,o4]=>(match o1.guard,o1.dst,o2.guard,o2.dst,o2.op with
   | none,some t1,none,some t2,.move (.tmp y)=>(match o3.guard,o3.dst,o3.op,o4.guard,o4.dst,o4.op with
     | none,some t3,.call ⟨.value (.func f),⟨[.tmp u1,.tmp u2]⟩,_⟩,none,some y',.assign (.tmp u3)=>
       if u1=t1/\u2=t2/\u3=t3/\y'=y/\t1≠t2/\y≠t1/\t1<N/\t2<N/\t3<N/\y<N/\yO P f=true then(match o1.op with
        | .load t (.tmp x)=>(match P.info? t with
          |some i=>if Nc P t true i.size=true then some (some i.size,x,y,f,[t1,t2,t3,y])else none
          |none=>none)
        |.move (.tmp x)=>some (none,x,y,f,[t1,t2,t3,y])
        |_=>none)
       else none
     |_,_,_,_,_,_=>none)
   |_,_,_,_,_=>none)
 |_=>none
def Held (a:Act)(w:World)(x:Nat)(vs:List Value):Option Nat->Prop
 |some sz=>∃kx e,a.tmps.getD x undef = .pointer (some ⟨kx,0,none⟩)/\w.heap[kx]? = some (.cells vs.toArray e (0,0))/\vs.length=sz
 |none=>∃v,vs=[v]/\a.tmps.getD x undef=v
def Px (vs:List Value):Option Nat->Value
 |some _=>.agg vs.toArray
 |none=>vs.headD undef
theorem agA {P:Program}{N id x y f:Nat}{k k':Int}{s:Option Nat}{tms:List Nat}{ops:Array Oper}{Q:Exit->Act->World->Prop}{a:Act}{w:World}{vs:List Value}{R:World->Prop}(hm:adL P N ops.toList=some (s,x,y,f,tms))(hN:a.tmps.size=N)(hd:a.defers=[])
 (hv:Held a w x vs s) (hk:a.tmps.getD y undef = .int .i64 k) (hcall:Calls P f #[Px vs s,.int .i64 k] w λe w'=>e = .returned (.int .i64 k')/\R w')
 (hQ:∀a' w',a'.tmps.size=N->a'.defers=[]->a'.tmps.getD y undef = .int .i64 k'->(∀t,t ∉ tms->a'.tmps.getD t undef=a.tmps.getD t undef)->R w'->Q .normal a' w'):(CZ id ops false).wp P Q a w:=by
 refine wp_region_list ?_;generalize ops.toList=os at hm;unfold adL at hm;split at hm
 ·rename_i o1 o2 o3 o4;split at hm
  ·rename_i t1 t2 y' g1 d1 g2 d2 p2;split at hm
   ·rename_i t3 f' u1 u2 ts y2 u3 g3 d3 p3 g4 d4 p4;split at hm
    ·rename_i hc;obtain⟨rfl,rfl,rfl,rfl,n1,n2,l1,l2,l3,l4,hok⟩:=hc;have fin:∀{x0:Nat},(execOp a.eval o1).run P w = .ok (.value (Px vs s)) w->(s,x0,y2,f',[u1,u2,u3,y2])=(s,x,y,f,tms)->wpList P ops Q [o1,o2,o3,o4] a w:=λhr e=>by
      cases e;refine uX g1 hr ?_;rw[d1];refine uX (v:=.int .i64 k) (w':=w) g2 (by unfold execOp;rw[p2];exact anr (λv=>og (nG v) w) ((oK n2).trans hk)) ?_;rw[d2];have v1:((a.put (some u1) (Px vs s)).put (some u2) (.int .i64 k)).eval (.tmp u1)=Px vs s:=(by rw[FQ,oK n1];exact gB (by rw[hN];exact l1));have v2:((a.put (some u1) (Px vs s)).put (some u2) (.int .i64 k)).eval (.tmp u2) = .int .i64 k:=(by rw[FQ];exact gB (by simp[jC,hN];exact l2));have he:=Ht (w:=w) (a:=((a.put (some u1) (Px vs s)).put (some u2) (.int .i64 k))) p3 (x:=.func f) (caps:= #[]) rfl hok;refine O6 g3 (f:=f) (args:= #[Px vs s,.int .i64 k]) (by simpa[v1,v2]using he) (hcall.mono ?_);rintro e w' ⟨rfl,hR⟩;refine⟨_,rfl,?_⟩;rw[d3];have v3:(((a.put (some u1) (Px vs s)).put (some u2) (.int .i64 k)).put (some u3) (.int .i64 k')).tmps.getD u3 undef = .int .i64 k':=gB (by simp[jC,hN];exact l3);refine uX (v:=.int .i64 k') (w':=w') g4 (by unfold execOp;rw[p4];exact anr (λv=>og (nG v) w') v3) ?_;rw[d4];refine hQ _ w' (by simp[jC,hN]) hd (gB (by simp[jC,hN];exact l4)) (λt ht=>?_) hR;simp only[ay,List.not_mem_nil,or_false,not_or]at ht;rw[oK ht.2.2.2,oK ht.2.2.1,oK ht.2.1,oK ht.1]
     split at hm
     ·rename_i t x0 p1;split at hm
      ·rename_i i hi;split at hm
       ·rename_i hty;have e:s=some i.size/\x0=x:=by cases hm;exact⟨rfl,rfl⟩
        obtain⟨rfl,rfl⟩:=e;obtain⟨kx,e,h1,h2,h3⟩:=hv;refine fin (x0:=x0) ?_ (by simpa using hm);obtain⟨q1,q2⟩:=IY hty w;have q3:=run_loadCells_list (P:=P) w ⟨kx,0,none⟩ vs (λj u hu=>by rw[Addr.tJ,eU];simp only[gI,h2];simpa using hu)
        rw[h3]at q3;have v1:a.eval (.tmp x0) = .pointer (some ⟨kx,0,none⟩):=h1;simp[execOp,p1,v1,kJ,qj,loadVar,q1,q2,q3,Px]
       ·cases hm
      ·cases hm
     ·rename_i x0 p1;have e:s=none/\x0=x:=by cases hm;exact⟨rfl,rfl⟩
      obtain⟨rfl,rfl⟩:=e;obtain⟨v,rfl,h1⟩:=hv;refine fin (x0:=x0) ?_ (by simpa using hm);unfold execOp;rw[p1];exact anr (λv=>og (nG v) w) h1
     ·cases hm
    ·cases hm
   ·cases hm
  ·cases hm
 ·cases hm
section
section
variable {P:Program} {E:Env P} {I I0 J:IH} {ρ:Ren} {N dp:Nat} {st:fH} {a:Act} {w w':World} {g:Own} {Γ : List OF}
theorem aeH {I:IH}{ρ:Ren}{cells:Array Value}{xs:List AC}{cs:List Cell}(hxs:xs=cs.map .c)(hg:∀(j:Nat) (u:Value) (x:AC),cells[j]? = some u->xs[j]? = some x->GC I ρ u x)(j:Nat)(v:Value)(c:Cell)(hv:cells.toList[j]? = some v)(hc:cs[j]? = some c):Rd I v c:=
 hg j v (.c c) (by simpa using hv) (by rw[hxs,List.getElem?_map,hc];rfl)
theorem Fp (hG:GX E I ρ N st a w)(hO:OW P FV g dp Γ a w){x b:Nat}{xs:List AC}{cs:List Cell}{rows:List (Nat×Nat×Nat)}(hx:x<N)(htm:st.tm x = .v true (.one (.ptr b 0)))(hb:st.bx b = .var xs)(hxs:xs=cs.map .c)(hvp:OF.vp x x 0 ∈ Γ)
 (hr:∀r,r∈rows->OF.row x ⟨r.1,r.2.1,r.2.2⟩ ∈ Γ) :
 ∃ (kx:Nat) (vs:List Value) (e:TypeId),a.tmps.getD x undef = .pointer (some ⟨kx,0,none⟩)/\w.heap[kx]? = some (.cells vs.toArray e (0,0))/\vs.length=cs.length/\(∀(j:Nat) (v:Value) (c:Cell),vs[j]? = some v->cs[j]? = some c->Rd I v c) /\
   (∃row d b,g kx=some (.var row d b))/\∀r,r∈rows->∀v,vs[r.1]? = some v->GR g v r.2.1 (.tag dp r.2.2):=by
 obtain⟨kx,row,h1,_,h2⟩:=hO.fs _ hvp;have h3:=hG.tm x hx;rw[htm]at h3;obtain⟨k,cap,h4,h5⟩:=h3.1 rfl;have h6:=hG.bx.ok b;rw[hb]at h6;obtain⟨k',cap',cells,h7,h8,h9,h10⟩:=h6;rw[h4]at h7;cases h7;rw[h1]at h5;cases h5;refine⟨kx,cells.toList,_,h1,by simpa using h8,by rw[mY,h9,hxs];simp,λj v c hv hc=>aeH hxs h10 j v c hv hc,⟨_,_,_,h2⟩,λr hrr v hv=>?_⟩;obtain⟨k2,Pn,q1,q2,q3⟩:=hO.fs _ (hr r hrr);rw[h1]at q1;cases q1;obtain⟨cells2,e2,q4,q5⟩:=hO.good.var _ _ _ _ q2;rw[h8]at q4;cases q4;obtain⟨u,q6,q7⟩:=q5 _ q3;rw[show cells.toList[r.1]? = cells[r.1]? by simp,q6]at hv;cases hv;exact q7
def tyR (rows:List (Nat×Nat×Nat))(j:Nat):Nat:=match rows.find? (λr=>r.1==j)with
 |some r=>r.2.1
 |none=>0
def aab (dp:Nat)(rows:List (Nat×Nat×Nat))(j:Nat):yE:=match rows.find? (λr=>r.1==j)with
 |some r=>.tag dp r.2.2
 |none=>.dead
def Qo (rows:List (Nat×Nat×Nat)):Bool:=Jk (rows.map (·.1))&&Jk (rows.map (·.2.2))
theorem Je {rows:List (Nat×Nat×Nat)}(h:Qo rows=true){r:Nat×Nat×Nat}(hr:r∈rows):rows.find? (λq=>q.1==r.1)=some r:=by
 unfold Qo at h;simp only[ah]at h;have hn:=Jl h.1;clear h
 induction rows with
 |nil=>cases hr
 | cons q rows ih=>
   simp only[aZ,zy]at hn;rw[List.find?_cons];rcases ay.1 hr with rfl|hr
   ·simp
   ·have:(q.1==r.1)=false:=by
     simp only[beq_eq_false_iff_ne,ne_eq];intro e;exact hn.1 (e▸aS.2 ⟨r,hr,rfl⟩)
    rw[this];exact ih hr hn.2
theorem aly {rows:List (Nat×Nat×Nat)}(h:Qo rows=true){r q:Nat×Nat×Nat}(hr:r∈rows)(hq:q∈rows)(e:r.2.2=q.2.2):r=q:=by
 unfold Qo at h;simp only[ah]at h;have hn:=Jl h.2;clear h
 induction rows with
 |nil=>cases hr
 | cons z rows ih=>
   simp only[aZ,zy]at hn;rcases ay.1 hr with e1|hr'<;>rcases ay.1 hq with e2|hq'
   ·rw[e1,e2]
   ·subst e1;exact al7 (show _∈rows.map (·.2.2)from aS.2 ⟨q,hq',e.symm⟩) hn.1
   ·subst e2;exact al7 (show _∈rows.map (·.2.2)from aS.2 ⟨r,hr',e⟩) hn.1
   ·exact ih hr' hq' hn.2
theorem MW (hg:Good P g w)(hT:Tabs P I0)(hA0:Agree I0 w)(hold:∀b c,I0 b=some c->g b=none)(hA:Agree I w){vs:List Value}{cs:List Cell}(hlen:vs.length=cs.length)(hrd:∀(j:Nat) (v:Value) (c:Cell),vs[j]? = some v->cs[j]? = some c->Rd I v c)
 {rows:List (Nat×Nat×Nat)} (hok:Qo rows=true) (hgr:∀r,r∈rows->∀v,vs[r.1]? = some v->GR g v r.2.1 (.tag dp r.2.2)) (hcov:∀(j sz:Nat) (es:List (List Cell)),cs[j]? = some (.sl sz es)->∃r,r∈rows/\r.1=j/\OD P r.2.1 (.sl sz es)) :
 SX P g I0 I w vs cs (rows.map (·.1)) (tyR rows) (aab dp rows) where
 good:=hg
 tabs:=hT
 MO:=hA0
 old:=hold
 ag:=hA
 len:=hlen
 rd:=hrd
 isl:=λj sz es h=>by obtain⟨r,h1,h2,_⟩:=hcov j sz es h;exact aS.2 ⟨r,h1,h2⟩
 own:=λj hj v hv=>by obtain⟨r,h1,rfl⟩:=aS.1 hj;simp only[tyR,aab,Je hok h1];exact hgr r h1 v hv
 root:=λj hj=>by obtain⟨r,h1,rfl⟩:=aS.1 hj;simp only[aab,Je hok h1];exact .inl ⟨_,_,rfl⟩
 typ:=λj sz es h=>by obtain⟨r,h1,rfl,h2⟩:=hcov j sz es h;simp only[tyR,Je hok h1];exact h2
 dis:=λi j b hi hj h1 h2=>by obtain⟨r,q1,rfl⟩:=aS.1 hi;obtain⟨q,q2,rfl⟩:=aS.1 hj;simp only[aab,Je hok q1]at h1;simp only[aab,Je hok q2]at h2;rw[aly hok q1 q2 (h1.ajK h2).2]
theorem apart {rA rB:List (Nat×Nat×Nat)}(hA:Qo rA=true)(hB:Qo rB=true)(h:∀r,r∈rA->∀q,q∈rB->r.2.2≠q.2.2)(i:Nat)(hi:i∈rA.map (·.1))(j:Nat)(hj:j∈rB.map (·.1))(b:Nat)(h1:Under g (aab dp rA i) b):¬Under g (aab dp rB j) b:=λh2=>by obtain⟨r,q1,rfl⟩:=aS.1 hi;obtain⟨q,q2,rfl⟩:=aS.1 hj;simp only[aab,Je hA q1]at h1;simp only[aab,Je hB q2]at h2;exact h r q1 q q2 (h1.ajK h2).2
theorem SX.keep {vs:List Value}{cs:List Cell}{L LA:List Nat}{ty:Nat->Nat}{pid ajj:Nat->yE}(h:SX P g I0 I w vs cs L ty pid)(hg:Good P g w')(hF:Dp w w' λb=>∃j,j∈LA/\Under g (ajj j) b)(hA:Agree J w')(hJ:∀b,(∀j,j∈LA->¬Under g (ajj j) b)->J b=I b)
 (hd:∀i,i∈LA->∀j,j∈L->∀b,Under g (ajj i) b->¬Under g (pid j) b):SX P g I0 J w' vs cs L ty pid:=
 { h with
   good:=hg
   MO:=h.MO.other λb c hb=>hF.block b (h.MO.lt hb) (by rintro⟨j,_,hu⟩;obtain⟨T2,p,h2⟩:=hu.owned;have:=h.old b c hb;rw[h2]at this;cases this)
   ag:=hA
   rd:=λj v c hv hc=>by
    have hr:=h.rd j v c hv hc;cases c with
    |lit _=>exact hr.Rj
    |str _=>exact hr.RX
    | sl sz es=>have hj:=h.isl _ _ _ hc;exact hr.under h.good h.ag (h.own j hj v hv) (h.typ _ _ _ hc) λb hb=>hJ b λi hi h2=>hd i hi j hj b h2 hb }
theorem am8 {IA:IH}{LA:List Nat}{ajj:Nat->yE}(hold:∀b c,IA b=some c->g b=none)(hle:IA.le I)(hJ:∀b,(∀j,j∈LA->¬Under g (ajj j) b)->J b=I b):IA.le J:=λb c h=>by
 rw[hJ b (λj _ hu=>by obtain⟨T2,p,h2⟩:=hu.owned;have:=hold b c h;rw[h2]at this;cases this)]
 exact hle b c h
theorem D5 {kx:Nat}{vs:List Value}{cs:List Cell}{x:Nat}(h1:a.tmps.getD x undef = .pointer (some ⟨kx,0,none⟩))(h2:J kx=some vs.toArray)(hl:vs.length=cs.length)(hrd:∀(j:Nat) (v:Value) (c:Cell),vs[j]? = some v->cs[j]? = some c->Rd J v c) :
 XV J VE (a.tmps.getD x undef) (.v true (.one (.Gu cs))):=by
 refine⟨λ_=>⟨⟨kx,0,none⟩,h1,λj c hc=>?_⟩,λe=>by cases e⟩;have hj:j<vs.length:=by rw[hl];exact(aK.1 hc).1
 refine⟨vs[j],?_,hrd j _ c (ax hj) hc⟩;rw[Addr.tJ,eU];unfold IH.cell;simp[h2,hj]
def aer (ρ:Ren)(st:fH)(k:Nat):Prop:=∃b xs cap,st.bx b = .var xs/\ρ b=some (k,cap)
theorem Hw (hG:GX E I ρ N st a w){x b:Nat}{xs:List AC}{cs:List Cell}(hx:x<N)(htm:st.tm x = .v true (.one (.ptr b 0)))(hb:st.bx b = .var xs)(hxs:xs=cs.map .c):XV (I.with w (aer ρ st)) VE (a.tmps.getD x undef) (.v true (.one (.Gu cs))):=by have h3:=hG.tm x hx;rw[htm]at h3;obtain⟨k,cap,h4,h5⟩:=h3.1 rfl;have h6:=hG.bx.ok b;rw[hb]at h6;obtain⟨k',cap',cells,h7,h8,h9,h10⟩:=h6;rw[h4]at h7;cases h7;exact D5 (vs:=cells.toList) h5 (by rw[Gi ⟨b,xs,_,hb,h4⟩ h8]) (by rw[mY,h9,hxs];simp) λj v c hv hc=>(aeH hxs h10 j v c hv hc).mono (Hg hG.agree)
end
end
section
abbrev RL : fH->Prop:=MJ [.tmp 4] 0 (λr bs=>r=vz true/\bs=[])
abbrev Bd (P:Program)(fn:Func)(w0:World):Exit->Act->World->Prop:=bodyPost P fn λe w'=>e = .returned (.bool true)/\Dp w0 w' λ_=>False
structure VI (K:fH->Prop)(S:fH):Prop where
 f:K S
section
variable {P:Program} {fn:Func} {w0 w w' wA:World} {I J JA:IH} {a a':Act} {g:Own} {c:Code} {ac:bU}
theorem Ri (hcr:Dv P fn.ntmps fn.results.toList [.tmp 4]=true){hT:Tabs P J}(hF:Dp w0 w λ_=>False)(h:AK (E1 w J hT) fn.ntmps RL a w'):Bd P fn w0 .ret a w':=by obtain⟨h1,v,h2,v',J',σ,r,bs,e,⟨rfl,rfl⟩,h3,_,_,_,h4,_⟩:=Vs (fp:=[]) hcr h;refine⟨h1,v,h2,?_,hF.trans (adp (hT:=hT) h4) λ_ _ h=>h⟩;cases e;cases h3;rfl
structure Mid (P:Program)(N:Nat)(w0:World)(J:IH)(ts:List (Nat×Slot))(a:Act)(w:World):Prop where
 tabs:Tabs P J
 ag:Agree J w
 sl:aaF J a ts
 size:a.tmps.size=N
 defers:a.defers=[]
 Be:Dp w0 w λ_=>False
structure Aft (P:Program)(N:Nat)(w0 wA:World)(JA:IH)(I:IH)(ρ:Ren)(g:Own)(pa:List (Nat×Value))(Γ : List OF)(st:fH)(a:Act)(w:World):Prop where
 tabs:Tabs P JA
 gx:∃hT:Tabs P JA,GX (E1 wA JA hT) I ρ N st a w
 ow:OW P FV g 0 Γ a w
 new:∀k,k<wA.heap.size->g k=none
 old:∀b c,JA b=some c->g b=none
 MO:Agree JA w
 ag:Agree I w
 pa:PA pa a
 LD:Dp wA w λ_=>False
 Be:Dp w0 w λ_=>False
 Jw:JA.le I
theorem Ry {N:Nat}(h:Rel 0 N UL g)(k:Nat)(hk:k<N):g k=none:=by
 cases hx:g k with
 |none=>rfl
 |some B=>obtain⟨B',h1,_⟩:=h.old k B hk hx;cases h1
theorem IW (hcr:Dv P fn.ntmps fn.results.toList [.tmp 4]=true){ts:List (Nat×Slot)}{S:fH}{pa:List (Nat×Value)}{pl:List Nat}{n:Nat}{Γ : List OF}(h:Mid P fn.ntmps w0 JA ts a wA)(hpl:∀e,e∈pa->e.1∈pl)(hpa:PA pa a)
 (hc:uO P fn.ntmps 0 c ac=true) (ho:DD P pl n c ac []=some Γ) (hw:∀K,VI K S->wpC P (takeA n ac) (QA K RL) (fH.of ts []))
 (hk:∀{I ρ g a w},Aft P fn.ntmps w0 wA JA I ρ g pa Γ S a w->(BC n c).wp P (Bd P fn w0) a w):c.wp P (Bd P fn w0) a wA:=by
 have hG:=aia h.tabs h.ag h.sl h.size h.defers;refine JJ (E:=E1 wA JA h.tabs) (g0:=UL) (dp:=0) (pa:=pa) (K:=λst=>st=S) (R:=RL) (nY 10) hpl hc ho ⟨⟨⟨JA,VE,_,hw _ ⟨rfl⟩,hG⟩,⟨UL,Rel.refl _ _ _,Z4⟩⟩,hpa⟩ (λa w hA=>?_) λa w hA=>Ri hcr h.Be hA;obtain⟨⟨⟨I,ρ,st,rfl,hG⟩,g,hR,hO⟩,hPA⟩:=hA;have hF:=adp hG.Be;refine hk ⟨h.tabs,⟨_,hG⟩,hO,Ry hR,λb c hb=>Ry hR b (h.ag.lt hb),h.ag.quiet hF,hG.agree,hPA,hF,h.Be.trans hF λ_ _ h=>h,hG.Jw⟩
theorem WS (hcr:Dv P fn.ntmps fn.results.toList [.tmp 4]=true){ts:List (Nat×Slot)}(h:Mid P fn.ntmps w0 J ts a w)(hc:uO P fn.ntmps 0 c ac=true)(hw:wpC P ac (QF [.tmp 4] 0 (λr bs=>r=vz true/\bs=[])) (fH.of ts [])):c.wp P (Bd P fn w0) a w:=by
 have hG:=aia h.tabs h.ag h.sl h.size h.defers;refine wp_mono (yP (E:=E1 w J h.tabs) (nY 10) hc ⟨J,VE,_,hw,hG⟩) λe a w' hq=>?_;cases e with
 |normal=>exact Ri hcr h.Be hq
 |ret=>exact Ri hcr h.Be hq
 |exit id=>obtain⟨_,_,_,h,_⟩:=hq;exact h.elim
 |goto l=>exact hq.elim
 |panic ch=>exact hq.elim
 |outgrown=>exact hq.elim
theorem TM {f:FuncId}{args:List AV}(hf:P.funcs[f]? = some fn)(hb:fn.body=some c)(hk:X7 f true=true)(hl:args.length<=fn.ntmps)(hcr:Dv P fn.ntmps fn.results.toList [.tmp 4]=true){S:fH}{n:Nat}{Γ : List OF}(hc:uO P fn.ntmps 0 c ac=true)(ho:DD P [] n c ac []=some Γ)
 (hw:∀K,VI K S->wpC P (takeA n ac) (QA K RL) (st0 args []))
 (hk':∀{w0 wA JA I ρ g a w},Aft P fn.ntmps w0 wA JA I ρ g [] Γ S a w->(BC n c).wp P (Bd P fn w0) a w):dI P f args (vz true):=by
 refine YR hk λI w vs hT hA hV=>?_;have hB:BX I VE w (CO []):=ZW I w;have hG:=OO (fn:=fn) hl hT hA hB hV;refine calls_of_wp hf hb ?_;refine JJ (E:=E1 w I hT) (g0:=UL) (dp:=0) (pa:=[]) (K:=λst=>st=S) (R:=RL) (nY 10) (λe he=>by cases he) hc ho ⟨⟨⟨I,VE,_,hw _ ⟨rfl⟩,hG⟩,⟨UL,Rel.refl _ _ _,Z4⟩⟩,λe he=>by cases he⟩ (λa w' hA'=>?_) λa w' hA'=>Ri hcr (Dp.refl _ _) hA';obtain⟨⟨⟨I',ρ,st,rfl,hG⟩,g,hR,hO⟩,hPA⟩:=hA';have hF:=adp hG.Be;exact hk' ⟨hT,⟨_,hG⟩,hO,Ry hR,λb c hb=>Ry hR b (hA.lt hb),hA.quiet hF,hG.agree,hPA,hF,hF,hG.Jw⟩
theorem TL {f:FuncId}{args:List AV}(hf:P.funcs[f]? = some fn)(hb:fn.body=some c)(hk:X7 f true=true)(hl:args.length<=fn.ntmps)(hcr:Dv P fn.ntmps fn.results.toList [.tmp 4]=true){n:Nat}{Γ : List OF}(hc:uO P fn.ntmps 0 c ac=true)(ho:DD P [] n c ac []=some Γ)
 (hw:wpC P (takeA n ac) (QA (λ_=>False) RL) (st0 args [])):dI P f args (vz true):=by
 refine YR hk λI w vs hT hA hV=>?_;have hG:=OO (fn:=fn) hl hT hA (ZW I w) hV;refine calls_of_wp hf hb ?_;refine JJ (E:=E1 w I hT) (g0:=UL) (dp:=0) (pa:=[]) (K:=λ_=>False) (R:=RL) (nY 10) (λe he=>by cases he) hc ho ⟨⟨⟨I,VE,_,hw,hG⟩,⟨UL,Rel.refl _ _ _,Z4⟩⟩,λe he=>by cases he⟩ (λa w' hA'=>?_) λa w' hA'=>Ri hcr (Dp.refl _ _) hA';obtain⟨⟨⟨I',ρ,st,h,hG⟩,_⟩,hPA⟩:=hA';exact h.elim
structure Mks (P:Program)(N:Nat)(w0 wA:World)(JA J:IH)(g:Own)(a:Act)(w:World):Prop where
 new:∀k,k<wA.heap.size->g k=none
 sz:wA.heap.size<=w.heap.size
 old:∀b c,JA b=some c->g b=none
 Jw:JA.le J
 ag:Agree J w
 size:a.tmps.size=N
 defers:a.defers=[]
 Be:Dp w0 w λ_=>False
 sz0:w0.heap.size<=wA.heap.size
def ahr (P:Program)(s:Option Nat)(f:Nat)(ty:Nat->Nat)(cs:List Cell)(k:Int)(cs':List Cell)(k':Int):Prop:=
 ∀{g:Own} {I0 I:IH} {w:World} {vs:List Value} {L:List Nat} {pid:Nat->yE},SX P g I0 I w vs cs L ty pid->Calls P f #[Px vs s,.int .i64 k] w λe w'=>e = .returned (.int .i64 k')/\Dj P g I w vs cs' L ty pid w'
theorem ML.any {f n:Nat}{ty:Nat->Nat}{cs cs':List Cell}{k k':Int}(h:ML P f ty cs k cs' k'):ahr P (some n) f ty cs k cs' k':=h
def FW (P:Program)(N:Nat):Code->Option (Option Nat×Nat×Nat×Nat×List Nat)
 |.seq (.region _ ops false) _=>adL P N ops.toList
 |_=>none
theorem JO {x kx:Nat}{vs:List Value}{e:TypeId}{n:Nat}(h1:a.tmps.getD x undef = .pointer (some ⟨kx,0,none⟩))(h2:w.heap[kx]? = some (.cells vs.toArray e (0,0)))(h3:vs.length=n):Held a w x vs (some n):=⟨kx,e,h1,h2,h3⟩
theorem Cf {N x y f:Nat}{k k':Int}{s:Option Nat}{tms:List Nat}{Q:Exit->Act->World->Prop}{vs:List Value}{cs cs':List Cell}{L:List Nat}{ty:Nat->Nat}{pid:Nat->yE}
 (hM:Mks P N w0 wA JA J g a w) (hS:SX P g JA J w vs cs L ty pid) (hm:FW P N c=some (s,x,y,f,tms)) (hv:Held a w x vs s) (hk:a.tmps.getD y undef = .int .i64 k) (hf:ahr P s f ty cs k cs' k')
 (hQ:∀{a' w' J'},Mks P N w0 wA JA J' g a' w'->SX P g JA J' w' vs cs' L ty pid->a'.tmps.getD y undef = .int .i64 k'->(∀t,t ∉ tms->a'.tmps.getD t undef=a.tmps.getD t undef) ->
  (∀b row d m,g b=some (.var row d m)->w'.heap[b]? = w.heap[b]?) ->
  (∀{vs2 cs2 L2 ty2 anc},SX P g JA J w vs2 cs2 L2 ty2 anc->(∀i,i∈L->∀j,j∈L2->∀b,Under g (pid i) b->¬Under g (anc j) b)->SX P g JA J' w' vs2 cs2 L2 ty2 anc)->(BC 1 c).wp P Q a' w'):c.wp P Q a w:=by
 unfold FW at hm;split at hm
 case h_2=>cases hm
 refine ak0 rfl (agA (R:=Dj P g J w vs cs' L ty pid) hm hM.size hM.defers hv hk (hf hS) λa' w' h1 h2 h3 h4 hp=>?_);obtain⟨J',hS',hJ'⟩:=Dj.next hS hp;have hF:Dp w w' λb=>wA.heap.size<=b:=⟨hp.Be.os,hp.Be.tape,hp.Be.output,hp.Be.size,λk hk hn=>hp.Be.block k hk (by rintro⟨j,_,hu⟩;obtain⟨T2,p,h2⟩:=hu.owned;rw[hM.new k (by omega)]at h2;cases h2)⟩
 refine hQ ⟨hM.new,bH hM.sz hF.size,hM.old,am8 hM.old hM.Jw hJ',hS'.ag,h1,h2,hM.Be.trans hF λb hb hn=>by have:=hM.sz0;omega,hM.sz0⟩ hS' h3 h4 (λb row d m hb=>hp.Be.block b (by obtain⟨_,e,hw,_⟩:=hS.good.var b row d m hb;exact xN hw) ?_) λh2 hd=>h2.keep hp.good hp.Be hS'.ag hJ' hd
 rintro⟨j,_,hu⟩;obtain⟨T2,p,h2⟩:=hu.owned;rw[hb]at h2;cases h2
end
end
section
def EM (e:TypeId)(v:Value)(l:List UInt8)(w:World):Prop:=
 (v = .slice none 0 0/\l=[])\/∃g cap cs,v = .slice (some ⟨g,0,none⟩) l.length cap/\cap≠0/\l.length<=cap/\cap<=maxLen/\w.heap[g]? = some (.cells cs e (0,0))/\cs.size=cap /\
  (∀(j:Nat) (u:Value),cs[j]? = some u->u.oneCell'=true)/\∀(j:Nat) (x:UInt8),l[j]? = some x->cs[j]? = some (.int .u8 x.toNat)
def VM (w w':World)(v v':Value):Prop:=w.grownBy w' v.ownBlock/\(v'.ownBlock=v.ownBlock\/∃g,v'.ownBlock=some g/\w.heap.size<=g)
section
variable {P:Program} {w:World}
theorem Y9 (l:List UInt8)(j:Nat):(dm l)[j]? = (l[j]?).map λx=>kT .u8 x.toNat:=by simp[dm]
theorem acZ (l:List UInt8):∀u∈dm l,u.oneCell'=true:=λu hu=>by simp[dm]at hu;obtain⟨a,_,rfl⟩:=hu;rfl
theorem acf {e:TypeId}(l:List UInt8)(h0:l≠[])(cap:Nat)(hc:l.length<=cap)(hm:cap<=maxLen)(w0:World)(z:Array Value)(hz:z=(dm l).toArray++bK (kT .u8 0).cells (cap-l.length)) :
 EM e (.slice (some ⟨w0.heap.size,0,none⟩) l.length cap) l (w0.alloc (.cells z e)):=by
 have hl:0<l.length:=oQ.2 h0;have hzs:(bK (kT .u8 0).cells (cap-l.length)).size=cap-l.length:=by rw[size_zeroCells];exact wJ _
 refine .inr ⟨w0.heap.size,cap,z,rfl,by omega,hc,hm,heap_alloc_new w0 _,?_,λj u hu=>?_,λj x hx=>?_⟩
 ·rw[hz,Array.size_append,hzs,List.size_toArray,mF];omega
 ·rw[hz]at hu;rcases dK.1 hu with⟨hj,hu⟩
  have hm:u∈(dm l).toArray++bK (kT .u8 0).cells (cap-l.length):=hu▸Array.getElem_mem hj;rcases Array.mem_append.1 hm with hm|hm
  ·exact acZ l u (by simpa using hm)
  ·simp[bK,Go.Value.cells]at hm;obtain⟨i,_,h⟩:=hm;rw[Nat.mod_one]at h;rw[<- h];rfl
 ·have hj:=(aK.1 hx).1;rw[hz,rU (by simpa[mF]using hj)];simpa[hx]using Y9 l j
theorem acg {e:TypeId}{g cap:Nat}{cs:Array Value}{l s:List UInt8}(hg:w.heap[g]? = some (.cells cs e (0,0)))(hs:cs.size=cap)(hc0:cap≠0)(hm:cap<=maxLen)(h1:∀(j:Nat) (u:Value),cs[j]? = some u->u.oneCell'=true)
 (hb:∀(j:Nat) (x:UInt8),l[j]? = some x->cs[j]? = some (.int .u8 x.toNat)) (hr:l.length+s.length<=cap) :
 EM e (.slice (some ⟨g,0,none⟩) (l++s).length cap) (l++s) (w.setRow g (cs.toList.take l.length++dm s++cs.toList.drop (l.length+s.length)).toArray):=by
 have hlen:(cs.toList.take l.length).length=l.length:=by simp;omega
 refine .inr ⟨g,cap,_,rfl,hc0,by simpa using hr,hm,setRow_heap w g cs _ e _ hg,?_,λj u hu=>?_,λj x hx=>?_⟩
 ·simp[mF];omega
 ·have hm':=List.mem_of_getElem? (show(cs.toList.take l.length++dm s++cs.toList.drop (l.length+s.length))[j]? = some u by simpa using hu);rcases aY.1 hm' with hm'|hm'
  ·rcases aY.1 hm' with hm'|hm'
   ·obtain⟨i,hi⟩:=List.mem_iff_getElem?.1 (List.mem_of_mem_take hm');exact h1 i u (by simpa using hi)
   ·exact acZ s u hm'
  ·obtain⟨i,hi⟩:=List.mem_iff_getElem?.1 (List.mem_of_mem_drop hm');exact h1 i u (by simpa using hi)
 ·have hj:=(aK.1 hx).1;show(cs.toList.take l.length++dm s++cs.toList.drop (l.length+s.length)).toArray[j]? = _;rw[List.getElem?_toArray,gX];by_cases hjl:j<l.length
  ·rw[bF hjl]at hx;rw[bF (by omega),List.getElem?_take,ahl hjl];simpa using hb j x hx
  ·rw[dA (by omega)]at hx;rw[dA (by omega),hlen,bF (by rw[mF];exact(aK.1 hx).1),Y9,hx];rfl
theorem F8 (g n c:Nat):EC (.slice (some ⟨g,0,none⟩) n c)=some g:=rfl
theorem ahy {t u ty e:TypeId}{i:TypeInfo}(ht:P.underlying t=some (.slice e))(hu:P.underlying u=some .string)(hi:P.info? e=some i)(hz:i.zero=some (.int .u8 0))(hs1:i.size=1)(hby:i.bytes=1)
 {v:Value} {l:List UInt8} (hv:EM e v l w) (s:List UInt8) (hl:l.length+s.length<=140737488355328) :
 ∃v' w',(gY #[t,u] ty #[v,.string ⟨⟨s⟩⟩]).run P w = .ok v' w'/\EM e v' (l++s) w'/\VM w w' v v':=by
 have hmax:(140737488355328:Nat)<=maxLen:=by unfold maxLen;omega
 have hss:(Ed ⟨s⟩).size=s.length:=rfl;have hsc:Lib.strCells (Ed ⟨s⟩)=dm s:=Lib.strCells_eq _;have fresh:∀(old:Nat) (v:Value),old<l.length+s.length ->
  EM e (.slice (some ⟨w.heap.size,0,none⟩) (l++s).length (grownCap w (l.length+s.length) old e)) (l++s)
   (w.drew.alloc (.cells ((dm l).toArray++(dm s).toArray++bK (kT .u8 0).cells (grownCap w (l.length+s.length) old e-(l.length+s.length))) e)) /\
  VM w (w.drew.alloc (.cells ((dm l).toArray++(dm s).toArray++bK (kT .u8 0).cells (grownCap w (l.length+s.length) old e-(l.length+s.length))) e)) v
   (.slice (some ⟨w.heap.size,0,none⟩) (l++s).length (grownCap w (l.length+s.length) old e)):=by
  intro old v ho;refine⟨acf (l++s) (λh=>?_) _ ?_ (grownCap_le_maxLen _ _ _ _ (by omega)) w.drew _ ?_,⟨rfl,rfl,rfl,by simp,λk hk _=>yK w.drew _ k hk⟩,.inr ⟨w.heap.size,rfl,aA _⟩⟩
  ·have:=anr List.length h;rw[bD,iy]at this;omega
  ·simpa using grownCap_ge w (l.length+s.length) old e
  ·rw[Lib.byteCells_append];simp
 rcases hv with⟨rfl,rfl⟩|⟨g,cap,cs,rfl,hc0,hle,hcm,hg,hcs,h1,hb⟩
 ·by_cases h0:s=[]
  ·subst h0;refine⟨.slice none 0 0,w,?_,.inl ⟨rfl,rfl⟩,⟨rfl,rfl,rfl,aA _,λ_ _ _=>rfl⟩,.inl rfl⟩;have hf:=Lib.run_firstCells_string (P:=P) w 1 ⟨⟨[]⟩⟩;have e0:(Ed ⟨[]⟩).size=0:=rfl;rw[e0]at hf;simp[gY,run_underlying ht,run_underlying hu,sizeOf,typeInfo,hi,hs1,Go.Builtin.lenOf,e0,hf]
  ·have hp:0<s.length:=oQ.2 h0;have hr:=run_append_nil_string (P:=P) w t u ty e i (.int .u8 0) ht hu hi hz ⟨⟨s⟩⟩ (by rw[hss];omega) (by rw[hss];simp at hl;omega) (by rw[hby,hss];simp at hl;omega);have hf:=fresh 0 (.slice none 0 0) (by simpa using hp);simp only[jI,iy,eU,Array.append_assoc]at hf;have e1:((Ed ⟨s⟩).data.map λb=>kT .u8 b.toNat)=(dm s).toArray:=(by apply Array.ext';simp[dm]);rw[e1,hss]at hr;have e2:(dm ([]:List UInt8)).toArray = #[]:=rfl;rw[e2,uz]at hf;exact⟨_,_,hr,hf.1,hf.2⟩
 ·by_cases hroom:l.length+s.length<=cap
  ·have hr:=Lib.run_append_room_string (P:=P) w t u ty e i ht hu hi hs1 g l.length cap cs hg ⟨⟨s⟩⟩ (by rw[hss];exact hroom) (by rw[hss];omega);rw[hss,hsc]at hr;have hR:=acg hg hcs hc0 hcm h1 hb hroom;rw[bD]at hR;exact⟨_,_,hr,hR,⟨rfl,rfl,rfl,by simp,λk _ hk=>setRow_other w g k _ (λe=>hk (by simp[EC,e]))⟩,.inl rfl⟩
  ·have hr:=Lib.run_append_grow_string (P:=P) w t u ty e i (.int .u8 0) ht hu hi hz ⟨g,0,none⟩ l.length cap (dm l) (by rw[hs1,mF,wJ]) (λj x hx=>by
    rw[Y9]at hx;cases hlj:l[j]? with
    |none=>rw[hlj]at hx;cases hx
    |some y=>rw[hlj]at hx;simp at hx;subst hx;rw[Addr.tJ];simp[gI,hg,hb j y hlj]) ⟨⟨s⟩⟩ (by rw[hss];omega) (by rw[hss];omega) (by rw[hby,hss];exact growslice_fits (by omega) (by omega))
   rw[hss,hsc]at hr;have hf:=fresh cap (.slice (some ⟨g,0,none⟩) l.length cap) (by omega);rw[bD]at hf;exact⟨_,_,hr,hf.1,hf.2⟩
theorem akE {t ty e:TypeId}{i:TypeInfo}(ht:P.underlying t=some (.slice e))(hi:P.info? e=some i)(hz:i.zero=some (.int .u8 0))(hs1:i.size=1)(hby:i.bytes=1)
 {v:Value} {l:List UInt8} (hv:EM e v l w) (s:List UInt8) (h0:s≠[]) (ad:Addr) (c:Nat) (hnews:∀j v,(dm s)[j]? = some v->w.cell? (ad.add j)=some v) (hl:l.length+s.length<=140737488355328) :
 ∃v' w',(gY #[t,t] ty #[v,.slice (some ad) s.length c]).run P w = .ok v' w'/\EM e v' (l++s) w'/\VM w w' v v':=by
 have hmax:(140737488355328:Nat)<=maxLen:=by unfold maxLen;omega
 have hp:0<s.length:=oQ.2 h0;have fresh:∀(old:Nat) (v:Value),old<l.length+s.length ->
  EM e (.slice (some ⟨w.heap.size,0,none⟩) (l++s).length (grownCap w (l.length+s.length) old e)) (l++s)
   (w.drew.alloc (.cells ((dm l).toArray++(dm s).toArray++bK (kT .u8 0).cells (grownCap w (l.length+s.length) old e-(l.length+s.length))) e)) /\
  VM w (w.drew.alloc (.cells ((dm l).toArray++(dm s).toArray++bK (kT .u8 0).cells (grownCap w (l.length+s.length) old e-(l.length+s.length))) e)) v
   (.slice (some ⟨w.heap.size,0,none⟩) (l++s).length (grownCap w (l.length+s.length) old e)):=by
  intro old v ho;refine⟨acf (l++s) (λh=>?_) _ ?_ (grownCap_le_maxLen _ _ _ _ (by omega)) w.drew _ ?_,⟨rfl,rfl,rfl,by simp,λk hk _=>yK w.drew _ k hk⟩,.inr ⟨w.heap.size,rfl,aA _⟩⟩
  ·have:=anr List.length h;rw[bD,iy]at this;omega
  ·simpa using grownCap_ge w (l.length+s.length) old e
  ·rw[Lib.byteCells_append];simp
 have hn:(dm s).length=s.length*i.size:=by rw[hs1,mF,wJ]
 rcases hv with⟨rfl,rfl⟩|⟨g,cap,cs,rfl,hc0,hle,hcm,hg,hcs,h1,hb⟩
 ·have hr:=run_append_nil (P:=P) w t ty e i (.int .u8 0) ht hi hz ad s.length c (dm s) hn hnews hp (by simp at hl;omega) (by rw[hby];simp at hl;omega);have hf:=fresh 0 (.slice none 0 0) (by simpa using hp);simp only[jI,iy,eU,Array.append_assoc]at hf;have e2:(dm ([]:List UInt8)).toArray = #[]:=rfl;rw[e2,uz]at hf;exact⟨_,_,hr,hf.1,hf.2⟩
 ·by_cases hroom:l.length+s.length<=cap
  ·have hr:=run_append_room' (P:=P) (w:=w) (ty:=ty) t e e i ht hi g l.length cap cs hg ad s.length c (dm s) hn hnews (acZ s) hroom (by rw[hs1,mF];omega);rw[hs1,mF,wJ]at hr;have hR:=acg hg hcs hc0 hcm h1 hb hroom;rw[bD]at hR;exact⟨_,_,hr,hR,⟨rfl,rfl,rfl,by simp,λk _ hk=>setRow_other w g k _ (λe=>hk (by simp[EC,e]))⟩,.inl rfl⟩
  ·have hr:=run_append_grow (P:=P) w t ty e i (.int .u8 0) ht hi hz ⟨g,0,none⟩ l.length cap (dm l) (by rw[hs1,mF,wJ]) (λj x hx=>by
    rw[Y9]at hx;cases hlj:l[j]? with
    |none=>rw[hlj]at hx;cases hx
    |some y=>rw[hlj]at hx;simp at hx;subst hx;rw[Addr.tJ];simp[gI,hg,hb j y hlj]) ad s.length c (dm s) hn hnews (by omega) (by omega) (by rw[hby];exact growslice_fits (by omega) (by omega))
   have hf:=fresh cap (.slice (some ⟨g,0,none⟩) l.length cap) (by omega);rw[bD]at hf;exact⟨_,_,hr,hf.1,hf.2⟩
end
end
end Go.Ab
section
namespace Go.Ab
open Go Go.Shelf Go.RowKit Go.Proofs
section
variable {P:Program} {w:World}
theorem EM.alloc {e:TypeId}{v:Value}{l:List UInt8}(h:EM e v l w)(o:Obj):EM e v l (w.alloc o):=by
 rcases h with h|⟨g,cap,cs,h1,h2,h3,h4,h5,h6⟩
 ·exact .inl h
 ·exact .inr ⟨g,cap,cs,h1,h2,h3,h4,(yK w o g (xN h5)).trans h5,h6⟩
theorem EM.same {e:TypeId}{v:Value}{l:List UInt8}{w':World}(h:EM e v l w)(hk:∀g,v.ownBlock=some g->w'.heap[g]? = w.heap[g]?):EM e v l w':=by
 rcases h with h|⟨g,cap,cs,h1,h2,h3,h4,h5,h6⟩
 ·exact .inl h
 ·exact .inr ⟨g,cap,cs,h1,h2,h3,h4,(hk g (by rw[h1];rfl)).trans h5,h6⟩
theorem EM.ad4 {e:TypeId}{v:Value}{l:List UInt8}(h:EM e v l w){g:Nat}(hg:v.ownBlock=some g):g<w.heap.size/\∃cs,w.heap[g]? = some (.cells cs e (0,0)):=by
 rcases h with⟨rfl,_⟩|⟨g',cap,cs,rfl,h2,h3,h4,h5,h6⟩
 ·cases hg
 ·simp only[F8,aC]at hg;subst hg;exact⟨xN h5,cs,h5⟩
theorem EM.ne {e T:TypeId}{v:Value}{l:List UInt8}{k:Nat}{cs:Array Value}(h:EM e v l w)(hk:w.heap[k]? = some (.cells cs T (0,0)))(hT:T≠e):v.ownBlock≠some k:=λhe=>by obtain⟨_,c,hc⟩:=h.ad4 he;rw[hk]at hc;simp only[aC,Obj.cells.injEq]at hc;exact hT hc.2.1
theorem Vg {ops:Array Oper}{rest:List Oper}{o:Oper}{a:Act}{Q:Exit->Act->World->Prop}(hgd:o.guard=none)(sl x:Operand)(t u:TypeId)
 (ho:o.op = .call { callee:=.builtin .append,args:= #[sl,x],argTypes:= #[t,u] })
 (e:TypeId) (i:TypeInfo) (ht:P.underlying t=some (.slice e)) (hu:P.underlying u=some .string) (hi:P.info? e=some i) (hz:i.zero=some (.int .u8 0)) (hsize:i.size=1) (hby:i.bytes=1)
 (v:Value) (l:List UInt8) (hs:a.eval sl=v) (hv:EM e v l w) (s:List UInt8) (hx:a.eval x = .string ⟨⟨s⟩⟩) (hl:l.length+s.length<=140737488355328)
 (h:∀v' w',EM e v' (l++s) w'->VM w w' v v'->wpList P ops Q rest (a.put o.dst v') w'):wpList P ops Q (o::rest) a w:=by
 refine wpList_plain hgd λK hK=>?_;obtain⟨v',w',hr,h2,h3⟩:=ahy (P:=P) (ty:=o.type) ht hu hi hz hsize hby hv s hl;unfold vZ execOp;simp only[ho,resolve,invoke,builtin,cZ,bQ,bn,lC,aZ,jH,hs,hx,hr];exact hK _ _ (h v' w' h2 h3)
theorem XR {ops:Array Oper}{rest:List Oper}{o:Oper}{a:Act}{Q:Exit->Act->World->Prop}(hgd:o.guard=none)(sl x:Operand)(t:TypeId)
 (ho:o.op = .call { callee:=.builtin .append,args:= #[sl,x],argTypes:= #[t,t] })
 (e:TypeId) (i:TypeInfo) (ht:P.underlying t=some (.slice e)) (hi:P.info? e=some i) (hz:i.zero=some (.int .u8 0)) (hsize:i.size=1) (hby:i.bytes=1)
 (v:Value) (l:List UInt8) (hs:a.eval sl=v) (hv:EM e v l w) (s:List UInt8) (h0:s≠[]) (ad:Addr) (c:Nat) (hx:a.eval x = .slice (some ad) s.length c) (hnews:∀j v,(dm s)[j]? = some v->w.cell? (ad.add j)=some v)
 (hl:l.length+s.length<=140737488355328)
 (h:∀v' w',EM e v' (l++s) w'->VM w w' v v'->wpList P ops Q rest (a.put o.dst v') w'):wpList P ops Q (o::rest) a w:=by
 refine wpList_plain hgd λK hK=>?_;obtain⟨v',w',hr,h2,h3⟩:=akE (P:=P) (ty:=o.type) ht hi hz hsize hby hv s h0 ad c hnews hl;unfold vZ execOp;simp only[ho,resolve,invoke,builtin,cZ,bQ,bn,lC,aZ,jH,hs,hx,hr];exact hK _ _ (h v' w' h2 h3)
end
variable {P:Program} {ρ:Go.Shelf.Ren}
def ako (k:Nat)(p:Value):Prop:=p = .pointer none\/p = .pointer (some ⟨k,0,none⟩)
structure Hid (p:Prop):Prop where
 h:p
theorem Yo (L:Lays.n240 P ρ)(X:Builder.X72 P ρ)(k:Nat)(p v:Value)(w:World)(hk:w.heap[k]? = some (.cells #[p,v] (ρ.t 72) (0,0)))(hp:ako k p) :
 Calls P (ρ.f 240) #[.pointer (some ⟨k,0,none⟩)] w λe w'=>e = .returned (.tuple #[])/\w'.heap[k]? = some (.cells #[.pointer (some ⟨k,0,none⟩),v] (ρ.t 72) (0,0))/\Hid (w'.heap.size=w.heap.size)/\Dp w w' (λk'=>k'=k):=by
 rcases hp with rfl|rfl
 ·refine(Any.Builder_copyCheck_fresh L X k w (by rw[lQ hk];rfl) (by simp[BV,hk]) (CB hk 0)).mono ?_;rintro e w' ⟨rfl,rfl⟩;refine⟨rfl,?_,⟨by simp[yL]⟩,⟨rfl,rfl,rfl,by simp[yL],λk' _ hk'=>Below.heap_setCell _ _ _ _ (λe=>hk' (by simp[e]))⟩⟩;simp[yL,yU,hk]
 ·refine(Any.Builder_copyCheck_used L X k w (by rw[lQ hk];rfl)).mono ?_;rintro e w' ⟨rfl,rfl⟩;exact⟨rfl,hk,⟨rfl⟩,Dp.refl _ _⟩
def Wrote (T e:TypeId)(k:Nat)(v:Value)(l:List UInt8)(w w':World):Prop:=
 ∃v',w'.heap[k]? = some (.cells #[.pointer (some ⟨k,0,none⟩),v'] T (0,0))/\EM e v' l w'/\(v'.ownBlock=v.ownBlock\/∃g,v'.ownBlock=some g/\w.heap.size<=g)/\Dp w w' (λk'=>k'=k\/some k'=v.ownBlock)
theorem acI {T e:TypeId}{k:Nat}{v v':Value}{l:List UInt8}{w w1 w1' w2:World}(hT:T≠e)(hv:EM e v l w)(hlt:k<w.heap.size)(h1:w1.heap[k]? = some (.cells #[.pointer (some ⟨k,0,none⟩),v] T (0,0)))(hs:w1.heap.size=w.heap.size)(hF:Dp w w1 (λk'=>k'=k))
 (ha:w1'=w1\/∃o,w1'=w1.alloc o) {l':List UInt8} (hr:EM e v' l' w2) (hg:VM w1' w2 v v') (hne:v.ownBlock≠some k) :
 w2.heap[k]? = some (.cells #[.pointer (some ⟨k,0,none⟩),v] T (0,0))/\Wrote T e k v l' w (w2.setCell ⟨k,1,none⟩ v'):=by
 have hsz:w.heap.size<=w1'.heap.size:=by
  rcases ha with rfl|⟨o,rfl⟩
  ·omega
  ·simp;omega
 have hk1:∀k',k'<w.heap.size->w1'.heap[k']? = w1.heap[k']?:= λk' hk'=>by
  rcases ha with rfl|⟨o,rfl⟩
  ·rfl
  ·exact yK w1 o k' (by omega)
 have hk2:w2.heap[k]? = some (.cells #[.pointer (some ⟨k,0,none⟩),v] T (0,0)):=by rw[hg.1.block k (by omega) (λe=>hne e.symm),hk1 k hlt];exact h1
 have hne2:v'.ownBlock≠some k:=hr.ne hk2 hT;refine⟨hk2,v',?_,?_,?_,?_⟩
 ·simp[yL,yU,hk2]
 ·exact hr.same λg hg'=>Below.heap_setCell _ _ _ _ (λe=>hne2 (by rw[hg'];simp at e;rw[e]))
 ·rcases hg.2 with h|⟨g,h,hb⟩
  ·exact .inl h
  ·exact .inr ⟨g,h,by omega⟩
 ·have ha':Dp w1 w1' (λ_=>False):=by
   rcases ha with rfl|⟨o,rfl⟩
   ·exact Dp.refl _ _
   ·exact⟨rfl,rfl,rfl,by simp,λk' h _=>yK w1 o k' h⟩
  have h01:=hF.trans ha' (λ_ _ h=>h.elim);exact⟨hg.1.os.trans h01.os,hg.1.tape.trans h01.tape,hg.1.output.trans h01.output,by have:=hg.1.size;simp[yL];omega,λk' hlt' hm=>by rw[Below.heap_setCell _ _ _ _ (λe=>hm (.inl (by simpa using e))),hg.1.block k' (by omega) (λe=>hm (.inr e))];exact h01.block k' hlt' (λe=>hm (.inl e))⟩
set_option maxHeartbeats 2000000 in
set_option maxRecDepth 100000 in
theorem UZ (L:Lays.n166 P ρ)(X:Builder.Extra P ρ)(k:Nat)(p v:Value)(l s:List UInt8)(w:World)(hk:w.heap[k]? = some (.cells #[p,v] (ρ.t 72) (0,0)))(hp:ako k p)(hv:EM (ρ.t 5) v l w)
 (hlen:l.length+s.length<=140737488355328) :
 Calls P (ρ.f 166) #[.pointer (some ⟨k,0,none⟩),.string ⟨⟨s⟩⟩] w λe w'=>e = .returned (.tuple #[.int .i64 s.length,.nilIface])/\Wrote (ρ.t 72) (ρ.t 5) k v (l++s) w w':=by
 obtain⟨i0,hi,hz0,hz1,hz2⟩:=info_parts X.infoByte;have hlt:=xN hk;have hne:=hv.ne hk X.neB5;have mixed:=L.mixed;have t72:=L.t72;have a72:=L.a72;have z72:=L.z72;have v72:=L.v72;have u72:=run_underlying L.t72;have t70:=L.t70;have a70:=L.a70;have z70:=L.z70;have v70:=L.v70;have u70:=run_underlying L.t70;have t37:=L.t37;have a37:=L.a37;have z37:=L.z37;have v37:=L.v37;have u37:=run_underlying L.t37;have t3:=L.t3;have a3:=L.a3;have z3:=L.z3;have v3:=L.v3;have u3:=run_underlying L.t3;have t9:=L.t9;have a9:=L.a9;have z9:=L.z9;have v9:=L.v9;have u9:=run_underlying L.t9;have t4:=L.t4;have a4:=L.a4;have z4:=L.z4;have v4:=L.v4;have u4:=run_underlying L.t4;have t164:=L.t164;have a164:=L.a164;have z164:=L.z164;have v164:=L.v164;have u164:=run_underlying L.t164;have t5:=X.t5;have a5:=X.a5;have z5:=X.z5;have v5:=X.v5;have u5:=run_underlying X.t5;have e240:∀args w,(callFunc (ρ.f 240) args).run P w = .ok (.enter (ρ.f 240) args) w:=enters_of L.f240 (by kernel_rfl) rfl
 go_enter L.f166,Body.n166_ntmps ρ
 go_wp2_with (go_at_fn (ρ.f 240);refine(Yo { L with } X.toX72 k p v _ hk hp).mono ?_)
 rintro e w1 ⟨rfl,hk1,hs1,hF1⟩;have hv1:EM (ρ.t 5) v l w1:=hv.same λg hg=>hF1.block g (hv.ad4 hg).1 (λe=>hne (by rw[hg,e]));have c0:w1.cell? ⟨k,0,none⟩=some (.pointer (some ⟨k,0,none⟩)):=by rw[lQ hk1];rfl
 have c1:w1.cell? ⟨k,1,none⟩=some v:=by rw[lQ hk1];rfl
 go_wp2_with (at_builtin;refine Vg rfl _ _ (ρ.t 37) (ρ.t 9) rfl (ρ.t 5) i0 L.t37 L.t9 hi hz0 hz1 hz2 _ _ rfl hv1 s rfl hlen ?_)
 intro v' w2 hr hg;obtain⟨hb2,hW⟩:=acI X.neB5 hv hlt hk1 hs1.h hF1 (.inl rfl) hr hg hne;have d0:w2.cell? ⟨k,0,none⟩=some (.pointer (some ⟨k,0,none⟩)):=by rw[lQ hb2];rfl
 have d1:w2.cell? ⟨k,1,none⟩=some v:=by rw[lQ hb2];rfl
 have f1:w2.frozen? ⟨k,1,none⟩=false:=CB hb2 1;obtain⟨ao,n',cap,rfl⟩:∃ao n' cap,v' = .slice ao n' cap:=by
  rcases hr with⟨hv,_⟩|⟨g,cap,cs,hv,_⟩
  ·exact⟨_,_,_,hv⟩
  ·exact⟨_,_,_,hv⟩
 go_wp2
 go_ret2
 exact⟨rfl,hW⟩
theorem ahE (c:Int)(hc:0<=c/\c<256):kT .u8 (fB c.toNat).toNat = .int .u8 c:=by
 have:((fB c.toNat).toNat:Int)=c:=by simp[UInt8.toNat_ofNat'];omega
 rw[this]
set_option maxHeartbeats 2000000 in
set_option maxRecDepth 100000 in
theorem X4 (L:Lays.n167 P ρ)(X:Builder.Extra P ρ)(k:Nat)(p v:Value)(l:List UInt8)(c:Int)(w:World)(hk:w.heap[k]? = some (.cells #[p,v] (ρ.t 72) (0,0)))(hp:ako k p)(hv:EM (ρ.t 5) v l w)
 (hc:0<=c/\c<256) (hlen:l.length+1<=140737488355328) :
 Calls P (ρ.f 167) #[.pointer (some ⟨k,0,none⟩),.int .u8 c] w λe w'=>e = .returned .nilIface/\Wrote (ρ.t 72) (ρ.t 5) k v (l++[fB c.toNat]) w w':=by
 obtain⟨i0,hi,hz0,hz1,hz2⟩:=info_parts X.infoByte;have hlt:=xN hk;have hne:=hv.ne hk X.neB5;have hbc:dm [fB c.toNat]=[kT .u8 c]:=by simp only[dm,aZ,jH,ahE c hc]
 have hnews:∀w1:World,∀j u,(dm [fB c.toNat])[j]? = some u->(w1.alloc (.cells #[.int .u8 c] (ρ.t 5))).cell? ((⟨w1.heap.size,0,none⟩:Addr).add j)=some u:=by
  intro w1 j u hj;rw[hbc]at hj
  match j,hj with
  |0,hj=>simp at hj;subst hj;simp[Go.Addr.add]
 have mixed:=L.mixed;have t72:=L.t72;have a72:=L.a72;have z72:=L.z72;have v72:=L.v72;have u72:=run_underlying L.t72;have t70:=L.t70;have a70:=L.a70;have z70:=L.z70;have v70:=L.v70;have u70:=run_underlying L.t70;have t5:=L.t5;have a5:=L.a5;have z5:=L.z5;have v5:=L.v5;have u5:=run_underlying L.t5;have t37:=L.t37;have a37:=L.a37;have z37:=L.z37;have v37:=L.v37;have u37:=run_underlying L.t37;have t9:=L.t9;have a9:=L.a9;have z9:=L.z9;have v9:=L.v9;have u9:=run_underlying L.t9;have t4:=L.t4;have a4:=L.a4;have z4:=L.z4;have v4:=L.v4;have u4:=run_underlying L.t4;have t164:=L.t164;have a164:=L.a164;have z164:=L.z164;have v164:=L.v164;have u164:=run_underlying L.t164;have e240:∀args w,(callFunc (ρ.f 240) args).run P w = .ok (.enter (ρ.f 240) args) w:=enters_of L.f240 (by kernel_rfl) rfl
 go_enter L.f167,Body.n167_ntmps ρ
 go_wp2_with (go_at_fn (ρ.f 240);refine(Yo { L with } X.toX72 k p v _ hk hp).mono ?_)
 rintro e w1 ⟨rfl,hk1,hs1,hF1⟩;have hv1:EM (ρ.t 5) v l w1:=hv.same λg hg=>hF1.block g (hv.ad4 hg).1 (λe=>hne (by rw[hg,e]));have c0:w1.cell? ⟨k,0,none⟩=some (.pointer (some ⟨k,0,none⟩)):=by rw[lQ hk1];rfl
 have c1:w1.cell? ⟨k,1,none⟩=some v:=by rw[lQ hk1];rfl
 go_wp2_with (at_builtin;refine XR rfl _ _ (ρ.t 37) rfl (ρ.t 5) i0 L.t37 hi hz0 hz1 hz2 _ _ rfl (hv1.alloc _) [fB c.toNat] (List.cons_ne_nil _ _) ⟨w1.heap.size,0,none⟩ 1 rfl (hnews w1) hlen ?_)
 intro v' w2 hr hg;obtain⟨hb2,hW⟩:=acI X.neB5 hv hlt hk1 hs1.h hF1 (.inr ⟨_,rfl⟩) hr hg hne;have d0:w2.cell? ⟨k,0,none⟩=some (.pointer (some ⟨k,0,none⟩)):=by rw[lQ hb2];rfl
 have d1:w2.cell? ⟨k,1,none⟩=some v:=by rw[lQ hb2];rfl
 have f1:w2.frozen? ⟨k,1,none⟩=false:=CB hb2 1;obtain⟨ao,n',cap,rfl⟩:∃ao n' cap,v' = .slice ao n' cap:=by
  rcases hr with⟨hv,_⟩|⟨g,cap,cs,hv,_⟩
  ·exact⟨_,_,_,hv⟩
  ·exact⟨_,_,_,hv⟩
 go_wp2
 go_ret
 exact⟨rfl,hW⟩
theorem ady (w:World)(g n:Nat):Dp w (w.drew.freeze ⟨g,0,none⟩ n) (λk'=>k'=g):=by
 unfold World.freeze;split
 ·exact⟨rfl,rfl,rfl,aA _,λ_ _ _=>rfl⟩
 ·exact⟨rfl,rfl,rfl,by simp only[Array.size_modify];exact aA _,λk hk hm=>by simp only[yU];rw[ahk (λe=>hm e.symm)];rfl⟩
theorem Tt {w w':World}(h:Below w.heap.size w w')(M:Nat->Prop):Dp w w' M:=⟨h.os,h.tape,h.output,h.size,λk hk _=>h.block k hk⟩
set_option maxHeartbeats 2000000 in
set_option maxRecDepth 100000 in
theorem ac2 (L:Lays.n169 P ρ)(X:Builder.Extra P ρ)(k:Nat)(p v:Value)(l:List UInt8)(w:World)(hk:w.heap[k]? = some (.cells #[p,v] (ρ.t 72) (0,0)))(hv:EM (ρ.t 5) v l w) :
 Calls P (ρ.f 169) #[.pointer (some ⟨k,0,none⟩)] w λe w'=>e = .returned (.string ⟨⟨l⟩⟩)/\Dp w w' (λk'=>some k'=v.ownBlock):=by
 rcases hv with⟨rfl,rfl⟩|⟨g,cap,cs,rfl,hc0,hle,hcm,hg,hcs,h1,hb⟩
 ·refine(Any.Builder_String_nil L X w.heap.size k p w hk).mono ?_;rintro e w' ⟨rfl,h⟩;exact⟨rfl,Tt h _⟩
 by_cases h0:l=[]
 ·subst h0;refine(Any.Builder_String_room L X w.heap.size k g cap p w hc0 hk).mono ?_;rintro e w' ⟨rfl,h⟩;exact⟨rfl,Tt h _⟩
 have hl0:l.length≠0:=by simpa using h0
 have c1:w.drew.cell? ⟨k,1,none⟩=some (.slice (some ⟨g,0,none⟩) l.length cap):=by have:w.drew.heap[k]? = some (.cells #[p,.slice (some ⟨g,0,none⟩) l.length cap] (ρ.t 72) (0,0)):=hk;rw[lQ this];rfl
 have hSD:(Builtin.unsafeSliceData_ #[(ρ.t 37)] (ρ.t 127) #[.slice (some ⟨g,0,none⟩) l.length cap]).run P w.drew = .ok (.pointer (some ⟨g,0,none⟩)) w.drew:=
  Lib.run_unsafeSliceData_row _ _ _ _ _ _ (by omega)
 have hUS:(Builtin.unsafeString_ #[(ρ.t 127),(ρ.t 3)] (ρ.t 9) #[.pointer (some ⟨g,0,none⟩),.int .i64 l.length]).run P w.drew = .ok (.string ⟨l.toArray⟩) (w.drew.freeze ⟨g,0,none⟩ l.length):=by refine Lib.run_unsafeString_row w.drew (ρ.t 127) (ρ.t 3) (ρ.t 9) (ρ.t 5) L.t127 X.cellsByte g cs.size (by have hg':w.drew.heap[g]? = some (.cells cs (ρ.t 5) (0,0)):=hg;simp[BV,hg']) l h0 (by omega) (by unfold maxLen at hcm;omega) ?_;intro j x hx;rw[Addr.tJ];have hg':w.drew.heap[g]? = some (.cells cs (ρ.t 5) (0,0)):=hg;simp[gI,hg',hb j x hx]
 have mixed:=L.mixed;have t72:=L.t72;have a72:=L.a72;have z72:=L.z72;have v72:=L.v72;have u72:=run_underlying L.t72;have t70:=L.t70;have a70:=L.a70;have z70:=L.z70;have v70:=L.v70;have u70:=run_underlying L.t70;have t37:=L.t37;have a37:=L.a37;have z37:=L.z37;have v37:=L.v37;have u37:=run_underlying L.t37;have t127:=L.t127;have a127:=L.a127;have z127:=L.z127;have v127:=L.v127;have u127:=run_underlying L.t127;have t3:=L.t3;have a3:=L.a3;have z3:=L.z3;have v3:=L.v3;have u3:=run_underlying L.t3;have t9:=L.t9;have a9:=L.a9;have z9:=L.z9;have v9:=L.v9;have u9:=run_underlying L.t9;have t5:=X.t5;have a5:=X.a5;have z5:=X.z5;have v5:=X.v5;have u5:=run_underlying X.t5;have hF:=ady w g l.length;clear hb hcs hg hle hcm h1 hk
 go_enter L.f169,Body.n169_ntmps ρ
 go_wp2
 go_region_o
 all_goals(go_wp2;go_ret;exact⟨rfl,hF.os,hF.tape,hF.output,hF.size,λk' hk' hm=>hF.block k' hk' (λe=>hm (by rw[e];rfl))⟩)
end Go.Ab
end
section
namespace Go.Ab
open Go Go.Shelf Go.Proofs
section
variable {P:Program} {I:IH} {ρ:Ren} {w:World}
structure Bld (I:IH)(ρ:Ren)(w:World)(T e k:Nat)(p v:Value)(l:List UInt8):Prop where
 r0:ρ 0=some (k,T)
 hk:w.heap[k]? = some (.cells #[p,v] T (0,0))
 hp:ako k p
 hv:EM e v l w
 own:∀g,v.ownBlock=some g->∃cap,ρ 1=some (g,cap)/\cap≠0
 i0:I k=none
 i1:∀g,v.ownBlock=some g->I g=none
theorem ape {cs:Array Value}(h:cs.size=2):∃p v,cs = #[p,v]:=by
 match cs,h with
 |⟨[p,v]⟩,_=>exact⟨p,v,rfl⟩
theorem ac1 {T e:Nat}{l:List UInt8}(h:BX I ρ w (CO [.var [.opt T 0,.yV 1 l.length],.row e l])):∃k p v,Bld I ρ w T e k p v l:=by
 obtain⟨k,cap,cs,hr,hw,hs,hc⟩:=h.ok 0;obtain⟨p,v,rfl⟩:=ape hs;obtain⟨k',hr',hp⟩:=hc 0 p (.opt T 0) rfl rfl;rw[hr]at hr';simp only[aC,bI]at hr';obtain⟨rfl,rfl⟩:=hr';obtain⟨g,cp,hg,hn,hv⟩:=hc 1 v (.yV 1 l.length) rfl rfl;obtain⟨g',cp',hg',hl,hm,hrow⟩:=h.ok 1;rw[hg]at hg';simp only[aC,bI]at hg';obtain⟨rfl,rfl⟩:=hg';have i0:I k=none:=h.fresh 0 k ⟨_,hr⟩;rcases hv with⟨h0,rfl⟩|⟨h0,rfl⟩
 ·refine⟨k,p,_,hr,hw,hp,.inl ⟨rfl,?_⟩,(λg hx=>by cases hx),i0,(λg hx=>by cases hx)⟩;exact List.eq_nil_of_length_eq_zero (by omega)
 ·obtain⟨cs,h1,h2,h3,h4⟩:=hrow h0;refine⟨k,p,_,hr,hw,hp,.inr ⟨g,cp,cs,rfl,h0,hl,hm,h1,h2,h3,h4⟩,λg' hx=>?_,i0,λg' hx=>?_⟩
  ·simp only[F8,aC]at hx;subst hx;exact⟨cp,hg,h0⟩
  ·simp only[F8,aC]at hx;subst hx;exact h.fresh 1 g ⟨cp,hg,h0⟩
theorem aaV {T e k:Nat}{p v:Value}{l l':List UInt8}{w':World}(hT:T≠e)(hA:Agree I w)(hB:BX I ρ w (CO [.var [.opt T 0,.yV 1 l.length],.row e l]))(b:Bld I ρ w T e k p v l)(h:Wrote T e k v l' w w') :
 ∃ σ:Ren,Agree I w'/\BX I σ w' (CO [.var [.opt T 0,.yV 2 l'.length],.dead,.row e l']) /\
   Dp w w' (λk=>∃c,(CO [.var [.opt T 0,.yV 1 l.length],.row e l] c).uses (ρ c) k) /\
   (∀c k',(CO [.var [.opt T 0,.yV 2 l'.length],.dead,.row e l'] c).uses (σ c) k'->w.heap.size<=k'\/∃c',(CO [.var [.opt T 0,.yV 1 l.length],.row e l] c').uses (ρ c') k') /\
   (∀c,c<2->σ c=ρ c):=by
 obtain⟨v',hk',hv',hown,hF⟩:=h;have hu0:(CO [.var [.opt T 0,.yV 1 l.length],.row e l] 0).uses (ρ 0) k:=⟨_,b.r0⟩;have hu1:∀g,v.ownBlock=some g->(CO [.var [.opt T 0,.yV 1 l.length],.row e l] 1).uses (ρ 1) g:=λg hg=>b.own g hg;have hρ:∀c,2<=c->ρ c=none:=λc hc=>by have h1:=hB.ok c;rw[JW (by simpa using hc)]at h1;exact h1
 have hne:v'.ownBlock≠some k:=hv'.ne hk' hT;obtain⟨g,cap,hg⟩:∃g cap,(cap=0/\v' = .slice none 0 0/\l'=[])\/(cap≠0/\v' = .slice (some ⟨g,0,none⟩) l'.length cap/\l'.length<=cap/\cap<=maxLen/\∃cs,w'.heap[g]? = some (.cells cs e (0,0))/\cs.size=cap /\
  (∀(j:Nat) (u:Value),cs[j]? = some u->u.oneCell'=true)/\∀(j:Nat) (x:UInt8),l'[j]? = some x->cs[j]? = some (.int .u8 x.toNat)):=by
  rcases hv' with⟨rfl,rfl⟩|⟨g,cap,cs,h1,h2,h3,h4,h5⟩
  ·exact⟨0,0,.inl ⟨rfl,rfl,rfl⟩⟩
  ·exact⟨g,cap,.inr ⟨h2,h1,h3,h4,cs,h5⟩⟩
 have hnew:cap≠0->I g=none/\g≠k/\(w.heap.size<=g\/(CO [.var [.opt T 0,.yV 1 l.length],.row e l] 1).uses (ρ 1) g):=λh0=>by
  rcases hg with⟨h1,_⟩|⟨_,rfl,_⟩
  ·exact al7 h1 h0
  ·rw[F8]at hne hown;refine⟨?_,λe=>hne (by rw[e]),?_⟩
   ·rcases hown with h|⟨g',h,hb⟩
    ·exact b.i1 g h.symm
    ·simp only[aC]at h;subst h;exact hA.abO hb
   ·rcases hown with h|⟨g',h,hb⟩
    ·exact .inr (hu1 g h.symm)
    ·simp only[aC]at h;subst h;exact .inl hb
 have hle:ρ.le (ρ.set 2 g cap):=Ren.Qd (hρ 2 (aA _));have s2:(ρ.set 2 g cap) 2=some (g,cap):=Ren.oN _ _ _ _;have s0:(ρ.set 2 g cap) 0=some (k,T):=(Ren.xB (by decide)).trans b.r0;have u0:∀k',(CO [.var [.opt T 0,.yV 2 l'.length],.dead,.row e l'] 0).uses ((ρ.set 2 g cap) 0) k'->k'=k:=λk' hu=>by obtain⟨c,hc⟩:=hu;rw[s0]at hc;simp only[aC,bI]at hc;exact hc.1.symm
 have u2:∀k',(CO [.var [.opt T 0,.yV 2 l'.length],.dead,.row e l'] 2).uses ((ρ.set 2 g cap) 2) k'->k'=g/\cap≠0:=λk' hu=>by obtain⟨c,hc,h0⟩:=hu;rw[s2]at hc;simp only[aC,bI]at hc;exact⟨hc.1.symm,by rw[hc.2];exact h0⟩
 have uu:∀c k',(CO [.var [.opt T 0,.yV 2 l'.length],.dead,.row e l'] c).uses ((ρ.set 2 g cap) c) k'->(c=0/\k'=k)\/(c=2/\k'=g/\cap≠0):=λc k' hu=>by
  match c with
  |0=>exact .inl ⟨rfl,u0 k' hu⟩
  |1=>exact hu.elim
  |2=>exact .inr ⟨rfl,u2 k' hu⟩
  |c+3=>rw[JW (by simp)]at hu;exact hu.elim
 refine⟨ρ.set 2 g cap,?_,⟨λc=>?_,λc c' k' hc hc'=>?_,λc k' hc=>?_⟩,⟨hF.os,hF.tape,hF.output,hF.size,λk' hlt hm=>hF.block k' hlt λe=>hm ?_⟩,λc k' hc=>?_,λc hc=>Ren.xB (by omega)⟩
 ·refine hA.other λk1 c hc=>hF.block k1 (hA.lt hc) λe=>?_;rcases e with rfl|e
  ·rw[b.i0]at hc;cases hc
  ·rw[b.i1 k1 e.symm]at hc;cases hc
 ·match c with
  | 0=>
    refine⟨k,T,_,s0,hk',rfl,λj u x hu hx=>?_⟩
    match j with
    | 0=>simp at hu hx;subst hu;subst hx;exact⟨k,s0,.inr rfl⟩
    | 1=>
      simp at hu hx;subst hu;subst hx;rcases hg with⟨h1,h2,h3⟩|⟨h1,h2,h3,_⟩
      ·exact⟨g,cap,s2,by rw[h3];exact nY _,.inl ⟨h1,h2⟩⟩
      ·exact⟨g,cap,s2,h3,.inr ⟨h1,h2⟩⟩
    |j+2=>simp at hu
  |1=>trivial
  | 2=>
    rcases hg with⟨h1,h2,h3⟩|⟨h1,h2,h3,h4,h5⟩
    ·exact⟨g,cap,s2,by rw[h3];exact nY _,by rw[h1];exact nY _,λh=>al7 h1 h⟩
    ·exact⟨g,cap,s2,h3,h4,λ_=>h5⟩
  | c+3=>rw[JW (by simp)];exact(Ren.xB (by omega)).trans (hρ _ (by omega))
 ·rcases uu c k' hc with⟨rfl,h1⟩|⟨rfl,h1,h2⟩<;>rcases uu c' k' hc' with⟨rfl,h3⟩|⟨rfl,h3,h4⟩
  ·rfl
  ·exact al7 (h3.symm.trans h1) (hnew h4).2.1
  ·exact al7 (h1.symm.trans h3) (hnew h2).2.1
  ·rfl
 ·rcases uu c k' hc with⟨rfl,rfl⟩|⟨rfl,rfl,h2⟩
  ·exact b.i0
  ·exact(hnew h2).1
 ·rcases e with rfl|e
  ·exact⟨0,hu0⟩
  ·exact⟨1,hu1 k' e.symm⟩
 ·rcases uu c k' hc with⟨rfl,rfl⟩|⟨rfl,rfl,h2⟩
  ·exact .inr ⟨0,hu0⟩
  ·rcases(hnew h2).2.2 with h|h
   ·exact .inl h
   ·exact .inr ⟨1,h⟩
end
variable {P:Program} {ρ:Go.Shelf.Ren}
structure jF where
 buf:List UInt8
 deriving Inhabited
theorem abh {I:IH}{r:Ren}{vs:List Value}{x y:AV}(h:VL I r vs [x,y]):∃a b,vs=[a,b]/\GV I r a x/\GV I r b y:=by
 obtain⟨h1,h2⟩:=h
 match vs,h1 with
 |[a,b],_=>exact⟨a,b,rfl,h2 0 a x rfl rfl,h2 1 b y rfl rfl⟩
theorem abg {I:IH}{r:Ren}{vs:List Value}{x:AV}(h:VL I r vs [x]):∃a,vs=[a]/\GV I r a x:=by
 obtain⟨h1,h2⟩:=h
 match vs,h1 with
 |[a],_=>exact⟨a,rfl,h2 0 a x rfl rfl⟩
theorem Y6 (L:Lays.n167 P ρ)(X:Builder.Extra P ρ){l:List UInt8}{c:Int}(hc:0<=c/\c<256)(hl:l.length+1<=140737488355328)(hk:X7 (ρ.f 167) false=true:=by rfl) :
 oV P (ρ.f 167) [.one (.ptr 0 0),.one (.c (.lit (.int .u8 c)))] [.var [.opt (ρ.t 72) 0,.yV 1 l.length],.row (ρ.t 5) l] λr bs=>r = .one (.c (.lit .nilIface))/\bs=[.var [.opt (ρ.t 72) 0,.yV 2 (l++[fB c.toNat]).length],.dead,.row (ρ.t 5) (l++[fB c.toNat])]:=by
 refine oV.of0 hk ?_;intro I r w vs hT hA hB hG;obtain⟨a,b',rfl,ha,hb⟩:=abh hG;obtain⟨k,p,v,b⟩:=ac1 hB;obtain⟨k',cap',hr,rfl⟩:=ha;rw[b.r0]at hr;simp only[aC,bI]at hr;obtain⟨rfl,_⟩:=hr;cases hb;refine(X4 L X k p v l c w b.hk b.hp b.hv hc hl).mono ?_;rintro e w' ⟨rfl,hW⟩;obtain⟨σ,h1,h2,h3,h4,h5⟩:=aaV X.neB5 hA hB b hW;exact⟨_,I,σ,_,_,rfl,⟨rfl,rfl⟩,Rd.lit _ rfl,h1,h2,IH.le_refl I,h3,h4,λ_ _ _=>rfl,h5⟩
theorem VT (L:Lays.n166 P ρ)(X:Builder.Extra P ρ){l s:List UInt8}(hl:l.length+s.length<=140737488355328)(hk:X7 (ρ.f 166) false=true:=by rfl) :
 oV P (ρ.f 166) [.one (.ptr 0 0),.one (.c (.str s))] [.var [.opt (ρ.t 72) 0,.yV 1 l.length],.row (ρ.t 5) l] λr bs=>r = .zi [(false,[.c (.lit (.int .i64 s.length))]),(false,[.c (.lit .nilIface)])]/\bs=[.var [.opt (ρ.t 72) 0,.yV 2 (l++s).length],.dead,.row (ρ.t 5) (l++s)]:=by
 refine oV.of0 hk ?_;intro I r w vs hT hA hB hG;obtain⟨a,b',rfl,ha,hb⟩:=abh hG;obtain⟨k,p,v,b⟩:=ac1 hB;obtain⟨k',cap',hr,rfl⟩:=ha;rw[b.r0]at hr;simp only[aC,bI]at hr;obtain⟨rfl,_⟩:=hr;cases hb;refine(UZ L X k p v l s w b.hk b.hp b.hv hl).mono ?_;rintro e w' ⟨rfl,hW⟩;obtain⟨σ,h1,h2,h3,h4,h5⟩:=aaV X.neB5 hA hB b hW;refine⟨_,I,σ,_,_,rfl,⟨rfl,rfl⟩,⟨_,rfl,rfl,λj u q hu hq=>?_⟩,h1,h2,IH.le_refl I,h3,h4,λ_ _ _=>rfl,h5⟩
 match j with
 |0=>simp at hu hq;subst hu;subst hq;exact⟨_,rfl,Rd.lit _ rfl⟩
 |1=>simp at hu hq;subst hu;subst hq;exact⟨_,rfl,Rd.lit _ rfl⟩
 |j+2=>simp at hu
theorem afH (L:Lays.n169 P ρ)(X:Builder.Extra P ρ){l:List UInt8}(hl:l.length<=maxLen)(hk:X7 (ρ.f 169) false=true:=by rfl) :
 oV P (ρ.f 169) [.one (.ptr 0 0)] [.var [.opt (ρ.t 72) 0,.yV 1 l.length],.row (ρ.t 5) l] λr bs=>r = .one (.c (.str l))/\bs=[.dead,.dead]:=by
 refine oV.of0 hk ?_;intro I r w vs hT hA hB hG;obtain⟨a,rfl,ha⟩:=abg hG;obtain⟨k,p,v,b⟩:=ac1 hB;obtain⟨k',cap',hr,rfl⟩:=ha;rw[b.r0]at hr;simp only[aC,bI]at hr;obtain⟨rfl,_⟩:=hr;refine(ac2 L X k p v l w b.hk b.hv).mono ?_;rintro e w' ⟨rfl,hF⟩;have hρ:∀c,2<=c->r c=none:=λc hc=>by have h1:=hB.ok c;rw[JW (by simpa using hc)]at h1;exact h1
 have un:∀c k',(CO [.dead,.dead] c).uses (r c) k'->False:=λc k' hu=>by
  match c with
  |0=>exact hu
  |1=>exact hu
  |c+2=>rw[JW (by simp)]at hu;exact hu
 refine⟨_,I,r,_,_,rfl,⟨rfl,rfl⟩,Rd.str _ hl,?_,⟨λc=>?_,λc c' k' hc=>(un c k' hc).elim,λc k' hc=>(un c k' hc).elim⟩,IH.le_refl I,⟨hF.os,hF.tape,hF.output,hF.size,λk' hlt hm=>hF.block k' hlt λe=>hm ⟨1,?_⟩⟩,λc k' hc=>(un c k' hc).elim,λ_ _ _=>rfl,λ_ _=>rfl⟩
 ·exact hA.other λk1 c hc=>hF.block k1 (hA.lt hc) λe=>by rw[b.i1 k1 e.symm]at hc;cases hc
 ·match c with
  |0=>trivial
  |1=>trivial
  |c+2=>rw[JW (by simp)];exact hρ _ (by omega)
 ·exact b.own k' e.symm
end Go.Ab
end
section
namespace Go.Ab
open Go Go.Shelf Go.Proofs
variable {P:Program} {ρ:Go.Shelf.Ren}
theorem ano {I:IH} {w:World} (hT:Tabs P I) (hA:Agree I w) {g:Nat} (hg:P.globalNamed "internal/strconv.uint64pow10" = some g):Lib.TabIs P w "internal/strconv.uint64pow10" .u64 Go.Lib.pow10Tab:=by
 obtain⟨e,fr,h⟩:=hA g _ (hT.pow g hg);unfold Lib.TabIs World.var?;simp only[hg,Option.bind_some,h]
theorem akz (L:LaysM.n171 P ρ){n:Int}(h0 : -9223372036854775808<=n/\n<=9223372036854775807)(hl:(Go.Lib.itoa n).length<=maxLen){r:List UInt8}(hr:r=Go.Lib.itoa n)(hk:X7 (ρ.f 171) true=true:=by rfl) :
 dI P (ρ.f 171) [.one (.c (.lit (.int .i64 n)))] (.one (.c (.str r))):=by
 subst hr;refine oV.of0 hk ?_;intro I r w vs hT hA hB hG;obtain⟨a,rfl,ha⟩:=abg hG;cases ha;have hB':∀b,CO [] b = .absent:=λb=>JW (nY _);refine(Any.strconv_Itoa L n h0.1 h0.2 w (ano hT hA L.m17)).mono ?_;rintro e w' ⟨rfl,k,os,rfl⟩;have hb:=Lib.below_grow w.heap.size w (aA _) k os;refine⟨_,I,r,_,_,rfl,⟨rfl,rfl⟩,Rd.str _ hl,hA.other λk1 c hc=>hb.block k1 (hA.lt hc),⟨λb=>?_,λb b' k hu=>?_,λb k hu=>?_⟩,IH.le_refl I,Tt hb _,λb k hu=>?_,λ_ _ _=>rfl,λ_ _=>rfl⟩
 ·have:=hB.ok b;rw[hB']at this⊢;exact this
 all_goals(rw[hB']at hu;exact hu.elim)
end Go.Ab
end
