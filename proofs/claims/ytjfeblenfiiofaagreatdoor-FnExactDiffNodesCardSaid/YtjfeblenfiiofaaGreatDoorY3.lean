/- What abstract values, states and codes of the program's language mean, and that they are sound (part 3). No conditions. -/
import Derived.Test.YtjfeblenfiiofaaGreatDoorY2
set_option linter.unusedVariables false
set_option linter.unusedSimpArgs false
open Array renaming getD_eq_getD_getElem?->bQ,length_toList->iU,replicate->lq,getElem?_append_left->mW
open Bool renaming and_eq_true->af,or_eq_true->eH,false_eq_true->jU
open Go.Act renaming put->fA
open Go.Code renaming region->vT
open Go.Exit renaming inBlock->rY
open Go.Instr renaming sureAddr->gz,loadAt->kD,fieldAt->uK
open Go.IntKind renaming wrap->ah
open Go.Next renaming value->ja
open Go.Oper renaming wp->rF
open Go.Result renaming andThen_ok->aN,ok->jr
open Go.Sem renaming run_pure->aX,run_bind->bF
open Go.Value renaming slice->vW
open Go.World renaming cell?->dR
open List renaming mem_cons->aB,mem_map->aF,all_eq_true->aH,drop_of_length_le->aI,mem_filter->aJ,map_cons->aP,getD_eq_getElem?_getD->aQ,map->aT,getElem?_append_left->aU,mem_append->aV,take_of_length_le->aW,replicate->aY,getElem?_eq_getElem->aj,getElem?_eq_some_iff->ax,getElem?_append_right->bJ,mem_cons_of_mem->bW,getElem?_drop->dA,length_take->dW,contains_iff_mem->gm,getElem?_eq_none->gp,all_cons->iD,length_append->iM,drop->jo,getElem?_set->lI,flatMap_cons->mX,getElem_of_mem->nS,take_append_of_le_length->og,append_nil->pI,getElem?_take_of_lt->pW,nodup_cons->sF
open Nat renaming le_refl->aA,le_trans->cZ,zero_add->dh,zero_le->jq,add_assoc->lH,add_comm->pR
open Ne renaming symm->yN
open Option renaming map_eq_some_iff->bI,isNone_iff_eq_none->nI,isSome_none->tY
open Option.some renaming injEq->aG
namespace Go.Ab
open Go
section
inductive SV where
 |arr
 |idx
 |cnt
 |ptr (off:Nat)
 |txt
 |val (off:Nat)
 deriving DecidableEq
abbrev BJ :=List (Nat×SV)
def BJ.look (env:BJ)(t:Nat):Option SV:=match env with
 |[]=>none
 |(x,v)::r=>if x==t then some v else BJ.look r t
def qop (P:Program)(yx sz:Nat)(env:BJ)(o:Oper):Option BJ:=
 match o.guard,o.dst with
 | none,some d=>if d==0||d==1||d==5||(env.look d).isSome then none else(match o.op with
   |.move (.tmp s)=>(env.look s).map λv=>(d,v)::env
   |.indexAddr t (.tmp x) (.tmp y)=>if env.look x=some .arr/\env.look y=some .idx/\Eb P t sz=true then some ((d,.ptr 0)::env)else none
   | .fieldAddr s (.tmp x) f=>(match env.look x with
     | some (.ptr off)=>(match P.underlying s with
       | some (.struct fs)=>(match fs[f]? with
         |some JM=>if yE P s f JM.offset=true then some ((d,.ptr (off+JM.offset))::env)else none
         |none=>none)
       |_=>none)
     |_=>none)
   | .load t (.tmp x)=>(match env.look x with
     |some (.ptr off)=>if DK P t false 1=true/\off<sz then some ((d,.val off)::env)else none
     |_=>none)
   |.call ⟨.value (.func f),⟨[.tmp x]⟩,_⟩=>if f=yx/\env.look x=some .cnt/\rW P f=true then some ((d,.txt)::env)else none
   |_=>none)
 |_,_=>none
def DR (P:Program)(yx:Nat)(tx:Int->List UInt8):Prop:=∀k:Int,0<=k->k<4611686018427387904->fD P yx [.one (.c (.lit (.int .i64 k)))] (.one (.c (.str (tx k))))
section
variable {P:Program} {yx sz:Nat} {tx:Int->List UInt8} {kb i n c:Nat} {k:Int}
def SV.den (tx:Int->List UInt8)(sz kb i n c:Nat)(k:Int)(w:World)(v:Value):SV->Prop
 |.arr=>v = .slice (some ⟨kb,0,none⟩) n c
 |.idx=>v = .int .i64 (i:Int)
 |.cnt=>v = .int .i64 k
 |.ptr off=>v = .pointer (some ⟨kb,i*sz+off,none⟩)
 |.txt=>v = .string ⟨⟨tx k⟩⟩/\(tx k).length<=maxLen
 |.val off=>w.cell? ⟨kb,i*sz+off,none⟩=some v
structure ES (tx:Int->List UInt8)(sz kb i n c m:Nat)(k:Int)(env:BJ)(a:Act)(w:World):Prop where
 size:a.tmps.size=m
 defers:a.defers=[]
 den:∀t v,env.look t=some v->v.den tx sz kb i n c k w (a.tmps.getD t undef)
theorem SV.XG {w w':World}(hb:w'.heap[kb]? = w.heap[kb]?){v:SV}{x:Value}(h:v.den tx sz kb i n c k w x):v.den tx sz kb i n c k w' x:=by
 cases v with
 |val off=>simp only[SV.den,dR,hb]at h⊢;exact h
 |_=>exact h
theorem ES.put {m:Nat}{env:BJ}{a:Act}{w:World}(h:ES tx sz kb i n c m k env a w){d:Nat}(hd:env.look d=none)(hm:d<m){v:Value}{s:SV}(hv:s.den tx sz kb i n c k w v):ES tx sz kb i n c m k ((d,s)::env) (a.put (some d) v) w:=by
 refine⟨by simp[fA,h.size],h.defers,λt x hx=>?_⟩;simp only[BJ.look]at hx;by_cases e:d=t
 ·subst e;simp only[beq_self_eq_true,if_true,aG]at hx;subst hx;rw[dF (by rw[h.size];exact hm)];exact hv
 ·rw[if_neg (by simpa using e)]at hx;rw[jD (yN e)];exact h.den t x hx
theorem ES.world {m:Nat}{env:BJ}{a:Act}{w w':World}(h:ES tx sz kb i n c m k env a w)(hb:w'.heap[kb]? = w.heap[kb]?):ES tx sz kb i n c m k env a w':=
 ⟨h.size,h.defers,λt v hv=>SV.XG hb (h.den t v hv)⟩
variable {ops:Array Oper} {Q:Exit->Act->World->Prop} {rest:List Oper} {o:Oper} {a:Act} {w w':World} {v:Value}
theorem nG (hg:o.guard=none)(hr:(execOp a.eval o).run P w = .ok (.value v) w')(h:wpList P ops Q rest (a.put o.dst v) w'):wpList P ops Q (o::rest) a w:=
 wpList_plain hg λK hK=>by unfold rF;rw[hr,Oper.upon_value];exact hK _ _ h
theorem step_skip (hg:o.guard=none)(hr:(execOp a.eval o).run P w = .ok .skip w')(h:wpList P ops Q rest (a.put o.dst undef) w'):wpList P ops Q (o::rest) a w:=
 wpList_plain hg λK hK=>by unfold rF;rw[hr,Go.Oper.upon_skip];exact hK _ _ h
theorem Ff (hg:o.guard=none){f:FuncId}{args:Array Value}(hr:(execOp a.eval o).run P w = .ok (.enter f args) w)
 (h:Calls P f args w λe w'=>∃v,e = .returned v/\wpList P ops Q rest (a.put o.dst v) w'):wpList P ops Q (o::rest) a w:=
 wpList_plain hg λK hK=>by unfold rF;rw[hr,Oper.upon_enter];refine h.mono ?_;rintro e w' ⟨v,rfl,h⟩;exact hK _ _ h
theorem Yz (ht:DR P yx tx)(h0:0<=k)(h1:k<4611686018427387904){I0:IH}(hT:Tabs P I0)(hA:Agree I0 w) :
 Calls P yx #[.int .i64 k] w λe w'=>e = .returned (.string ⟨⟨tx k⟩⟩)/\(tx k).length<=maxLen/\xK w w' λ_=>False:=by
 refine(ht k h0 h1 I0 (λ_=>none) w [.int .i64 k] hT hA ⟨λb=>rfl,λb b' k h=>h.elim,λb k h=>h.elim⟩ ⟨rfl,λj v x hv hx=>?_⟩ _ .VK).mono ?_
 ·match j with
  |0=>cases hv;cases hx;exact Rd.lit _ rfl
  |j+1=>cases hv
 ·rintro e w' ⟨⟨v,J,σ,r,bs,rfl,⟨rfl,rfl⟩,hgv,_,_,_,hF,_⟩,_⟩;cases hgv with
  |str l hl=>exact⟨rfl,hl,hF.os,hF.tape,hF.output,hF.size,λb hb _=>hF.block b hb (by rintro⟨b,hb⟩;exact hb)⟩
theorem O3 {m:Nat}{env env':BJ}(hq:qop P yx sz env o=some env')(hm:∀d,o.dst=some d->d<m)(h:ES tx sz kb i n c m k env a w)(hi:i<n)(ht:DR P yx tx)(h0:0<=k)(h1:k<4611686018427387904){I0:IH}(hT:Tabs P I0)(hA:Agree I0 w)(hkb:kb<w.heap.size)
 (hcell:∀off,off<sz->∃x,w.cell? ⟨kb,i*sz+off,none⟩=some x)
 (hk:∀a' w',ES tx sz kb i n c m k env' a' w'->xK w w' (λ_=>False)->wpList P ops Q rest a' w'):wpList P ops Q (o::rest) a w:=by
 unfold qop at hq;split at hq
 ·rename_i d hg hd;split at hq
  ·cases hq
  ·rename_i hdd;simp only[eH,not_or,Bool.not_eq_true,Option.isSome_eq_false_iff,nI]at hdd;have hdn:=hdd.2;have hdm:=hm d hd;have fin:∀{v:Value} {s:SV},(execOp a.eval o).run P w = .ok (.value v) w->s.den tx sz kb i n c k w v->env'=(d,s)::env->wpList P ops Q (o::rest) a w:=λhr hs e=>by
    subst e;refine nG hg hr ?_;rw[hd];exact hk _ _ (h.put hdn hdm hs) (xK.refl _ _)
   split at hq
   ·rename_i s ho;simp only[bI]at hq;obtain⟨x,hx,rfl⟩:=hq;exact fin (v:=a.tmps.getD s undef) (by unfold execOp;rw[ho];rfl) (h.den s x hx) rfl
   ·rename_i t x y ho;split at hq
    ·rename_i hc;cases hq;obtain⟨c1,c2,c3⟩:=hc;obtain⟨e,ti,ht,hti,hsz⟩:=wC c3;have v1:a.eval (.tmp x) = .slice (some ⟨kb,0,none⟩) n c:=h.den x _ c1;have v2:a.eval (.tmp y) = .int .i64 (i:Int):=h.den y _ c2;refine fin (v:=.pointer (some ((⟨kb,0,none⟩:Addr).add ((i:Int).toNat*sz)))) (s:=.ptr 0) ?_ ?_ rfl
     ·have e0:(0:Int)<=i:=(by omega);have e1:(i:Int)<n:=(by omega);simp[execOp,ho,Go.Instr.indexAt,v1,v2,asIntOf,run_underlying ht,e1,hi,sizeOf,typeInfo,hti,hsz]
     ·simp only[SV.den,Addr.l7,dh,Int.toNat_natCast,Nat.add_zero]
    ·cases hq
   ·rename_i s x f ho;split at hq
    ·rename_i off hx;split at hq
     ·rename_i fs hs;split at hq
      ·rename_i JM hf;split at hq
       ·rename_i hfa;cases hq;have v1:a.eval (.tmp x) = .pointer (some ⟨kb,i*sz+off,none⟩):=h.den x _ hx;unfold yE at hfa;rw[hs]at hfa;simp only[hf,af]at hfa;obtain⟨_,hfa⟩:=hfa;split at hfa
        ·rename_i ti hti;simp at hfa;refine fin (v:=.pointer (some ((⟨kb,i*sz+off,none⟩:Addr).add JM.offset))) (s:=.ptr (off+JM.offset)) ?_ ?_ rfl
         ·simp[execOp,ho,uK,run_underlying hs,hf,v1,gz,fieldPlace,sizeOf,typeInfo,hti,hfa]
         ·simp only[SV.den,Addr.l7,lH]
        ·cases hfa
       ·cases hq
      ·cases hq
     ·cases hq
    ·cases hq
   ·rename_i t x ho;split at hq
    ·rename_i off hx;split at hq
     ·rename_i hty;cases hq;obtain⟨hty,hlt⟩:=hty;have v1:a.eval (.tmp x) = .pointer (some ⟨kb,i*sz+off,none⟩):=h.den x _ hx;obtain⟨u,hu⟩:=hcell off hlt;refine fin (v:=u) (s:=.val off) ?_ hu rfl;simp[execOp,ho,v1,gz,kD,Df hty hu]
     ·cases hq
    ·cases hq
   ·rename_i f x ts ho;split at hq
    ·rename_i hc;cases hq;obtain⟨rfl,hx,hok⟩:=hc;have v1:a.eval (.tmp x) = .int .i64 k:=h.den x _ hx;have he:=zq (w:=w) (a:=a) ho (f:=f) (x:=.func f) (caps:= #[]) rfl hok;refine Ff hg (f:=f) (args:= #[.int .i64 k]) (by simpa[v1]using he) ((Yz ht h0 h1 hT hA).mono ?_);rintro e w' ⟨rfl,hl,hF⟩;refine⟨_,rfl,?_⟩;rw[hd];exact hk _ _ ((h.world (hF.block kb hkb (λh=>h))).put hdn hdm ⟨rfl,hl⟩) hF
    ·cases hq
   ·cases hq
 ·cases hq
theorem TC {env env':BJ}(hq:qop P yx sz env o=some env'){t:Nat}{v:SV}(h:env.look t=some v):env'.look t=some v:=by
 have fin:∀{d:Nat} {s:SV},env.look d=none->BJ.look ((d,s)::env) t=some v:=λ{d s} hd=>by simp only[BJ.look];rw[if_neg (by simp only[beq_iff_eq];rintro rfl;rw[hd]at h;cases h)];exact h
 unfold qop at hq;split at hq
 ·split at hq
  ·cases hq
  ·rename_i hdd;simp only[eH,not_or,Bool.not_eq_true,Option.isSome_eq_false_iff,nI]at hdd;have hd:=hdd.2;split at hq
   ·simp only[bI]at hq;obtain⟨x,_,rfl⟩:=hq;exact fin hd
   all_goals(repeat' split at hq)<;>first|(cases hq;exact fin hd)|cases hq
 ·cases hq
end
end
section
def NV : List (Nat×Nat)->Nat->Option Nat
 |[],_=>none
 |(b,c)::r,x=>if b=x then some c else NV r x
def TV (zs:List Nat)(bx:Nat->Box)(π:Nat->Option Nat)(vs:List Nat)(ts0:List (Nat×Slot)):List (Nat×Slot)->Prop
 |[]=>True
 |(t,s)::r=>Ol zs bx π vs (uV ts0 t) s/\TV zs bx π vs ts0 r
def NQ (zs:List Nat)(bx:Nat->Box)(π:Nat->Option Nat)(vs:List Nat):List (Nat×Box)->Prop
 |[]=>True
 |(b,x)::r=>TR zs bx π vs b x/\NQ zs bx π vs r
def Box.isAbs : Box->Bool
 |.absent=>true
 |_=>false
def nodupB : List Nat->Bool
 |[]=>true
 |x::r=> !r.contains x&&nodupB r
def fst' {α:Type} : List (Nat×α)->List Nat
 |[]=>[]
 |x::r=>x.1::fst' r
def snd' : List (Nat×Nat)->List Nat
 |[]=>[]
 |x::r=>x.2::snd' r
def Jf (m:Nat)(zK bs:List (Nat×Box))(pi:List (Nat×Nat))(vs:List Nat):Bool:=
 nodupB (snd' (pi.filter λp=> !(lY bs p.1).Jc))&&nodupB (fst' pi)&&(fst' pi).all (λb=>(fst' bs).contains b)&&vs.all (λb=>(fst' bs).contains b && !(fst' pi).contains b) &&
  (List.range m).all λb=>NV pi b==some b||(!(fst' pi).contains b && !vs.contains b&&(lY zK b).isAbs)
theorem Gp {l:List Nat} : nodupB l=true<->l.Nodup:=by
 induction l with
 |nil=>simp[nodupB]
 |cons x r ih=>simp[nodupB,ih]
theorem Ib : ∀{pi:List (Nat×Nat)} {b c:Nat},NV pi b=some c->(b,c)∈pi
 |[],_,_,h=>by cases h
 | (x,y)::r,b,c,h=>by
   simp only[NV]at h;split at h
   ·rename_i e;subst e;cases h;exact List.mem_cons_self ..
   ·exact bW _ (Ib h)
theorem Si {α:Type} : ∀{l:List (Nat×α)} {b:Nat},b∈fst' l<->∃x,(b,x)∈l
 |[],b=>by simp[fst']
 | (a,y)::r,b=>by
   simp only[fst',aB,Si (l:=r)];constructor
   ·rintro(h|⟨x,hx⟩)
    ·subst h;exact⟨y,.inl rfl⟩
    ·exact⟨x,.inr hx⟩
   ·rintro⟨x,h|h⟩
    ·cases h;exact .inl rfl
    ·exact .inr ⟨x,h⟩
theorem WS : ∀{l:List (Nat×Nat)},snd' l=l.map (·.2)
 |[]=>rfl
 |x::r=>by simp[snd',WS (l:=r)]
theorem MW {pi:List (Nat×Nat)}{b:Nat}(h:b ∉ fst' pi):NV pi b=none:=by
 cases hp:NV pi b with
 |none=>rfl
 |some c=>exact absurd (Si.2 ⟨c,Ib hp⟩) h
theorem TT {zs vs:List Nat}{bx:Nat->Box}{π:Nat->Option Nat} : ∀{bs:List (Nat×Box)},NQ zs bx π vs bs->∀b x,(b,x)∈bs->TR zs bx π vs b x
 |[],_,_,_,h=>by cases h
 | (c,y)::r,hw,b,x,h=>by
   rcases aB.1 h with h|h
   ·cases h;exact hw.1
   ·exact TT hw.2 b x h
theorem Ph {zs vs:List Nat}{bx:Nat->Box}{π:Nat->Option Nat}{ts0:List (Nat×Slot)} : ∀{ts:List (Nat×Slot)},TV zs bx π vs ts0 ts->∀t,Ol zs bx π vs (uV ts0 t) (uV ts t)
 |[],_,_=>by simp[uV,Ol]
 | (c,y)::r,hw,t=>by
   simp only[uV];split
   ·rename_i e;subst e;exact hw.1
   ·exact Ph hw.2 t
theorem XZ {bs:List (Nat×Box)}{b:Nat} : (b,lY bs b)∈bs\/(b ∉ fst' bs/\lY bs b = .absent):=by
 induction bs with
 |nil=>right;simp[fst',lY]
 | cons p r ih=>
   obtain⟨c,y⟩:=p;simp only[lY];by_cases h:c=b
   ·subst h;left;simp
   ·rw[if_neg h];rcases ih with ih|⟨h1,h2⟩
    ·left;exact bW _ ih
    ·right;refine⟨?_,h2⟩;simp only[fst',aB,not_or];exact⟨λe=>h e.symm,h1⟩
theorem aaY {m:Nat}{zK bs:List (Nat×Box)}(zs:List Nat)(pi:List (Nat×Nat))(vs:List Nat)(hk:Jf m zK bs pi vs=true)(hb:NQ zs (lY zK) (NV pi) vs bs):WkS m (lY zK) (lY bs) zs (NV pi) vs:=by
 simp only[Jf,af,aH,eH,beq_iff_eq,Bool.not_eq_true',List.mem_range,Gp,gm]at hk;obtain⟨⟨⟨⟨h1,_⟩,h3⟩,h4⟩,h5⟩:=hk;have ZF:∀{l:List Nat} {x:Nat},l.contains x=false->x ∉ l:=λh hm=>by rw[gm.2 hm]at h;cases h
 refine⟨λb=>?_,λb b' c hd1 hd2 hb1 hb2=>?_,λb hv=>MW (ZF (h4 b hv).2),λb hlt=>?_⟩
 ·rcases XZ (bs:=bs) (b:=b)with h|⟨h,e⟩
  ·exact TT hb b _ h
  ·rw[e];exact⟨MW λhm=>h (h3 b hm),λhm=>h (h4 b hm).1⟩
 ·have m1:(b,c)∈pi.filter λp=> !(lY bs p.1).Jc:=aJ.2 ⟨Ib hb1,by simp[hd1]⟩;have m2:(b',c)∈pi.filter λp=> !(lY bs p.1).Jc:=aJ.2 ⟨Ib hb2,by simp[hd2]⟩;rw[WS]at h1;obtain⟨i,hi,ei⟩:=nS m1;obtain⟨j,hj,ej⟩:=nS m2;have hpw:=List.pairwise_iff_getElem.1 h1;rcases Nat.lt_trichotomy i j with h|h|h
  ·have:=hpw i j (by simpa using hi) (by simpa using hj) h;simp[ei,ej]at this
  ·subst h;rw[ei]at ej;cases ej;rfl
  ·have:=hpw j i (by simpa using hj) (by simpa using hi) h;simp[ei,ej]at this
 ·rcases h5 b hlt with h|⟨⟨h,h'⟩,h''⟩
  ·exact .inl h
  ·refine .inr ⟨MW (ZF h),ZF h',?_⟩;cases hx:lY zK b with
   |absent=>rfl
   |_=>rw[hx]at h'';cases h''
theorem Gq (ts:List (Nat×Slot))(bs:List (Nat×Box)):(dP.of ts bs).bx=lY bs:=funext λb=>yf ts bs b
theorem acm {m:Nat}{ts0 ts:List (Nat×Slot)}{zK bs:List (Nat×Box)}(zs:List Nat)(pi:List (Nat×Nat))(vs:List Nat)(hk:Jf m zK bs pi vs=true)
 (hb:NQ zs (lY zK) (NV pi) vs bs) (ht:TV zs (lY zK) (NV pi) vs ts0 ts):Fv m (dP.of ts0 zK) (dP.of ts bs):=by
 refine⟨zs,NV pi,vs,?_,λt=>?_⟩
 ·rw[Gq,Gq];exact aaY zs pi vs hk hb
 ·rw[Gq,Cb,Cb];exact Ph ht t
def dC (bx:Nat->Box):AC->AC->Prop
 |.c x,.c y=>x=y
 |.xh sz,.c y=>y = .sl sz []
 | .own b n sz,.c y=>match(bx b).arr with
   |some (sz',es)=>sz'=sz/\n<=es.length/\y = .sl sz (es.take n)
   |none=>False
 |_,_=>False
def dCs (bx:Nat->Box):List AC->List AC->Prop
 |[],[]=>True
 |x::xs,y::ys=>dC bx x y/\dCs bx xs ys
 |_,_=>False
def dPs (bx:Nat->Box):List (Bool×List AC)->List (Bool×List AC)->Prop
 |[],[]=>True
 |(g,x)::xs,(g',y)::ys=>g=g'/\dCs bx x y/\dPs bx xs ys
 |_,_=>False
def dV (bx:Nat->Box):AV->AV->Prop
 |.one x,.one y=>dC bx x y
 |.agg xs,.agg ys=>dCs bx xs ys
 |.wF xs,.wF ys=>dPs bx xs ys
 |_,_=>False
theorem acI {bx:Nat->Box}{zs:List Nat}{x y:AC}(h:dC bx x y)(hz:∀b,b∈kz [x]->b∈zs):DN zs bx (λ_=>none) [] x y:=by
 cases x<;>cases y<;>simp only[dC]at h<;>try exact h
 exact⟨hz _ (by simp[kz]),h⟩
theorem UM {bx:Nat->Box}{zs:List Nat} : ∀{xs ys:List AC},dCs bx xs ys->(∀b,b∈kz xs->b∈zs)->GH zs bx (λ_=>none) [] xs ys
 |[],[],_,_=>trivial
 |x::xs,y::ys,h,hz=>⟨acI h.1 λb hb=>hz b (yg.2 (.inl hb)),UM h.2 λb hb=>hz b (yg.2 (.inr hb))⟩
 |[],_::_,h,_=>h.elim
 |_::_,[],h,_=>h.elim
theorem Za {bx:Nat->Box}{zs:List Nat} : ∀{xs ys:List (Bool×List AC)},dPs bx xs ys->(∀b,b∈(AV.wF xs).owns->b∈zs)->Oj zs bx (λ_=>none) [] xs ys
 |[],[],_,_=>trivial
 | (g,x)::xs,(g',y)::ys,h,hz=>⟨h.1,UM h.2.1 λb hb=>hz b (by simp only[AV.owns,mX,aV];exact .inl hb),Za h.2.2 λb hb=>hz b (by simp only[AV.owns,mX,aV]at hb⊢;exact .inr hb)⟩
 |[],_::_,h,_=>h.elim
 |_::_,[],h,_=>h.elim
theorem aez {bx:Nat->Box}{x y:AV}(h:dV bx x y):WX x.owns bx (λ_=>none) [] x y:=by
 cases x<;>cases y<;>simp only[dV]at h<;>first|exact h.elim|skip
 ·exact acI h λb hb=>hb
 ·exact UM h λb hb=>hb
 ·exact Za h λb hb=>hb
def J4 (rs:List qR)(r:AV)(st:dP):Prop:=AY st rs/\dV st.bx (Oe st rs) r
def QP (rs:List qR)(r:AV):AQ
 |.normal,st=>J4 rs r st
 |.ret,st=>J4 rs r st
 |.exit _,_=>False
theorem J4.ret {rs:List qR}{r:AV}{st:dP}(h:J4 rs r st):Dq rs 0 (λr' bs=>r'=r/\bs=[]) st:=
 ⟨h.1,r,[],_,_,[],⟨rfl,rfl⟩,⟨λb=>by rw[PG];exact⟨rfl,by simp⟩,λb b' c _ _ h=>by simp at h,λb _=>rfl,λb hb=>by omega⟩,aez h.2⟩
section
variable {P:Program}
theorem NR : ∀{l:List gX} {st:dP} {K K':dP->Prop},(∀st,K st->K' st)->wpOps P l st K->wpOps P l st K'
 |[],st,_,_,hk,h=>hk st h
 |x::r,_,_,_,hk,h=>IE (λ_ _ _ h=>NR (l:=r) hk h) (show T P x _ (λ_ _ st'=>wpOps P r st' _)from h)
theorem TW : ∀{l:List (gX×List Nat)} {i:Nat} {log:Log} {st:dP} {K K':dP->Prop},(∀st,K st->K' st)->wpD P l i log st K->wpD P l i log st K'
 |[],_,_,st,_,_,hk,h=>hk st h
 |(o,zZ)::r,i,log,_,_,_,hk,h=>IE (λ_ _ _ h=>⟨h.1,TW (l:=r) hk h.2⟩) (show T P o _ (λrd wr st'=>tH zZ rd wr log=true/\wpD P r (i+1) ((i,rd,wr)::log) st' _)from h)
theorem wpC_mono : ∀{c:dD} {Q Q':AQ} {st:dP},(∀e st,Q e st->Q' e st)->wpC P c Q st->wpC P c Q' st
 |.skip,_,_,st,hq,h=>hq .normal st h
 |.reg ops keep,_,_,st,hq,h=>NR (λst h=>hq .normal _ h) h
 |.qp ops keep,_,_,st,hq,h=>TW (λst h=>hq .normal _ h) h
 |.seq a b,_,_,st,hq,h=>wpC_mono (c:=a) (λe st h=>by
  cases e with
  |normal=>exact wpC_mono (c:=b) hq h
  |exit id=>exact hq _ _ h
  |ret=>exact hq _ _ h) h
 |.cut a b,_,_,st,hq,⟨X,J,S,h1,h2⟩=>⟨X,J,S,wpC_mono (c:=a) (λe st h=>by
  cases e with
  |normal=>exact h
  |exit id=>exact hq _ _ h
  |ret=>exact hq _ _ h) h1,λx hx=>wpC_mono (c:=b) hq (h2 x hx)⟩
 |.cond c a b,_,_,st,hq,⟨h1,h2⟩=>⟨h1,by
  split at h2
  ·exact⟨λe=>wpC_mono (c:=a) hq (h2.1 e),λe=>wpC_mono (c:=b) hq (h2.2 e)⟩
  ·exact h2.elim⟩
 |.block id a,_,_,st,hq,h=>wpC_mono (c:=a) (λe st h=>by
  cases e with
  |normal=>exact hq _ _ h
  | exit id'=>
    simp only[o6.inBlock]at h⊢;split
    ·rename_i e;rw[if_pos e]at h;exact hq _ _ h
    ·rename_i e;rw[if_neg e]at h;exact hq _ _ h
  |ret=>exact hq _ _ h) h
 |.loop a,_,_,st,hq,⟨X,J,S,μ,h0,h1⟩=>⟨X,J,S,μ,h0,λx hx=>wpC_mono (c:=a) (λe st h=>by
  cases e with
  |normal=>exact h
  |exit id=>exact hq _ _ h
  |ret=>exact hq _ _ h) (h1 x hx)⟩
 |.exit id,_,_,st,hq,h=>hq _ _ h
 |.ret,_,_,st,hq,h=>hq _ _ h
theorem dB {f:FuncId}{ac:dD}{rs:List qR}{args:List AV}{r:AV}(hc:lK P f args.length 0 ac rs=true)(hwp:wpC P ac (QP rs r) (st0 args [])):fD P f args r:=by
 refine vI (fp:=[]) hc (wpC_mono (λe st h=>?_) hwp);cases e with
 |normal=>exact J4.ret h
 |ret=>exact J4.ret h
 |exit id=>exact h.elim
theorem CB.intro {body:AQ->dP->Prop}{Q:AQ}{st:dP}{d1:DU body}{d2:DU Q}{X:Type}(J:X->Prop)(S:X->dP)(μ:X->Nat)(x0:X)(h0:J x0)(hw:Fv 10 st (S x0))
 (h:∀x,J x->body (o6.then (λst'=>∃x',(J x'/\μ x'<μ x)/\Fv 10 st' (S x')) Q) (S x)):CB body Q st d1 d2:=
 ⟨X,J,S,μ,⟨x0,h0,hw⟩,h⟩
theorem GL.intro {wa wb:AQ->dP->Prop}{Q:AQ}{st:dP}{d1:DU wa}{d2:DU wb}{d3:DU Q}{X:Type}(J:X->Prop)(S:X->dP)
 (h1:wa (o6.then (λst'=>∃x,J x/\Fv 10 st' (S x)) Q) st) (h2:∀x,J x->wb Q (S x)):GL wa wb Q st d1 d2 d3:=
 ⟨X,J,S,h1,h2⟩
def zO (bx:Nat->Box):AC->AC
 |.xh sz=>.c (.sl sz [])
 | .own b n sz=>match(bx b).arr with
   |some (_,es)=>.c (.sl sz (es.take n))
   |none=>.Em
 |x=>x
def xu (bx:Nat->Box):AV->AV
 |.one x=>.one (zO bx x)
 |.agg xs=>.agg (xs.map (zO bx))
 |.wF xs=>.wF xs
def sW (bx:Nat->Box):List AV->Prop
 |[]=>True
 |.wF _::_=>False
 |x::r=>uz bx x.cells/\sW bx r
theorem Eo {bx:Nat->Box} : ∀{xs:List AC},uz bx xs->CvL bx xs (xs.map (zO bx))
 |[],_=>.nil
 | x::r,h=>by
   cases x with
   | own b n sz=>
     obtain⟨h1,h2⟩:=h;refine .cons ?_ (Eo h2);simp only[zO];cases hb:(bx b).arr with
     |none=>rw[hb]at h1;exact h1.elim
     |some p=>obtain⟨sz',es⟩:=p;rw[hb]at h1;obtain⟨rfl,h1⟩:=h1;exact .own b n sz' es hb h1
   |xh sz=>exact .cons (.xh sz) (Eo (xs:=r) h)
   |_=>exact .cons (.refl _) (Eo (xs:=r) h)
theorem Ep {bx:Nat->Box} : ∀{xs:List AV},sW bx xs->FW bx xs (xs.map (xu bx))
 |[],_=>.nil
 | x::r,h=>by
   cases x with
   | one x=>
     refine .cons ?_ (Ep h.2);have:=Eo (xs:=[x]) h.1;cases this with
     |cons h t=>exact .one h
   |agg xs=>exact .cons (.agg (Eo h.1)) (Ep h.2)
   |wF xs=>exact h.elim
variable {f:FuncId} {oD:List AV} {p:Bool} {d:Option Nat} {st:dP} {K:List Nat->List Nat->dP->Prop} {du:DU K}
theorem oV.lit (r:AV)(h:p=true->fD P f (oD.map (xu st.bx)) r)(hl:p=true->sW st.bx oD)(hd:(oD.map (xu st.bx)).all (·.all AC.qV)=true)(hr:r.all AC.isLit=true)
 (k:K (oD.flatMap AV.owns) [] (st.uA d (.v p r))):oV P f oD p d st K du:=
 FH.lit _ r (λe=>Ep (hl e)) hd h hr k
theorem oV.pure (r:AV)(hp:p=true)(h:fD P f (oD.map (xu st.bx)) r)(hl:sW st.bx oD)(hd:(oD.map (xu st.bx)).all (·.all AC.qV)=true)(hr:r.all AC.qV=true)
 (k:K (oD.flatMap AV.owns) (oD.flatMap AV.owns) ((st.zL (oD.flatMap AV.owns)).uA d (.v true r))):oV P f oD p d st K du:=
 FH.pure _ r hp (Ep hl) hd h hr k
end
end
section
def TK (P:Program)(o:gX)(st:dP)(K:List Nat->List Nat->dP->Prop)(_:DU o)(_:DU K):Prop:=T P o st K
def JF (P:Program)(ops:List gX)(st:dP)(K:dP->Prop)(_:DU ops)(_:DU K):Prop:=wpOps P ops st K
def YG (P:Program)(ops:List (gX×List Nat))(i:Nat)(log:List (Nat×List Nat×List Nat))(st:dP)(K:dP->Prop)(_:DU ops)(_:DU K):Prop:=wpD P ops i log st K
def wG (P:Program)(c:dD)(Q:AQ)(st:dP)(_:DU c)(_:DU Q):Prop:=wpC P c Q st
def QK (Q:AQ)(e:o6)(st:dP)(_:DU Q):Prop:=Q e st
def FU (c:dD)(P:Program)(Q:AQ):AQ:=o6.then (wpC P c Q) Q
section
variable {P:Program} {st:dP} {K:List Nat->List Nat->dP->Prop} {k:dP->Prop} {Q:AQ}
theorem abn {g:Option (Nat×Bool)}{d:Option Nat}{f:FuncId}{args:List jK}{d1:DU (gX.mk g d (.call f args))}{d2:DU K} :
 TK P ⟨g,d,.call f args⟩ st K d1 d2=(xG st.tm g/\(l9 st.tm g=true->∀x,x∈args->(x.ev st.tm).g=true)/\oV P f (args.map (bT st.tm)) (l9 st.tm g) d st K .mk):=by
 unfold TK T;rfl
def IC (P:Program)(x:AV)(args:List AV)(p:Bool)(d:Option Nat)(st:dP)(K:List Nat->List Nat->dP->Prop)(_:DU K):Prop:=
 match p,x with
 |false,_=>oV P 0 [] false d st K .mk
 |true,.one (.fn f caps)=>rW P f=true/\oV P f (args++caps.map λb=>.one (.ptr b 0)) true d st K .mk
 |true,_=>False
theorem Xh {f:FuncId}{caps:List Nat}{args:List AV}{d:Option Nat}{du:DU K} : IC P (.one (.fn f caps)) args true d st K du=(rW P f=true/\oV P f (args++caps.map λb=>.one (.ptr b 0)) true d st K .mk):=by unfold IC;rfl
theorem YU {x:AV}{args:List AV}{d:Option Nat}{du:DU K} : IC P x args false d st K du=oV P 0 [] false d st K .mk:=by unfold IC;rfl
theorem YV {g:Option (Nat×Bool)}{d:Option Nat}{x:jK}{args:List jK}{d1:DU (gX.mk g d (.Dv x args))}{d2:DU K} :
 TK P ⟨g,d,.Dv x args⟩ st K d1 d2=(xG st.tm g/\(l9 st.tm g=true->(x.ev st.tm).g=true/\∀x,x∈args->(x.ev st.tm).g=true)/\IC P (bT st.tm x) (args.map (bT st.tm)) (l9 st.tm g) d st K .mk):=by
 unfold TK T IC;rfl
theorem VQ {d1:DU ([]:List gX)}{d2:DU k} : JF P [] st k d1 d2=k st:=by unfold JF wpOps;rfl
theorem TY {o:gX}{r:List gX}{d1:DU (o::r)}{d2:DU k} : JF P (o::r) st k d1 d2=TK P o st (λ_ _ st'=>JF P r st' k .mk .mk) .mk .mk:=by unfold JF TK;rfl
theorem aa4 {i:Nat}{log:List (Nat×List Nat×List Nat)}{d1:DU ([]:List (gX×List Nat))}{d2:DU k} : YG P [] i log st k d1 d2=k st:=by unfold YG wpD;rfl
theorem YH {i:Nat}{log:List (Nat×List Nat×List Nat)}{o:gX}{zZ:List Nat}{r:List (gX×List Nat)}{d1:DU ((o,zZ)::r)}{d2:DU k} :
 YG P ((o,zZ)::r) i log st k d1 d2=TK P o st (λrd wr st'=>tH zZ rd wr log=true/\YG P r (i+1) ((i,rd,wr)::log) st' k .mk .mk) .mk .mk:=by
 unfold YG TK;rfl
theorem YF {d1:DU dD.skip}{d2:DU Q} : wG P .skip Q st d1 d2=QK Q .normal st .mk:=by unfold wG wpC;rfl
theorem aa0 {ops:List gX}{keep:List Nat}{d1:DU (dD.reg ops keep)}{d2:DU Q} : wG P (.reg ops keep) Q st d1 d2=JF P ops st (λst=>QK Q .normal (st.keep keep) .mk) .mk .mk:=by unfold wG wpC;rfl
theorem YE {ops:List (gX×List Nat)}{keep:List Nat}{d1:DU (dD.qp ops keep)}{d2:DU Q} : wG P (.qp ops keep) Q st d1 d2=YG P ops 0 [] st (λst=>QK Q .normal (st.keep keep) .mk) .mk .mk:=by unfold wG wpC;rfl
theorem aa2 {a b:dD}{d1:DU (dD.seq a b)}{d2:DU Q} : wG P (.seq a b) Q st d1 d2=wG P a (FU b P Q) st .mk .mk:=by unfold wG;rw[wpC];rfl
theorem aaZ {a b:dD}{d1:DU (dD.cut a b)}{d2:DU Q} : wG P (.cut a b) Q st d1 d2=GL (wpC P a) (wpC P b) Q st .mk .mk .mk:=by unfold wG;rw[wpC]
theorem YD {a:dD}{d1:DU (dD.loop a)}{d2:DU Q} : wG P (.loop a) Q st d1 d2=CB (wpC P a) Q st .mk .mk:=by unfold wG;rw[wpC]
theorem VN {id:Nat}{a:dD}{d1:DU (dD.block id a)}{d2:DU Q} : wG P (.block id a) Q st d1 d2=wG P a (o6.inBlock id Q) st .mk .mk:=by unfold wG;rw[wpC]
theorem YC {id:Nat}{d1:DU (dD.exit id)}{d2:DU Q} : wG P (.exit id) Q st d1 d2=QK Q (.exit id) st .mk:=by unfold wG wpC;rfl
theorem aa1 {d1:DU dD.ret}{d2:DU Q} : wG P .ret Q st d1 d2=QK Q .ret st .mk:=by unfold wG wpC;rfl
def OA (P:Program)(c:AV)(a b:dD)(Q:AQ)(st:dP)(_:DU a)(_:DU b)(_:DU Q):Prop:=
 match c with
 |.one (.c (.lit (.bool t)))=>(t=true->wpC P a Q st)/\(t=false->wpC P b Q st)
 |_=>False
theorem YB {c:jK}{a b:dD}{d1:DU (dD.cond c a b)}{d2:DU Q} : wG P (.cond c a b) Q st d1 d2=((c.ev st.tm).g=true/\OA P (c.ev st.tm).x a b Q st .mk .mk .mk):=by unfold wG OA;rw[wpC]<;>rfl
theorem abB {a b:dD}{d1:DU a}{d2:DU b}{d3:DU Q} : OA P (.one (.c (.lit (.bool true)))) a b Q st d1 d2 d3=wG P a Q st .mk .mk:=by unfold OA wG;simp
theorem abA {a b:dD}{d1:DU a}{d2:DU b}{d3:DU Q} : OA P (.one (.c (.lit (.bool false)))) a b Q st d1 d2 d3=wG P b Q st .mk .mk:=by unfold OA wG;simp
theorem Xd {b:dD}{du:DU (FU b P Q)} : QK (FU b P Q) .normal st du=wG P b Q st .mk .mk:=by unfold QK FU wG;rfl
theorem Xc {b:dD}{id:Nat}{du:DU (FU b P Q)} : QK (FU b P Q) (.exit id) st du=QK Q (.exit id) st .mk:=by unfold QK FU;rfl
theorem Xe {b:dD}{du:DU (FU b P Q)} : QK (FU b P Q) .ret st du=QK Q .ret st .mk:=by unfold QK FU;rfl
theorem Xa {k:dP->Prop}{du:DU (o6.then k Q)} : QK (o6.then k Q) .normal st du=k st:=by unfold QK;rfl
theorem W9 {k:dP->Prop}{id:Nat}{du:DU (o6.then k Q)} : QK (o6.then k Q) (.exit id) st du=QK Q (.exit id) st .mk:=by unfold QK;rfl
theorem Xb {k:dP->Prop}{du:DU (o6.then k Q)} : QK (o6.then k Q) .ret st du=QK Q .ret st .mk:=by unfold QK;rfl
theorem Uj {id:Nat}{du:DU (o6.inBlock id Q)} : QK (o6.inBlock id Q) .normal st du=QK Q .normal st .mk:=by unfold QK;rfl
theorem Ui {id id':Nat}{du:DU (o6.inBlock id Q)} : QK (o6.inBlock id Q) (.exit id') st du=if id'=id then QK Q .normal st .mk else QK Q (.exit id') st .mk:=by unfold QK;rfl
theorem Uk {id:Nat}{du:DU (o6.inBlock id Q)} : QK (o6.inBlock id Q) .ret st du=QK Q .ret st .mk:=by unfold QK;rfl
theorem abk {rs:List qR}{r:AV}{du:DU (QP rs r)} : QK (QP rs r) .normal st du=J4 rs r st:=by unfold QK;rfl
theorem abl {rs:List qR}{r:AV}{du:DU (QP rs r)} : QK (QP rs r) .ret st du=J4 rs r st:=by unfold QK;rfl
theorem abh {rs:List qR}{m:Nat}{post:AV->List Box->Prop}{du:DU (QF rs m post)} : QK (QF rs m post) .normal st du=Dq rs m post st:=by unfold QK;rfl
theorem abj {rs:List qR}{m:Nat}{post:AV->List Box->Prop}{du:DU (QF rs m post)} : QK (QF rs m post) .ret st du=Dq rs m post st:=by unfold QK;rfl
theorem tJ {c:dD}(h:wG P c Q st .mk .mk):wpC P c Q st:=h
theorem ae7 {a:dD}{d1:DU (wpC P a)}{d2:DU Q}{X:Type}(J:X->Prop)(S:X->dP)(μ:X->Nat)(x0:X)(h0:J x0)(hw:Fv 10 st (S x0))
 (h:∀x,J x->wG P a (o6.then (λst'=>∃x',(J x'/\μ x'<μ x)/\Fv 10 st' (S x')) Q) (S x) .mk .mk):CB (wpC P a) Q st d1 d2:=
 CB.intro J S μ x0 h0 hw h
theorem afI {a b:dD}{d1:DU (wpC P a)}{d2:DU (wpC P b)}{d3:DU Q}{X:Type}(J:X->Prop)(S:X->dP)
 (h1:wG P a (o6.then (λst'=>∃x,J x/\Fv 10 st' (S x)) Q) st .mk .mk) (h2:∀x,J x->wG P b Q (S x) .mk .mk):GL (wpC P a) (wpC P b) Q st d1 d2 d3:=
 GL.intro J S h1 h2
end
end
section
inductive Nd where
 |mk (k w:Int) (s:List UInt8) (ws:List (List UInt8)) (ks:List Nd)
abbrev gB :=List UInt8
def agA (ws:List gB):List (List Cell):=ws.map λw=>[.str w]
mutual
def Nd.cells : Nd->List Cell
 |.mk k w s ws ks=>[.lit (.int .i64 k),.lit (.int .i64 w),.str s,.sl 1 (agA ws),.sl 5 (Nd.CO ks)]
def Nd.CO : List Nd->List (List Cell)
 |[]=>[]
 |x::r=>x.cells::Nd.CO r
end
theorem Nd.Ov (ks:List Nd):Nd.CO ks=ks.map Nd.cells:=by
 induction ks with
 |nil=>rfl
 |cons x r ih=>simp[Nd.CO,ih]
def QX : List AC->Bool
 |[]=>true
 |.c _::r=>QX r
 |_=>false
def Fe : List AV->Bool
 |[]=>true
 |.one (.c _)::r=>Fe r
 |.agg xs::r=>QX xs&&Fe r
 |_=>false
theorem Ij {bx:Nat->Box} : ∀{xs:List AC},QX xs=true->xs.map (zO bx)=xs/\uz bx xs/\xs.all AC.qV=true/\kz xs=[]
 |[],_=>⟨rfl,trivial,rfl,rfl⟩
 | x::r,h=>by
   cases x with
   | c x=>obtain⟨h1,h2,h3,h4⟩:=Ij (bx:=bx) (xs:=r) h;exact⟨by simp[zO,h1],h2,by simp[AC.qV,h3],by simp[kz,h4]⟩
   |_=>cases h
theorem Ae {bx:Nat->Box} : ∀{xs:List AV},Fe xs=true->xs.map (xu bx)=xs/\sW bx xs/\xs.all (·.all AC.qV)=true/\xs.flatMap AV.owns=[]
 |[],_=>⟨rfl,trivial,rfl,rfl⟩
 | x::r,h=>by
   cases x with
   | one x=>
     cases x with
     | c x=>obtain⟨h1,h2,h3,h4⟩:=Ae (bx:=bx) (xs:=r) h;exact⟨by simp[xu,zO,h1],⟨trivial,h2⟩,by rw[iD,h3];rfl,by simp[AV.owns,kz,h4]⟩
     |_=>cases h
   | agg xs=>simp only[Fe,af]at h;obtain⟨h1,h2,h3,h4⟩:=Ae (bx:=bx) (xs:=r) h.2;obtain⟨j1,j2,j3,j4⟩:=Ij (bx:=bx) h.1;refine⟨by simp only[aP,xu,j1,h1],⟨j2,h2⟩,?_,by simp only[mX,AV.owns,j4,h4,pI]⟩;rw[iD,h3,Bool.and_true];exact j3
   |wF xs=>cases h
section
variable {P:Program} {f:FuncId} {oD:List AV} {p:Bool} {d:Option Nat} {st:dP} {K:List Nat->List Nat->dP->Prop} {du:DU K}
theorem abJ (st:dP):st.zL []=st:=by
 apply dP.ext'
 ·rfl
 ·funext b;simp[dP.zL]
theorem acA {r:AV}(h:fD P f oD r)(hs:Fe oD=true)(hr:r.all AC.qV=true)(k:K [] [] (st.uA d (.v true r))):oV P f oD true d st K du:=by obtain⟨h1,h2,h3,h4⟩:=Ae (bx:=st.bx) hs;refine oV.pure r rfl (by rw[h1];exact h) h2 (by rw[h1];exact h3) hr ?_;rw[h4,abJ];exact k
theorem acy {r:AV}(h:p=true->fD P f oD r)(hs:Fe oD=true)(hr:r.all AC.isLit=true)(k:K [] [] (st.uA d (.v p r))):oV P f oD p d st K du:=by obtain⟨h1,h2,h3,h4⟩:=Ae (bx:=st.bx) hs;refine oV.lit r (λe=>by rw[h1];exact h e) (λ_=>h2) (by rw[h1];exact h3) hr ?_;rw[h4];exact k
end
theorem afH (b:Bool):(b==true)=b:=by cases b<;>rfl
theorem afG (b:Bool):(b==false) = !b:=by cases b<;>rfl
end
section
def cI (x:Int):List Cell:=[.lit (.int .i64 x)]
def cU (x:Int):List Cell:=[.lit (.int .u8 x)]
def cK (k:IntKind)(x:Int):List Cell:=[.lit (.int k x)]
def cB (x:Bool):List Cell:=[.lit (.bool x)]
def cS (x:gB):List Cell:=[.str x]
def cL {α:Type}(sz:Nat)(f:α->List Cell)(xs:List α):List Cell:=[.sl sz (aT f xs)]
def chk (c:Prop)[Decidable c]{α:Type}(k:Option α):Option α:=if c then k else none
theorem Aq {c:Prop}[Decidable c]{α:Type}{k:Option α}{r:α} : chk c k=some r<->c/\k=some r:=by unfold chk;split<;>simp[*]
theorem XC {b:Bool}{α:Type}{x y:Option α}{r:α} : cond b x y=some r<->(b=true/\x=some r)\/(b=false/\y=some r):=by cases b<;>simp
def GU (xs:List Int):gB:=xs.map λx=>UInt8.ofNat x.toNat
theorem Uy (xs:List Int):bytesOf (aT cU xs)=some (GU xs):=by
 induction xs with
 |nil=>rfl
 |cons x r ih=>simp[cU,bytesOf,ih,GU]
theorem RI : bytesOf []=some []:=rfl
theorem RJ (n:Int)(r:List (List Cell)):bytesOf ([.lit (.int .u8 n)]::r)=Option.map (λl=>UInt8.ofNat n.toNat::l) (bytesOf r):=by simp only[bytesOf];cases bytesOf r<;>rfl
theorem zB (xs:List Int):(GU xs).length=xs.length:=by simp[GU]
theorem XM {α:Type}[Inhabited α]{f:α->List Cell}{xs:List α}{i:Nat}(h:i<xs.length):(aT f xs).getD i []=f (xs.getD i default):=by simp[h]
theorem take_len {α:Type}{l:List α}{n:Nat}(h:l.length=n):l.take n=l:=by subst h;simp
theorem Fg {α:Type}{x:α}{l:List α}{n:Nat}(h:l.length=n):(x::l).take (1+n)=x::l:=by subst h;rw[pR];simp
theorem Fh {α:Type}{x y:α}{l:List α}{n:Nat}(h:l.length=n):(x::y::l).take (2+n)=x::y::l:=by subst h;rw[pR];simp
def Mc (l:List Nat):List (Nat×Box)->List (Nat×Box)
 |[]=>[]
 |(b,x)::r=>(b,if l.contains b then BD x else x)::Mc l r
theorem XL (l:List Nat)(bs:List (Nat×Box))(b:Nat):lY (Mc l bs) b=if b∈l then BD (lY bs b)else lY bs b:=by
 induction bs with
 |nil=>simp[Mc,lY,BD]
 | cons p r ih=>
   obtain⟨c,x⟩:=p;simp only[Mc,lY,ih];by_cases h:c=b
   ·subst h;simp
   ·simp[h]
theorem WE (ts:List (Nat×Slot))(bs:List (Nat×Box))(l:List Nat):(dP.of ts bs).zL l=dP.of ts (Mc l bs):=by
 apply dP.ext'
 ·rfl
 ·funext b
  simp only[dP.zL];rw[yf,yf,XL]
theorem Zl (bs:List (Nat×Box)):Mc [] bs=bs:=by
 induction bs with
 |nil=>rfl
 |cons p r ih=>obtain⟨c,x⟩:=p;simp[Mc,ih]
def TGK (g:Bool)(o:jb)(d:Option Nat)(st:dP)(K:List Nat->List Nat->dP->Prop)(_:DU o)(_:DU K):Prop:=TOp o g d st K
def acW (valid:Prop)(rd:List Nat)(r:FR)(d:Option Nat)(st:dP)(K:List Nat->List Nat->dP->Prop)(_:DU K):Prop:=
 valid/\r.vc/\K rd (r.sets.map (·.1)) ((st.mQ r.sets).uA d (.v true r.v))
section
variable {P:Program} {st:dP} {K:List Nat->List Nat->dP->Prop}
theorem acV {g:Option (Nat×Bool)}{d:Option Nat}{op:jb}{d1:DU (gX.mk g d (.op op))}{d2:DU K} :
 TK P ⟨g,d,.op op⟩ st K d1 d2=(xG st.tm g/\TGK (l9 st.tm g) op d st K .mk .mk):=by
 unfold TK T TGK;rfl
theorem aep {op:jb}{d:Option Nat}{d1:DU op}{d2:DU K} : TGK true op d st K d1 d2=acW (op.valid (jK.ev st.tm)) (op.rd (bT st.tm)) (op.f (bT st.tm) st.bx) d st K .mk:=by unfold TGK TOp acW;simp
theorem aeo {op:jb}{d:Option Nat}{d1:DU op}{d2:DU K} : TGK false op d st K d1 d2=K [] [] (st.uA d (.v false (.one .Em))):=by unfold TGK TOp;simp
theorem acX {valid:Prop}{rd:List Nat}{vc:Prop}{v:AV}{sets:List (Nat×Box)}{d:Option Nat}{du:DU K} :
 acW valid rd ⟨vc,v,sets⟩ d st K du=(valid/\vc/\K rd (sets.map (·.1)) ((st.mQ sets).uA d (.v true v))):=rfl
end
section
variable {P:Program} {f:FuncId} {oD:List AV} {d:Option Nat} {st:dP} {K:List Nat->List Nat->dP->Prop} {du:DU K}
theorem aet {Us:List AV}{r:AV}(h:fD P f Us r)(he:oD.map (xu st.bx)=Us)(hl:sW st.bx oD)(hd:Us.all (·.all AC.qV)=true)(hr:r.all AC.qV=true)
 (k:K (oD.flatMap AV.owns) (oD.flatMap AV.owns) ((st.zL (oD.flatMap AV.owns)).uA d (.v true r))):oV P f oD true d st K du:=by
 subst he;exact oV.pure r rfl h hl hd hr k
theorem aeu {Us:List AV}{r:AV}(h:fD P f Us r)(he:oD.map (xu st.bx)=Us)(hl:sW st.bx oD)(hd:Us.all (·.all AC.qV)=true)(hr:r.all AC.isLit=true)
 (k:K (oD.flatMap AV.owns) [] (st.uA d (.v true r))):oV P f oD true d st K du:=by
 subst he;exact oV.lit r (λ_=>h) (λ_=>hl) hd hr k
theorem acz (k:K (oD.flatMap AV.owns) [] (st.uA d (.v false (.one (.c (.lit (.bool true))))))):oV P f oD false d st K du:=
 FH.lit [] (.one (.c (.lit (.bool true)))) (λe=>by cases e) rfl (λe=>by cases e) rfl k
def Oi (st:dP)(sg:List Nat):List Box->Nat->Prop
 |[],_=>True
 |x::r,i=>st.bx (sg.getD i 0)=xW (λb=>sg.getD b 0) x/\Oi st sg r (i+1)
theorem QV {st:dP}{sg:List Nat} : ∀{fp:List Box} {i0 i:Nat},Oi st sg fp i0->i<fp.length->st.bx (sg.getD (i0+i) 0)=xW (λb=>sg.getD b 0) (fp.getD i .absent)
 |[],_,_,_,h=>by simp at h
 |x::r,i0,0,h,_=>by simpa using h.1
 | x::r,i0,i+1,h,hi=>by have:=QV (i:=i) h.2 (by simpa using hi);simpa[lH,pR 1 i]using this
def Ob (st:dP):List Nat->Prop
 |[]=>True
 |b::r=>st.bx b = .absent/\10<=b/\Ob st r
theorem QD {st:dP} : ∀{nu:List Nat},Ob st nu->∀b,b∈nu->st.bx b = .absent/\10<=b
 |[],_,_,h=>by cases h
 | c::r,h,b,hb=>by
   rcases aB.1 hb with e|e
   ·subst e;exact⟨h.1,h.2.1⟩
   ·exact QD h.2.2 b e
theorem aev {ds:List AV}{fp zK:List Box}{r0:AV}(sg nu:List Nat)(h:nN P f ds fp (λr bs=>r=r0/\bs=zK))(hl:sg.length=fp.length)(hn:nodupB (sg++nu)=true)(hf:Oi st (sg++nu) fp 0)(hv:Ob st nu)
 (hra:(ds.all λx=>x.all (AC.oW fp.length))=true) (hrf:fp.all (Box.oW fp.length)=true) (ha:oD=ds.map (yu λb=>(sg++nu).getD b 0)) (hb:zK.length=(sg++nu).length)
 (k:K (sg++nu) (sg++nu) ((st.mQ ((sg++nu).zip (zK.map (xW λb=>(sg++nu).getD b 0)))).uA d (.v true (yu (λb=>(sg++nu).getD b 0) r0)))):oV P f oD true d st K du:=by
 refine FH.gen rfl ds fp sg nu _ hl (Gp.1 hn) (λi hi=>?_) ⟨r0,zK,rfl,rfl⟩ (QD hv) hra hrf ha h (λr bs hp=>?_)
 ·have:=QV (i:=i) hf hi;rw[dh]at this;exact this
 ·obtain⟨rfl,rfl⟩:=hp;exact⟨hb,k⟩
end
section
variable {P:Program} {f:FuncId} {oD:List AV} {d:Option Nat} {st:dP} {K:List Nat->List Nat->dP->Prop} {du:DU K}
theorem aew {ds:List AV}{fp zK:List Box}{r0:AV}(sg nu:List Nat)(h:nN P f ds fp (λr bs=>r=r0/\bs=zK))(he:oD.map (xu st.bx)=ds.map (yu λb=>(sg++nu).getD b 0))(hlo:sW st.bx oD)
 (hl:sg.length=fp.length) (hn:nodupB (sg++nu)=true) (hf:Oi (st.zL (oD.flatMap AV.owns)) (sg++nu) fp 0) (hv:Ob st nu)
 (hra:(ds.all λx=>x.all (AC.oW fp.length))=true) (hrf:fp.all (Box.oW fp.length)=true) (hb:zK.length=(sg++nu).length)
 (k:K (oD.flatMap AV.owns++(sg++nu)) (oD.flatMap AV.owns++(sg++nu)) (((st.zL (oD.flatMap AV.owns)).mQ ((sg++nu).zip (zK.map (xW λb=>(sg++nu).getD b 0)))).uA d (.v true (yu (λb=>(sg++nu).getD b 0) r0)))):oV P f oD true d st K du:=by
 refine FH.J9 rfl _ (Ep hlo) ds fp sg nu _ hl (Gp.1 hn) (λi hi=>?_) ⟨r0,zK,rfl,rfl⟩ (QD hv) hra hrf he h (λr bs hp=>?_)
 ·have:=QV (i:=i) hf hi;rw[dh]at this;exact this
 ·obtain⟨rfl,rfl⟩:=hp;exact⟨hb,k⟩
end
theorem Z8 (zZ:List Nat)(log:List (Nat×List Nat×List Nat)):tH zZ [] [] log=true:=by
 induction log with
 |nil=>rfl
 |cons e r ih=>obtain⟨j,a,b⟩:=e;simp[tH,Gh,ih]
theorem Z7 (zZ rd wr:List Nat):tH zZ rd wr []=true:=rfl
theorem ac0 (bs:List Box):xN bs=lY (yB bs 0):=by
 funext b
 rw[Eu];simp[xN]
theorem Jr {rs:List qR}{ts:List (Nat×Slot)}{zK:List (Nat×Box)}{m:Nat}{r:AV}{bs:List Box}(zs:List Nat)(pi:List (Nat×Nat))(vs:List Nat)(hk:Jf m zK (yB bs 0) pi vs=true)
 (hok:AY (dP.of ts zK) rs) (hb:NQ zs (lY zK) (NV pi) vs (yB bs 0)) (hv:WX zs (lY zK) (NV pi) vs (Oe (dP.of ts zK) rs) r) :
 Dq rs m (λr1 b1=>r1=r/\b1=bs) (dP.of ts zK):=by
 refine⟨hok,r,bs,zs,NV pi,vs,⟨rfl,rfl⟩,?_,?_⟩
 ·rw[Gq,ac0];exact aaY zs pi vs hk hb
 ·rw[Gq];exact hv
end
theorem Ip {x:Int}(h0:0<=x)(h1:x<9223372036854775808):ah .i64 x=x:=by simp only[ah,Go.IntKind.bits,Go.IntKind.signed];simp;omega
theorem agh {α:Type}(es:List α)(v:α)(i:Nat)(h:i<es.length) :
 splice (splice es (i+1) (((es.drop i).take (min (es.length+1-i) (es.length+1-(i+1)))).take (es.length+1-(i+1)))) i ([v].take (es.length+1-i))=es.take i++v::es.drop i:=by
 have e1:[v].take (es.length+1-i)=[v]:=aW (by simp;omega);have e2:((es.drop i).take (min (es.length+1-i) (es.length+1-(i+1)))).take (es.length+1-(i+1))=es.drop i:=by rw[aW (by simp;omega),aW (by simp;omega)]
 rw[e1,e2];simp only[splice];have e3:es.drop (i+1+(es.drop i).length)=[]:=List.drop_eq_nil_of_le (by simp;omega);rw[e3,pI];have e4:(es.take (i+1)).length=i+1:=by simp;omega
 rw[og (by omega),List.take_take,Nat.min_eq_left (by omega),List.length_singleton,List.drop_append_of_le_length (by omega),aI (by omega)];simp
theorem agi {α:Type}(es:List α)(v z:α)(i k:Nat)(h:i<es.length)(hk:k=i+(es.length+1-i)) :
 splice (splice (es.take i++aY (es.length+1-i) z) i ([v].take (k-i))) (i+1) (((es.drop i).take (min (es.length-i) (k-(i+1)))).take (k-(i+1)))=es.take i++v::es.drop i:=by
 have hk2:k=es.length+1:=by omega
 subst hk2;have e1:[v].take (es.length+1-i)=[v]:=aW (by simp;omega);have e2:((es.drop i).take (min (es.length-i) (es.length+1-(i+1)))).take (es.length+1-(i+1))=es.drop i:=by rw[aW (by simp),aW (by simp)]
 rw[e1,e2];have e4:(es.take i).length=i:=by simp;omega
 obtain⟨q,hq⟩:∃q,es.length+1-i=q+1:=⟨es.length-i,by omega⟩;rw[hq,List.replicate_succ];have e5:splice (es.take i++z::aY q z) i [v]=es.take i++[v]++aY q z:=by simp only[splice];rw[og (by omega),aW (by omega),List.drop_append,aI (by rw[e4];omega),List.nil_append,e4];simp
 rw[e5];have e6:(es.take i++[v]).length=i+1:=by rw[iM,e4];rfl
 simp only[splice];have e7:(es.take i++[v]++aY q z).drop (i+1+(es.drop i).length)=[]:=List.drop_eq_nil_of_le (by rw[iM,e6,List.length_replicate,List.length_drop];omega);rw[e7,og (by omega),aW (by omega)];simp
theorem aeB {α:Type}(f:α->List Cell)(k:Nat)(hf:∀t,(f t).length<=k){l:List α}{i j:Nat}{v:List Cell}(hv:v.length<=k):jo k (((aT f l).set i v).getD j [])=[]:=by
 have key:∀(m:List (List Cell)),(∀y,y∈m->y.length<=k)->jo k (m.getD j [])=[]:=by
  intro m hm;apply aI;by_cases hj:j<m.length
  ·rw[show m.getD j []=m[j] by simp[List.getD,hj]];exact hm _ (List.getElem_mem hj)
  ·rw[show m.getD j []=[] by simp[List.getD,gp (Nat.le_of_not_lt hj)]];simp
 apply key;intro y hy;rcases List.mem_or_eq_of_mem_set hy with h|h
 ·obtain⟨t,_,rfl⟩:=aF.1 h;exact hf t
 ·rw[h];exact hv
theorem ac8 {l:List gB}{i j:Nat}{x:Cell} : jo 1 (((aT cS l).set i [x]).getD j [])=[]:=aeB cS 1 (λt=>by simp[cS]) (by simp)
section
inductive MA where
 |int (o:Nat)
 |str (o:Nat)
 |sub (o f:Nat)
 deriving DecidableEq
abbrev Fq :=Nat->Option (Nat×Nat×List MA)
inductive Jb where
 |C (f:Nat) (c:Cell) (k:Int) (c':Cell) (k':Int)
 |L (acts:List MA) (es:List (List Cell)) (k:Int) (es':List (List Cell)) (k':Int)
 |E (acts:List MA) (e:List Cell) (k:Int) (e':List Cell) (k':Int)
def ZN (k:Int):Prop:=0<=k/\k<4611686018427387904
inductive JZ (mt:Fq)(tx:Int->List UInt8):Jb->Prop
 |c {f T sz:Nat} {acts:List MA} {es es':List (List Cell)} {k k':Int} (h:mt f=some (T,sz,acts)) (hk:ZN k) (hl:JZ mt tx (.L acts es k es' k')):JZ mt tx (.C f (.sl sz es) k (.sl sz es') k')
 |l0 {acts:List MA} {k:Int} : JZ mt tx (.L acts [] k [] k)
 |l1 {acts:List MA} {e e':List Cell} {es es':List (List Cell)} {k k1 k2:Int} (h:JZ mt tx (.E acts e k e' k1)) (t:JZ mt tx (.L acts es k1 es' k2)):JZ mt tx (.L acts (e::es) k (e'::es') k2)
 |e0 {e:List Cell} {k:Int} : JZ mt tx (.E [] e k e k)
 |ei {o:Nat} {r:List MA} {e e':List Cell} {k k':Int} (hk:ZN k) (hk':ZN (k+1)) (ho:o<e.length) (h:JZ mt tx (.E r (e.set o (.lit (.int .i64 k))) (k+1) e' k')):JZ mt tx (.E (.int o::r) e k e' k')
 |es {o:Nat} {r:List MA} {e e':List Cell} {k k':Int} (hk:ZN k) (hk':ZN (k+1)) (ho:o<e.length) (h:JZ mt tx (.E r (e.set o (.str (tx k))) (k+1) e' k')):JZ mt tx (.E (.str o::r) e k e' k')
 |ef {o f:Nat} {r:List MA} {e e':List Cell} {c c1:Cell} {k k1 k2:Int} (hc:e[o]? = some c) (h:JZ mt tx (.C f c k c1 k1)) (t:JZ mt tx (.E r (e.set o c1) k1 e' k2)):JZ mt tx (.E (.sub o f::r) e k e' k2)
def E0 : BJ:=[(0,.arr),(1,.cnt),(5,.idx)]
def stR (P:Program)(yx sz m o:Nat)(sv:SV):BJ->List Oper->Bool
 | env,[x]=>(match x.guard,x.dst,x.op with
   |none,none,.store t (.tmp p) (.tmp v)=>DK P t false 1&&decide (env.look p=some (.ptr o)/\env.look v=some sv/\o<sz)
   |_,_,_=>false)
 | env,x::r=>(match qop P yx sz env x,x.dst with
   |some env',some d=>decide (d<m)&&stR P yx sz m o sv env' r
   |_,_=>false)
 |_,[]=>false
def TP (P:Program)(yx sz m o f:Nat):BJ->List Oper->Bool
 | env,[x,y]=>(match x.guard,x.dst,x.op with
   | none,some d,.call ⟨.value (.func f'),⟨[.tmp v,.tmp c]⟩,_⟩=>decide (f'=f/\env.look v=some (.val o)/\env.look c=some .cnt/\env.look d=none/\d<m/\o<sz)&&rW P f'&&(match y.guard,y.dst,y.op with
     |none,some 1,.assign (.tmp d')=>d'==d
     |_,_,_=>false)
   |_,_,_=>false)
 | env,x::r=>(match qop P yx sz env x,x.dst with
   |some env',some d=>decide (d<m)&&TP P yx sz m o f env' r
   |_,_=>false)
 |_,[]=>false
def U8 (m c:Nat):List Oper->Bool
 | [x,y,z]=>(match x.guard,x.dst,x.op,y.guard,y.dst,y.op with
   | none,some t,.move (.tmp s),none,some t',.binOp .add _ (.tmp u) (.const (.int .i64 1)) _=>s==c&&u==t&&decide (t≠0/\t≠1/\t≠5/\t'≠0/\t'≠1/\t'≠5/\t<m/\t'<m)&&(match z.guard,z.dst,z.op with
     |none,some d,.assign (.tmp s')=>d==c&&s'==t'
     |_,_,_=>false)
   |_,_,_,_,_,_=>false)
 |_=>false
section
variable {P:Program} {yx sz:Nat} {tx:Int->List UInt8} {kb i n c m:Nat} {k:Int}
variable {ops:Array Oper} {Q:Exit->Act->World->Prop} {rest:List Oper} {o:Oper} {a:Act} {w w':World} {v:Value}
theorem ES.base {env:BJ}(h:ES tx sz kb i n c m k env a w)(hb:∀t v,E0.look t=some v->env.look t=some v):ES tx sz kb i n c m k E0 a w:=⟨h.size,h.defers,λt v hv=>h.den t v (hb t v hv)⟩
theorem UQ (h1:a.tmps.size=m)(h2:a.defers=[])(h3:a.tmps.getD 0 undef = .slice (some ⟨kb,0,none⟩) n c)(h4:a.tmps.getD 1 undef = .int .i64 k)(h5:a.tmps.getD 5 undef = .int .i64 (i:Int)):ES tx sz kb i n c m k E0 a w:=by
 refine⟨h1,h2,λt v hv=>?_⟩;simp only[E0,BJ.look]at hv;split at hv
 ·rename_i e;simp at e;subst e;cases hv;exact h3
 ·split at hv
  ·rename_i e;simp at e;subst e;cases hv;exact h4
  ·split at hv
   ·rename_i e;simp at e;subst e;cases hv;exact h5
   ·cases hv
theorem ES.arr (h:ES tx sz kb i n c m k E0 a w):a.tmps.getD 0 undef = .slice (some ⟨kb,0,none⟩) n c:=h.den 0 .arr rfl
theorem ES.cnt (h:ES tx sz kb i n c m k E0 a w):a.tmps.getD 1 undef = .int .i64 k:=h.den 1 .cnt rfl
theorem ES.idx (h:ES tx sz kb i n c m k E0 a w):a.tmps.getD 5 undef = .int .i64 (i:Int):=h.den 5 .idx rfl
theorem ab9 (t:TypeId)(x:Int)(w:World):(binOp .add t (.int .i64 x) (.int .i64 1)).run P w = .ok (.int .i64 (Go.IntKind.i64.wrap (x+1))) w:=by simp[binOp,Go.Op.intArith]
theorem OH {cc:Nat}{os:List Oper}(hc:U8 m cc os=true)(hs:a.tmps.size=m)(hd:a.defers=[]){x:Int}(hx:a.tmps.getD cc undef = .int .i64 x)(hr:0<=x+1/\x+1<9223372036854775808)(hcc:cc<m)(ahf:cc=0\/cc=1\/cc=5)
 (hk:∀a',a'.tmps.size=m->a'.defers=[]->a'.tmps.getD cc undef = .int .i64 (x+1)->(∀t,t≠cc->(t=0\/t=1\/t=5)->a'.tmps.getD t undef=a.tmps.getD t undef)->Q .normal a' w):wpList P ops Q os a w:=by
 unfold U8 at hc;split at hc
 ·rename_i x0 y z;split at hc
  ·rename_i t s t' ty1 u ty2 g1 d1 p1 g2 d2 p2;simp only[af,beq_iff_eq,decide_eq_true_eq]at hc;obtain⟨⟨⟨es,eu⟩,q1,q2,q3,q4,q5,q6,q7,q8⟩,hc⟩:=hc;split at hc
   ·rename_i d s' g3 d3 p3;simp only[af,beq_iff_eq]at hc;obtain⟨ed,es'⟩:=hc;rw[es]at p1;rw[eu]at p2;rw[ed]at d3;rw[es']at p3;have hts:t<a.tmps.size:=(by rw[hs];exact q7);have e1:(a.put (some t) (a.tmps.getD cc undef)).tmps.getD t undef = .int .i64 x:=(by rw[dF hts,hx]);refine nG (v:=a.tmps.getD cc undef) g1 (by unfold execOp;rw[p1];rfl) ?_;rw[d1];refine nG (v:=.int .i64 (x+1)) (w':=w) g2 ?_ ?_
    ·have v1:(a.put (some t) (a.tmps.getD cc undef)).eval (.tmp t) = .int .i64 x:=e1;have hr0:(binOp .add ty1 (.int .i64 x) (.int .i64 1)).run P w = .ok (.int .i64 (x+1)) w:=(by rw[ab9,Ip hr.1 hr.2]);have hq:∀v,(eqGuard .add ty1 (.tmp t) (.const (.int .i64 1)) (.int .i64 x) v).run P w = .ok () w:=λv=>xH _ _ _ _ _ _ _ _;have v2:(a.put (some t) (a.tmps.getD cc undef)).eval (.const (.int .i64 1)) = .int .i64 1:=rfl;unfold execOp;rw[p2];simp only[v1,v2,bF,hq,hr0,aN,aX]
    rw[d2];have agb:t'<((a.put (some t) (a.tmps.getD cc undef))).tmps.size:=(by simp[fA,hs];exact q8);have e2:((a.put (some t) (a.tmps.getD cc undef)).put (some t') (.int .i64 (x+1))).tmps.getD t' undef = .int .i64 (x+1):=dF agb;refine nG (v:=.int .i64 (x+1)) (w':=w) g3 (by unfold execOp;rw[p3];exact congrArg (λv=>jr (ja v) w) e2) ?_;rw[d3];refine hk _ (by simp[fA,hs]) hd (dF (by simp[fA,hs];exact hcc)) (λy hy h3=>?_);have n1:y≠t:=(by rcases h3 with rfl|rfl|rfl<;>first|exact λe=>q1 e.symm|exact λe=>q2 e.symm|exact λe=>q3 e.symm);have n2:y≠t':=(by rcases h3 with rfl|rfl|rfl<;>first|exact λe=>q4 e.symm|exact λe=>q5 e.symm|exact λe=>q6 e.symm);rw[jD hy,jD n2,jD n1]
   ·cases hc
  ·cases hc
 ·cases hc
theorem Pg {oo:Nat}{sv:SV} : ∀{os:List Oper} {env:BJ} {a:Act} {w:World},stR P yx sz m oo sv env os=true->ES tx sz kb i n c m k env a w->(∀t v,E0.look t=some v->env.look t=some v)->i<n->DR P yx tx->0<=k->k<4611686018427387904 ->
 ∀{I0:IH},Tabs P I0->Agree I0 w->∀{cs:Array Value} {e:TypeId},w.heap[kb]? = some (.cells cs e (0,0))->(∀off,off<sz->i*sz+off<cs.size)->(∀x w,sv.den tx sz kb i n c k w x->x.cells = #[x]/\x.oneCell'=true) ->
 (∀a' w1 x,ES tx sz kb i n c m k E0 a' w1->xK w w1 (λ_=>False)->w1.heap[kb]? = some (.cells cs e (0,0))->sv.den tx sz kb i n c k w1 x->oo<sz->Q .normal a' (w1.setRow kb (splice cs.toList (i*sz+oo) [x]).toArray))->wpList P ops Q os a w
 |[],_,_,_,hc,_,_,_,_,_,_,_,_,_,_,_,_,_,_,_=>by simp[stR]at hc
 | [x],env,a,w,hc,h,hb,hi,ht,h0,h1,I0,hT,hA,cs,e,hw,hfit,hone,hk=>by
   simp only[stR]at hc;split at hc
   ·rename_i t p v g1 d1 p1;simp only[af,decide_eq_true_eq]at hc;obtain⟨hty,l1,l2,hlt⟩:=hc;have v1:a.eval (.tmp p) = .pointer (some ⟨kb,i*sz+oo,none⟩):=h.den p _ l1;have v2:=h.den v _ l2;obtain⟨o1,o2⟩:=hone _ _ v2;have hst:=Ih (P:=P) (off:=i*sz+oo) (v:=a.tmps.getD v undef) hty (by rw[o1];rfl) hw (by have:=hfit oo hlt;omega) (λj u hu=>by
     rw[o1]at hu
     match j with
     |0=>cases hu;exact o2
     |j+1=>simp at hu)
    rw[o1]at hst;have v3:a.eval (.tmp v)=a.tmps.getD v undef:=rfl;refine step_skip (w':=w.setRow kb (splice cs.toList (i*sz+oo) [a.tmps.getD v undef]).toArray) g1 (by simp only[execOp,p1,v1,v3,bF,hst,aN,aX]) ?_;rw[d1];exact hk _ w _ (h.base hb) (xK.refl _ _) hw v2 hlt
   ·cases hc
 | x::y::r,env,a,w,hc,h,hb,hi,ht,h0,h1,I0,hT,hA,cs,e,hw,hfit,hone,hk=>by
   simp only[stR]at hc;split at hc
   ·rename_i env' d hq hd;simp only[af,decide_eq_true_eq]at hc;have hkb:kb<w.heap.size:=uk hw;refine O3 hq (λd' hd'=>by rw[hd]at hd';cases hd';exact hc.1) h hi ht h0 h1 hT hA hkb (λoff ho=>?_) (λa' w1 h' hF=>?_)
    ·exact⟨cs[i*sz+off]'(hfit off ho),by simp only[dR,hw];simp[hfit off ho]⟩
    ·refine Pg hc.2 h' (λt v hv=>TC hq (hb t v hv)) hi ht h0 h1 hT (hA.other λk' c' hc'=>hF.block k' (hA.lt hc') λh=>h) (by rw[hF.block kb hkb (λh=>h)];exact hw) hfit hone (λa2 w2 x h2 hF2=>hk a2 w2 x h2 (hF.trans hF2 λ_ _ h=>h))
   ·cases hc
theorem NF {oo f:Nat} : ∀{os:List Oper} {env:BJ} {a:Act} {w:World},TP P yx sz m oo f env os=true->ES tx sz kb i n c m k env a w->(∀t v,E0.look t=some v->env.look t=some v)->i<n->DR P yx tx->0<=k->k<4611686018427387904 ->
 ∀{I0:IH},Tabs P I0->Agree I0 w->∀{cs:Array Value} {e:TypeId},w.heap[kb]? = some (.cells cs e (0,0))->(∀off,off<sz->i*sz+off<cs.size)->5<m->∀{k1:Int} {R:World->World->Prop},
 (∀w1 x,xK w w1 (λ_=>False)->cs[i*sz+oo]? = some x->oo<sz->Calls P f #[x,.int .i64 k] w1 λe w'=>e = .returned (.int .i64 k1)/\R w1 w') ->
 (∀a' w1 w',ES tx sz kb i n c m k1 E0 a' w'->xK w w1 (λ_=>False)->R w1 w'->Q .normal a' w')->wpList P ops Q os a w
 |[],_,_,_,hc,_,_,_,_,_,_,_,_,_,_,_,_,_,_,_,_,_,_=>by simp[TP]at hc
 | [x],env,a,w,hc,_,_,_,_,_,_,_,_,_,_,_,_,_,_,_,_,_,_=>by
   simp only[TP]at hc;split at hc
   ·simp at hc
   ·cases hc
 | [x,y],env,a,w,hc,h,hb,hi,ht,h0,h1,I0,hT,hA,cs,e,hw,hfit,hm5,k1,R,hcall,hk=>by
   simp only[TP]at hc;split at hc
   ·rename_i d f' v cc ts g1 d1 p1;simp only[af,decide_eq_true_eq]at hc;obtain⟨⟨⟨rfl,l1,l2,l3,l4,l5⟩,hok⟩,hc⟩:=hc;split at hc
    ·rename_i d' g2 d2 p2;simp only[beq_iff_eq]at hc;subst hc;have v1:=h.den v _ l1;have v2:a.eval (.tmp cc) = .int .i64 k:=h.den cc _ l2;have hx:cs[i*sz+oo]? = some (a.tmps.getD v undef):=by
      simp only[SV.den,dR,hw]at v1;simpa using v1
     have he:=zq (w:=w) (a:=a) p1 (f:=f') (x:=.func f') (caps:= #[]) rfl hok;have v3:a.eval (.tmp v)=a.tmps.getD v undef:=rfl;refine Ff g1 (f:=f') (args:= #[a.tmps.getD v undef,.int .i64 k]) (by simpa[v2,v3]using he) ((hcall w _ (xK.refl _ _) hx l5).mono ?_);rintro e w' ⟨rfl,hR⟩;refine⟨_,rfl,?_⟩;rw[d1];have e2:(a.put (some d') (.int .i64 k1)).tmps.getD d' undef = .int .i64 k1:=dF (by rw[h.size];exact l4);refine nG (v:=.int .i64 k1) (w':=w') g2 (by unfold execOp;rw[p2];exact congrArg (λv=>jr (ja v) w') e2) ?_;rw[d2];have hb0:=h.base hb;have nd:∀{t v},env.look t=some v->t≠d':=λht e=>(by subst e;rw[l3]at ht;cases ht);refine hk _ w w' (UQ (by simp[fA,h.size]) h.defers ?_ (dF (by simp[fA,h.size];omega)) ?_) (xK.refl _ _) hR
     ·rw[jD (by omega),jD (nd (hb 0 .arr rfl))];exact hb0.arr
     ·rw[jD (by omega),jD (nd (hb 5 .idx rfl))];exact hb0.idx
    ·cases hc
   ·cases hc
 | x::y::z::r,env,a,w,hc,h,hb,hi,ht,h0,h1,I0,hT,hA,cs,e,hw,hfit,hm5,k1,R,hcall,hk=>by
   simp only[TP]at hc;split at hc
   ·rename_i env' d hq hd;simp only[af,decide_eq_true_eq]at hc;have hkb:kb<w.heap.size:=uk hw;refine O3 hq (λd' hd'=>by rw[hd]at hd';cases hd';exact hc.1) h hi ht h0 h1 hT hA hkb (λoff ho=>?_) (λa' w1 h' hF=>?_)
    ·exact⟨cs[i*sz+off]'(hfit off ho),by simp only[dR,hw];simp[hfit off ho]⟩
    ·exact NF hc.2 h' (λt v hv=>TC hq (hb t v hv)) hi ht h0 h1 hT (hA.other λk' c' hc'=>hF.block k' (hA.lt hc') λh=>h) (by rw[hF.block kb hkb (λh=>h)];exact hw) hfit hm5
      (λw2 x hF2=>hcall w2 x (hF.trans hF2 λ_ _ h=>h)) (λa2 w2 w3 h2 hF2=>hk a2 w2 w3 h2 (hF.trans hF2 λ_ _ h=>h))
   ·cases hc
end
end
section
def wH (P:Program)(Q:Exit->Act->World->Prop):List (Array Oper)->Act->World->Prop
 |[]=>Q .normal
 |ops::r=>λa w=>wpList P ops (Exit.then (wH P Q r) Q) ops.toList a w
def Nj : Code->Option (List (Array Oper))
 |.region _ ops false=>some [ops]
 |.seq (.region _ ops false) c=>(Nj c).map (ops :: ·)
 |_=>none
theorem ab4 {P:Program}{Q:Exit->Act->World->Prop} : ∀{c:Code} {L:List (Array Oper)} {a:Act} {w:World},Nj c=some L->wH P Q L a w->c.wp P Q a w:=by
 intro c L a w hc h
 fun_induction Nj c generalizing L a w with
 | case1 id ops=>cases hc;have e:Exit.then (Q .normal) Q=Q:=(by funext e;cases e<;>rfl);simp only[wH,e]at h;exact wp_region_list h
 | case2 id ops c ih=>
   simp only[bI]at hc;obtain⟨L',hL,rfl⟩:=hc;simp only[wH]at h;refine wp_seq (wp_mono (wp_region_list h) ?_);intro e a w hq;cases e with
   |normal=>exact ih hL hq
   |_=>exact hq
 |case3=>cases hc
def J8 (P:Program)(yx:Nat)(mt:Fq)(T sz m:Nat):List MA->List (Array Oper)->Bool
 |[],[]=>true
 |.int o::r,x::y::rs=>stR P yx sz m o .cnt E0 x.toList&&U8 m 1 y.toList&&((kP P T).all λe=>e.1 != o)&&J8 P yx mt T sz m r rs
 |.str o::r,x::y::rs=>stR P yx sz m o .txt E0 x.toList&&U8 m 1 y.toList&&((kP P T).all λe=>e.1 != o)&&J8 P yx mt T sz m r rs
 | .sub o f::r,x::rs=>TP P yx sz m o f E0 x.toList&&(match mt f with
   |some (T',_,_)=>(kP P T).contains (o,T')&&(kP P T).all λe=>e.1 != o||e.2==T'
   |none=>false)&&J8 P yx mt T sz m r rs
 |_,_=>false
structure EX (P:Program)(g:Own)(I0 I:IH)(w:World)(T:Nat)(q:ru)(kb n cap sz:Nat)(es:List (List Cell)):Prop where
 good:Good P g w
 tabs:Tabs P I0
 Iy:Agree I0 w
 old:∀b c,I0 b=some c->g b=none
 ag:Agree I w
 at':g.at kb n T q
 root:FY g q
 rd:Rd I (.slice (some ⟨kb,0,none⟩) n cap) (.sl sz es)
 ty:NZ P T (.sl sz es)
structure Post (P:Program)(g:Own)(I:IH)(w:World)(q:ru)(u:Value)(T:Nat)(c':Cell)(w':World):Prop where
 good:Good P g w'
 wu:xK w w' (Under g q)
 rd:∃J,Agree J w'/\(∀b,¬Under g q b->J b=I b)/\Rd J u c'
 ty:NZ P T c'
def YT (P:Program)(mt:Fq)(f:Nat)(c:Cell)(k:Int)(c':Cell)(k':Int):Prop:=∀(g:Own) (I0 I:IH) (w:World) (T:Nat) (q:ru) (u:Value),(∃sz acts,mt f=some (T,sz,acts))->Good P g w->Tabs P I0->Agree I0 w->(∀b c,I0 b=some c->g b=none)->Agree I w ->
 GR g u T q->FY g q->Rd I u c->NZ P T c->Calls P f #[u,.int .i64 k] w λe w'=>e = .returned (.int .i64 k')/\Post P g I w q u T c' w'
section
variable {P:Program} {g:Own} {I0 I J:IH} {w w':World} {T kb n cap sz i o:Nat} {q:ru} {es:List (List Cell)}
theorem Agree.quiet (h:Agree I w)(hF:xK w w' λ_=>False):Agree I w':=h.other λk' c' hc'=>hF.block k' (h.lt hc') λh=>h
theorem Good.quiet (h:Good P g w)(hF:xK w w' λ_=>False):Good P g w':=h.world λk hk=>by
 cases hx:g k with
 |none=>exact absurd hx hk
 |some B=>exact hF.block k (h.lt hx) λh=>h
theorem EX.quiet (h:EX P g I0 I w T q kb n cap sz es)(hF:xK w w' λ_=>False):EX P g I0 I w' T q kb n cap sz es:=
 { h with good:=h.good.quiet hF,Iy:=h.Iy.quiet hF,ag:=h.ag.quiet hF }
theorem EX.row (h:EX P g I0 I w T q kb n cap sz es)(hi:i<n):∃cs e,w.heap[kb]? = some (.cells cs e (0,0))/\(0<sz->I kb=some cs)/\(∀off,off<sz->i*sz+off<cs.size)/\(∀off,off<sz->∃u,cs[i*sz+off]? = some u/\∀c,(es.getD i [])[off]? = some c->Rd I u c):=by
 obtain⟨cs,e,hw,_⟩:=h.good.arr _ _ _ h.at'.1;have hrd:=h.rd;cases hrd with
 |sl _ _ _ _ _ u hlen hcap hmax hsz ha hcl hr=>
 have hI:∀off,off<sz->∃row,I kb=some row/\row[i*sz+off]? = some (u i off):=λoff ho=>by
  have h0:=hcl _ rfl i off hi ho;rw[Addr.l7,dh]at h0;unfold IH.cell at h0;simp only[tY,jU,if_false]at h0;cases hx:I kb with
  |none=>rw[hx]at h0;cases h0
  |some row=>rw[hx]at h0;exact⟨row,rfl,h0⟩
 have hrow:∀row,I kb=some row->row=cs:=λrow hx=>by obtain⟨e',fr',hw'⟩:=h.ag kb row hx;rw[hw]at hw';cases hw';rfl
 refine⟨cs,e,hw,λhs=>?_,λoff ho=>?_,λoff ho=>?_⟩
 ·obtain⟨row,h1,_⟩:=hI 0 hs;rw[h1,hrow row h1]
 ·obtain⟨row,h1,h2⟩:=hI off ho;rw[hrow row h1]at h2;exact(Array.getElem?_eq_some_iff.1 h2).1
 ·obtain⟨row,h1,h2⟩:=hI off ho;rw[hrow row h1]at h2;exact⟨_,h2,λc hc=>hr i off c hc⟩
theorem I5 {α:Type}{es:List (List α)}{i i':Nat}{x:List α}(hi:i<es.length):(es.set i x).getD i' []=if i'=i then x else es.getD i' []:=by
 simp only[aQ,lI];by_cases e:i=i'
 ·subst e;simp[hi]
 ·rw[if_neg e,if_neg (λh=>e h.symm)]
theorem NZ.set {c':Cell}{T':Nat}(h:NZ P T (.sl sz es))(hi:i<es.length)(hc:∀sz' es',c' = .sl sz' es'->(o,T')∈kP P T/\NZ P T' c')(hu:∀T2,(o,T2)∈kP P T->T2=T'):NZ P T (.sl sz (es.set i ((es.getD i []).set o c'))):=by
 cases h with
 |sl _ _ _ t hs h1 h2=>
 have hget:∀i' j' x,((es.set i ((es.getD i []).set o c')).getD i' [])[j']? = some x->(i'=i/\j'=o/\x=c')\/(es.getD i' [])[j']? = some x:=by
  intro i' j' x hx;rw[I5 hi]at hx;by_cases e:i'=i
  ·rw[if_pos e,lI]at hx;split at hx
   ·rename_i e2;split at hx
    ·cases hx;exact .inl ⟨e,e2.symm,rfl⟩
    ·cases hx
   ·right;rw[e];exact hx
  ·rw[if_neg e]at hx;exact .inr hx
 refine .sl _ _ _ (λy=>if y=o then T' else t y) hs (λi' j' sz' es' hx=>?_) (λi' j' sz' es' hx=>?_)
 ·rcases hget _ _ _ hx with⟨_,e2,e3⟩|h3
  ·rw[if_pos e2,e2];exact(hc _ _ e3.symm).1
  ·have:=h1 _ _ _ _ h3;by_cases e:j'=o
   ·subst e;rw[if_pos rfl,<- hu _ this];exact this
   ·rw[if_neg e];exact this
 ·rcases hget _ _ _ hx with⟨_,e2,e3⟩|h3
  ·rw[if_pos e2,e3];exact(hc _ _ e3.symm).2
  ·have:=h2 _ _ _ _ h3;by_cases e:j'=o
   ·subst e;rw[if_pos rfl,<- hu _ (h1 _ _ _ _ h3)];exact this
   ·rw[if_neg e];exact this
theorem EX.store (h:EX P g I0 I w T q kb n cap sz es)(hi:i<n)(ho:o<sz)(hno:((kP P T).all λe=>e.1 != o)=true){x:Value}{c':Cell}(h1:x.cells = #[x])(hx:∀J,Rd J x c')(hc':∀sz' es',c' ≠ .sl sz' es'){cs:Array Value}{e:TypeId}(hw:w.heap[kb]? = some (.cells cs e (0,0))) :
 ∃J,EX P g I0 J (w.setRow kb (splice cs.toList (i*sz+o) [x]).toArray) T q kb n cap sz (es.set i ((es.getD i []).set o c'))/\xK w (w.setRow kb (splice cs.toList (i*sz+o) [x]).toArray) (Under g q)/\∀b,¬Under g q b->J b=I b:=by
 obtain⟨cs',e',hw',hI,hfit,hcell⟩:=h.row hi;rw[hw]at hw';cases hw';have hIk:=hI (by omega);have hf:=hfit o ho;have ahp:es.length=n:=by have:=h.rd;cases this with|sl _ _ _ _ _ u hlen _ _ _ _ _ _=>exact hlen
 have hnew:=setRow_heap w kb cs (splice cs.toList (i*sz+o) [x]).toArray e (0,0) hw;have hsp:∀j,(splice cs.toList (i*sz+o) [x]).toArray[j]? = if j=i*sz+o then some x else cs[j]?:= λj=>by
  have:=A7 (cs:=cs) (off:=i*sz+o) (vs:= #[x]) (by simp;omega) j;rw[this];by_cases e1:j=i*sz+o
  ·subst e1;simp
  ·rw[if_neg e1];by_cases e2:j<i*sz+o
   ·rw[if_pos e2]
   ·rw[if_neg e2,if_neg (by simp;omega)]
 have hsize:kb<w.heap.size:=uk hw;obtain⟨d,m,hkd⟩:=h.root.under (.here h.at'.1)
 let J:IH:=λb=>if b=kb then some (splice cs.toList (i*sz+o) [x]).toArray else I b
 have hJ:∀b,b≠kb->J b=I b:=λb hb=>if_neg hb;have afY:xK w (w.setRow kb (splice cs.toList (i*sz+o) [x]).toArray) (Under g q):=⟨rfl,rfl,rfl,by rw[setRow_size];exact aA _,λb _ hb=>zi w _ (λe=>hb (e ▸ .here h.at'.1))⟩;refine⟨J,{ good:=?_,tabs:=h.tabs,Iy:=?_,old:=h.old,ag:=?_,at':=h.at',root:=h.root,rd:=?_,ty:=?_ },afY,λb hb=>hJ b (λe=>hb (e ▸ .here h.at'.1))⟩
 ·refine(OW.QU (F:=FV) (dp:=0) (Γ :=[]) (a:=⟨#[],[]⟩) ⟨h.good,λf hf=>by cases hf⟩ hw λB hB=>?_).good;rw[h.at'.1]at hB;cases hB;refine⟨_,_,rfl,λj u T' hj hu ht=>?_⟩;rw[hsp]at hu;obtain⟨cs2,e2,hw2,hown⟩:=h.good.arr _ _ _ h.at'.1;rw[hw]at hw2;cases hw2;split at hu
  ·rename_i e1;subst e1;have hs:qJ P T=sz:=by
    have:=h.ty;cases this with|sl _ _ _ t hs _ _=>exact hs
   rw[hs,AA ho]at ht;have:=aH.1 hno _ ht;simp at this
  ·exact hown j u T' hj hu ht
 ·exact h.Iy.other λb c hb=>zi w _ (λe=>by subst e;have:=h.old _ _ hb;rw[h.at'.1]at this;cases this)
 ·intro b c hb;by_cases e1:b=kb
  ·subst e1;simp only[J,if_true]at hb;cases hb;exact⟨e,(0,0),hnew⟩
  ·rw[hJ b e1]at hb;obtain⟨e2,fr,h2⟩:=h.ag b c hb;exact⟨e2,fr,by rw[zi w _ e1];exact h2⟩
 ·refine h.rd.upd h.good h.ag h.at' h.root h.ty hi ho (u':=x) (c':=c') (λy=>?_) (λy b hy hb=>hJ b (λe1=>?_)) (hx J)
  ·unfold IH.cell;simp only[tY,jU,if_false,J,if_true,hIk];exact hsp y
  ·subst e1;exact hkd.irrefl _ hb
 ·exact h.ty.set (T':=0) (by omega) (λsz' es' e1=>absurd e1 (hc' _ _)) (λT2 h2=>by have:=aH.1 hno _ h2;simp at this)
end
end
section
section
variable {P:Program} {g:Own} {I0 I J:IH} {w w':World} {T kb n cap sz i o:Nat} {q:ru} {es:List (List Cell)}
theorem EX.len (h:EX P g I0 I w T q kb n cap sz es):es.length=n/\qJ P T=sz:=by have h1:=h.rd;have h2:=h.ty;cases h1 with|sl _ _ _ _ _ u hlen _ _ _ _ _ _=>cases h2 with|sl _ _ _ t hs _ _=>exact⟨hlen,hs⟩
theorem EX.child (h:EX P g I0 I w T q kb n cap sz es)(hi:i<n)(ho:o<sz){cs:Array Value}{e:TypeId}(hw:w.heap[kb]? = some (.cells cs e (0,0))){x:Value}(hx:cs[i*sz+o]? = some x){T' sz':Nat}{es':List (List Cell)}(hc:(es.getD i [])[o]? = some (.sl sz' es'))(ht:(o,T')∈kP P T)(hu:∀T2,(o,T2)∈kP P T->T2=T') :
 GR g x T' (.blk kb (i*sz+o))/\FY g (.blk kb (i*sz+o))/\Rd I x (.sl sz' es')/\NZ P T' (.sl sz' es'):=by
 obtain⟨cs',e',hw',hI,hfit,hcell⟩:=h.row hi;rw[hw]at hw';cases hw';obtain⟨u,h1,h2⟩:=hcell o ho;rw[hx]at h1;cases h1;obtain⟨d,m,hkd⟩:=h.root.under (.here h.at'.1);refine⟨Lj h.good h.ag h.at' h.len.2 hi ho ?_ ht,.inr ⟨kb,_,d,m,rfl,hkd⟩,h2 _ hc,?_⟩
 ·rw[Addr.l7,dh];unfold IH.cell;simp only[tY,jU,if_false,hI (by omega)];exact hx
 ·have h3:=h.ty;cases h3 with
  |sl _ _ _ t hs t1 t2=>
  have:=t2 _ _ _ _ hc
  rwa[hu _ (t1 _ _ _ _ hc)]at this
theorem EX.after (h:EX P g I0 I w T q kb n cap sz es)(hi:i<n)(ho:o<sz){cs:Array Value}{e:TypeId}(hw:w.heap[kb]? = some (.cells cs e (0,0))){x:Value}(hx:cs[i*sz+o]? = some x){T':Nat}{c1:Cell}(ht:(o,T')∈kP P T)(hu:∀T2,(o,T2)∈kP P T->T2=T')
 (hp:Post P g I w (.blk kb (i*sz+o)) x T' c1 w'):∃J,EX P g I0 J w' T q kb n cap sz (es.set i ((es.getD i []).set o c1))/\xK w w' (Under g q)/\∀b,¬Under g q b->J b=I b:=by
 obtain⟨hg',hF,⟨J,j1,j2,j3⟩,hty⟩:=hp;obtain⟨cs',e',hw',hI,hfit,hcell⟩:=h.row hi;rw[hw]at hw';cases hw';have hIk:=hI (by omega);have hl:=h.len;obtain⟨d,m,hkd⟩:=h.root.under (.here h.at'.1);have hup:∀{b},Under g (.blk kb (i*sz+o)) b->Under g q b:=λhb=>hb.trans (.here h.at'.1);have hJk:J kb=I kb:=j2 kb (hkd.irrefl _);refine⟨J,{ good:=hg',tabs:=h.tabs,Iy:=?_,old:=h.old,ag:=j1,at':=h.at',root:=h.root,rd:=?_,ty:=?_ },⟨hF.os,hF.tape,hF.output,hF.size,λb hb hn=>hF.block b hb λhx=>hn (hup hx)⟩,λb hb=>j2 b λhx=>hb (hup hx)⟩
 ·exact h.Iy.other λb c hb=>hF.block b (h.Iy.lt hb) λhx=>by obtain⟨T2,p,h2⟩:=hx.owned;have:=h.old b c hb;rw[h2]at this;cases this
 ·refine h.rd.upd h.good h.ag h.at' h.root h.ty hi ho (u':=x) (c':=c1) (λy=>?_) (λy b hy hb=>j2 b λhx=>hy (hkd.aay hb hx)) j3;unfold IH.cell;simp only[tY,jU,if_false,hJk,hIk];split
  ·rename_i e1;subst e1;exact hx
  ·rfl
 ·exact h.ty.set (T':=T') (by omega) (λsz' es' e1=>⟨ht,hty⟩) hu
end
def KW (P:Program)(yx:Nat)(mt:Fq)(tx:Int->List UInt8)(acts:List MA)(e:List Cell)(k:Int)(e':List Cell)(k':Int):Prop:=
 ∀ {T sz m:Nat} {rs:List (Array Oper)},J8 P yx mt T sz m acts rs=true->∀{g:Own} {I0 I:IH} {w:World} {q:ru} {kb n cap:Nat} {es:List (List Cell)} {i:Nat} {a:Act} {Q:Exit->Act->World->Prop},
   EX P g I0 I w T q kb n cap sz es->i<n->es.getD i []=e->5<m->DR P yx tx->ES tx sz kb i n cap m k E0 a w ->
   (∀a' w' J,ES tx sz kb i n cap m k' E0 a' w'->EX P g I0 J w' T q kb n cap sz (es.set i e')->xK w w' (Under g q)->(∀b,¬Under g q b->J b=I b)->Q .normal a' w')->wH P Q rs a w
section
variable {P:Program} {yx:Nat} {mt:Fq} {tx:Int->List UInt8} {r:List MA} {e e':List Cell} {k k':Int} {o:Nat}
theorem xK.any {w w':World}{M:Nat->Prop}(h:xK w w' λ_=>False):xK w w' M:=⟨h.os,h.tape,h.output,h.size,λk hk _=>h.block k hk λh=>h⟩
theorem set_self {α:Type}{es:List (List α)}{i:Nat}(hi:i<es.length):es.set i (es.getD i [])=es:=by
 apply List.ext_getElem?;intro j;rw[lI];split
 ·rename_i e1;subst e1;rw[aQ,aj hi];simp
 ·rfl
theorem aeC : KW P yx mt tx [] e k e k:=by
 intro T sz m rs hc g I0 I w q kb n cap es i a Q hE hi he hm ht hs hk;cases rs with
 |cons _ _=>simp[J8]at hc
 | nil=>refine hk a w I hs ?_ ⟨rfl,rfl,rfl,aA _,λ_ _ _=>rfl⟩ λb _=>rfl;rw[<- he,set_self (by rw[hE.len.1];exact hi)];exact hE
theorem V7 {sv:SV}{c':Cell}{x0:Value}(h1:x0.cells = #[x0])(hone:x0.oneCell'=true)(hx:∀J,(tx k).length<=maxLen->Rd J x0 c')(hc':∀sz' es',c' ≠ .sl sz' es')(hk:ZN k)(hk':ZN (k+1))
 (hden:∀{sz kb i n c:Nat} {w:World} {x:Value},sv.den tx sz kb i n c k w x->x=x0/\(sv = .txt->(tx k).length<=maxLen)) (htx:sv ≠ .txt->∀J,Rd J x0 c')
 (ih:KW P yx mt tx r (e.set o c') (k+1) e' k') {T sz m:Nat} {x y:Array Oper} {rs:List (Array Oper)} (s1:stR P yx sz m o sv E0 x.toList=true) (s2:U8 m 1 y.toList=true) (s3:((kP P T).all λe=>e.1 != o)=true) (s4:J8 P yx mt T sz m r rs=true)
 {g:Own} {I0 I:IH} {w:World} {q:ru} {kb n cap:Nat} {es:List (List Cell)} {i:Nat} {a:Act} {Q:Exit->Act->World->Prop} (hE:EX P g I0 I w T q kb n cap sz es) (hi:i<n) (he:es.getD i []=e) (hm:5<m) (ht:DR P yx tx) (hs:ES tx sz kb i n cap m k E0 a w)
 (hK:∀a' w' J,ES tx sz kb i n cap m k' E0 a' w'->EX P g I0 J w' T q kb n cap sz (es.set i e')->xK w w' (Under g q)->(∀b,¬Under g q b->J b=I b)->Q .normal a' w'):wH P Q (x::y::rs) a w:=by
 obtain⟨cs,ty,hw,_,hfit,_⟩:=hE.row hi;refine Pg (Q:=Exit.then (wH P Q (y::rs)) Q) s1 hs (λ_ _ h=>h) hi ht hk.1 hk.2 hE.tabs hE.Iy hw hfit (λx w hd=>by rw[(hden hd).1];exact⟨h1,hone⟩) (λa' w1 x hs' hF hw1 hd ho=>?_);obtain⟨rfl,hl⟩:=hden hd;have hrd:∀J,Rd J x c':=λJ=>by
  by_cases hsv:sv = .txt
  ·exact hx J (hl hsv)
  ·exact htx hsv J
 obtain⟨J,hE2,hF2,hJ⟩:=(hE.quiet hF).store hi ho s3 h1 hrd hc' hw1;show wpList P y (Exit.then (wH P Q rs) Q) y.toList a' _;refine OH s2 hs'.size hs'.defers hs'.cnt ⟨hk'.1,by have:=hk'.2;omega⟩ (by omega) (.inr (.inl rfl)) (λa2 b1 b2 b3 b4=>?_);show wH P Q rs a2 _;have hs2:ES tx sz kb i n cap m (k+1) E0 a2 (w1.setRow kb (splice cs.toList (i*sz+o) [x]).toArray):=UQ b1 b2 (by rw[b4 0 (by omega) (.inl rfl)];exact hs'.arr) b3 (by rw[b4 5 (by omega) (.inr (.inr rfl))];exact hs'.idx);refine ih s4 hE2 hi ?_ hm ht hs2 (λa3 w3 J3 hs3 hE3 hF3 hJ3=>?_)
 ·rw[I5 (by rw[hE.len.1];exact hi),if_pos rfl,he]
 ·rw[List.set_set]at hE3;exact hK a3 w3 J3 hs3 hE3 ((hF.any.trans hF2 λ_ _ h=>h).trans hF3 λ_ _ h=>h) (λb hb=>(hJ3 b hb).trans (hJ b hb))
theorem aeD {f:Nat}{c c1:Cell}{k1 k2:Int}(hc0:e[o]? = some c)(hsl:∃sz es,c = .sl sz es)(hk:ZN k)(hC:YT P mt f c k c1 k1)(ih:KW P yx mt tx r (e.set o c1) k1 e' k2){T sz m:Nat}{x:Array Oper}{rs:List (Array Oper)}(s1:TP P yx sz m o f E0 x.toList=true)
 {T':Nat} (hmt:∃sz acts,mt f=some (T',sz,acts)) (hin:(o,T')∈kP P T) (hu:∀T2,(o,T2)∈kP P T->T2=T') (s4:J8 P yx mt T sz m r rs=true)
 {g:Own} {I0 I:IH} {w:World} {q:ru} {kb n cap:Nat} {es:List (List Cell)} {i:Nat} {a:Act} {Q:Exit->Act->World->Prop} (hE:EX P g I0 I w T q kb n cap sz es) (hi:i<n) (he:es.getD i []=e) (hm:5<m) (ht:DR P yx tx) (hs:ES tx sz kb i n cap m k E0 a w)
 (hK:∀a' w' J,ES tx sz kb i n cap m k2 E0 a' w'->EX P g I0 J w' T q kb n cap sz (es.set i e')->xK w w' (Under g q)->(∀b,¬Under g q b->J b=I b)->Q .normal a' w'):wH P Q (x::rs) a w:=by
 obtain⟨cs,ty,hw,_,hfit,_⟩:=hE.row hi;obtain⟨sz',es',rfl⟩:=hsl;refine NF (Q:=Exit.then (wH P Q rs) Q) s1 hs (λ_ _ h=>h) hi ht hk.1 hk.2 hE.tabs hE.Iy hw hfit hm (k1:=k1) (R:=λw1 w'=>∃J,EX P g I0 J w' T q kb n cap sz (es.set i ((es.getD i []).set o c1))/\xK w1 w' (Under g q)/\∀b,¬Under g q b->J b=I b) (λw1 x hF hx ho=>?_) (λa' w1 w' hs' hF hR=>?_)
 ·have hE1:=hE.quiet hF;have hw1:w1.heap[kb]? = some (.cells cs ty (0,0)):=by rw[hF.block kb (uk hw) λh=>h];exact hw
  obtain⟨g1,g2,g3,g4⟩:=hE1.child hi ho hw1 hx (by rw[he];exact hc0) hin hu;refine(hC g I0 I w1 T' _ x hmt hE1.good hE1.tabs hE1.Iy hE1.old hE1.ag g1 g2 g3 g4).mono ?_;rintro e w' ⟨rfl,hp⟩;exact⟨rfl,hE1.after hi ho hw1 hx hin hu hp⟩
 ·obtain⟨J,hE2,hF2,hJ⟩:=hR;show wH P Q rs a' w';refine ih s4 hE2 hi ?_ hm ht hs' (λa3 w3 J3 hs3 hE3 hF3 hJ3=>?_)
  ·rw[I5 (by rw[hE.len.1];exact hi),if_pos rfl,he]
  ·rw[List.set_set]at hE3;exact hK a3 w3 J3 hs3 hE3 ((hF.any.trans hF2 λ_ _ h=>h).trans hF3 λ_ _ h=>h) (λb hb=>(hJ3 b hb).trans (hJ b hb))
end
def Xx (P:Program)(yx:Nat)(mt:Fq)(f:Nat):Bool:=match mt f,P.funcs[f]? with
 | some (T,sz,acts),some fn=>(match fn.body with
   | some (.seq (.region _ r0 false) (.seq (.seq (.region _ r1 false) (.block b0 (.loop (.seq (.seq (.region _ r2 false) (.cond (.tmp c) .skip (.exit b0'))) (.seq (.block b1 body) (.region _ r3 false)))))) (.seq (.region _ r4 false) .ret)))=>
     (match r0.toList,r1.toList,r2.toList,r4.toList with
     | [x0],[x1],[y1,y2,y3,y4],[z1,z2]=>
       (match x0.guard,x0.dst,x0.op,x1.guard,x1.dst,x1.op with
        |none,some 4,.assign (.const (.int .i64 0)),none,some 5,.assign (.const (.int .i64 0))=>true
        |_,_,_,_,_,_=>false) &&
       (match y1.guard,y1.dst,y1.op,y2.guard,y2.dst,y2.op with
        | none,some t1,.move (.tmp 5),none,some t2,.move (.tmp 0)=>decide (5<t1/\5<t2/\t1≠t2/\t1<fn.ntmps/\t2<fn.ntmps)&&(match y3.guard,y3.dst,y3.op,y4.guard,y4.dst,y4.op with
          |none,some t3,.call ⟨.builtin .len,⟨[.tmp t2']⟩,⟨[ts]⟩⟩,none,some t4,.binOp .lss _ (.tmp t1') (.tmp t3') _=>(match P.underlying ts with|some (.slice _)=>true|_=>false)&&t1'==t1&&t2'==t2&&t3'==t3&&t4==c&&decide (5<t3/\t3≠t1/\t3≠t2/\5<t4/\t3<fn.ntmps/\t4<fn.ntmps)
          |_,_,_,_,_,_=>false)
        |_,_,_,_,_,_=>false) &&
       (match z1.guard,z1.dst,z1.op,z2.guard,z2.dst,z2.op with
        |none,some t,.move (.tmp 1),none,some 4,.assign (.tmp t')=>t'==t&&decide (t<fn.ntmps)
        |_,_,_,_,_,_=>false)
     | _,_,_,_=>false)&&b0'==b0&&U8 fn.ntmps 5 r3.toList&&(match Nj body with
       |some rs=>J8 P yx mt T sz fn.ntmps acts rs
       |none=>false)&&decide (5<fn.ntmps)&&(match fn.results.toList with
       |[.tmp 4]=>true
       |_=>false)
   |_=>false)
 |_,_=>false
end
section
structure BS (u:Value)(i:Nat)(k:Int)(m:Nat)(a:Act):Prop where
 size:a.tmps.size=m
 defers:a.defers=[]
 arr:a.tmps.getD 0 undef=u
 cnt:a.tmps.getD 1 undef = .int .i64 k
 idx:a.tmps.getD 5 undef = .int .i64 (i:Int)
theorem BS.put {u:Value}{i:Nat}{k:Int}{m:Nat}{a:Act}(h:BS u i k m a){d:Nat}(hd:5<d)(v:Value):BS u i k m (a.put (some d) v):=
 ⟨by simp[fA,h.size],h.defers,by rw[jD (by omega)];exact h.arr,by rw[jD (by omega)];exact h.cnt,by rw[jD (by omega)];exact h.idx⟩
theorem BS.es {ad:Addr}{kb n c i m:Nat}{k:Int}{a:Act}{w:World}{tx:Int->List UInt8}{sz:Nat}(h:BS (.slice (some ⟨kb,0,none⟩) n c) i k m a):ES tx sz kb i n c m k E0 a w:=UQ h.size h.defers h.arr h.cnt h.idx
theorem ES.bs {kb n c i m:Nat}{k:Int}{a:Act}{w:World}{tx:Int->List UInt8}{sz:Nat}(h:ES tx sz kb i n c m k E0 a w):BS (.slice (some ⟨kb,0,none⟩) n c) i k m a:=⟨h.size,h.defers,h.arr,h.cnt,h.idx⟩
theorem yD (a:Act)(t:Nat):a.eval (.tmp t)=a.tmps.getD t undef:=rfl
section
variable {P:Program} {Q:Exit->Act->World->Prop} {a:Act} {w:World}
theorem U2 {id cc b0 i m n cap t1 t2 t3:Nat}{k:Int}{ad:Option Addr}{r2:Array Oper}{y1 y2 y3 y4:Oper}{ty ty2 e:TypeId}{ts:TypeId}(hr:r2.toList=[y1,y2,y3,y4])(g1:y1.guard=none)(d1:y1.dst=some t1)(p1:y1.op = .move (.tmp 5))(g2:y2.guard=none)(d2:y2.dst=some t2)(p2:y2.op = .move (.tmp 0))
 (g3:y3.guard=none) (d3:y3.dst=some t3) (p3:y3.op = .call ⟨.builtin .len,⟨[.tmp t2]⟩,⟨[ts]⟩⟩) (ht:P.underlying ts=some (.slice e)) (g4:y4.guard=none) (d4:y4.dst=some cc) (p4:y4.op = .binOp .lss ty (.tmp t1) (.tmp t3) ty2)
 (q:5<t1/\5<t2/\t1≠t2/\t1<m/\t2<m) (q':5<t3/\t3≠t1/\t3≠t2/\5<cc/\t3<m/\cc<m) (bs:BS (.slice ad n cap) i k m a)
 (h1:i<n->∀a',BS (.slice ad n cap) i k m a'->Q .normal a' w) (h2:¬i<n->∀a',BS (.slice ad n cap) i k m a'->Q (.exit b0) a' w) :
 (Code.seq (.region id r2 false) (.cond (.tmp cc) .skip (.exit b0))).wp P Q a w:=by
 refine wp_seq (wp_region_list ?_);rw[hr];refine nG (v:=.int .i64 (i:Int)) (w':=w) g1 (by unfold execOp;rw[p1];exact congrArg (λv=>jr (ja v) w) bs.idx) ?_;rw[d1];have b1:=bs.put q.1 (.int .i64 (i:Int));refine nG (v:=.slice ad n cap) (w':=w) g2 (by unfold execOp;rw[p2];exact congrArg (λv=>jr (ja v) w) b1.arr) ?_;rw[d2];have b2:=b1.put q.2.1 (.slice ad n cap);have e2:((a.put (some t1) (.int .i64 (i:Int))).put (some t2) (.slice ad n cap)).eval (.tmp t2) = .slice ad n cap:=by rw[yD];exact dF (by rw[b1.size];exact q.2.2.2.2)
 refine nG (v:=.int .i64 (n:Int)) (w':=w) g3 (by simp[execOp,p3,resolve,invoke,builtin,Go.Builtin.len_,run_underlying ht,e2,goInt]) ?_;rw[d3];have b3:=b2.put q'.1 (.int .i64 (n:Int));have e3:(((a.put (some t1) (.int .i64 (i:Int))).put (some t2) (.slice ad n cap)).put (some t3) (.int .i64 (n:Int))).eval (.tmp t3) = .int .i64 (n:Int):=by rw[yD];exact dF (by rw[b2.size];exact q'.2.2.2.2.1)
 have e1:(((a.put (some t1) (.int .i64 (i:Int))).put (some t2) (.slice ad n cap)).put (some t3) (.int .i64 (n:Int))).eval (.tmp t1) = .int .i64 (i:Int):=by rw[yD,jD (yN q'.2.1),jD q.2.2.1];exact dF (by rw[bs.size];exact q.2.2.2.1)
 refine nG (v:=.bool (decide (i<n))) (w':=w) g4 ?_ ?_
 ·have hq:∀v,(eqGuard .lss ty (.tmp t1) (.tmp t3) (.int .i64 (i:Int)) v).run P w = .ok () w:=λv=>xH _ _ _ _ _ _ _ _;have hr0:(binOp .lss ty (.int .i64 (i:Int)) (.int .i64 (n:Int))).run P w = .ok (.bool (decide (i<n))) w:=by simp[binOp,Op.intCmp]
  unfold execOp;rw[p4];simp only[e1,e3,bF,hq,hr0,aN,aX]
 rw[d4];have b4:=b3.put q'.2.2.2.1 (.bool (decide (i<n)));refine wp_cond_split (t:=decide (i<n)) (by rw[yD];exact dF (by rw[b3.size];exact q'.2.2.2.2.2)) (λh=>wp_skip (h1 (by simpa using h) _ b4)) (λh=>wp_exit (h2 (by simpa using h) _ b4))
end
structure aen (P:Program)(yx:Nat)(mt:Fq)(T sz:Nat)(acts:List MA)(fn:Func)(id0 id1 id2 id3 id4 b0 b1 cc:Nat)(r0 r1 r2 r3 r4:Array Oper)(body:Code):Prop where
 code:fn.body=some (.seq (.region id0 r0 false) (.seq (.seq (.region id1 r1 false) (.block b0 (.loop (.seq (.seq (.region id2 r2 false) (.cond (.tmp cc) .skip (.exit b0))) (.seq (.block b1 body) (.region id3 r3 false)))))) (.seq (.region id4 r4 false) .ret)))
 m5:5<fn.ntmps
 res:fn.results.toList=[.tmp 4]
 first:∃x0,r0.toList=[x0]/\x0.guard=none/\x0.dst=some 4/\x0.op = .assign (.const (.int .i64 0))
 second:∃x1,r1.toList=[x1]/\x1.guard=none/\x1.dst=some 5/\x1.op = .assign (.const (.int .i64 0))
 head:∀{Q:Exit->Act->World->Prop} {a:Act} {w:World} {i n cap:Nat} {k:Int} {ad:Option Addr},BS (.slice ad n cap) i k fn.ntmps a->(i<n->∀a',BS (.slice ad n cap) i k fn.ntmps a'->Q .normal a' w)->(¬i<n->∀a',BS (.slice ad n cap) i k fn.ntmps a'->Q (.exit b0) a' w) ->
  (Code.seq (.region id2 r2 false) (.cond (.tmp cc) .skip (.exit b0))).wp P Q a w
 inc:U8 fn.ntmps 5 r3.toList=true
 steps:∃rs,Nj body=some rs/\J8 P yx mt T sz fn.ntmps acts rs=true
 last:∃z1 z2 t,r4.toList=[z1,z2]/\z1.guard=none/\z1.dst=some t/\z1.op = .move (.tmp 1)/\z2.guard=none/\z2.dst=some 4/\z2.op = .assign (.tmp t)/\t<fn.ntmps
theorem abx {P:Program}{yx:Nat}{mt:Fq}{f T sz:Nat}{acts:List MA}(h:Xx P yx mt f=true)(hmt:mt f=some (T,sz,acts)):∃fn,P.funcs[f]? = some fn/\∃id0 id1 id2 id3 id4 b0 b1 cc r0 r1 r2 r3 r4 body,aen P yx mt T sz acts fn id0 id1 id2 id3 id4 b0 b1 cc r0 r1 r2 r3 r4 body:=by
 unfold Xx at h;rw[hmt]at h;split at h
 ·rename_i T' sz' aes fn e1 hf;cases e1;refine⟨fn,hf,?_⟩;split at h
  ·rename_i id0 r0 id1 r1 b0 id2 r2 cc b0' b1 body id3 r3 id4 r4 hb;simp only[af,beq_iff_eq,decide_eq_true_eq]at h;obtain⟨⟨⟨⟨⟨h1,rfl⟩,h2⟩,h3⟩,h4⟩,h5⟩:=h;refine⟨id0,id1,id2,id3,id4,b0',b1,cc,r0,r1,r2,r3,r4,body,?_⟩;split at h1
   ·rename_i x0 x1 y1 y2 y3 y4 z1 z2 l0 l1 l2 l4;simp only[af]at h1;obtain⟨⟨q1,q2⟩,q3⟩:=h1;refine⟨hb,h4,?_,?_,?_,?_,h2,?_,?_⟩
    ·split at h5
     ·rename_i e;exact e
     ·cases h5
    ·split at q1
     ·exact⟨x0,l0,by assumption,by assumption,by assumption⟩
     ·cases q1
    ·split at q1
     ·exact⟨x1,l1,by assumption,by assumption,by assumption⟩
     ·cases q1
    ·split at q2
     ·rename_i t1 t2 g1 d1 p1 g2 d2 p2;simp only[af,decide_eq_true_eq]at q2;obtain⟨q2,q4⟩:=q2;split at q4
      ·rename_i t3 t2' ts t4 ty t1' t3' ty2 g3 d3 p3 g4 d4 p4;simp only[af,beq_iff_eq,decide_eq_true_eq]at q4;obtain⟨⟨⟨⟨⟨hu,rfl⟩,rfl⟩,rfl⟩,rfl⟩,q5⟩:=q4;split at hu
       ·rename_i e hu2;intro Q a w i n cap k ad bs k1 k2;exact U2 l2 g1 d1 p1 g2 d2 p2 g3 d3 p3 hu2 g4 d4 p4 q2 q5 bs k1 k2
       ·cases hu
      ·cases q4
     ·cases q2
    ·split at h3
     ·exact⟨_,by assumption,h3⟩
     ·cases h3
    ·split at q3
     ·rename_i t t' g1 d1 p1 g2 d2 p2;simp only[af,beq_iff_eq,decide_eq_true_eq]at q3;obtain⟨rfl,q3⟩:=q3;exact⟨z1,z2,_,l4,g1,d1,p1,g2,d2,p2,q3⟩
     ·cases q3
   ·cases h1
  ·cases h
 ·cases h
inductive Xf (S:List Cell->Int->List Cell->Int->Prop):List (List Cell)->Int->List (List Cell)->Int->Prop
 |nil {k:Int} : Xf S [] k [] k
 |cons {e e':List Cell} {es es':List (List Cell)} {k k1 k2:Int} (h:S e k e' k1) (t:Xf S es k1 es' k2):Xf S (e::es) k (e'::es') k2
theorem set_mid {α:Type}{D es:List α}{e e':α} : (D++e::es).set D.length e'=(D++[e'])++es:=by rw[List.set_append_right _ _ (aA _)];simp
theorem Zn {P:Program}{yx:Nat}{mt:Fq}{tx:Int->List UInt8}{f T sz:Nat}{acts:List MA}(hc:Xx P yx mt f=true)(hmt:mt f=some (T,sz,acts))(ht:DR P yx tx){es es':List (List Cell)}{k k':Int}(hk:ZN k)
 (hrun:Xf (KW P yx mt tx acts) es k es' k'):YT P mt f (.sl sz es) k (.sl sz es') k':=by
 intro g I0 I w T1 q u hT hg hTb hA0 hold hA hgr hroot hrd hty;obtain⟨sz1,agH,hm1⟩:=hT;rw[hmt]at hm1;cases hm1;obtain⟨fn,hf,id0,id1,id2,id3,id4,b0,b1,cc,r0,r1,r2,r3,r4,body,C⟩:=abx hc hmt;obtain⟨ad,n,cap,rfl⟩:∃ad n cap,u = .slice ad n cap:=by rcases hgr with e|⟨_,_,_,e,_⟩<;>exact⟨_,_,_,e⟩
 have hn:es.length=n/\n<=maxLen:=by cases hrd with|sl _ _ _ _ _ _ h1 h2 h3 _ _ _ _=>exact⟨h1,cZ h2 h3⟩
 refine calls_of_wp hf C.code ?_;obtain⟨x0,l0,g0,d0,p0⟩:=C.first;obtain⟨x1,l1,g1,d1,p1⟩:=C.second;have hm5:=C.m5
 let a0:Act:={ tmps:= #[vW ad n cap,.int .i64 k]++lq (fn.ntmps-2) undef,defers:=[] }
 have hs0:a0.tmps.size=fn.ntmps:=by simp[a0];omega
 have ha0:a0.tmps.getD 0 undef = .slice ad n cap/\a0.tmps.getD 1 undef = .int .i64 k:=by constructor<;>(simp only[a0,bQ];rw[mW (by simp)];rfl)
 have zK:BS (.slice ad n cap) 0 k fn.ntmps ((a0.put (some 4) (.int .i64 0)).put (some 5) (.int .i64 0)):=
  ⟨by simp[fA,hs0],rfl,by rw[jD (by omega),jD (by omega)];exact ha0.1,by rw[jD (by omega),jD (by omega)];exact ha0.2,dF (by simp[fA,hs0];exact hm5)⟩
 refine wp_seq (wp_region_list ?_);rw[l0];refine nG (v:=.int .i64 0) (w':=w) g0 (by unfold execOp;rw[p0];rfl) ?_;rw[d0];refine wp_seq (wp_seq (wp_region_list ?_));rw[l1];refine nG (v:=.int .i64 0) (w':=w) g1 (by unfold execOp;rw[p1];rfl) ?_;rw[d1];refine wp_block (BH (λj a w'=>∃D es1 abH k1,Xf (KW P yx mt tx acts) es1 k1 abH k'/\D++abH=es'/\j=es1.length/\(D++es1).length=n/\BS (.slice ad n cap) D.length k1 fn.ntmps a/\Post P g I w q (.slice ad n cap) T (.sl sz (D++es1)) w') ?_ ?_)
 ·exact⟨es.length,[],es,es',k,hrun,rfl,rfl,hn.1,zK,hg,⟨rfl,rfl,rfl,aA _,λ_ _ _=>rfl⟩,⟨I,hA,λ_ _=>rfl,hrd⟩,hty⟩
 ·rintro j a w1 ⟨D,es1,abH,k1,hr,hD,rfl,hlen,bs,hp⟩;refine wp_seq (C.head bs (λhlt a' bs'=>?_) (λhge a' bs'=>?_))
  ·
   cases hr with
   |nil=>simp at hlen;omega
   | @cons e e' es2 afL _ k2 _ hS hr=>
   obtain⟨kb,n',c',e1,hkb⟩:∃kb n' c',vW ad n cap = .slice (some ⟨kb,0,none⟩) n' c'/\g.at kb n' T q:=by
    rcases hgr with e1|⟨kb,n',c',e1,h2⟩
    ·cases e1;omega
    ·exact⟨kb,n',c',e1,h2⟩
   cases e1;obtain⟨pg,pF,⟨J,pJ1,pJ2,pJ3⟩,pty⟩:=hp;have hE:EX P g I0 J w1 T q kb n cap sz (D++e::es2):=
    { good:=pg,tabs:=hTb,Iy:=hA0.other λb c hb=>pF.block b (hA0.lt hb) λhx=>(by obtain⟨T2,p,h2⟩:=hx.owned;have:=hold b c hb;rw[h2]at this;cases this),old:=hold,ag:=pJ1,at':=hkb,root:=hroot,rd:=pJ3,ty:=pty }
   obtain⟨rs,hrs,afV⟩:=C.steps;refine wp_seq (wp_block (ab4 hrs (hS afV hE hlt (by simp[aQ]) hm5 ht (BS.es (ad:=⟨0,0,none⟩) bs') (λa2 w2 J2 hs2 hE2 hF2 hJ2=>?_))));refine wp_region_list (OH C.inc hs2.size hs2.defers hs2.idx (by have:=hn.2;simp only[maxLen]at this;omega) hm5 (.inr (.inr rfl)) (λa3 c1 c2 c3 c4=>?_));refine⟨es2.length,by simp,D++[e'],es2,afL,k2,hr,by rw[<- hD];simp,rfl,by simp at hlen⊢;omega,?_,hE2.good,pF.trans hF2 λ_ _ h=>h,⟨J2,hE2.ag,λb hb=>(hJ2 b hb).trans (pJ2 b hb),?_⟩,?_⟩
   ·exact⟨c1,c2,by rw[c4 0 (by omega) (.inl rfl)];exact hs2.arr,by rw[c4 1 (by omega) (.inr (.inl rfl))];exact hs2.cnt,by rw[c3];simp⟩
   ·have:=hE2.rd;rwa[set_mid]at this
   ·have:=hE2.ty;rwa[set_mid]at this
  ·
   have hnil:es1=[]/\abH=[]/\k1=k':=by
    cases hr with
    |nil=>exact⟨rfl,rfl,rfl⟩
    |cons _ _=>simp at hlen;omega
   obtain⟨rfl,rfl,rfl⟩:=hnil;show rY b0 _ (.exit b0) a' w1;simp only[rY,if_true];obtain⟨z1,z2,t,l4,g4,d4,p4,g5,d5,p5,ZI⟩:=C.last;refine wp_seq (wp_region_list ?_);rw[l4];refine nG (v:=.int .i64 k1) (w':=w1) g4 (by unfold execOp;rw[p4];exact congrArg (λv=>jr (ja v) w1) bs'.cnt) ?_;rw[d4];have e2:(a'.put (some t) (.int .i64 k1)).tmps.getD t undef = .int .i64 k1:=dF (by rw[bs'.size];exact ZI);refine nG (v:=.int .i64 k1) (w':=w1) g5 (by unfold execOp;rw[p5];exact congrArg (λv=>jr (ja v) w1) e2) ?_;rw[d5];refine wp_ret ?_;refine⟨bs'.defers,.int .i64 k1,?_,rfl,?_⟩
   ·have e3:((a'.put (some t) (.int .i64 k1)).put (some 4) (.int .i64 k1)).tmps.getD 4 undef = .int .i64 k1:=dF (by simp[fA,bs'.size];omega);have e4:fn.results = #[.tmp 4]:=(by apply Array.toList_inj.1;rw[C.res]);rw[Dc,e4];simp[Kt,e3]
   ·rw[<- hD];simpa using hp
theorem aam {P:Program}{yx:Nat}{mt:Fq}{tx:Int->List UInt8}(hall:∀f,(mt f).isSome=true->Xx P yx mt f=true)(ht:DR P yx tx){j:Jb}(h:JZ mt tx j):match j with
 |.C f c k c' k'=>YT P mt f c k c' k'/\ZN k/\(∃sz es,c = .sl sz es)
 |.L acts es k es' k'=>Xf (KW P yx mt tx acts) es k es' k'
 |.E acts e k e' k'=>KW P yx mt tx acts e k e' k':=by
 induction h with
 |c h hk hl ih=>exact⟨Zn (hall _ (by rw[h];rfl)) h ht hk ih,hk,_,_,rfl⟩
 |l0=>exact .nil
 |l1 _ _ ih1 ih2=>exact .cons ih1 ih2
 |e0=>exact aeC
 | ei hk hk' ho _ ih=>
   intro T sz m rs hc g I0 I w q kb n cap es i a Q hE hi he hm ht' hs hK
   match rs,hc with
   | x::y::rs,hc=>simp only[J8,af]at hc;exact V7 (sv:=.cnt) rfl rfl (λJ _=>.lit _ rfl) (λ_ _ e=>by cases e) hk hk' (λhd=>⟨hd,λe=>by cases e⟩) (λ_ J=>.lit _ rfl) ih hc.1.1.1 hc.1.1.2 hc.1.2 hc.2 hE hi he hm ht' hs hK
 | es hk hk' ho _ ih=>
   intro T sz m rs hc g I0 I w q kb n cap es i a Q hE hi he hm ht' hs hK
   match rs,hc with
   | x::y::rs,hc=>simp only[J8,af]at hc;exact V7 (sv:=.txt) rfl rfl (λJ hl=>.str _ hl) (λ_ _ e=>by cases e) hk hk' (λhd=>⟨hd.1,λ_=>hd.2⟩) (λe=>absurd rfl e) ih hc.1.1.1 hc.1.1.2 hc.1.2 hc.2 hE hi he hm ht' hs hK
 | ef hc0 _ _ ih1 ih2=>
   intro T sz m rs hc g I0 I w q kb n cap es i a Q hE hi he hm ht' hs hK
   match rs,hc with
   | x::rs,hc=>
     simp only[J8,af]at hc;obtain⟨⟨h1,h2⟩,h3⟩:=hc;split at h2
     ·rename_i T' sz' aes hmt;simp only[af,gm,aH,eH,bne_iff_ne,beq_iff_eq]at h2;exact aeD hc0 ih1.2.2 ih1.2.1 ih1.1 ih2 h1 ⟨_,_,hmt⟩ h2.1 (λT2 h4=>by
       rcases h2.2 _ h4 with h5|h5
       ·exact absurd rfl h5
       ·exact h5) h3 hE hi he hm ht' hs hK
     ·cases h2
end
section
inductive Stp where
 |sl (o g:Nat)
 |st (o sz g:Nat)
 deriving DecidableEq
abbrev Xg :=Nat->Option (Nat×List Stp)
inductive SR (mt:Fq)(sb:Xg)(tx:Int->List UInt8):(Nat->Nat)->List Stp->List Cell->Int->List Cell->Int->Prop
 |nil {ty:Nat->Nat} {cs:List Cell} {k:Int} : SR mt sb tx ty [] cs k cs k
 |sl {ty:Nat->Nat} {o g:Nat} {r:List Stp} {cs cs':List Cell} {c c1:Cell} {k k1 k2:Int} (hc:cs[o]? = some c) (hT:∃sz acts,mt g=some (ty o,sz,acts)) (hm:JZ mt tx (.C g c k c1 k1)) (t:SR mt sb tx ty r (cs.set o c1) k1 cs' k2):SR mt sb tx ty (.sl o g::r) cs k cs' k2
 |st {ty:Nat->Nat} {o sz g:Nat} {r steps:List Stp} {cs cs2 cs':List Cell} {k k1 k2:Int} (hs:sb g=some (sz,steps)) (hl:o+sz<=cs.length) (h:SR mt sb tx (λj=>ty (o+j)) steps ((cs.drop o).take sz) k cs2 k1) (hl2:cs2.length=sz) (t:SR mt sb tx ty r (cs.take o++cs2++cs.drop (o+sz)) k1 cs' k2):SR mt sb tx ty (.st o sz g::r) cs k cs' k2
structure SX (P:Program)(g:Own)(I0 I:IH)(w:World)(vs:List Value)(cs:List Cell)(L:List Nat)(ty:Nat->Nat)(pid:Nat->ru):Prop where
 good:Good P g w
 tabs:Tabs P I0
 Iy:Agree I0 w
 old:∀b c,I0 b=some c->g b=none
 ag:Agree I w
 len:vs.length=cs.length
 rd:∀(j:Nat) (v:Value) (c:Cell),vs[j]? = some v->cs[j]? = some c->Rd I v c
 XR:∀(j sz:Nat) (es:List (List Cell)),cs[j]? = some (.sl sz es)->j∈L
 own:∀(j:Nat),j∈L->∀(v:Value),vs[j]? = some v->GR g v (ty j) (pid j)
 root:∀j,j∈L->FY g (pid j)
 typ:∀(j sz:Nat) (es:List (List Cell)),cs[j]? = some (.sl sz es)->NZ P (ty j) (.sl sz es)
 dis:∀i j b,i∈L->j∈L->Under g (pid i) b->Under g (pid j) b->i=j
structure vZ (P:Program)(g:Own)(I:IH)(w:World)(vs:List Value)(cs':List Cell)(L:List Nat)(ty:Nat->Nat)(pid:Nat->ru)(w':World):Prop where
 good:Good P g w'
 wu:xK w w' λb=>∃j,j∈L/\Under g (pid j) b
 rd:∃J,Agree J w'/\(∀b,(∀j,j∈L->¬Under g (pid j) b)->J b=I b)/\∀(j:Nat) (v:Value) (c:Cell),vs[j]? = some v->cs'[j]? = some c->Rd J v c
 len:vs.length=cs'.length
 XR:∀(j sz:Nat) (es:List (List Cell)),cs'[j]? = some (.sl sz es)->j∈L
 typ:∀(j sz:Nat) (es:List (List Cell)),cs'[j]? = some (.sl sz es)->NZ P (ty j) (.sl sz es)
section
variable {P:Program} {g:Own} {I0 I J:IH} {w w':World} {vs:List Value} {cs cs':List Cell} {L:List Nat} {ty:Nat->Nat} {pid:Nat->ru}
theorem SX.quiet (h:SX P g I0 I w vs cs L ty pid)(hF:xK w w' λ_=>False):SX P g I0 I w' vs cs L ty pid:=
 { h with good:=h.good.quiet hF,Iy:=h.Iy.quiet hF,ag:=h.ag.quiet hF }
theorem vZ.next (h:SX P g I0 I w vs cs L ty pid)(hp:vZ P g I w vs cs' L ty pid w'):∃J,SX P g I0 J w' vs cs' L ty pid/\∀b,(∀j,j∈L->¬Under g (pid j) b)->J b=I b:=by obtain⟨pg,pF,⟨J,p1,p2,p3⟩,pl,pi,pt⟩:=hp;refine⟨J,{ good:=pg,tabs:=h.tabs,Iy:=h.Iy.other λb c hb=>pF.block b (h.Iy.lt hb) ?_,old:=h.old,ag:=p1,len:=pl,rd:=p3,XR:=pi,own:=h.own,root:=h.root,typ:=pt,dis:=h.dis },p2⟩;rintro⟨j,_,hu⟩;obtain⟨T2,p,h2⟩:=hu.owned;have:=h.old b c hb;rw[h2]at this;cases this
theorem vZ.trans {I':IH}{w1:World}(hF:xK w w1 λb=>∃j,j∈L/\Under g (pid j) b)(hI:∀b,(∀j,j∈L->¬Under g (pid j) b)->I' b=I b)(hp:vZ P g I' w1 vs cs' L ty pid w'):vZ P g I w vs cs' L ty pid w':=
 { hp with wu:=hF.trans hp.wu λ_ _ h=>h,rd:=let ⟨J,p1,p2,p3⟩:=hp.rd;⟨J,p1,λb hb=>(p2 b hb).trans (hI b hb),p3⟩ }
theorem vZ.refl (h:SX P g I0 I w vs cs L ty pid):vZ P g I w vs cs L ty pid w:=
 ⟨h.good,⟨rfl,rfl,rfl,aA _,λ_ _ _=>rfl⟩,⟨I,h.ag,λ_ _=>rfl,h.rd⟩,h.len,h.XR,h.typ⟩
theorem SX.slice (h:SX P g I0 I w vs cs L ty pid){o:Nat}{sz:Nat}{es:List (List Cell)}{c1:Cell}{v:Value}(hc:cs[o]? = some (.sl sz es))(hv:vs[o]? = some v)(hc1:∃sz es,c1 = .sl sz es)(hp:Post P g I w (pid o) v (ty o) c1 w'):vZ P g I w vs (cs.set o c1) L ty pid w':=by
 obtain⟨pg,pF,⟨J,p1,p2,p3⟩,pt⟩:=hp;have hoL:=h.XR _ _ _ hc;have ho:o<cs.length:=(ax.1 hc).1;have hget:∀(j:Nat) (c:Cell),(cs.set o c1)[j]? = some c->(j=o/\c=c1)\/(j≠o/\cs[j]? = some c):=λj c hj=>by
  rw[lI]at hj;split at hj
  ·rename_i e;subst e;cases hj;exact .inl ⟨rfl,rfl⟩
  ·rename_i e;exact .inr ⟨λe'=>e e'.symm,hj⟩
 refine⟨pg,⟨pF.os,pF.tape,pF.output,pF.size,λb hb hn=>pF.block b hb λhx=>hn ⟨o,hoL,hx⟩⟩,⟨J,p1,λb hb=>p2 b (hb o hoL),λj x c hx hj=>?_⟩,by simpa using h.len,λj sz' es' hj=>?_,λj sz' es' hj=>?_⟩
 ·rcases hget j c hj with⟨rfl,rfl⟩|⟨hne,hj⟩
  ·rw[hv]at hx;cases hx;exact p3
  ·have hr:=h.rd j x c hx hj;cases c with
   |lit _=>exact hr.H7
   |str _=>exact hr.Ik
   | sl sz' es'=>have hjL:=h.XR _ _ _ hj;exact hr.under h.good h.ag (h.own j hjL x hx) (h.typ _ _ _ hj) λb hb=>p2 b λhb2=>hne (h.dis j o b hjL hoL hb hb2)
 ·rcases hget j _ hj with⟨rfl,_⟩|⟨_,hj⟩
  ·exact hoL
  ·exact h.XR _ _ _ hj
 ·rcases hget j _ hj with⟨rfl,e⟩|⟨_,hj⟩
  ·rw[e];exact pt
  ·exact h.typ _ _ _ hj
def Tu (L:List Nat)(o sz:Nat):List Nat:=(List.range sz).filter λj=>L.contains (o+j)
theorem vM {o sz j:Nat} : j∈Tu L o sz<->j<sz/\o+j∈L:=by simp[Tu]
theorem MV {α:Type}(l:List α)(o sz j:Nat):((l.drop o).take sz)[j]? = if j<sz then l[o+j]? else none:=by
 by_cases h:j<sz
 ·rw[if_pos h,pW h,dA]
 ·rw[if_neg h,gp];rw[dW];omega
theorem Aj {α:Type}{l:List α}{o sz j:Nat}{x:α}(h:((l.drop o).take sz)[j]? = some x):j<sz/\l[o+j]? = some x:=by
 rw[MV]at h;split at h
 ·rename_i h1;exact⟨h1,h⟩
 ·cases h
theorem SX.part (h:SX P g I0 I w vs cs L ty pid){o sz:Nat}(hl:o+sz<=cs.length):SX P g I0 I w ((vs.drop o).take sz) ((cs.drop o).take sz) (Tu L o sz) (λj=>ty (o+j)) λj=>pid (o+j) where
 good:=h.good
 tabs:=h.tabs
 Iy:=h.Iy
 old:=h.old
 ag:=h.ag
 len:=by have:=h.len;simp;omega
 rd:=λj v c hv hc=>h.rd _ v c (Aj hv).2 (Aj hc).2
 XR:=λj sz' es hj=>vM.2 ⟨(Aj hj).1,h.XR _ _ _ (Aj hj).2⟩
 own:=λj hj v hv=>h.own _ (vM.1 hj).2 v (Aj hv).2
 root:=λj hj=>h.root _ (vM.1 hj).2
 typ:=λj sz' es hj=>h.typ _ _ _ (Aj hj).2
 dis:=λi j b hi hj h1 h2=>by have:=h.dis _ _ b (vM.1 hi).2 (vM.1 hj).2 h1 h2;omega
theorem SX.adZ (h:SX P g I0 I w vs cs L ty pid){o sz:Nat}{cs2:List Cell}(hl:o+sz<=cs.length)(hl2:cs2.length=sz)(hp:vZ P g I w ((vs.drop o).take sz) cs2 (Tu L o sz) (λj=>ty (o+j)) (λj=>pid (o+j)) w') :
 vZ P g I w vs (cs.take o++cs2++cs.drop (o+sz)) L ty pid w':=by
 obtain⟨pg,pF,⟨J,p1,p2,p3⟩,pl,pi,pt⟩:=hp;have hsub:∀{b},(∃j,j∈Tu L o sz/\Under g (pid (o+j)) b)->∃j,j∈L/\Under g (pid j) b:=λ⟨j,hj,hu⟩=>⟨o+j,(vM.1 hj).2,hu⟩;have hto:(cs.take o).length=o:=by rw[dW];omega
 have hget:∀(j:Nat) (c:Cell),(cs.take o++cs2++cs.drop (o+sz))[j]? = some c->(∃i,j=o+i/\i<sz/\cs2[i]? = some c)\/((j<o\/o+sz<=j)/\cs[j]? = some c):=λj c hj=>by
  by_cases h1:j<o
  ·rw[List.append_assoc,aU (by omega),pW h1]at hj;exact .inr ⟨.inl h1,hj⟩
  ·by_cases h2:j<o+sz
   ·rw[aU (by simp[hl2];omega),bJ (by omega),hto]at hj;exact .inl ⟨j-o,by omega,by omega,hj⟩
   ·have hl3:(cs.take o++cs2).length=o+sz:=(by rw[iM,hto,hl2]);rw[bJ (by omega),hl3,dA,show o+sz+(j-(o+sz))=j by omega]at hj;exact .inr ⟨.inr (by omega),hj⟩
 refine⟨pg,⟨pF.os,pF.tape,pF.output,pF.size,λb hb hn=>pF.block b hb λhx=>hn (hsub hx)⟩,⟨J,p1,λb hb=>p2 b λj hj hu=>hb _ (vM.1 hj).2 hu,λj x c hx hj=>?_⟩,?_,λj sz' es' hj=>?_,λj sz' es' hj=>?_⟩
 ·rcases hget j c hj with⟨i,rfl,hi,hc⟩|⟨hne,hj⟩
  ·exact p3 i x c (by rw[MV,if_pos hi];exact hx) hc
  ·have hr:=h.rd j x c hx hj;cases c with
   |lit _=>exact hr.H7
   |str _=>exact hr.Ik
   | sl sz' es'=>
     have hjL:=h.XR _ _ _ hj;exact hr.under h.good h.ag (h.own j hjL x hx) (h.typ _ _ _ hj) λb hb=>p2 b λi hi hb2=>by have:=h.dis j (o+i) b hjL (vM.1 hi).2 hb hb2;have:=(vM.1 hi).1;omega
 ·have:=h.len;simp[hl2];omega
 ·rcases hget j _ hj with⟨i,rfl,hi,hc⟩|⟨_,hj⟩
  ·exact(vM.1 (pi _ _ _ hc)).2
  ·exact h.XR _ _ _ hj
 ·rcases hget j _ hj with⟨i,rfl,hi,hc⟩|⟨_,hj⟩
  ·exact pt _ _ _ hc
  ·exact h.typ _ _ _ hj
end
def stepS (P:Program)(s:Stp)(m:Nat):List Oper->Bool
 | [x,y,z,u,v]=>(match x.guard,x.dst,x.op,y.guard,y.dst,y.op with
   | none,some t1,.fieldAddr S (.tmp 2) fi,none,some t2,.load t (.tmp t1')=>t1'==t1&&decide (2<t1/\2<t2/\t1<m/\t2<m)&&(match z.guard,z.dst,z.op,u.guard,u.dst,u.op with
     | none,some t3,.move (.tmp 1),none,some t4,.call ⟨.value (.func f),⟨[.tmp t2',.tmp t3']⟩,_⟩=>t2'==t2&&t3'==t3&&decide (2<t3/\t3≠t2/\t3<m/\2<t4/\t4<m)&&rW P f&&(match v.guard,v.dst,v.op with
       |none,some 1,.assign (.tmp t4')=>t4'==t4
       |_,_,_=>false)&&(match s with
       |.sl o g=>f==g&&yE P S fi o&&DK P t false 1
       |.st o sz g=>f==g&&yE P S fi o&&DK P t true sz)
     |_,_,_,_,_,_=>false)
   |_,_,_,_,_,_=>false)
 |_=>false
def QJ : Code->Option (List (Array Oper)×Array Oper)
 |.seq (.region _ ops false) .ret=>some ([],ops)
 |.seq (.region _ ops false) c=>(QJ c).map λp=>(ops::p.1,p.2)
 |_=>none
def NC (P:Program)(m:Nat):List Stp->List (Array Oper)->Bool
 |[],[]=>true
 |s::r,x::rs=>stepS P s m x.toList&&NC P m r rs
 |_,_=>false
def aby (P:Program)(sb:Xg)(f:Nat):Bool:=match sb f,P.funcs[f]? with
 | some (sz,steps),some fn=>(match fn.body with
   | some (.seq (.region _ r0 false) rest)=>(match r0.toList with
     | [x,y]=>(match x.guard,x.dst,x.op,y.guard,y.dst,y.op with
       |none,some 2,.box _ (.tmp 0),none,some 4,.assign (.const (.int .i64 0))=>true
       |_,_,_,_,_,_=>false)
     |_=>false)&&(match QJ rest with
     | some (rs,last)=>NC P fn.ntmps steps rs&&(match last.toList with
       | [z1,z2]=>(match z1.guard,z1.dst,z1.op,z2.guard,z2.dst,z2.op with
         |none,some t,.move (.tmp 1),none,some 4,.assign (.tmp t')=>t'==t&&decide (t<fn.ntmps)
         |_,_,_,_,_,_=>false)
       |_=>false)
     |none=>false)&&decide (4<fn.ntmps)&&(match fn.results.toList with
     |[.tmp 4]=>true
     |_=>false)
   |_=>false)
 |_,_=>false
end
section
structure TS (kx:Nat)(k:Int)(m:Nat)(a:Act):Prop where
 size:a.tmps.size=m
 defers:a.defers=[]
 cnt:a.tmps.getD 1 undef = .int .i64 k
 ptr:a.tmps.getD 2 undef = .pointer (some ⟨kx,0,none⟩)
theorem TS.put {kx m:Nat}{k:Int}{a:Act}(h:TS kx k m a){d:Nat}(hd:2<d)(v:Value):TS kx k m (a.put (some d) v):=
 ⟨by simp[fA,h.size],h.defers,by rw[jD (by omega)];exact h.cnt,by rw[jD (by omega)];exact h.ptr⟩
def Stp.arg (vs:List Value):Stp->Option Value
 |.sl o _=>vs[o]?
 |.st o sz _=>if o+sz<=vs.length then some (.agg ((vs.drop o).take sz).toArray)else none
def Stp.fn : Stp->Nat
 |.sl _ g=>g
 |.st _ _ g=>g
section
variable {P:Program} {Q:Exit->Act->World->Prop} {a:Act} {w:World} {ops:Array Oper}
theorem Ym {o:Oper}{S:TypeId}{t fi off kx base:Nat}(ho:o.op = .fieldAddr S (.tmp t) fi)(hf:yE P S fi off=true)(hv:a.tmps.getD t undef = .pointer (some ⟨kx,base,none⟩)) :
 (execOp a.eval o).run P w = .ok (.value (.pointer (some ⟨kx,base+off,none⟩))) w:=by
 unfold yE at hf;split at hf
 ·rename_i fs hs;split at hf
  ·rename_i JM hfld;simp only[af,beq_iff_eq]at hf;obtain⟨rfl,hf⟩:=hf;split at hf
   ·rename_i ti hti;simp at hf;have v1:a.eval (.tmp t) = .pointer (some ⟨kx,base,none⟩):=hv;simp[execOp,ho,uK,run_underlying hs,hfld,v1,gz,fieldPlace,sizeOf,typeInfo,hti,hf,Addr.l7]
   ·cases hf
  ·cases hf
 ·cases hf
theorem JX {s:Stp}{m kx:Nat}{k k1:Int}{os:List Oper}{vs:List Value}{e:TypeId}{x:Value}{R:World->Prop}(hc:stepS P s m os=true)(ts:TS kx k m a)(hm:2<m)(hw:w.heap[kx]? = some (.cells vs.toArray e (0,0)))(hx:s.arg vs=some x)
 (hcall:Calls P s.fn #[x,.int .i64 k] w λe w'=>e = .returned (.int .i64 k1)/\R w') (hk:∀a' w',TS kx k1 m a'->R w'->Q .normal a' w'):wpList P ops Q os a w:=by
 unfold stepS at hc;split at hc
 ·rename_i x1 y z u v;split at hc
  ·rename_i t1 S fi t2 t t1' g1 d1 p1 g2 d2 p2;simp only[af,beq_iff_eq,decide_eq_true_eq]at hc;obtain⟨⟨e1,q1,q2,q3,q4⟩,hc⟩:=hc;rw[e1]at p2;split at hc
   ·rename_i t3 t4 f t2' t3' ts' g3 d3 p3 g4 d4 p4;simp only[af,beq_iff_eq,decide_eq_true_eq]at hc;obtain⟨⟨⟨⟨⟨e2,e3⟩,q5,q6,q7,q8,q9⟩,hok⟩,hc5⟩,hs⟩:=hc;rw[e2,e3]at p4;split at hc5
    ·rename_i t4' g5 d5 p5;simp only[beq_iff_eq]at hc5;rw[hc5]at p5;have hload:∃off,yE P S fi off=true/\(loadVar t ⟨kx,off,none⟩).run P w = .ok x w/\f=s.fn:=by
      cases s with
      | sl o g=>simp only[af,beq_iff_eq]at hs;refine⟨o,hs.1.2,Df hs.2 ?_,hs.1.1⟩;simp only[dR,hw];simpa[Stp.arg]using hx
      | st o sz g=>
        simp only[af,beq_iff_eq]at hs;refine⟨o,hs.1.2,?_,hs.1.1⟩;simp only[Stp.arg]at hx;split at hx
        ·rename_i hl;cases hx;obtain⟨h1,h2⟩:=Ak hs.2 w;have h3:=run_loadCells_list (P:=P) w ⟨kx,o,none⟩ ((vs.drop o).take sz) (λj u hu=>by
          rw[MV]at hu;split at hu
          ·rw[Addr.l7];simp only[dR,hw];simpa using hu
          ·cases hu)
         rw[show((vs.drop o).take sz).length=sz by simp;omega]at h3;simp[loadVar,h1,h2,h3]
        ·cases hx
     obtain⟨off,hf,hl,rfl⟩:=hload;refine nG (v:=.pointer (some ⟨kx,off,none⟩)) (w':=w) g1 (by have:=Ym (P:=P) (w:=w) p1 hf ts.ptr;rwa[dh]at this) ?_;rw[d1];have b1:=ts.put q1 (.pointer (some ⟨kx,off,none⟩));have v1:(a.put (some t1) (.pointer (some ⟨kx,off,none⟩))).eval (.tmp t1) = .pointer (some ⟨kx,off,none⟩):=(by rw[yD];exact dF (by rw[ts.size];exact q3));refine nG (v:=x) (w':=w) g2 (by simp[execOp,p2,v1,gz,kD,hl]) ?_;rw[d2];have b2:=b1.put q2 x;refine nG (v:=.int .i64 k) (w':=w) g3 (by unfold execOp;rw[p3];exact congrArg (λv=>jr (ja v) w) b2.cnt) ?_;rw[d3];have b3:=b2.put q5 (.int .i64 k);have v2:(((a.put (some t1) (.pointer (some ⟨kx,off,none⟩))).put (some t2) x).put (some t3) (.int .i64 k)).eval (.tmp t2)=x:=(by rw[yD,jD (yN q6)];exact dF (by rw[b1.size];exact q4));have v3:(((a.put (some t1) (.pointer (some ⟨kx,off,none⟩))).put (some t2) x).put (some t3) (.int .i64 k)).eval (.tmp t3) = .int .i64 k:=(by rw[yD];exact dF (by rw[b2.size];exact q7));have he:=zq (w:=w) (a:=(((a.put (some t1) (.pointer (some ⟨kx,off,none⟩))).put (some t2) x).put (some t3) (.int .i64 k))) p4 (x:=.func s.fn) (caps:= #[]) rfl hok;refine Ff g4 (f:=s.fn) (args:= #[x,.int .i64 k]) (by simpa[v2,v3]using he) (hcall.mono ?_);rintro e w' ⟨rfl,hR⟩;refine⟨_,rfl,?_⟩;rw[d4];have b4:=b3.put q8 (.int .i64 k1);have v4:((((a.put (some t1) (.pointer (some ⟨kx,off,none⟩))).put (some t2) x).put (some t3) (.int .i64 k)).put (some t4) (.int .i64 k1)).tmps.getD t4 undef = .int .i64 k1:=dF (by rw[b3.size];exact q9);refine nG (v:=.int .i64 k1) (w':=w') g5 (by unfold execOp;rw[p5];exact congrArg (λv=>jr (ja v) w') v4) ?_;rw[d5];exact hk _ w' ⟨by simp[fA,b4.size]<;>(have:=b4.size;simpa[fA]using this),b4.defers,dF (by rw[b4.size];omega),by rw[jD (by omega)];exact b4.ptr⟩ hR
    ·cases hc5
   ·cases hc
  ·cases hc
 ·cases hc
end
theorem aaw {P:Program}{Q:Exit->Act->World->Prop}{K:Act->World->Prop} : ∀{c:Code} {rs:List (Array Oper)} {last:Array Oper} {a:Act} {w:World},QJ c=some (rs,last) ->
 (∀a w,K a w->wpList P last (Exit.then (Q .ret) Q) last.toList a w)->wH P (Exit.then K Q) rs a w->c.wp P Q a w:=by
 intro c rs last a w hc hK h
 fun_induction QJ c generalizing rs a w with
 | case1 id ops=>
   cases hc;refine wp_seq (wp_mono (wp_region_list (hK a w h)) λe a w hq=>?_);cases e with
   |normal=>exact wp_ret hq
   |_=>exact hq
 | case2 id ops c hne ih=>
   simp only[bI]at hc;obtain⟨⟨rs',l'⟩,hp,e⟩:=hc;cases e;simp only[wH]at h;refine wp_seq (wp_mono (wp_region_list h) λe a w hq=>?_);cases e with
   |normal=>exact ih hp hq
   |_=>exact hq
 |case3=>cases hc
def acv (P:Program)(ty:Nat->Nat)(steps:List Stp)(cs:List Cell)(k:Int)(cs':List Cell)(k':Int):Prop:=
 ∀ {g:Own} {I0 I:IH} {w:World} {vs:List Value} {L:List Nat} {pid:Nat->ru},SX P g I0 I w vs cs L ty pid->∀{m kx:Nat} {rs:List (Array Oper)} {e:TypeId} {a:Act} {Q:Exit->Act->World->Prop},NC P m steps rs=true->2<m->TS kx k m a ->
   w.heap[kx]? = some (.cells vs.toArray e (0,0))->g kx=none->(∀a' w',TS kx k' m a'->vZ P g I w vs cs' L ty pid w'->Q .normal a' w')->wH P Q rs a w
def KX (P:Program)(f:Nat)(ty:Nat->Nat)(cs:List Cell)(k:Int)(cs':List Cell)(k':Int):Prop:=
 ∀{g:Own} {I0 I:IH} {w:World} {vs:List Value} {L:List Nat} {pid:Nat->ru},SX P g I0 I w vs cs L ty pid->Calls P f #[.agg vs.toArray,.int .i64 k] w λe w'=>e = .returned (.int .i64 k')/\vZ P g I w vs cs' L ty pid w'
theorem CU {P:Program}{sb:Xg}{f sz:Nat}{steps:List Stp}{ty:Nat->Nat}{cs cs':List Cell}{k k':Int}(hc:aby P sb f=true)(hs:sb f=some (sz,steps))(hr:acv P ty steps cs k cs' k'):KX P f ty cs k cs' k':=by
 intro g I0 I w vs L pid hX;unfold aby at hc;rw[hs]at hc;split at hc
 ·rename_i sz' steps' fn e1 hf;cases e1;split at hc
  ·rename_i id r0 rest hb;simp only[af,decide_eq_true_eq]at hc;obtain⟨⟨⟨h1,h2⟩,hm⟩,h3⟩:=hc;refine calls_of_wp hf hb (wp_seq (wp_region_list ?_));split at h1
   ·rename_i x y l0;split at h1
    ·rename_i S g1 d1 p1 g2 d2 p2;rw[l0]
     let a0:Act:={ tmps:= #[Value.agg vs.toArray,.int .i64 k]++lq (fn.ntmps-2) undef,defers:=[] }
     have hs0:a0.tmps.size=fn.ntmps:=(by simp[a0];omega);have ha0:a0.tmps.getD 0 undef = .agg vs.toArray/\a0.tmps.getD 1 undef = .int .i64 k:=(by constructor<;>(simp only[a0,bQ];rw[mW (by simp)];rfl));have v0:a0.eval (.tmp 0) = .agg vs.toArray:=ha0.1;refine nG (v:=.pointer (some ⟨w.heap.size,0,none⟩)) (w':=w.alloc (.cells vs.toArray S)) g1 ?_ ?_
     ·have e1:(Value.agg vs.toArray).cells=vs.toArray:=rfl;show(execOp a0.eval x).run P w=_;simp only[execOp,p1,v0,Go.Instr.box,bF,aN,zh,aX,e1]
     rw[d1];refine nG (v:=.int .i64 0) (w':=w.alloc (.cells vs.toArray S)) g2 (by unfold execOp;rw[p2];rfl) ?_;rw[d2];have ts:TS w.heap.size k fn.ntmps ((a0.put (some 2) (.pointer (some ⟨w.heap.size,0,none⟩))).put (some 4) (.int .i64 0)):=
      ⟨by simp[fA,hs0],rfl,by rw[jD (by omega),jD (by omega)];exact ha0.2,by rw[jD (by omega)];exact dF (by rw[hs0];omega)⟩
     have hF:xK w (w.alloc (.cells vs.toArray S)) λ_=>False:=⟨rfl,rfl,rfl,by show _<=(w.heap.push _).size;simp,λb hb _=>OE w _ b hb⟩;split at h2
     ·rename_i rs last hp;simp only[af]at h2;obtain⟨h4,h5⟩:=h2;have hgk:g w.heap.size=none:=by
       cases hx:g w.heap.size with
       |none=>rfl
       |some B=>exact absurd (hX.good.lt hx) (Nat.lt_irrefl _)
      show rest.wp P _ _ _;refine aaw (K:=λa w'=>TS w.heap.size k' fn.ntmps a/\vZ P g I w vs cs' L ty pid w') hp (λa w' hK=>?_) (hr (hX.quiet hF) h4 (by omega) ts (heap_alloc_new w _) hgk (λa' w' ts' hp'=>⟨ts',vZ.trans hF.any (λ_ _=>rfl) hp'⟩));obtain⟨ts',hP⟩:=hK;split at h5
      ·rename_i z1 z2 l4;split at h5
       ·rename_i t t' g4 d4 p4 g5 d5 p5;simp only[af,beq_iff_eq,decide_eq_true_eq]at h5;obtain⟨e5,ZI⟩:=h5;rw[e5]at p5;rw[l4];refine nG (v:=.int .i64 k') (w':=w') g4 (by unfold execOp;rw[p4];exact congrArg (λv=>jr (ja v) w') ts'.cnt) ?_;rw[d4];have e2:(a.put (some t) (.int .i64 k')).tmps.getD t undef = .int .i64 k':=dF (by rw[ts'.size];exact ZI);refine nG (v:=.int .i64 k') (w':=w') g5 (by unfold execOp;rw[p5];exact congrArg (λv=>jr (ja v) w') e2) ?_;rw[d5];refine⟨ts'.defers,.int .i64 k',?_,rfl,hP⟩;have e3:((a.put (some t) (.int .i64 k')).put (some 4) (.int .i64 k')).tmps.getD 4 undef = .int .i64 k':=dF (by simp[fA,ts'.size];omega);split at h3
        ·rename_i er;have e4:fn.results = #[.tmp 4]:=(by apply Array.toList_inj.1;rw[er]);rw[Dc,e4];simp[Kt,e3]
        ·cases h3
       ·cases h5
      ·cases h5
     ·cases h2
    ·cases h1
   ·cases h1
  ·cases hc
 ·cases hc
theorem Nz {P:Program}{yx:Nat}{mt:Fq}{sb:Xg}{tx:Int->List UInt8}(hall:∀f,(mt f).isSome=true->Xx P yx mt f=true)(hst:∀f,(sb f).isSome=true->aby P sb f=true)(ht:DR P yx tx)
 {ty:Nat->Nat} {steps:List Stp} {cs cs':List Cell} {k k':Int} (h:SR mt sb tx ty steps cs k cs' k'):acv P ty steps cs k cs' k':=by
 induction h with
 | nil=>
   intro g I0 I w vs L pid hX m kx rs e a Q hc hm ts hw hg hk
   match rs,hc with
   |[],_=>exact hk a w ts (vZ.refl hX)
 | @sl ty o g r cs cs' c c1 k k1 k2 hc0 hT hmk _ ih=>
   intro gh I0 I w vs L pid hX m kx rs e a Q hc hm ts hw hg hk
   match rs,hc with
   | x::rs,hc=>
     simp only[NC,af]at hc;have hsl:(∃sz es,c = .sl sz es)/\∃sz es,c1 = .sl sz es:=by cases hmk with|c _ _ _=>exact⟨⟨_,_,rfl⟩,_,_,rfl⟩
     obtain⟨⟨sz',es,rfl⟩,hc1⟩:=hsl;have ho:o<vs.length:=(by rw[hX.len];exact(ax.1 hc0).1);have hv:=aj ho;have hoL:=hX.XR _ _ _ hc0;have hC:=(aam hall ht hmk).1;refine JX (Q:=Exit.then (wH P Q rs) Q) hc.1 ts hm hw (x:=vs[o]) hv (k1:=k1) (R:=λw'=>vZ P gh I w vs (cs.set o c1) L ty pid w') ?_ (λa' w' ts' hP=>?_)
     ·refine(hC gh I0 I w (ty o) (pid o) _ hT hX.good hX.tabs hX.Iy hX.old hX.ag (hX.own o hoL _ hv) (hX.root o hoL) (hX.rd o _ _ hv hc0) (hX.typ o _ _ hc0)).mono ?_;rintro e w' ⟨rfl,hp⟩;exact⟨rfl,hX.slice hc0 hv hc1 hp⟩
     ·obtain⟨J,hX2,hJ⟩:=vZ.next hX hP;refine ih (e:=e) hX2 hc.2 hm ts' ?_ hg (λa2 w2 ts2 hP2=>hk a2 w2 ts2 (vZ.trans hP.wu hJ hP2));rw[hP.wu.block kx (uk hw) (λ⟨j,_,hu⟩=>by obtain⟨T2,p,h2⟩:=hu.owned;rw[hg]at h2;cases h2)];exact hw
 | @st ty o sz g r steps cs cs2 cs' k k1 k2 hs hl _ hl2 _ ih1 ih2=>
   intro gh I0 I w vs L pid hX m kx rs e a Q hc hm ts hw hg hk
   match rs,hc with
   | x::rs,hc=>
     simp only[NC,af]at hc;have hF:KX P g (λj=>ty (o+j)) ((cs.drop o).take sz) k cs2 k1:=CU (hst g (by rw[hs];rfl)) hs ih1;refine JX (Q:=Exit.then (wH P Q rs) Q) hc.1 ts hm hw (x:=.agg ((vs.drop o).take sz).toArray) (by simp only[Stp.arg];rw[if_pos (by rw[hX.len];exact hl)]) (k1:=k1) (R:=λw'=>vZ P gh I w vs (cs.take o++cs2++cs.drop (o+sz)) L ty pid w') ?_ (λa' w' ts' hP=>?_)
     ·refine(hF (hX.part hl)).mono ?_;rintro e w' ⟨rfl,hp⟩;exact⟨rfl,hX.adZ hl hl2 hp⟩
     ·obtain⟨J,hX2,hJ⟩:=vZ.next hX hP;refine ih2 (e:=e) hX2 hc.2 hm ts' ?_ hg (λa2 w2 ts2 hP2=>hk a2 w2 ts2 (vZ.trans hP.wu hJ hP2));rw[hP.wu.block kx (uk hw) (λ⟨j,_,hu⟩=>by obtain⟨T2,p,h2⟩:=hu.owned;rw[hg]at h2;cases h2)];exact hw
end
section
def takeA : Nat->dD->dD
 |n+1,.seq x y=>.seq x (takeA n y)
 |_,_=>.skip
def He : Nat->dD->dD
 |n+1,.seq _ y=>He n y
 |_,c=>c
def Ea : Nat->Code->Code
 |n+1,.seq _ b=>Ea n b
 |_,c=>c
def AU (P:Program)(pl:List Nat):Nat->Code->dD->List OF->Option (List OF)
 |0,_,_,Γ =>some Γ
 | n+1,.seq a b,.seq x y,Γ =>(match oC P pl (λ_=>true) a x Γ with
   |some (some DD,_)=>AU P pl n b y DD
   |_=>none)
 |_,_,_,_=>none
def QA (K R:dP->Prop):AQ
 |.normal,st=>K st
 |.ret,st=>R st
 |.exit _,_=>False
section
variable {P:Program} {E:Env P} {N:Nat} {g0:Own} {dp:Nat} {pa:List (Nat×Value)} {pl:List Nat}
theorem Bl (hm:E.m<=10)(hpl:∀e,e∈pa->e.1∈pl){K R:dP->Prop}{Q:Exit->Act->World->Prop} : ∀{n:Nat} {c:Code} {ac:dD} {Γ vO:List OF} {a:Act} {w:World},oK P N E.m c ac=true->AU P pl n c ac Γ = some vO ->
 AO E g0 pa dp N (wpC P (takeA n ac) (QA K R)) Γ a w->(∀a w,AO E g0 pa dp N K vO a w->(Ea n c).wp P Q a w)->(∀a w,AK E N R a w->Q .ret a w)->c.wp P Q a w
 | 0,c,ac,Γ,vO,a,w,hc,ho,h,hk,hr=>by simp only[AU,aG]at ho;subst ho;exact hk a w (by simpa[takeA,wpC,QA]using h)
 | n+1,c,ac,Γ,vO,a,w,hc,ho,h,hk,hr=>by
   cases c<;>cases ac<;>try(simp[AU]at ho;done)
   rename_i p q x y;simp only[oK,af]at hc;simp only[AU]at ho;split at ho
   ·rename_i DD xs hq;have h':AO E g0 pa dp N (wpC P x (o6.then (wpC P (takeA n y) (QA K R)) (QA K R))) Γ a w:=h;refine wp_seq (wp_mono (pU hm hpl hc.1 hq h') λe a' w' he=>?_);cases e with
    | normal=>obtain⟨Uf,e1,h2⟩:=he;cases e1;exact Bl hm hpl hc.2 ho h2 hk hr
    | ret=>obtain⟨Uf,_,h2⟩:=he;exact hr a' w' h2.1.1
    | exit id=>obtain⟨Uf,_,h2⟩:=he;obtain⟨_,_,_,h3,_⟩:=h2.1.1;exact h3.elim
    |goto l=>exact he.elim
    |panic ch=>exact he.elim
    |outgrown=>exact he.elim
   ·cases ho
end
def Rj : Ren:=λ_=>none
def Ro (J:IH)(a:Act)(ts:List (Nat×Slot)):Prop:=∀t s,(t,s)∈ts->Uh J Rj (a.tmps.getD t undef) s
theorem Ro.mono {I J:IH}{a:Act}{ts:List (Nat×Slot)}(h:Ro I a ts)(hle:I.le J):Ro J a ts:=λt s hs=>(h t s hs).mono hle (λ_ _ h=>h)
theorem OM : ∀{ts:List (Nat×Slot)} {t:Nat},uV ts t = .none\/(t,uV ts t)∈ts
 |[],t=>.inl rfl
 | (x,s)::r,t=>by
   simp only[uV];by_cases h:x=t
   ·subst h;simp
   ·rw[if_neg h];rcases OM (ts:=r) (t:=t)with h2|h2
    ·exact .inl h2
    ·exact .inr (bW _ h2)
noncomputable def IH.with (I:IH)(w:World)(V:Nat->Prop):IH:=λk=>open Classical in if V k then(match w.heap[k]? with
 |some (.cells c _ _)=>some c
 |_=>I k)else I k
theorem NP {I:IH}{w:World}{V:Nat->Prop}{k:Nat}{c:Array Value}{e:TypeId}{fr:Nat×Nat}(hk:V k)(hw:w.heap[k]? = some (.cells c e fr)):I.with w V k=some c:=by unfold IH.with;rw[if_pos hk,hw]
theorem KN {I:IH}{w:World}{V:Nat->Prop}(hA:Agree I w):I.le (I.with w V):=λk c h=>by
 obtain⟨e,fr,hw⟩:=hA k c h;unfold IH.with
 split
 ·rw[hw]
 ·exact h
theorem GG {I:IH}{w:World}{V:Nat->Prop}(hA:Agree I w):Agree (I.with w V) w:=λk c h=>by
 unfold IH.with at h;split at h
 ·split at h
  ·rename_i c' e fr hw;cases h;exact⟨e,fr,hw⟩
  ·exact hA k c h
 ·exact hA k c h
section
variable {P:Program} {N:Nat} {a:Act} {w:World} {J:IH}
abbrev E1 (w:World)(J:IH)(hT:Tabs P J):Env P:=⟨w,J,λk=>∃b,(xN ([]:List Box) b).uses (Rj b) k,Rj,([]:List Box).length,hT⟩
theorem Zv (hT:Tabs P J)(hA:Agree J w){ts:List (Nat×Slot)}(hs:Ro J a ts)(hn:a.tmps.size=N)(hd:a.defers=[]):GX (E1 w J hT) J Rj N (dP.of ts []) a w where
 agree:=hA
 bx:=⟨λb=>by rw[yf];exact rfl,λb b' k h _=>by rw[yf]at h;exact h.elim,λb k h=>by rw[yf]at h;exact h.elim⟩
 tm:=λt _=>by
  rw[Cb];rcases OM (ts:=ts) (t:=t)with h|h
  ·rw[h];trivial
  ·exact hs t _ h
 size:=hn
 defers:=hd
 wu:=xK.refl _ _
 own:=λb k h=>by rw[yf]at h;exact h.elim
 Ei:=IH.le_refl _
 Az:=λ_ _ _=>rfl
 rQ:=λb hb=>absurd hb (Nat.not_lt_zero b)
theorem UN {w':World}{hT:Tabs P J}(h:xK w w' (E1 w J hT).M):xK w w' λ_=>False:=⟨h.os,h.tape,h.output,h.size,λk hk _=>h.block k hk (by rintro⟨b,hb⟩;exact hb)⟩
def JQ : Own:=⟨λ_=>none,λ_=>0⟩
theorem QG {dp:Nat} : OW P FV JQ dp [] a w:=⟨⟨λk T p h=>(by cases h),λk row d b h=>(by cases h)⟩,λf hf=>(by cases hf)⟩
end
theorem O1 {P:Program}{f:FuncId}{args:List AV}(hk:Vd f true=true)(h:∀(I:IH) (w:World) (vs:List Value),Tabs P I->Agree I w->NU I Rj vs args->Calls P f vs.toArray w λe w'=>e = .returned (.bool true)/\xK w w' λ_=>False):fD P f args (pq true):=by
 refine nN.of0 hk λI ρ w vs hT hA hB hV=>?_;have hρ:ρ=Rj:=by
  funext b
  have:=hB.ok b;exact this
 subst hρ;refine(h I w vs hT hA hV).mono ?_;rintro e w' ⟨rfl,hF⟩;refine⟨.bool true,I,Rj,_,_,rfl,⟨rfl,rfl⟩,Rd.lit _ rfl,hA.quiet hF,⟨λb=>rfl,λb b' k h=>h.elim,λb k h=>h.elim⟩,IH.le_refl I,hF.any,λb k h=>h.elim,λ_ _ _=>rfl,λ_ _=>rfl⟩
theorem abN {P:Program}{Q:Exit->Act->World->Prop}{id:Nat}{ops:Array Oper}{c r:Code}{a:Act}{w:World}(h:c = .seq (.region id ops false) r)(hw:(vT id ops false).wp P (Exit.then (r.wp P Q) Q) a w):c.wp P Q a w:=by subst h;exact wp_seq hw
end
def U9 (P:Program)(N:Nat):List Oper->Option (Option Nat×Nat×Nat×Nat×List Nat)
 | [o1,o2,o3,o4]=>(match o1.guard,o1.dst,o2.guard,o2.dst,o2.op with
   | none,some t1,none,some t2,.move (.tmp y)=>(match o3.guard,o3.dst,o3.op,o4.guard,o4.dst,o4.op with
     | none,some t3,.call ⟨.value (.func f),⟨[.tmp u1,.tmp u2]⟩,_⟩,none,some y',.assign (.tmp u3)=>
       if u1=t1/\u2=t2/\u3=t3/\y'=y/\t1≠t2/\y≠t1/\t1<N/\t2<N/\t3<N/\y<N/\rW P f=true then(match o1.op with
        | .load t (.tmp x)=>(match P.info? t with
          |some i=>if DK P t true i.size=true then some (some i.size,x,y,f,[t1,t2,t3,y])else none
          |none=>none)
        |.move (.tmp x)=>some (none,x,y,f,[t1,t2,t3,y])
        |_=>none)
       else none
     |_,_,_,_,_,_=>none)
   |_,_,_,_,_=>none)
 |_=>none
def Held (a:Act)(w:World)(x:Nat)(vs:List Value):Option Nat->Prop
 |some sz=>∃kx e,a.tmps.getD x undef = .pointer (some ⟨kx,0,none⟩)/\w.heap[kx]? = some (.cells vs.toArray e (0,0))/\vs.length=sz
 |none=>∃v,vs=[v]/\a.tmps.getD x undef=v
def FI (vs:List Value):Option Nat->Value
 |some _=>.agg vs.toArray
 |none=>vs.headD undef
theorem Ya {P:Program}{N id x y f:Nat}{k k':Int}{s:Option Nat}{tms:List Nat}{ops:Array Oper}{Q:Exit->Act->World->Prop}{a:Act}{w:World}{vs:List Value}{R:World->Prop}(hm:U9 P N ops.toList=some (s,x,y,f,tms))(hN:a.tmps.size=N)(hd:a.defers=[])
 (hv:Held a w x vs s) (hk:a.tmps.getD y undef = .int .i64 k) (hcall:Calls P f #[FI vs s,.int .i64 k] w λe w'=>e = .returned (.int .i64 k')/\R w')
 (hQ:∀a' w',a'.tmps.size=N->a'.defers=[]->a'.tmps.getD y undef = .int .i64 k'->(∀t,t ∉ tms->a'.tmps.getD t undef=a.tmps.getD t undef)->R w'->Q .normal a' w'):(vT id ops false).wp P Q a w:=by
 refine wp_region_list ?_;generalize ops.toList=os at hm;unfold U9 at hm;split at hm
 ·rename_i o1 o2 o3 o4;split at hm
  ·rename_i t1 t2 y' g1 d1 g2 d2 p2;split at hm
   ·rename_i t3 f' u1 u2 ts y2 u3 g3 d3 p3 g4 d4 p4;split at hm
    ·rename_i hc;obtain⟨rfl,rfl,rfl,rfl,n1,n2,l1,l2,l3,l4,hok⟩:=hc;have fin:∀{x0:Nat},(execOp a.eval o1).run P w = .ok (.value (FI vs s)) w->(s,x0,y2,f',[u1,u2,u3,y2])=(s,x,y,f,tms)->wpList P ops Q [o1,o2,o3,o4] a w:=λhr e=>by
      cases e;refine nG g1 hr ?_;rw[d1];refine nG (v:=.int .i64 k) (w':=w) g2 (by unfold execOp;rw[p2];exact congrArg (λv=>jr (ja v) w) ((jD n2).trans hk)) ?_;rw[d2];have v1:((a.put (some u1) (FI vs s)).put (some u2) (.int .i64 k)).eval (.tmp u1)=FI vs s:=(by rw[yD,jD n1];exact dF (by rw[hN];exact l1));have v2:((a.put (some u1) (FI vs s)).put (some u2) (.int .i64 k)).eval (.tmp u2) = .int .i64 k:=(by rw[yD];exact dF (by simp[fA,hN];exact l2));have he:=zq (w:=w) (a:=((a.put (some u1) (FI vs s)).put (some u2) (.int .i64 k))) p3 (x:=.func f) (caps:= #[]) rfl hok;refine Ff g3 (f:=f) (args:= #[FI vs s,.int .i64 k]) (by simpa[v1,v2]using he) (hcall.mono ?_);rintro e w' ⟨rfl,hR⟩;refine⟨_,rfl,?_⟩;rw[d3];have v3:(((a.put (some u1) (FI vs s)).put (some u2) (.int .i64 k)).put (some u3) (.int .i64 k')).tmps.getD u3 undef = .int .i64 k':=dF (by simp[fA,hN];exact l3);refine nG (v:=.int .i64 k') (w':=w') g4 (by unfold execOp;rw[p4];exact congrArg (λv=>jr (ja v) w') v3) ?_;rw[d4];refine hQ _ w' (by simp[fA,hN]) hd (dF (by simp[fA,hN];exact l4)) (λt ht=>?_) hR;simp only[aB,List.not_mem_nil,or_false,not_or]at ht;rw[jD ht.2.2.2,jD ht.2.2.1,jD ht.2.1,jD ht.1]
     split at hm
     ·rename_i t x0 p1;split at hm
      ·rename_i i hi;split at hm
       ·rename_i hty;have e:s=some i.size/\x0=x:=by cases hm;exact⟨rfl,rfl⟩
        obtain⟨rfl,rfl⟩:=e;obtain⟨kx,e,h1,h2,h3⟩:=hv;refine fin (x0:=x0) ?_ (by simpa using hm);obtain⟨q1,q2⟩:=Ak hty w;have q3:=run_loadCells_list (P:=P) w ⟨kx,0,none⟩ vs (λj u hu=>by rw[Addr.l7,dh];simp only[dR,h2];simpa using hu)
        rw[h3]at q3;have v1:a.eval (.tmp x0) = .pointer (some ⟨kx,0,none⟩):=h1;simp[execOp,p1,v1,gz,kD,loadVar,q1,q2,q3,FI]
       ·cases hm
      ·cases hm
     ·rename_i x0 p1;have e:s=none/\x0=x:=by cases hm;exact⟨rfl,rfl⟩
      obtain⟨rfl,rfl⟩:=e;obtain⟨v,rfl,h1⟩:=hv;refine fin (x0:=x0) ?_ (by simpa using hm);unfold execOp;rw[p1];exact congrArg (λv=>jr (ja v) w) h1
     ·cases hm
    ·cases hm
   ·cases hm
  ·cases hm
 ·cases hm
section
section
variable {P:Program} {E:Env P} {I I0 J:IH} {ρ:Ren} {N dp:Nat} {st:dP} {a:Act} {w w':World} {g:Own} {Γ : List OF}
theorem V5 {I:IH}{ρ:Ren}{cells:Array Value}{xs:List AC}{cs:List Cell}(hxs:xs=cs.map .c)(hg:∀(j:Nat) (u:Value) (x:AC),cells[j]? = some u->xs[j]? = some x->GC I ρ u x)(j:Nat)(v:Value)(c:Cell)(hv:cells.toList[j]? = some v)(hc:cs[j]? = some c):Rd I v c:=
 hg j v (.c c) (by simpa using hv) (by rw[hxs,List.getElem?_map,hc];rfl)
theorem Jy (hG:GX E I ρ N st a w)(hO:OW P FV g dp Γ a w){x b:Nat}{xs:List AC}{cs:List Cell}{rows:List (Nat×Nat×Nat)}(hx:x<N)(ZI:st.tm x = .v true (.one (.ptr b 0)))(hb:st.bx b = .var xs)(hxs:xs=cs.map .c)(hvp:OF.vp x x 0 ∈ Γ)
 (hr:∀r,r∈rows->OF.row x ⟨r.1,r.2.1,r.2.2⟩ ∈ Γ) :
 ∃ (kx:Nat) (vs:List Value) (e:TypeId),a.tmps.getD x undef = .pointer (some ⟨kx,0,none⟩)/\w.heap[kx]? = some (.cells vs.toArray e (0,0))/\vs.length=cs.length/\(∀(j:Nat) (v:Value) (c:Cell),vs[j]? = some v->cs[j]? = some c->Rd I v c) /\
   (∃row d b,g kx=some (.var row d b))/\∀r,r∈rows->∀v,vs[r.1]? = some v->GR g v r.2.1 (.tag dp r.2.2):=by
 obtain⟨kx,row,h1,_,h2⟩:=hO.fs _ hvp;have h3:=hG.tm x hx;rw[ZI]at h3;obtain⟨k,cap,h4,h5⟩:=h3.1 rfl;have h6:=hG.bx.ok b;rw[hb]at h6;obtain⟨k',cap',cells,h7,h8,h9,h10⟩:=h6;rw[h4]at h7;cases h7;rw[h1]at h5;cases h5;refine⟨kx,cells.toList,_,h1,by simpa using h8,by rw[iU,h9,hxs];simp,λj v c hv hc=>V5 hxs h10 j v c hv hc,⟨_,_,_,h2⟩,λr hrr v hv=>?_⟩;obtain⟨k2,FC,q1,q2,q3⟩:=hO.fs _ (hr r hrr);rw[h1]at q1;cases q1;obtain⟨cells2,e2,q4,q5⟩:=hO.good.var _ _ _ _ q2;rw[h8]at q4;cases q4;obtain⟨u,q6,q7⟩:=q5 _ q3;rw[show cells.toList[r.1]? = cells[r.1]? by simp,q6]at hv;cases hv;exact q7
theorem agT (hG:GX E I ρ N st a w)(hO:OW P FV g dp Γ a w){x T m:Nat}{c:Cell}(hx:x<N)(ZI:st.tm x = .v true (.one (.c c)))(hr:OF.ref x ⟨0,T,m⟩ ∈ Γ):Rd I (a.tmps.getD x undef) c/\GR g (a.tmps.getD x undef) T (.tag dp m):=by
 have h3:=hG.tm x hx;rw[ZI]at h3;obtain⟨u,h1,h2⟩:=hO.fs _ hr;refine⟨h3.1 rfl,?_⟩;have h4:u=a.tmps.getD x undef:=by
  have hs:∃b n c,u = .slice b n c:=by rcases h2 with e|⟨k,n,c,e,_⟩<;>exact⟨_,_,_,e⟩
  have h5:=Rd.one (h3.1 rfl)
  dsimp only at h1
  cases hq:a.tmps.getD x undef<;>rw[hq]at h1 h5<;>simp[Go.Value.cells]at h1<;>first|exact h1.symm|(simp[Value.oneCell']at h5)
 rwa[h4]at h2
def tyR (rows:List (Nat×Nat×Nat))(j:Nat):Nat:=match rows.find? (λr=>r.1==j)with
 |some r=>r.2.1
 |none=>0
def QL (dp:Nat)(rows:List (Nat×Nat×Nat))(j:Nat):ru:=match rows.find? (λr=>r.1==j)with
 |some r=>.tag dp r.2.2
 |none=>.dead
def Gv (rows:List (Nat×Nat×Nat)):Bool:=AL (rows.map (·.1))&&AL (rows.map (·.2.2))
theorem Aw {rows:List (Nat×Nat×Nat)}(h:Gv rows=true){r:Nat×Nat×Nat}(hr:r∈rows):rows.find? (λq=>q.1==r.1)=some r:=by
 unfold Gv at h;simp only[af]at h;have hn:=AP h.1;clear h
 induction rows with
 |nil=>cases hr
 | cons q rows ih=>
   simp only[aP,sF]at hn;rw[List.find?_cons];rcases aB.1 hr with rfl|hr
   ·simp
   ·have:(q.1==r.1)=false:=by
     simp only[beq_eq_false_iff_ne,ne_eq];intro e;exact hn.1 (e▸aF.2 ⟨r,hr,rfl⟩)
    rw[this];exact ih hr hn.2
theorem acg {rows:List (Nat×Nat×Nat)}(h:Gv rows=true){r q:Nat×Nat×Nat}(hr:r∈rows)(hq:q∈rows)(e:r.2.2=q.2.2):r=q:=by
 unfold Gv at h;simp only[af]at h;have hn:=AP h.2;clear h
 induction rows with
 |nil=>cases hr
 | cons z rows ih=>
   simp only[aP,sF]at hn;rcases aB.1 hr with e1|hr'<;>rcases aB.1 hq with e2|hq'
   ·rw[e1,e2]
   ·subst e1;exact absurd (show _∈rows.map (·.2.2)from aF.2 ⟨q,hq',e.symm⟩) hn.1
   ·subst e2;exact absurd (show _∈rows.map (·.2.2)from aF.2 ⟨r,hr',e⟩) hn.1
   ·exact ih hr' hq' hn.2
theorem aaN (hg:Good P g w)(hT:Tabs P I0)(hA0:Agree I0 w)(hold:∀b c,I0 b=some c->g b=none)(hA:Agree I w){vs:List Value}{cs:List Cell}(hlen:vs.length=cs.length)(hrd:∀(j:Nat) (v:Value) (c:Cell),vs[j]? = some v->cs[j]? = some c->Rd I v c)
 {rows:List (Nat×Nat×Nat)} (hok:Gv rows=true) (hgr:∀r,r∈rows->∀v,vs[r.1]? = some v->GR g v r.2.1 (.tag dp r.2.2)) (hcov:∀(j sz:Nat) (es:List (List Cell)),cs[j]? = some (.sl sz es)->∃r,r∈rows/\r.1=j/\NZ P r.2.1 (.sl sz es)) :
 SX P g I0 I w vs cs (rows.map (·.1)) (tyR rows) (QL dp rows) where
 good:=hg
 tabs:=hT
 Iy:=hA0
 old:=hold
 ag:=hA
 len:=hlen
 rd:=hrd
 XR:=λj sz es h=>by obtain⟨r,h1,h2,_⟩:=hcov j sz es h;exact aF.2 ⟨r,h1,h2⟩
 own:=λj hj v hv=>by obtain⟨r,h1,rfl⟩:=aF.1 hj;simp only[tyR,QL,Aw hok h1];exact hgr r h1 v hv
 root:=λj hj=>by obtain⟨r,h1,rfl⟩:=aF.1 hj;simp only[QL,Aw hok h1];exact .inl ⟨_,_,rfl⟩
 typ:=λj sz es h=>by obtain⟨r,h1,rfl,h2⟩:=hcov j sz es h;simp only[tyR,Aw hok h1];exact h2
 dis:=λi j b hi hj h1 h2=>by obtain⟨r,q1,rfl⟩:=aF.1 hi;obtain⟨q,q2,rfl⟩:=aF.1 hj;simp only[QL,Aw hok q1]at h1;simp only[QL,Aw hok q2]at h2;rw[acg hok q1 q2 (h1.aaP h2).2]
theorem apart {rA rB:List (Nat×Nat×Nat)}(hA:Gv rA=true)(hB:Gv rB=true)(h:∀r,r∈rA->∀q,q∈rB->r.2.2≠q.2.2)(i:Nat)(hi:i∈rA.map (·.1))(j:Nat)(hj:j∈rB.map (·.1))(b:Nat)(h1:Under g (QL dp rA i) b):¬Under g (QL dp rB j) b:=λh2=>by obtain⟨r,q1,rfl⟩:=aF.1 hi;obtain⟨q,q2,rfl⟩:=aF.1 hj;simp only[QL,Aw hA q1]at h1;simp only[QL,Aw hB q2]at h2;exact h r q1 q q2 (h1.aaP h2).2
theorem SX.keep {vs:List Value}{cs:List Cell}{L LA:List Nat}{ty:Nat->Nat}{pid aax:Nat->ru}(h:SX P g I0 I w vs cs L ty pid)(hg:Good P g w')(hF:xK w w' λb=>∃j,j∈LA/\Under g (aax j) b)(hA:Agree J w')(hJ:∀b,(∀j,j∈LA->¬Under g (aax j) b)->J b=I b)
 (hd:∀i,i∈LA->∀j,j∈L->∀b,Under g (aax i) b->¬Under g (pid j) b):SX P g I0 J w' vs cs L ty pid:=
 { h with
   good:=hg
   Iy:=h.Iy.other λb c hb=>hF.block b (h.Iy.lt hb) (by rintro⟨j,_,hu⟩;obtain⟨T2,p,h2⟩:=hu.owned;have:=h.old b c hb;rw[h2]at this;cases this)
   ag:=hA
   rd:=λj v c hv hc=>by
    have hr:=h.rd j v c hv hc;cases c with
    |lit _=>exact hr.H7
    |str _=>exact hr.Ik
    | sl sz es=>have hj:=h.XR _ _ _ hc;exact hr.under h.good h.ag (h.own j hj v hv) (h.typ _ _ _ hc) λb hb=>hJ b λi hi h2=>hd i hi j hj b h2 hb }
theorem adH {IA:IH}{LA:List Nat}{aax:Nat->ru}(hold:∀b c,IA b=some c->g b=none)(hle:IA.le I)(hJ:∀b,(∀j,j∈LA->¬Under g (aax j) b)->J b=I b):IA.le J:=λb c h=>by
 rw[hJ b (λj _ hu=>by obtain⟨T2,p,h2⟩:=hu.owned;have:=hold b c h;rw[h2]at this;cases this)]
 exact hle b c h
theorem Ju {kx:Nat}{vs:List Value}{cs:List Cell}{x:Nat}(h1:a.tmps.getD x undef = .pointer (some ⟨kx,0,none⟩))(h2:J kx=some vs.toArray)(hl:vs.length=cs.length)(hrd:∀(j:Nat) (v:Value) (c:Cell),vs[j]? = some v->cs[j]? = some c->Rd J v c) :
 Uh J Rj (a.tmps.getD x undef) (.v true (.one (.zC cs))):=by
 refine⟨λ_=>⟨⟨kx,0,none⟩,h1,λj c hc=>?_⟩,λe=>by cases e⟩;have hj:j<vs.length:=by rw[hl];exact(ax.1 hc).1
 refine⟨vs[j],?_,hrd j _ c (aj hj) hc⟩;rw[Addr.l7,dh];unfold IH.cell;simp[h2,hj]
def ad1 (ρ:Ren)(st:dP)(k:Nat):Prop:=∃b xs cap,st.bx b = .var xs/\ρ b=some (k,cap)
theorem Nu (hG:GX E I ρ N st a w){x b:Nat}{xs:List AC}{cs:List Cell}(hx:x<N)(ZI:st.tm x = .v true (.one (.ptr b 0)))(hb:st.bx b = .var xs)(hxs:xs=cs.map .c):Uh (I.with w (ad1 ρ st)) Rj (a.tmps.getD x undef) (.v true (.one (.zC cs))):=by have h3:=hG.tm x hx;rw[ZI]at h3;obtain⟨k,cap,h4,h5⟩:=h3.1 rfl;have h6:=hG.bx.ok b;rw[hb]at h6;obtain⟨k',cap',cells,h7,h8,h9,h10⟩:=h6;rw[h4]at h7;cases h7;exact Ju (vs:=cells.toList) h5 (by rw[NP ⟨b,xs,_,hb,h4⟩ h8]) (by rw[iU,h9,hxs];simp) λj v c hv hc=>(V5 hxs h10 j v c hv hc).mono (KN hG.agree)
theorem adU (hG:GX E I ρ N st a w){x:Nat}{c:Cell}(hx:x<N)(ZI:st.tm x = .v true (.one (.c c)))(hle:I.le J):Uh J Rj (a.tmps.getD x undef) (.v true (.one (.c c))):=by have h3:=hG.tm x hx;rw[ZI]at h3;exact⟨λ_=>Rd.mono hle (h3.1 rfl),λe=>by cases e⟩
end
end
section
abbrev RL : dP->Prop:=Dq [.tmp 4] 0 (λr bs=>r=pq true/\bs=[])
abbrev Bd (P:Program)(fn:Func)(w0:World):Exit->Act->World->Prop:=bodyPost P fn λe w'=>e = .returned (.bool true)/\xK w0 w' λ_=>False
structure YP (K:dP->Prop)(S:dP):Prop where
 f:K S
section
variable {P:Program} {fn:Func} {w0 w w' wA:World} {I J JA:IH} {a a':Act} {g:Own} {c:Code} {ac:dD}
theorem H6 (hcr:xO P fn.ntmps fn.results.toList [.tmp 4]=true){hT:Tabs P J}(hF:xK w0 w λ_=>False)(h:AK (E1 w J hT) fn.ntmps RL a w'):Bd P fn w0 .ret a w':=by obtain⟨h1,v,h2,v',J',σ,r,bs,e,⟨rfl,rfl⟩,h3,_,_,_,h4,_⟩:=KF (fp:=[]) hcr h;refine⟨h1,v,h2,?_,hF.trans (UN (hT:=hT) h4) λ_ _ h=>h⟩;cases e;cases h3;rfl
structure Mid (P:Program)(N:Nat)(w0:World)(J:IH)(ts:List (Nat×Slot))(a:Act)(w:World):Prop where
 tabs:Tabs P J
 ag:Agree J w
 sl:Ro J a ts
 size:a.tmps.size=N
 defers:a.defers=[]
 wu:xK w0 w λ_=>False
structure Aft (P:Program)(N:Nat)(w0 wA:World)(JA:IH)(I:IH)(ρ:Ren)(g:Own)(pa:List (Nat×Value))(Γ : List OF)(st:dP)(a:Act)(w:World):Prop where
 tabs:Tabs P JA
 gx:∃hT:Tabs P JA,GX (E1 wA JA hT) I ρ N st a w
 ow:OW P FV g 0 Γ a w
 new:∀k,k<wA.heap.size->g k=none
 old:∀b c,JA b=some c->g b=none
 Iy:Agree JA w
 ag:Agree I w
 pa:PA pa a
 Zk:xK wA w λ_=>False
 wu:xK w0 w λ_=>False
 Ei:JA.le I
theorem H9 {N:Nat}(h:Rel 0 N JQ g)(k:Nat)(hk:k<N):g k=none:=by
 cases hx:g k with
 |none=>rfl
 |some B=>obtain⟨B',h1,_⟩:=h.old k B hk hx;cases h1
theorem OJ (hcr:xO P fn.ntmps fn.results.toList [.tmp 4]=true){ts:List (Nat×Slot)}{S:dP}{pa:List (Nat×Value)}{pl:List Nat}{n:Nat}{Γ : List OF}(h:Mid P fn.ntmps w0 JA ts a wA)(hpl:∀e,e∈pa->e.1∈pl)(hpa:PA pa a)
 (hc:oK P fn.ntmps 0 c ac=true) (ho:AU P pl n c ac []=some Γ) (hw:∀K,YP K S->wpC P (takeA n ac) (QA K RL) (dP.of ts []))
 (hk:∀{I ρ g a w},Aft P fn.ntmps w0 wA JA I ρ g pa Γ S a w->(Ea n c).wp P (Bd P fn w0) a w):c.wp P (Bd P fn w0) a wA:=by
 have hG:=Zv h.tabs h.ag h.sl h.size h.defers;refine Bl (E:=E1 wA JA h.tabs) (g0:=JQ) (dp:=0) (pa:=pa) (K:=λst=>st=S) (R:=RL) (jq 10) hpl hc ho ⟨⟨⟨JA,Rj,_,hw _ ⟨rfl⟩,hG⟩,⟨JQ,Rel.refl _ _ _,QG⟩⟩,hpa⟩ (λa w hA=>?_) λa w hA=>H6 hcr h.wu hA;obtain⟨⟨⟨I,ρ,st,rfl,hG⟩,g,hR,hO⟩,hPA⟩:=hA;have hF:=UN hG.wu;refine hk ⟨h.tabs,⟨_,hG⟩,hO,H9 hR,λb c hb=>H9 hR b (h.ag.lt hb),h.ag.quiet hF,hG.agree,hPA,hF,h.wu.trans hF λ_ _ h=>h,hG.Ei⟩
theorem ZY (hcr:xO P fn.ntmps fn.results.toList [.tmp 4]=true){ts:List (Nat×Slot)}(h:Mid P fn.ntmps w0 J ts a w)(hc:oK P fn.ntmps 0 c ac=true)(hw:wpC P ac (QF [.tmp 4] 0 (λr bs=>r=pq true/\bs=[])) (dP.of ts [])):c.wp P (Bd P fn w0) a w:=by
 have hG:=Zv h.tabs h.ag h.sl h.size h.defers;refine wp_mono (rJ (E:=E1 w J h.tabs) (jq 10) hc ⟨J,Rj,_,hw,hG⟩) λe a w' hq=>?_;cases e with
 |normal=>exact H6 hcr h.wu hq
 |ret=>exact H6 hcr h.wu hq
 |exit id=>obtain⟨_,_,_,h,_⟩:=hq;exact h.elim
 |goto l=>exact hq.elim
 |panic ch=>exact hq.elim
 |outgrown=>exact hq.elim
theorem XV {f:FuncId}{args:List AV}(hf:P.funcs[f]? = some fn)(hb:fn.body=some c)(hk:Vd f true=true)(hl:args.length<=fn.ntmps)(hcr:xO P fn.ntmps fn.results.toList [.tmp 4]=true){S:dP}{n:Nat}{Γ : List OF}(hc:oK P fn.ntmps 0 c ac=true)(ho:AU P [] n c ac []=some Γ)
 (hw:∀K,YP K S->wpC P (takeA n ac) (QA K RL) (st0 args []))
 (hk':∀{w0 wA JA I ρ g a w},Aft P fn.ntmps w0 wA JA I ρ g [] Γ S a w->(Ea n c).wp P (Bd P fn w0) a w):fD P f args (pq true):=by
 refine O1 hk λI w vs hT hA hV=>?_;have hB:BX I Rj w (xN []):=QC I w;have hG:=EW (fn:=fn) hl hT hA hB hV;refine calls_of_wp hf hb ?_;refine Bl (E:=E1 w I hT) (g0:=JQ) (dp:=0) (pa:=[]) (K:=λst=>st=S) (R:=RL) (jq 10) (λe he=>by cases he) hc ho ⟨⟨⟨I,Rj,_,hw _ ⟨rfl⟩,hG⟩,⟨JQ,Rel.refl _ _ _,QG⟩⟩,λe he=>by cases he⟩ (λa w' hA'=>?_) λa w' hA'=>H6 hcr (xK.refl _ _) hA';obtain⟨⟨⟨I',ρ,st,rfl,hG⟩,g,hR,hO⟩,hPA⟩:=hA';have hF:=UN hG.wu;exact hk' ⟨hT,⟨_,hG⟩,hO,H9 hR,λb c hb=>H9 hR b (hA.lt hb),hA.quiet hF,hG.agree,hPA,hF,hF,hG.Ei⟩
theorem XU {f:FuncId}{args:List AV}(hf:P.funcs[f]? = some fn)(hb:fn.body=some c)(hk:Vd f true=true)(hl:args.length<=fn.ntmps)(hcr:xO P fn.ntmps fn.results.toList [.tmp 4]=true){n:Nat}{Γ : List OF}(hc:oK P fn.ntmps 0 c ac=true)(ho:AU P [] n c ac []=some Γ)
 (hw:wpC P (takeA n ac) (QA (λ_=>False) RL) (st0 args [])):fD P f args (pq true):=by
 refine O1 hk λI w vs hT hA hV=>?_;have hG:=EW (fn:=fn) hl hT hA (QC I w) hV;refine calls_of_wp hf hb ?_;refine Bl (E:=E1 w I hT) (g0:=JQ) (dp:=0) (pa:=[]) (K:=λ_=>False) (R:=RL) (jq 10) (λe he=>by cases he) hc ho ⟨⟨⟨I,Rj,_,hw,hG⟩,⟨JQ,Rel.refl _ _ _,QG⟩⟩,λe he=>by cases he⟩ (λa w' hA'=>?_) λa w' hA'=>H6 hcr (xK.refl _ _) hA';obtain⟨⟨⟨I',ρ,st,h,hG⟩,_⟩,hPA⟩:=hA';exact h.elim
structure Mks (P:Program)(N:Nat)(w0 wA:World)(JA J:IH)(g:Own)(a:Act)(w:World):Prop where
 new:∀k,k<wA.heap.size->g k=none
 sz:wA.heap.size<=w.heap.size
 old:∀b c,JA b=some c->g b=none
 Ei:JA.le J
 ag:Agree J w
 size:a.tmps.size=N
 defers:a.defers=[]
 wu:xK w0 w λ_=>False
 sz0:w0.heap.size<=wA.heap.size
def acu (P:Program)(s:Option Nat)(f:Nat)(ty:Nat->Nat)(cs:List Cell)(k:Int)(cs':List Cell)(k':Int):Prop:=
 ∀{g:Own} {I0 I:IH} {w:World} {vs:List Value} {L:List Nat} {pid:Nat->ru},SX P g I0 I w vs cs L ty pid->Calls P f #[FI vs s,.int .i64 k] w λe w'=>e = .returned (.int .i64 k')/\vZ P g I w vs cs' L ty pid w'
theorem KX.any {f n:Nat}{ty:Nat->Nat}{cs cs':List Cell}{k k':Int}(h:KX P f ty cs k cs' k'):acu P (some n) f ty cs k cs' k':=h
def MK (P:Program)(N:Nat):Code->Option (Option Nat×Nat×Nat×Nat×List Nat)
 |.seq (.region _ ops false) _=>U9 P N ops.toList
 |_=>none
theorem Qm {x kx:Nat}{vs:List Value}{e:TypeId}{n:Nat}(h1:a.tmps.getD x undef = .pointer (some ⟨kx,0,none⟩))(h2:w.heap[kx]? = some (.cells vs.toArray e (0,0)))(h3:vs.length=n):Held a w x vs (some n):=⟨kx,e,h1,h2,h3⟩
theorem ahs {x:Nat}{v:Value}(h:a.tmps.getD x undef=v):Held a w x [v] none:=⟨v,rfl,h⟩
theorem aha {yx:Nat}{mt:Fq}{tx:Int->List UInt8}(hall:∀f,(mt f).isSome=true->Xx P yx mt f=true)(ht:DR P yx tx){f:Nat}{ty:Nat->Nat}{c c1:Cell}{k k':Int}(hmk:JZ mt tx (.C f c k c1 k'))(hT:∃sz acts,mt f=some (ty 0,sz,acts)):acu P none f ty [c] k [c1] k':=by
 intro g I0 I w vs L pid hX;obtain⟨v,rfl⟩:=List.length_eq_one_iff.1 hX.len;have hsl:(∃sz es,c = .sl sz es)/\∃sz es,c1 = .sl sz es:=by cases hmk with|c _ _ _=>exact⟨⟨_,_,rfl⟩,_,_,rfl⟩
 obtain⟨⟨sz',es,rfl⟩,hc1⟩:=hsl;have hoL:=hX.XR 0 _ _ rfl;have hC:=(aam hall ht hmk).1;refine(hC g I0 I w (ty 0) (pid 0) _ hT hX.good hX.tabs hX.Iy hX.old hX.ag (hX.own 0 hoL _ rfl) (hX.root 0 hoL) (hX.rd 0 _ _ rfl rfl) (hX.typ 0 _ _ rfl)).mono ?_;rintro e w' ⟨rfl,hp⟩;exact⟨rfl,hX.slice rfl rfl hc1 hp⟩
theorem ahR {J:IH}{v:Value}{c:Cell}(h:Rd J v c)(j:Nat)(u:Value)(d:Cell)(hu:[v][j]? = some u)(hd:[c][j]? = some d):Rd J u d:=by
 match j,hu,hd with
 |0,hu,hd=>cases hu;cases hd;exact h
theorem ahM {T m dp:Nat}{v:Value}(h:GR g v T (.tag dp m))(r:Nat×Nat×Nat)(hr:r∈[(0,T,m)])(u:Value)(hu:[v][r.1]? = some u):GR g u r.2.1 (.tag dp r.2.2):=by obtain rfl:=List.mem_singleton.1 hr;cases hu;exact h
theorem agY {J:IH}{v:Value}{c:Cell}{x:Nat}(h:Rd J v c)(hx:a.tmps.getD x undef=v):Uh J Rj (a.tmps.getD x undef) (.v true (.one (.c c))):=by rw[hx];exact⟨λ_=>h,λe=>by cases e⟩
theorem MG {N x y f:Nat}{k k':Int}{s:Option Nat}{tms:List Nat}{Q:Exit->Act->World->Prop}{vs:List Value}{cs cs':List Cell}{L:List Nat}{ty:Nat->Nat}{pid:Nat->ru}
 (hM:Mks P N w0 wA JA J g a w) (hS:SX P g JA J w vs cs L ty pid) (hm:MK P N c=some (s,x,y,f,tms)) (hv:Held a w x vs s) (hk:a.tmps.getD y undef = .int .i64 k) (hf:acu P s f ty cs k cs' k')
 (hQ:∀{a' w' J'},Mks P N w0 wA JA J' g a' w'->SX P g JA J' w' vs cs' L ty pid->a'.tmps.getD y undef = .int .i64 k'->(∀t,t ∉ tms->a'.tmps.getD t undef=a.tmps.getD t undef) ->
  (∀b row d m,g b=some (.var row d m)->w'.heap[b]? = w.heap[b]?) ->
  (∀{vs2 cs2 L2 ty2 adM},SX P g JA J w vs2 cs2 L2 ty2 adM->(∀i,i∈L->∀j,j∈L2->∀b,Under g (pid i) b->¬Under g (adM j) b)->SX P g JA J' w' vs2 cs2 L2 ty2 adM)->(Ea 1 c).wp P Q a' w'):c.wp P Q a w:=by
 unfold MK at hm;split at hm
 case h_2=>cases hm
 refine abN rfl (Ya (R:=vZ P g J w vs cs' L ty pid) hm hM.size hM.defers hv hk (hf hS) λa' w' h1 h2 h3 h4 hp=>?_);obtain⟨J',hS',hJ'⟩:=vZ.next hS hp;have hF:xK w w' λb=>wA.heap.size<=b:=⟨hp.wu.os,hp.wu.tape,hp.wu.output,hp.wu.size,λk hk hn=>hp.wu.block k hk (by rintro⟨j,_,hu⟩;obtain⟨T2,p,h2⟩:=hu.owned;rw[hM.new k (by omega)]at h2;cases h2)⟩
 refine hQ ⟨hM.new,cZ hM.sz hF.size,hM.old,adH hM.old hM.Ei hJ',hS'.ag,h1,h2,hM.wu.trans hF λb hb hn=>by have:=hM.sz0;omega,hM.sz0⟩ hS' h3 h4 (λb row d m hb=>hp.wu.block b (by obtain⟨_,e,hw,_⟩:=hS.good.var b row d m hb;exact uk hw) ?_) λh2 hd=>h2.keep hp.good hp.wu hS'.ag hJ' hd
 rintro⟨j,_,hu⟩;obtain⟨T2,p,h2⟩:=hu.owned;rw[hb]at h2;cases h2
end
end
section
def NY (e:TypeId)(v:Value)(l:List UInt8)(w:World):Prop:=
 (v = .slice none 0 0/\l=[])\/∃g cap cs,v = .slice (some ⟨g,0,none⟩) l.length cap/\cap≠0/\l.length<=cap/\cap<=maxLen/\w.heap[g]? = some (.cells cs e (0,0))/\cs.size=cap /\
  (∀(j:Nat) (u:Value),cs[j]? = some u->u.oneCell'=true)/\∀(j:Nat) (x:UInt8),l[j]? = some x->cs[j]? = some (.int .u8 x.toNat)
section
variable {P:Program} {w:World}
theorem MS (g n c:Nat):Value.ownBlock (.slice (some ⟨g,0,none⟩) n c)=some g:=rfl
end
end
end Go.Ab
section
namespace Go.Ab
open Go Go.Shelf Go.RowKit Go.Proofs
section
variable {P:Program} {w:World}
theorem NY.alloc {e:TypeId}{v:Value}{l:List UInt8}(h:NY e v l w)(o:Obj):NY e v l (w.alloc o):=by
 rcases h with h|⟨g,cap,cs,h1,h2,h3,h4,h5,h6⟩
 ·exact .inl h
 ·exact .inr ⟨g,cap,cs,h1,h2,h3,h4,(Lib.alloc_old w o g (uk h5)).trans h5,h6⟩
theorem NY.same {e:TypeId}{v:Value}{l:List UInt8}{w':World}(h:NY e v l w)(hk:∀g,v.ownBlock=some g->w'.heap[g]? = w.heap[g]?):NY e v l w':=by
 rcases h with h|⟨g,cap,cs,h1,h2,h3,h4,h5,h6⟩
 ·exact .inl h
 ·exact .inr ⟨g,cap,cs,h1,h2,h3,h4,(hk g (by rw[h1];rfl)).trans h5,h6⟩
theorem NY.adL {e:TypeId}{v:Value}{l:List UInt8}(h:NY e v l w){g:Nat}(hg:v.ownBlock=some g):g<w.heap.size/\∃cs,w.heap[g]? = some (.cells cs e (0,0)):=by
 rcases h with⟨rfl,_⟩|⟨g',cap,cs,rfl,h2,h3,h4,h5,h6⟩
 ·cases hg
 ·simp only[MS,aG]at hg;subst hg;exact⟨uk h5,cs,h5⟩
theorem NY.ne {e T:TypeId}{v:Value}{l:List UInt8}{k:Nat}{cs:Array Value}(h:NY e v l w)(hk:w.heap[k]? = some (.cells cs T (0,0)))(hT:T≠e):v.ownBlock≠some k:=λhe=>by obtain⟨_,c,hc⟩:=h.adL he;rw[hk]at hc;simp only[aG,Obj.cells.injEq]at hc;exact hT hc.2.1
end
variable {P:Program} {ρ:Go.Shelf.Ren}
theorem XK {w w':World}(h:Below w.heap.size w w')(M:Nat->Prop):xK w w' M:=⟨h.os,h.tape,h.output,h.size,λk hk _=>h.block k hk⟩
end Go.Ab
end
section
namespace Go.Ab
open Go Go.Shelf Go.Proofs
variable {P:Program} {ρ:Go.Shelf.Ren}
theorem Zu {I:IH}{r:Ren}{vs:List Value}{x:AV}(h:NU I r vs [x]):∃a,vs=[a]/\GV I r a x:=by
 obtain⟨h1,h2⟩:=h
 match vs,h1 with
 |[a],_=>exact⟨a,rfl,h2 0 a x rfl rfl⟩
end Go.Ab
end
section
namespace Go.Ab
open Go Go.Shelf Go.Proofs
variable {P:Program} {ρ:Go.Shelf.Ren}
theorem adX {I:IH} {w:World} (hT:Tabs P I) (hA:Agree I w) {g:Nat} (hg:P.globalNamed "internal/strconv.uint64pow10" = some g):Lib.TabIs P w "internal/strconv.uint64pow10" .u64 Go.Lib.pow10Tab:=by
 obtain⟨e,fr,h⟩:=hA g _ (hT.pow g hg);unfold Lib.TabIs World.var?;simp only[hg,Option.bind_some,h]
theorem abo (L:LaysM.n171 P ρ){n:Int}(h0 : -9223372036854775808<=n/\n<=9223372036854775807)(hl:(Go.Lib.itoa n).length<=maxLen){r:List UInt8}(hr:r=Go.Lib.itoa n)(hk:Vd (ρ.f 171) true=true:=by rfl) :
 fD P (ρ.f 171) [.one (.c (.lit (.int .i64 n)))] (.one (.c (.str r))):=by
 subst hr;refine nN.of0 hk ?_;intro I r w vs hT hA hB hG;obtain⟨a,rfl,ha⟩:=Zu hG;cases ha;have hB':∀b,xN [] b = .absent:=λb=>PE (jq _);refine(Any.strconv_Itoa L n h0.1 h0.2 w (adX hT hA L.m17)).mono ?_;rintro e w' ⟨rfl,k,os,rfl⟩;have hb:=Lib.below_grow w.heap.size w (aA _) k os;refine⟨_,I,r,_,_,rfl,⟨rfl,rfl⟩,Rd.str _ hl,hA.other λk1 c hc=>hb.block k1 (hA.lt hc),⟨λb=>?_,λb b' k hu=>?_,λb k hu=>?_⟩,IH.le_refl I,XK hb _,λb k hu=>?_,λ_ _ _=>rfl,λ_ _=>rfl⟩
 ·have:=hB.ok b;rw[hB']at this⊢;exact this
 all_goals(rw[hB']at hu;exact hu.elim)
end Go.Ab
end
