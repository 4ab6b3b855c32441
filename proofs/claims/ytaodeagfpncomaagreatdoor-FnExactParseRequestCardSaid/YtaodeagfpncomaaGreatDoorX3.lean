/- What abstract codes mean (part 3). No conditions. -/
import Derived.Test.YtaodeagfpncomaaGreatDoorX2
set_option linter.unusedVariables false
set_option linter.unusedSimpArgs false
open Array renaming getElem?_eq_some_iff->dm,getD_eq_getD_getElem?->fK,length_toList->kS,empty_append->pX,getElem?_append_left->sZ,replicate->ug,getElem?_modify->vY
open Bool renaming and_eq_true->ah,false_eq_true->nH
open ByteArray renaming mk->Bo,size_extract->nZ,empty->rG
open Function renaming comp_def->yj
open Go.Act renaming put->jv
open Go.Addr renaming add->sG
open Go.Builtin renaming zeroCells->bI,append_->iK
open Go.Code renaming region->zO
open Go.Exit renaming inBlock->wX
open Go.Instr renaming sureAddr->jO,loadAt->nM
open Go.IntKind renaming wrap->af
open Go.Lib renaming splitB->Au,cellsOf->Du,byteCells->cO,cell_of_heap->kT,byteCells_length->lG,splitK->mX,join->uS,alloc_old->vS,atoiAll->xG,frozen_of_heap->zD
open Go.Next renaming value->lQ
open Go.Result renaming andThen_ok->bu,ok->l7
open Go.Sem renaming run_pure->bM,run_bind->cu
open Go.Value renaming int->lg,ownBlock->qG,slice->zV
open Go.World renaming cell?->iy,setCell->rf,shape?->zi
open List renaming drop->DW,getElem?_eq_getElem->aA,all_eq_true->aN,mem_cons->aO,map->aP,mem_append->aS,getElem?_eq_some_iff->aT,length_append->ay,getElem?_append_left->bD,getD->bH,map_cons->bJ,mem_map->bf,append_assoc->dB,getElem?_map->dD,mem_singleton->dL,getElem?_append_right->dw,length_nil->fB,all_cons->fF,getElem_mem->fU,getD_eq_getElem?_getD->fZ,getElem?_drop->iL,map_nil->jY,nil_append->ja,length_take->jc,map_toArray->kP,getElem?_eq_none->kV,getElem?_toArray->kW,length_map->kX,getElem?_set->o5,nodup_cons->xe,length_pos_iff->xw,map_map->yB,getElem?_take_of_lt->yz
open Nat renaming zero_le->aJ,le_refl->ak,le_trans->dR,zero_add->fE,mul_one->sJ,lt_irrefl->sQ,add_comm->uw
open Option renaming map_eq_some_iff->bY,isSome_none->xO
open Option.some renaming injEq->aC
open Prod.mk renaming injEq->aK
open UInt8 renaming ofNat->fA
namespace Go.Ab
open Go
section
def TK (P:Program)(o:kE)(st:iI)(K:List Nat->List Nat->iI->Prop)(_:DU o)(_:DU K):Prop:=T P o st K
def Oo (P:Program)(ops:List kE)(st:iI)(K:iI->Prop)(_:DU ops)(_:DU K):Prop:=wpOps P ops st K
def adk (P:Program)(ops:List (kE×List Nat))(i:Nat)(log:List (Nat×List Nat×List Nat))(st:iI)(K:iI->Prop)(_:DU ops)(_:DU K):Prop:=wpD P ops i log st K
def Am (P:Program)(c:gI)(Q:AQ)(st:iI)(_:DU c)(_:DU Q):Prop:=wpC P c Q st
def QK (Q:AQ)(e:tJ)(st:iI)(_:DU Q):Prop:=Q e st
def Kz (c:gI)(P:Program)(Q:AQ):AQ:=tJ.then (wpC P c Q) Q
section
variable {P:Program} {st:iI} {K:List Nat->List Nat->iI->Prop} {k:iI->Prop} {Q:AQ}
theorem agA {g:Option (Nat×Bool)}{d:Option Nat}{f:FuncId}{args:List mY}{d1:DU (kE.mk g d (.call f args))}{d2:DU K} :
 TK P ⟨g,d,.call f args⟩ st K d1 d2=(BL st.tm g/\(qf st.tm g=true->∀x,x∈args->(x.ev st.tm).g=true)/\sV P f (args.map (dY st.tm)) (qf st.tm g) d st K .mk):=by
 unfold TK T;rfl
def Nv (P:Program)(x:AV)(args:List AV)(p:Bool)(d:Option Nat)(st:iI)(K:List Nat->List Nat->iI->Prop)(_:DU K):Prop:=
 match p,x with
 |false,_=>sV P 0 [] false d st K .mk
 |true,.one (.fn f caps)=>zL P f=true/\sV P f (args++caps.map λb=>.one (.ptr b 0)) true d st K .mk
 |true,_=>False
theorem abu {f:FuncId}{caps:List Nat}{args:List AV}{d:Option Nat}{du:DU K} : Nv P (.one (.fn f caps)) args true d st K du=(zL P f=true/\sV P f (args++caps.map λb=>.one (.ptr b 0)) true d st K .mk):=by unfold Nv;rfl
theorem adG {x:AV}{args:List AV}{d:Option Nat}{du:DU K} : Nv P x args false d st K du=sV P 0 [] false d st K .mk:=by unfold Nv;rfl
theorem adH {g:Option (Nat×Bool)}{d:Option Nat}{x:mY}{args:List mY}{d1:DU (kE.mk g d (.Iz x args))}{d2:DU K} :
 TK P ⟨g,d,.Iz x args⟩ st K d1 d2=(BL st.tm g/\(qf st.tm g=true->(x.ev st.tm).g=true/\∀x,x∈args->(x.ev st.tm).g=true)/\Nv P (dY st.tm x) (args.map (dY st.tm)) (qf st.tm g) d st K .mk):=by
 unfold TK T Nv;rfl
theorem ZZ {d1:DU ([]:List kE)}{d2:DU k} : Oo P [] st k d1 d2=k st:=by unfold Oo wpOps;rfl
theorem X9 {o:kE}{r:List kE}{d1:DU (o::r)}{d2:DU k} : Oo P (o::r) st k d1 d2=TK P o st (λ_ _ st'=>Oo P r st' k .mk .mk) .mk .mk:=by unfold Oo TK;rfl
theorem af8 {i:Nat}{log:List (Nat×List Nat×List Nat)}{d1:DU ([]:List (kE×List Nat))}{d2:DU k} : adk P [] i log st k d1 d2=k st:=by unfold adk wpD;rfl
theorem adl {i:Nat}{log:List (Nat×List Nat×List Nat)}{o:kE}{EE:List Nat}{r:List (kE×List Nat)}{d1:DU ((o,EE)::r)}{d2:DU k} :
 adk P ((o,EE)::r) i log st k d1 d2=TK P o st (λrd wr st'=>zZ EE rd wr log=true/\adk P r (i+1) ((i,rd,wr)::log) st' k .mk .mk) .mk .mk:=by
 unfold adk TK;rfl
theorem adi {d1:DU gI.skip}{d2:DU Q} : Am P .skip Q st d1 d2=QK Q .normal st .mk:=by unfold Am wpC;rfl
theorem af4 {ops:List kE}{keep:List Nat}{d1:DU (gI.reg ops keep)}{d2:DU Q} : Am P (.reg ops keep) Q st d1 d2=Oo P ops st (λst=>QK Q .normal (st.keep keep) .mk) .mk .mk:=by unfold Am wpC;rfl
theorem adh {ops:List (kE×List Nat)}{keep:List Nat}{d1:DU (gI.yF ops keep)}{d2:DU Q} : Am P (.yF ops keep) Q st d1 d2=adk P ops 0 [] st (λst=>QK Q .normal (st.keep keep) .mk) .mk .mk:=by unfold Am wpC;rfl
theorem af6 {a b:gI}{d1:DU (gI.seq a b)}{d2:DU Q} : Am P (.seq a b) Q st d1 d2=Am P a (Kz b P Q) st .mk .mk:=by unfold Am;rw[wpC];rfl
theorem af2 {a b:gI}{d1:DU (gI.cut a b)}{d2:DU Q} : Am P (.cut a b) Q st d1 d2=Lu (wpC P a) (wpC P b) Q st .mk .mk .mk:=by unfold Am;rw[wpC]
theorem adg {a:gI}{d1:DU (gI.loop a)}{d2:DU Q} : Am P (.loop a) Q st d1 d2=G8 (wpC P a) Q st .mk .mk:=by unfold Am;rw[wpC]
theorem ZW {id:Nat}{a:gI}{d1:DU (gI.block id a)}{d2:DU Q} : Am P (.block id a) Q st d1 d2=Am P a (tJ.inBlock id Q) st .mk .mk:=by unfold Am;rw[wpC]
theorem adf {id:Nat}{d1:DU (gI.exit id)}{d2:DU Q} : Am P (.exit id) Q st d1 d2=QK Q (.exit id) st .mk:=by unfold Am wpC;rfl
theorem af5 {d1:DU gI.ret}{d2:DU Q} : Am P .ret Q st d1 d2=QK Q .ret st .mk:=by unfold Am wpC;rfl
def Tz (P:Program)(c:AV)(a b:gI)(Q:AQ)(st:iI)(_:DU a)(_:DU b)(_:DU Q):Prop:=
 match c with
 |.one (.c (.lit (.bool t)))=>(t=true->wpC P a Q st)/\(t=false->wpC P b Q st)
 |_=>False
theorem ade {c:mY}{a b:gI}{d1:DU (gI.cond c a b)}{d2:DU Q} : Am P (.cond c a b) Q st d1 d2=((c.ev st.tm).g=true/\Tz P (c.ev st.tm).x a b Q st .mk .mk .mk):=by unfold Am Tz;rw[wpC]<;>rfl
theorem agS {a b:gI}{d1:DU a}{d2:DU b}{d3:DU Q} : Tz P (.one (.c (.lit (.bool true)))) a b Q st d1 d2 d3=Am P a Q st .mk .mk:=by unfold Tz Am;simp
theorem agR {a b:gI}{d1:DU a}{d2:DU b}{d3:DU Q} : Tz P (.one (.c (.lit (.bool false)))) a b Q st d1 d2 d3=Am P b Q st .mk .mk:=by unfold Tz Am;simp
theorem abq {b:gI}{du:DU (Kz b P Q)} : QK (Kz b P Q) .normal st du=Am P b Q st .mk .mk:=by unfold QK Kz Am;rfl
theorem abp {b:gI}{id:Nat}{du:DU (Kz b P Q)} : QK (Kz b P Q) (.exit id) st du=QK Q (.exit id) st .mk:=by unfold QK Kz;rfl
theorem abr {b:gI}{du:DU (Kz b P Q)} : QK (Kz b P Q) .ret st du=QK Q .ret st .mk:=by unfold QK Kz;rfl
theorem abn {k:iI->Prop}{du:DU (tJ.then k Q)} : QK (tJ.then k Q) .normal st du=k st:=by unfold QK;rfl
theorem abm {k:iI->Prop}{id:Nat}{du:DU (tJ.then k Q)} : QK (tJ.then k Q) (.exit id) st du=QK Q (.exit id) st .mk:=by unfold QK;rfl
theorem abo {k:iI->Prop}{du:DU (tJ.then k Q)} : QK (tJ.then k Q) .ret st du=QK Q .ret st .mk:=by unfold QK;rfl
theorem Yn {id:Nat}{du:DU (tJ.inBlock id Q)} : QK (tJ.inBlock id Q) .normal st du=QK Q .normal st .mk:=by unfold QK;rfl
theorem Ym {id id':Nat}{du:DU (tJ.inBlock id Q)} : QK (tJ.inBlock id Q) (.exit id') st du=if id'=id then QK Q .normal st .mk else QK Q (.exit id') st .mk:=by unfold QK;rfl
theorem Yo {id:Nat}{du:DU (tJ.inBlock id Q)} : QK (tJ.inBlock id Q) .ret st du=QK Q .ret st .mk:=by unfold QK;rfl
theorem agy {rs:List vT}{r:AV}{du:DU (QP rs r)} : QK (QP rs r) .normal st du=OT rs r st:=by unfold QK;rfl
theorem agz {rs:List vT}{r:AV}{du:DU (QP rs r)} : QK (QP rs r) .ret st du=OT rs r st:=by unfold QK;rfl
theorem agw {rs:List vT}{m:Nat}{post:AV->List Box->Prop}{du:DU (QF rs m post)} : QK (QF rs m post) .normal st du=Gi rs m post st:=by unfold QK;rfl
theorem agx {rs:List vT}{m:Nat}{post:AV->List Box->Prop}{du:DU (QF rs m post)} : QK (QF rs m post) .ret st du=Gi rs m post st:=by unfold QK;rfl
theorem wR {c:gI}(h:Am P c Q st .mk .mk):wpC P c Q st:=h
theorem akJ {a:gI}{d1:DU (wpC P a)}{d2:DU Q}{X:Type}(J:X->Prop)(S:X->iI)(μ:X->Nat)(x0:X)(h0:J x0)(hw:Ko 10 st (S x0))
 (h:∀x,J x->Am P a (tJ.then (λst'=>∃x',(J x'/\μ x'<μ x)/\Ko 10 st' (S x')) Q) (S x) .mk .mk):G8 (wpC P a) Q st d1 d2:=
 G8.intro J S μ x0 h0 hw h
theorem alH {a b:gI}{d1:DU (wpC P a)}{d2:DU (wpC P b)}{d3:DU Q}{X:Type}(J:X->Prop)(S:X->iI)
 (h1:Am P a (tJ.then (λst'=>∃x,J x/\Ko 10 st' (S x)) Q) st .mk .mk) (h2:∀x,J x->Am P b Q (S x) .mk .mk):Lu (wpC P a) (wpC P b) Q st d1 d2 d3:=
 Lu.intro J S h1 h2
end
end
section
inductive Nd where
 |mk (k w:Int) (s:List UInt8) (ws:List (List UInt8)) (ks:List Nd)
abbrev di :=List UInt8
def amG (ws:List di):List (List Cell):=ws.map λw=>[.str w]
mutual
def Nd.cells : Nd->List Cell
 |.mk k w s ws ks=>[.lit (.int .i64 k),.lit (.int .i64 w),.str s,.sl 1 (amG ws),.sl 5 (Nd.Hf ks)]
def Nd.Hf : List Nd->List (List Cell)
 |[]=>[]
 |x::r=>x.cells::Nd.Hf r
end
theorem Nd.Tt (ks:List Nd):Nd.Hf ks=ks.map Nd.cells:=by
 induction ks with
 |nil=>rfl
 |cons x r ih=>simp[Nd.Hf,ih]
def VN : List AC->Bool
 |[]=>true
 |.c _::r=>VN r
 |_=>false
def JV : List AV->Bool
 |[]=>true
 |.one (.c _)::r=>JV r
 |.agg xs::r=>VN xs&&JV r
 |_=>false
theorem MW {bx:Nat->Box} : ∀{xs:List AC},VN xs=true->xs.map (Ep bx)=xs/\x9 bx xs/\xs.all AC.vC=true/\nJ xs=[]
 |[],_=>⟨rfl,trivial,rfl,rfl⟩
 | x::r,h=>by
   cases x with
   | c x=>obtain⟨h1,h2,h3,h4⟩:=MW (bx:=bx) (xs:=r) h;exact⟨by simp[Ep,h1],h2,by simp[AC.vC,h3],by simp[nJ,h4]⟩
   |_=>cases h
theorem EL {bx:Nat->Box} : ∀{xs:List AV},JV xs=true->xs.map (BB bx)=xs/\xC bx xs/\xs.all (·.all AC.vC)=true/\xs.flatMap AV.owns=[]
 |[],_=>⟨rfl,trivial,rfl,rfl⟩
 | x::r,h=>by
   cases x with
   | one x=>
     cases x with
     | c x=>obtain⟨h1,h2,h3,h4⟩:=EL (bx:=bx) (xs:=r) h;exact⟨by simp[BB,Ep,h1],⟨trivial,h2⟩,by rw[fF,h3];rfl,by simp[AV.owns,nJ,h4]⟩
     |_=>cases h
   | agg xs=>simp only[JV,ah]at h;obtain⟨h1,h2,h3,h4⟩:=EL (bx:=bx) (xs:=r) h.2;obtain⟨j1,j2,j3,j4⟩:=MW (bx:=bx) h.1;refine⟨by simp only[bJ,BB,j1,h1],⟨j2,h2⟩,?_,by simp only[List.flatMap_cons,AV.owns,j4,h4,List.append_nil]⟩;rw[fF,h3,Bool.and_true];exact j3
   |AX xs=>cases h
section
variable {P:Program} {f:FuncId} {rX:List AV} {p:Bool} {d:Option Nat} {st:iI} {K:List Nat->List Nat->iI->Prop} {du:DU K}
theorem ag2 (st:iI):st.Eo []=st:=by
 apply iI.ext'
 ·rfl
 ·funext b;simp[iI.Eo]
theorem adS {r:AV}(h:iW P f rX r)(hs:JV rX=true)(hr:r.all AC.vC=true)(k:K [] [] (st.yf d (.v true r))):sV P f rX true d st K du:=by obtain⟨h1,h2,h3,h4⟩:=EL (bx:=st.bx) hs;refine sV.pure r rfl (by rw[h1];exact h) h2 (by rw[h1];exact h3) hr ?_;rw[h4,ag2];exact k
theorem aan {r:AV}(h:p=true->iW P f rX r)(hs:JV rX=true)(hr:r.all AC.isLit=true)(k:K [] [] (st.yf d (.v p r))):sV P f rX p d st K du:=by obtain⟨h1,h2,h3,h4⟩:=EL (bx:=st.bx) hs;refine sV.lit r (λe=>by rw[h1];exact h e) (λ_=>h2) (by rw[h1];exact h3) hr ?_;rw[h4];exact k
end
theorem alF (b:Bool):(b==true)=b:=by cases b<;>rfl
theorem alE (b:Bool):(b==false) = !b:=by cases b<;>rfl
end
section
def cI (x:Int):List Cell:=[.lit (.int .i64 x)]
def cU (x:Int):List Cell:=[.lit (.int .u8 x)]
def cK (k:IntKind)(x:Int):List Cell:=[.lit (.int k x)]
def cB (x:Bool):List Cell:=[.lit (.bool x)]
def cS (x:di):List Cell:=[.str x]
def cL {α:Type}(sz:Nat)(f:α->List Cell)(xs:List α):List Cell:=[.sl sz (aP f xs)]
def chk (c:Prop)[Decidable c]{α:Type}(k:Option α):Option α:=if c then k else none
theorem zy {c:Prop}[Decidable c]{α:Type}{k:Option α}{r:α} : chk c k=some r<->c/\k=some r:=by unfold chk;split<;>simp[*]
theorem TA {b:Bool}{α:Type}{x y:Option α}{r:α} : cond b x y=some r<->(b=true/\x=some r)\/(b=false/\y=some r):=by cases b<;>simp
def Ag (xs:List Int):di:=xs.map λx=>fA x.toNat
theorem YC (xs:List Int):bytesOf (aP cU xs)=some (Ag xs):=by
 induction xs with
 |nil=>rfl
 |cons x r ih=>simp[cU,bytesOf,ih,Ag]
theorem WC : bytesOf []=some []:=rfl
theorem WE (n:Int)(r:List (List Cell)):bytesOf ([.lit (.int .u8 n)]::r)=Option.map (λl=>fA n.toNat::l) (bytesOf r):=by simp only[bytesOf];cases bytesOf r<;>rfl
theorem zx (xs:List Int):(Ag xs).length=xs.length:=by simp[Ag]
theorem ab2 {α:Type}[Inhabited α]{f:α->List Cell}{xs:List α}{i:Nat}(h:i<xs.length):(aP f xs).getD i []=f (xs.getD i default):=by simp[h]
theorem take_len {α:Type}{l:List α}{n:Nat}(h:l.length=n):l.take n=l:=by subst h;simp
theorem JZ {α:Type}{x:α}{l:List α}{n:Nat}(h:l.length=n):(x::l).take (1+n)=x::l:=by subst h;rw[uw];simp
theorem J4 {α:Type}{x y:α}{l:List α}{n:Nat}(h:l.length=n):(x::y::l).take (2+n)=x::y::l:=by subst h;rw[uw];simp
def QG (l:List Nat):List (Nat×Box)->List (Nat×Box)
 |[]=>[]
 |(b,x)::r=>(b,if l.contains b then FT x else x)::QG l r
theorem ab1 (l:List Nat)(bs:List (Nat×Box))(b:Nat):pV (QG l bs) b=if b∈l then FT (pV bs b)else pV bs b:=by
 induction bs with
 |nil=>simp[QG,pV,FT]
 | cons p r ih=>
   obtain⟨c,x⟩:=p;simp only[QG,pV,ih];by_cases h:c=b
   ·subst h;simp
   ·simp[h]
theorem aaU (ts:List (Nat×Slot))(bs:List (Nat×Box))(l:List Nat):(iI.of ts bs).Eo l=iI.of ts (QG l bs):=by
 apply iI.ext'
 ·rfl
 ·funext b
  simp only[iI.Eo];rw[Cc,Cc,ab1]
theorem aeh (bs:List (Nat×Box)):QG [] bs=bs:=by
 induction bs with
 |nil=>rfl
 |cons p r ih=>obtain⟨c,x⟩:=p;simp[QG,ih]
def TGK (g:Bool)(o:mG)(d:Option Nat)(st:iI)(K:List Nat->List Nat->iI->Prop)(_:DU o)(_:DU K):Prop:=TOp o g d st K
def ain (valid:Prop)(rd:List Nat)(r:FR)(d:Option Nat)(st:iI)(K:List Nat->List Nat->iI->Prop)(_:DU K):Prop:=
 valid/\r.vc/\K rd (r.sets.map (·.1)) ((st.qo r.sets).yf d (.v true r.v))
section
variable {P:Program} {st:iI} {K:List Nat->List Nat->iI->Prop}
theorem aim {g:Option (Nat×Bool)}{d:Option Nat}{op:mG}{d1:DU (kE.mk g d (.op op))}{d2:DU K} :
 TK P ⟨g,d,.op op⟩ st K d1 d2=(BL st.tm g/\TGK (qf st.tm g) op d st K .mk .mk):=by
 unfold TK T TGK;rfl
theorem aj1 {op:mG}{d:Option Nat}{d1:DU op}{d2:DU K} : TGK true op d st K d1 d2=ain (op.valid (mY.ev st.tm)) (op.rd (dY st.tm)) (op.f (dY st.tm) st.bx) d st K .mk:=by unfold TGK TOp ain;simp
theorem aj0 {op:mG}{d:Option Nat}{d1:DU op}{d2:DU K} : TGK false op d st K d1 d2=K [] [] (st.yf d (.v false (.one .Jj))):=by unfold TGK TOp;simp
theorem aio {valid:Prop}{rd:List Nat}{vc:Prop}{v:AV}{sets:List (Nat×Box)}{d:Option Nat}{du:DU K} :
 ain valid rd ⟨vc,v,sets⟩ d st K du=(valid/\vc/\K rd (sets.map (·.1)) ((st.qo sets).yf d (.v true v))):=rfl
end
section
variable {P:Program} {f:FuncId} {rX:List AV} {d:Option Nat} {st:iI} {K:List Nat->List Nat->iI->Prop} {du:DU K}
theorem ahU {Yv:List AV}{r:AV}(h:iW P f Yv r)(he:rX.map (BB st.bx)=Yv)(hl:xC st.bx rX)(hd:Yv.all (·.all AC.vC)=true)(hr:r.all AC.vC=true)
 (k:K (rX.flatMap AV.owns) (rX.flatMap AV.owns) ((st.Eo (rX.flatMap AV.owns)).yf d (.v true r))):sV P f rX true d st K du:=by
 subst he;exact sV.pure r rfl h hl hd hr k
theorem ahV {Yv:List AV}{r:AV}(h:iW P f Yv r)(he:rX.map (BB st.bx)=Yv)(hl:xC st.bx rX)(hd:Yv.all (·.all AC.vC)=true)(hr:r.all AC.isLit=true)
 (k:K (rX.flatMap AV.owns) [] (st.yf d (.v true r))):sV P f rX true d st K du:=by
 subst he;exact sV.lit r (λ_=>h) (λ_=>hl) hd hr k
theorem adR (k:K (rX.flatMap AV.owns) [] (st.yf d (.v false (.one (.c (.lit (.bool true))))))):sV P f rX false d st K du:=
 IQ.lit [] (.one (.c (.lit (.bool true)))) (λe=>by cases e) rfl (λe=>by cases e) rfl k
def SN (st:iI)(sg:List Nat):List Box->Nat->Prop
 |[],_=>True
 |x::r,i=>st.bx (sg.getD i 0)=BU (λb=>sg.getD b 0) x/\SN st sg r (i+1)
theorem VL {st:iI}{sg:List Nat} : ∀{fp:List Box} {i0 i:Nat},SN st sg fp i0->i<fp.length->st.bx (sg.getD (i0+i) 0)=BU (λb=>sg.getD b 0) (fp.getD i .absent)
 |[],_,_,_,h=>by simp at h
 |x::r,i0,0,h,_=>by simpa using h.1
 | x::r,i0,i+1,h,hi=>by have:=VL (i:=i) h.2 (by simpa using hi);simpa[Nat.add_assoc,uw 1 i]using this
def SB (st:iI):List Nat->Prop
 |[]=>True
 |b::r=>st.bx b = .absent/\10<=b/\SB st r
theorem Vt {st:iI} : ∀{nu:List Nat},SB st nu->∀b,b∈nu->st.bx b = .absent/\10<=b
 |[],_,_,h=>by cases h
 | c::r,h,b,hb=>by
   rcases aO.1 hb with e|e
   ·subst e;exact⟨h.1,h.2.1⟩
   ·exact Vt h.2.2 b e
theorem aj8 {ds:List AV}{fp Em:List Box}{r0:AV}(sg nu:List Nat)(h:oN P f ds fp (λr bs=>r=r0/\bs=Em))(hl:sg.length=fp.length)(hn:nodupB (sg++nu)=true)(hf:SN st (sg++nu) fp 0)(hv:SB st nu)
 (hra:(ds.all λx=>x.all (AC.sW fp.length))=true) (hrf:fp.all (Box.sW fp.length)=true) (ha:rX=ds.map (CJ λb=>(sg++nu).getD b 0)) (hb:Em.length=(sg++nu).length)
 (k:K (sg++nu) (sg++nu) ((st.qo ((sg++nu).zip (Em.map (BU λb=>(sg++nu).getD b 0)))).yf d (.v true (CJ (λb=>(sg++nu).getD b 0) r0)))):sV P f rX true d st K du:=by
 refine IQ.gen rfl ds fp sg nu _ hl (KZ.1 hn) (λi hi=>?_) ⟨r0,Em,rfl,rfl⟩ (Vt hv) hra hrf ha h (λr bs hp=>?_)
 ·have:=VL (i:=i) hf hi;rw[fE]at this;exact this
 ·obtain⟨rfl,rfl⟩:=hp;exact⟨hb,k⟩
end
section
variable {P:Program} {f:FuncId} {rX:List AV} {d:Option Nat} {st:iI} {K:List Nat->List Nat->iI->Prop} {du:DU K}
theorem aj9 {ds:List AV}{fp Em:List Box}{r0:AV}(sg nu:List Nat)(h:oN P f ds fp (λr bs=>r=r0/\bs=Em))(he:rX.map (BB st.bx)=ds.map (CJ λb=>(sg++nu).getD b 0))(hlo:xC st.bx rX)
 (hl:sg.length=fp.length) (hn:nodupB (sg++nu)=true) (hf:SN (st.Eo (rX.flatMap AV.owns)) (sg++nu) fp 0) (hv:SB st nu)
 (hra:(ds.all λx=>x.all (AC.sW fp.length))=true) (hrf:fp.all (Box.sW fp.length)=true) (hb:Em.length=(sg++nu).length)
 (k:K (rX.flatMap AV.owns++(sg++nu)) (rX.flatMap AV.owns++(sg++nu)) (((st.Eo (rX.flatMap AV.owns)).qo ((sg++nu).zip (Em.map (BU λb=>(sg++nu).getD b 0)))).yf d (.v true (CJ (λb=>(sg++nu).getD b 0) r0)))):sV P f rX true d st K du:=by
 refine IQ.O0 rfl _ (Jl hlo) ds fp sg nu _ hl (KZ.1 hn) (λi hi=>?_) ⟨r0,Em,rfl,rfl⟩ (Vt hv) hra hrf he h (λr bs hp=>?_)
 ·have:=VL (i:=i) hf hi;rw[fE]at this;exact this
 ·obtain⟨rfl,rfl⟩:=hp;exact⟨hb,k⟩
end
theorem aeS (EE:List Nat)(log:List (Nat×List Nat×List Nat)):zZ EE [] [] log=true:=by
 induction log with
 |nil=>rfl
 |cons e r ih=>obtain⟨j,a,b⟩:=e;simp[zZ,KO,ih]
theorem aeR (EE rd wr:List Nat):zZ EE rd wr []=true:=rfl
theorem ais (bs:List Box):zX bs=pV (CU bs 0):=by
 funext b
 rw[Jo];simp[zX]
theorem ajn {rs:List vT}{ts:List (Nat×Slot)}{Em:List (Nat×Box)}{m:Nat}{r:AV}{bs:List Box}(zs:List Nat)(pi:List (Nat×Nat))(vs:List Nat)(hk:NY m Em (CU bs 0) pi vs=true)
 (hok:Fg (iI.of ts Em) rs) (hb:RV zs (pV Em) (Sj pi) vs (CU bs 0)) (hv:wkV zs (pV Em) (Sj pi) vs (SH (iI.of ts Em) rs) r) :
 Gi rs m (λr1 b1=>r1=r/\b1=bs) (iI.of ts Em):=by
 refine⟨hok,r,bs,zs,Sj pi,vs,⟨rfl,rfl⟩,?_,?_⟩
 ·rw[La,ais];exact af0 zs pi vs hk hb
 ·rw[La];exact hv
end
theorem VX {x:Int}(h0:0<=x)(h1:x<9223372036854775808):af .i64 x=x:=by simp only[af,Go.IntKind.bits,Go.IntKind.signed];simp;omega
theorem Ku {α:Type}(f:α->List Cell)(k:Nat)(hf:∀t,(f t).length<=k){l:List α}{i j:Nat}{v:List Cell}(hv:v.length<=k):DW k (((aP f l).set i v).getD j [])=[]:=by
 have key:∀(m:List (List Cell)),(∀y,y∈m->y.length<=k)->DW k (m.getD j [])=[]:=by
  intro m hm;apply List.drop_of_length_le;by_cases hj:j<m.length
  ·rw[show m.getD j []=m[j] by simp[bH,hj]];exact hm _ (fU hj)
  ·rw[show m.getD j []=[] by simp[bH,kV (Nat.le_of_not_lt hj)]];simp
 apply key;intro y hy;rcases List.mem_or_eq_of_mem_set hy with h|h
 ·obtain⟨t,_,rfl⟩:=bf.1 h;exact hf t
 ·rw[h];exact hv
theorem aiB {l:List di}{i j:Nat}{x:Cell} : DW 1 (((aP cS l).set i [x]).getD j [])=[]:=Ku cS 1 (λt=>by simp[cS]) nV
section
inductive MA where
 |int (o:Nat)
 |str (o:Nat)
 |sub (o f:Nat)
 deriving DecidableEq
abbrev G7 :=Nat->Option (Nat×Nat×List MA)
inductive Jb where
 |C (f:Nat) (c:Cell) (k:Int) (c':Cell) (k':Int)
 |L (acts:List MA) (es:List (List Cell)) (k:Int) (es':List (List Cell)) (k':Int)
 |E (acts:List MA) (e:List Cell) (k:Int) (e':List Cell) (k':Int)
def inR (k:Int):Prop:=0<=k/\k<4611686018427387904
inductive J9 (mt:G7)(tx:Int->List UInt8):Jb->Prop
 |c {f T sz:Nat} {acts:List MA} {es es':List (List Cell)} {k k':Int} (h:mt f=some (T,sz,acts)) (hk:inR k) (hl:J9 mt tx (.L acts es k es' k')):J9 mt tx (.C f (.sl sz es) k (.sl sz es') k')
 |l0 {acts:List MA} {k:Int} : J9 mt tx (.L acts [] k [] k)
 |l1 {acts:List MA} {e e':List Cell} {es es':List (List Cell)} {k k1 k2:Int} (h:J9 mt tx (.E acts e k e' k1)) (t:J9 mt tx (.L acts es k1 es' k2)):J9 mt tx (.L acts (e::es) k (e'::es') k2)
 |e0 {e:List Cell} {k:Int} : J9 mt tx (.E [] e k e k)
 |ei {o:Nat} {r:List MA} {e e':List Cell} {k k':Int} (hk:inR k) (hk':inR (k+1)) (ho:o<e.length) (h:J9 mt tx (.E r (e.set o (.lit (.int .i64 k))) (k+1) e' k')):J9 mt tx (.E (.int o::r) e k e' k')
 |es {o:Nat} {r:List MA} {e e':List Cell} {k k':Int} (hk:inR k) (hk':inR (k+1)) (ho:o<e.length) (h:J9 mt tx (.E r (e.set o (.str (tx k))) (k+1) e' k')):J9 mt tx (.E (.str o::r) e k e' k')
 |ef {o f:Nat} {r:List MA} {e e':List Cell} {c c1:Cell} {k k1 k2:Int} (hc:e[o]? = some c) (h:J9 mt tx (.C f c k c1 k1)) (t:J9 mt tx (.E r (e.set o c1) k1 e' k2)):J9 mt tx (.E (.sub o f::r) e k e' k2)
def E0 : Gj:=[(0,.arr),(1,.cnt),(5,.idx)]
def stR (P:Program)(CO sz m o:Nat)(sv:SV):Gj->List Oper->Bool
 | env,[x]=>(match x.guard,x.dst,x.op with
   |none,none,.store t (.tmp p) (.tmp v)=>IP P t false 1&&decide (env.look p=some (.ptr o)/\env.look v=some sv/\o<sz)
   |_,_,_=>false)
 | env,x::r=>(match qop P CO sz env x,x.dst with
   |some env',some d=>decide (d<m)&&stR P CO sz m o sv env' r
   |_,_=>false)
 |_,[]=>false
def XW (P:Program)(CO sz m o f:Nat):Gj->List Oper->Bool
 | env,[x,y]=>(match x.guard,x.dst,x.op with
   | none,some d,.call ⟨.value (.func f'),⟨[.tmp v,.tmp c]⟩,_⟩=>decide (f'=f/\env.look v=some (.val o)/\env.look c=some .cnt/\env.look d=none/\d<m/\o<sz)&&zL P f'&&(match y.guard,y.dst,y.op with
     |none,some 1,.assign (.tmp d')=>d'==d
     |_,_,_=>false)
   |_,_,_=>false)
 | env,x::r=>(match qop P CO sz env x,x.dst with
   |some env',some d=>decide (d<m)&&XW P CO sz m o f env' r
   |_,_=>false)
 |_,[]=>false
def Zd (m c:Nat):List Oper->Bool
 | [x,y,z]=>(match x.guard,x.dst,x.op,y.guard,y.dst,y.op with
   | none,some t,.move (.tmp s),none,some t',.binOp .add _ (.tmp u) (.const (.int .i64 1)) _=>s==c&&u==t&&decide (t≠0/\t≠1/\t≠5/\t'≠0/\t'≠1/\t'≠5/\t<m/\t'<m)&&(match z.guard,z.dst,z.op with
     |none,some d,.assign (.tmp s')=>d==c&&s'==t'
     |_,_,_=>false)
   |_,_,_,_,_,_=>false)
 |_=>false
section
variable {P:Program} {CO sz:Nat} {tx:Int->List UInt8} {kb i n c m:Nat} {k:Int}
variable {ops:Array Oper} {Q:Exit->Act->World->Prop} {rest:List Oper} {o:Oper} {a:Act} {w w':World} {v:Value}
theorem ES.base {env:Gj}(h:ES tx sz kb i n c m k env a w)(hb:∀t v,E0.look t=some v->env.look t=some v):ES tx sz kb i n c m k E0 a w:=⟨h.size,h.defers,λt v hv=>h.den t v (hb t v hv)⟩
theorem YX (h1:a.tmps.size=m)(h2:a.defers=[])(h3:a.tmps.getD 0 undef = .slice (some ⟨kb,0,none⟩) n c)(h4:a.tmps.getD 1 undef = .int .i64 k)(h5:a.tmps.getD 5 undef = .int .i64 (i:Int)):ES tx sz kb i n c m k E0 a w:=by
 refine⟨h1,h2,λt v hv=>?_⟩;simp only[E0,Gj.look]at hv;split at hv
 ·rename_i e;simp at e;subst e;cases hv;exact h3
 ·split at hv
  ·rename_i e;simp at e;subst e;cases hv;exact h4
  ·split at hv
   ·rename_i e;simp at e;subst e;cases hv;exact h5
   ·cases hv
theorem ES.arr (h:ES tx sz kb i n c m k E0 a w):a.tmps.getD 0 undef = .slice (some ⟨kb,0,none⟩) n c:=h.den 0 .arr rfl
theorem ES.cnt (h:ES tx sz kb i n c m k E0 a w):a.tmps.getD 1 undef = .int .i64 k:=h.den 1 .cnt rfl
theorem ES.idx (h:ES tx sz kb i n c m k E0 a w):a.tmps.getD 5 undef = .int .i64 (i:Int):=h.den 5 .idx rfl
theorem ahC (t:TypeId)(x:Int)(w:World):(binOp .add t (.int .i64 x) (.int .i64 1)).run P w = .ok (.int .i64 (Go.IntKind.i64.wrap (x+1))) w:=by simp[binOp,Go.Op.intArith]
theorem TL {cc:Nat}{os:List Oper}(hc:Zd m cc os=true)(hs:a.tmps.size=m)(hd:a.defers=[]){x:Int}(hx:a.tmps.getD cc undef = .int .i64 x)(hr:0<=x+1/\x+1<9223372036854775808)(hcc:cc<m)(anM:cc=0\/cc=1\/cc=5)
 (hk:∀a',a'.tmps.size=m->a'.defers=[]->a'.tmps.getD cc undef = .int .i64 (x+1)->(∀t,t≠cc->(t=0\/t=1\/t=5)->a'.tmps.getD t undef=a.tmps.getD t undef)->Q .normal a' w):wpList P ops Q os a w:=by
 unfold Zd at hc;split at hc
 ·rename_i x0 y z;split at hc
  ·rename_i t s t' ty1 u ty2 g1 d1 p1 g2 d2 p2;simp only[ah,aH,aj]at hc;obtain⟨⟨⟨es,eu⟩,q1,q2,q3,q4,q5,q6,q7,q8⟩,hc⟩:=hc;split at hc
   ·rename_i d s' g3 d3 p3;simp only[ah,aH]at hc;obtain⟨ed,es'⟩:=hc;rw[es]at p1;rw[eu]at p2;rw[ed]at d3;rw[es']at p3;have hts:t<a.tmps.size:=(by rw[hs];exact q7);have e1:(a.put (some t) (a.tmps.getD cc undef)).tmps.getD t undef = .int .i64 x:=(by rw[ig hts,hx]);refine qR (v:=a.tmps.getD cc undef) g1 (by unfold execOp;rw[p1];rfl) ?_;rw[d1];refine qR (v:=.int .i64 (x+1)) (w':=w) g2 ?_ ?_
    ·have v1:(a.put (some t) (a.tmps.getD cc undef)).eval (.tmp t) = .int .i64 x:=e1;have hr0:(binOp .add ty1 (.int .i64 x) (.int .i64 1)).run P w = .ok (.int .i64 (x+1)) w:=(by rw[ahC,VX hr.1 hr.2]);have hq:∀v,(eqGuard .add ty1 (.tmp t) (.const (.int .i64 1)) (.int .i64 x) v).run P w = .ok () w:=λv=>BM _ _ _ _ _ _ _ _;have v2:(a.put (some t) (a.tmps.getD cc undef)).eval (.const (.int .i64 1)) = .int .i64 1:=rfl;unfold execOp;rw[p2];simp only[v1,v2,cu,hq,hr0,bu,bM]
    rw[d2];have amd:t'<((a.put (some t) (a.tmps.getD cc undef))).tmps.size:=(by simp[jv,hs];exact q8);have e2:((a.put (some t) (a.tmps.getD cc undef)).put (some t') (.int .i64 (x+1))).tmps.getD t' undef = .int .i64 (x+1):=ig amd;refine qR (v:=.int .i64 (x+1)) (w':=w) g3 (by unfold execOp;rw[p3];exact kZ (λv=>l7 (lQ v) w) e2) ?_;rw[d3];refine hk _ (by simp[jv,hs]) hd (ig (by simp[jv,hs];exact hcc)) (λy hy h3=>?_);have n1:y≠t:=(by rcases h3 with rfl|rfl|rfl<;>first|exact λe=>q1 e.symm|exact λe=>q2 e.symm|exact λe=>q3 e.symm);have n2:y≠t':=(by rcases h3 with rfl|rfl|rfl<;>first|exact λe=>q4 e.symm|exact λe=>q5 e.symm|exact λe=>q6 e.symm);rw[mJ hy,mJ n2,mJ n1]
   ·cases hc
  ·cases hc
 ·cases hc
theorem Ur {oo:Nat}{sv:SV} : ∀{os:List Oper} {env:Gj} {a:Act} {w:World},stR P CO sz m oo sv env os=true->ES tx sz kb i n c m k env a w->(∀t v,E0.look t=some v->env.look t=some v)->i<n->IU P CO tx->0<=k->k<4611686018427387904 ->
 ∀{I0:IH},Tabs P I0->Agree I0 w->∀{cs:Array Value} {e:TypeId},w.heap[kb]? = some (.cells cs e (0,0))->(∀off,off<sz->i*sz+off<cs.size)->(∀x w,sv.den tx sz kb i n c k w x->x.cells = #[x]/\x.oneCell'=true) ->
 (∀a' w1 x,ES tx sz kb i n c m k E0 a' w1->zK w w1 (λ_=>False)->w1.heap[kb]? = some (.cells cs e (0,0))->sv.den tx sz kb i n c k w1 x->oo<sz->Q .normal a' (w1.setRow kb (splice cs.toList (i*sz+oo) [x]).toArray))->wpList P ops Q os a w
 |[],_,_,_,hc,_,_,_,_,_,_,_,_,_,_,_,_,_,_,_=>by simp[stR]at hc
 | [x],env,a,w,hc,h,hb,hi,ht,h0,h1,I0,hT,hA,cs,e,hw,hfit,hone,hk=>by
   simp only[stR]at hc;split at hc
   ·rename_i t p v g1 d1 p1;simp only[ah,aj]at hc;obtain⟨hty,l1,l2,hlt⟩:=hc;have v1:a.eval (.tmp p) = .pointer (some ⟨kb,i*sz+oo,none⟩):=h.den p _ l1;have v2:=h.den v _ l2;obtain⟨o1,o2⟩:=hone _ _ v2;have hst:=MS (P:=P) (off:=i*sz+oo) (v:=a.tmps.getD v undef) hty (by rw[o1];rfl) hw (by have:=hfit oo hlt;omega) (λj u hu=>by
     rw[o1]at hu
     match j with
     |0=>cases hu;exact o2
     |j+1=>simp at hu)
    rw[o1]at hst;have v3:a.eval (.tmp v)=a.tmps.getD v undef:=rfl;refine step_skip (w':=w.setRow kb (splice cs.toList (i*sz+oo) [a.tmps.getD v undef]).toArray) g1 (by simp only[execOp,p1,v1,v3,cu,hst,bu,bM]) ?_;rw[d1];exact hk _ w _ (h.base hb) (zK.refl _ _) hw v2 hlt
   ·cases hc
 | x::y::r,env,a,w,hc,h,hb,hi,ht,h0,h1,I0,hT,hA,cs,e,hw,hfit,hone,hk=>by
   simp only[stR]at hc;split at hc
   ·rename_i env' d hq hd;simp only[ah,aj]at hc;have hkb:kb<w.heap.size:=xB hw;refine Ud hq (λd' hd'=>by rw[hd]at hd';cases hd';exact hc.1) h hi ht h0 h1 hT hA hkb (λoff ho=>?_) (λa' w1 h' hF=>?_)
    ·exact⟨cs[i*sz+off]'(hfit off ho),by simp only[iy,hw];simp[hfit off ho]⟩
    ·refine Ur hc.2 h' (λt v hv=>XJ hq (hb t v hv)) hi ht h0 h1 hT (hA.other λk' c' hc'=>hF.block k' (hA.lt hc') λh=>h) (by rw[hF.block kb hkb (λh=>h)];exact hw) hfit hone (λa2 w2 x h2 hF2=>hk a2 w2 x h2 (hF.trans hF2 λ_ _ h=>h))
   ·cases hc
theorem RF {oo f:Nat} : ∀{os:List Oper} {env:Gj} {a:Act} {w:World},XW P CO sz m oo f env os=true->ES tx sz kb i n c m k env a w->(∀t v,E0.look t=some v->env.look t=some v)->i<n->IU P CO tx->0<=k->k<4611686018427387904 ->
 ∀{I0:IH},Tabs P I0->Agree I0 w->∀{cs:Array Value} {e:TypeId},w.heap[kb]? = some (.cells cs e (0,0))->(∀off,off<sz->i*sz+off<cs.size)->5<m->∀{k1:Int} {R:World->World->Prop},
 (∀w1 x,zK w w1 (λ_=>False)->cs[i*sz+oo]? = some x->oo<sz->Calls P f #[x,.int .i64 k] w1 λe w'=>e = .returned (.int .i64 k1)/\R w1 w') ->
 (∀a' w1 w',ES tx sz kb i n c m k1 E0 a' w'->zK w w1 (λ_=>False)->R w1 w'->Q .normal a' w')->wpList P ops Q os a w
 |[],_,_,_,hc,_,_,_,_,_,_,_,_,_,_,_,_,_,_,_,_,_,_=>by simp[XW]at hc
 | [x],env,a,w,hc,_,_,_,_,_,_,_,_,_,_,_,_,_,_,_,_,_,_=>by
   simp only[XW]at hc;split at hc
   ·simp at hc
   ·cases hc
 | [x,y],env,a,w,hc,h,hb,hi,ht,h0,h1,I0,hT,hA,cs,e,hw,hfit,hm5,k1,R,hcall,hk=>by
   simp only[XW]at hc;split at hc
   ·rename_i d f' v cc ts g1 d1 p1;simp only[ah,aj]at hc;obtain⟨⟨⟨rfl,l1,l2,l3,l4,l5⟩,hok⟩,hc⟩:=hc;split at hc
    ·rename_i d' g2 d2 p2;simp only[aH]at hc;subst hc;have v1:=h.den v _ l1;have v2:a.eval (.tmp cc) = .int .i64 k:=h.den cc _ l2;have hx:cs[i*sz+oo]? = some (a.tmps.getD v undef):=by
      simp only[SV.den,iy,hw]at v1;simpa using v1
     have he:=D7 (w:=w) (a:=a) p1 (f:=f') (x:=.func f') (caps:= #[]) rfl hok;have v3:a.eval (.tmp v)=a.tmps.getD v undef:=rfl;refine JW g1 (f:=f') (args:= #[a.tmps.getD v undef,.int .i64 k]) (by simpa[v2,v3]using he) ((hcall w _ (zK.refl _ _) hx l5).mono ?_);rintro e w' ⟨rfl,hR⟩;refine⟨_,rfl,?_⟩;rw[d1];have e2:(a.put (some d') (.int .i64 k1)).tmps.getD d' undef = .int .i64 k1:=ig (by rw[h.size];exact l4);refine qR (v:=.int .i64 k1) (w':=w') g2 (by unfold execOp;rw[p2];exact kZ (λv=>l7 (lQ v) w') e2) ?_;rw[d2];have hb0:=h.base hb;have nd:∀{t v},env.look t=some v->t≠d':=λht e=>(by subst e;rw[l3]at ht;cases ht);refine hk _ w w' (YX (by simp[jv,h.size]) h.defers ?_ (ig (by simp[jv,h.size];omega)) ?_) (zK.refl _ _) hR
     ·rw[mJ aI,mJ (nd (hb 0 .arr rfl))];exact hb0.arr
     ·rw[mJ aI,mJ (nd (hb 5 .idx rfl))];exact hb0.idx
    ·cases hc
   ·cases hc
 | x::y::z::r,env,a,w,hc,h,hb,hi,ht,h0,h1,I0,hT,hA,cs,e,hw,hfit,hm5,k1,R,hcall,hk=>by
   simp only[XW]at hc;split at hc
   ·rename_i env' d hq hd;simp only[ah,aj]at hc;have hkb:kb<w.heap.size:=xB hw;refine Ud hq (λd' hd'=>by rw[hd]at hd';cases hd';exact hc.1) h hi ht h0 h1 hT hA hkb (λoff ho=>?_) (λa' w1 h' hF=>?_)
    ·exact⟨cs[i*sz+off]'(hfit off ho),by simp only[iy,hw];simp[hfit off ho]⟩
    ·exact RF hc.2 h' (λt v hv=>XJ hq (hb t v hv)) hi ht h0 h1 hT (hA.other λk' c' hc'=>hF.block k' (hA.lt hc') λh=>h) (by rw[hF.block kb hkb (λh=>h)];exact hw) hfit hm5
      (λw2 x hF2=>hcall w2 x (hF.trans hF2 λ_ _ h=>h)) (λa2 w2 w3 h2 hF2=>hk a2 w2 w3 h2 (hF.trans hF2 λ_ _ h=>h))
   ·cases hc
end
end
section
def Ap (P:Program)(Q:Exit->Act->World->Prop):List (Array Oper)->Act->World->Prop
 |[]=>Q .normal
 |ops::r=>λa w=>wpList P ops (Exit.then (Ap P Q r) Q) ops.toList a w
def Ri : Code->Option (List (Array Oper))
 |.region _ ops false=>some [ops]
 |.seq (.region _ ops false) c=>(Ri c).map (ops :: ·)
 |_=>none
theorem ahv {P:Program}{Q:Exit->Act->World->Prop} : ∀{c:Code} {L:List (Array Oper)} {a:Act} {w:World},Ri c=some L->Ap P Q L a w->c.wp P Q a w:=by
 intro c L a w hc h
 fun_induction Ri c generalizing L a w with
 | case1 id ops=>cases hc;have e:Exit.then (Q .normal) Q=Q:=(by funext e;cases e<;>rfl);simp only[Ap,e]at h;exact wp_region_list h
 | case2 id ops c ih=>
   simp only[bY]at hc;obtain⟨L',hL,rfl⟩:=hc;simp only[Ap]at h;refine wp_seq (wp_mono (wp_region_list h) ?_);intro e a w hq;cases e with
   |normal=>exact ih hL hq
   |_=>exact hq
 |case3=>cases hc
def OZ (P:Program)(CO:Nat)(mt:G7)(T sz m:Nat):List MA->List (Array Oper)->Bool
 |[],[]=>true
 |.int o::r,x::y::rs=>stR P CO sz m o .cnt E0 x.toList&&Zd m 1 y.toList&&((nP P T).all λe=>e.1 != o)&&OZ P CO mt T sz m r rs
 |.str o::r,x::y::rs=>stR P CO sz m o .txt E0 x.toList&&Zd m 1 y.toList&&((nP P T).all λe=>e.1 != o)&&OZ P CO mt T sz m r rs
 | .sub o f::r,x::rs=>XW P CO sz m o f E0 x.toList&&(match mt f with
   |some (T',_,_)=>(nP P T).contains (o,T')&&(nP P T).all λe=>e.1 != o||e.2==T'
   |none=>false)&&OZ P CO mt T sz m r rs
 |_,_=>false
structure EX (P:Program)(g:Own)(I0 I:IH)(w:World)(T:Nat)(q:wL)(kb n cap sz:Nat)(es:List (List Cell)):Prop where
 good:Good P g w
 tabs:Tabs P I0
 Ox:Agree I0 w
 old:∀b c,I0 b=some c->g b=none
 ag:Agree I w
 at':g.at kb n T q
 root:KF g q
 rd:Rd I (.slice (some ⟨kb,0,none⟩) n cap) (.sl sz es)
 ty:PU P T (.sl sz es)
structure Post (P:Program)(g:Own)(I:IH)(w:World)(q:wL)(u:Value)(T:Nat)(c':Cell)(w':World):Prop where
 good:Good P g w'
 Aj:zK w w' (Under g q)
 rd:∃J,Agree J w'/\(∀b,¬Under g q b->J b=I b)/\Rd J u c'
 ty:PU P T c'
def adF (P:Program)(mt:G7)(f:Nat)(c:Cell)(k:Int)(c':Cell)(k':Int):Prop:=∀(g:Own) (I0 I:IH) (w:World) (T:Nat) (q:wL) (u:Value),(∃sz acts,mt f=some (T,sz,acts))->Good P g w->Tabs P I0->Agree I0 w->(∀b c,I0 b=some c->g b=none)->Agree I w ->
 GR g u T q->KF g q->Rd I u c->PU P T c->Calls P f #[u,.int .i64 k] w λe w'=>e = .returned (.int .i64 k')/\Post P g I w q u T c' w'
section
variable {P:Program} {g:Own} {I0 I J:IH} {w w':World} {T kb n cap sz i o:Nat} {q:wL} {es:List (List Cell)}
theorem Agree.quiet (h:Agree I w)(hF:zK w w' λ_=>False):Agree I w':=h.other λk' c' hc'=>hF.block k' (h.lt hc') λh=>h
theorem Good.quiet (h:Good P g w)(hF:zK w w' λ_=>False):Good P g w':=h.world λk hk=>by
 cases hx:g k with
 |none=>exact aY hx hk
 |some B=>exact hF.block k (h.lt hx) λh=>h
theorem EX.quiet (h:EX P g I0 I w T q kb n cap sz es)(hF:zK w w' λ_=>False):EX P g I0 I w' T q kb n cap sz es:=
 { h with good:=h.good.quiet hF,Ox:=h.Ox.quiet hF,ag:=h.ag.quiet hF }
theorem EX.row (h:EX P g I0 I w T q kb n cap sz es)(hi:i<n):∃cs e,w.heap[kb]? = some (.cells cs e (0,0))/\(0<sz->I kb=some cs)/\(∀off,off<sz->i*sz+off<cs.size)/\(∀off,off<sz->∃u,cs[i*sz+off]? = some u/\∀c,(es.getD i [])[off]? = some c->Rd I u c):=by
 obtain⟨cs,e,hw,_⟩:=h.good.arr _ _ _ h.at'.1;have hrd:=h.rd;cases hrd with
 |sl _ _ _ _ _ u hlen hcap hmax hsz ha hcl hr=>
 have hI:∀off,off<sz->∃row,I kb=some row/\row[i*sz+off]? = some (u i off):=λoff ho=>by
  have h0:=hcl _ rfl i off hi ho;rw[Addr.o9,fE]at h0;unfold IH.cell at h0;simp only[xO,nH,if_false]at h0;cases hx:I kb with
  |none=>rw[hx]at h0;cases h0
  |some row=>rw[hx]at h0;exact⟨row,rfl,h0⟩
 have hrow:∀row,I kb=some row->row=cs:=λrow hx=>by obtain⟨e',fr',hw'⟩:=h.ag kb row hx;rw[hw]at hw';cases hw';rfl
 refine⟨cs,e,hw,λhs=>?_,λoff ho=>?_,λoff ho=>?_⟩
 ·obtain⟨row,h1,_⟩:=hI 0 hs;rw[h1,hrow row h1]
 ·obtain⟨row,h1,h2⟩:=hI off ho;rw[hrow row h1]at h2;exact(dm.1 h2).1
 ·obtain⟨row,h1,h2⟩:=hI off ho;rw[hrow row h1]at h2;exact⟨_,h2,λc hc=>hr i off c hc⟩
theorem NP {α:Type}{es:List (List α)}{i i':Nat}{x:List α}(hi:i<es.length):(es.set i x).getD i' []=if i'=i then x else es.getD i' []:=by
 simp only[fZ,o5];by_cases e:i=i'
 ·subst e;simp[hi]
 ·rw[ai e,ai (λh=>e h.symm)]
theorem PU.set {c':Cell}{T':Nat}(h:PU P T (.sl sz es))(hi:i<es.length)(hc:∀sz' es',c' = .sl sz' es'->(o,T')∈nP P T/\PU P T' c')(hu:∀T2,(o,T2)∈nP P T->T2=T'):PU P T (.sl sz (es.set i ((es.getD i []).set o c'))):=by
 cases h with
 |sl _ _ _ t hs h1 h2=>
 have hget:∀i' j' x,((es.set i ((es.getD i []).set o c')).getD i' [])[j']? = some x->(i'=i/\j'=o/\x=c')\/(es.getD i' [])[j']? = some x:=by
  intro i' j' x hx;rw[NP hi]at hx;by_cases e:i'=i
  ·rw[aF e,o5]at hx;split at hx
   ·rename_i e2;split at hx
    ·cases hx;exact .inl ⟨e,e2.symm,rfl⟩
    ·cases hx
   ·right;rw[e];exact hx
  ·rw[ai e]at hx;exact .inr hx
 refine .sl _ _ _ (λy=>if y=o then T' else t y) hs (λi' j' sz' es' hx=>?_) (λi' j' sz' es' hx=>?_)
 ·rcases hget _ _ _ hx with⟨_,e2,e3⟩|h3
  ·rw[aF e2,e2];exact(hc _ _ e3.symm).1
  ·have:=h1 _ _ _ _ h3;by_cases e:j'=o
   ·subst e;rw[aF rfl,<- hu _ this];exact this
   ·rw[ai e];exact this
 ·rcases hget _ _ _ hx with⟨_,e2,e3⟩|h3
  ·rw[aF e2,e3];exact(hc _ _ e3.symm).2
  ·have:=h2 _ _ _ _ h3;by_cases e:j'=o
   ·subst e;rw[aF rfl,<- hu _ (h1 _ _ _ _ h3)];exact this
   ·rw[ai e];exact this
theorem EX.store (h:EX P g I0 I w T q kb n cap sz es)(hi:i<n)(ho:o<sz)(hno:((nP P T).all λe=>e.1 != o)=true){x:Value}{c':Cell}(h1:x.cells = #[x])(hx:∀J,Rd J x c')(hc':∀sz' es',c' ≠ .sl sz' es'){cs:Array Value}{e:TypeId}(hw:w.heap[kb]? = some (.cells cs e (0,0))) :
 ∃J,EX P g I0 J (w.setRow kb (splice cs.toList (i*sz+o) [x]).toArray) T q kb n cap sz (es.set i ((es.getD i []).set o c'))/\zK w (w.setRow kb (splice cs.toList (i*sz+o) [x]).toArray) (Under g q)/\∀b,¬Under g q b->J b=I b:=by
 obtain⟨cs',e',hw',hI,hfit,hcell⟩:=h.row hi;rw[hw]at hw';cases hw';have hIk:=hI aI;have hf:=hfit o ho;have anY:es.length=n:=by have:=h.rd;cases this with|sl _ _ _ _ _ u hlen _ _ _ _ _ _=>exact hlen
 have hnew:=setRow_heap w kb cs (splice cs.toList (i*sz+o) [x]).toArray e (0,0) hw;have hsp:∀j,(splice cs.toList (i*sz+o) [x]).toArray[j]? = if j=i*sz+o then some x else cs[j]?:= λj=>by
  have:=Fj (cs:=cs) (off:=i*sz+o) (vs:= #[x]) (by simp;omega) j;rw[this];by_cases e1:j=i*sz+o
  ·subst e1;simp
  ·rw[ai e1];by_cases e2:j<i*sz+o
   ·rw[aF e2]
   ·rw[ai e2,ai (by simp;omega)]
 have hsize:kb<w.heap.size:=xB hw;obtain⟨d,m,hkd⟩:=h.root.under (.here h.at'.1)
 let J:IH:=λb=>if b=kb then some (splice cs.toList (i*sz+o) [x]).toArray else I b
 have hJ:∀b,b≠kb->J b=I b:=λb hb=>ai hb;have al2:zK w (w.setRow kb (splice cs.toList (i*sz+o) [x]).toArray) (Under g q):=⟨rfl,rfl,rfl,by rw[setRow_size];exact ak _,λb _ hb=>DN w _ (λe=>hb (e ▸ .here h.at'.1))⟩;refine⟨J,{ good:=?_,tabs:=h.tabs,Ox:=?_,old:=h.old,ag:=?_,at':=h.at',root:=h.root,rd:=?_,ty:=?_ },al2,λb hb=>hJ b (λe=>hb (e ▸ .here h.at'.1))⟩
 ·refine(OW.VK (F:=FV) (dp:=0) (Γ :=[]) (a:=⟨#[],[]⟩) ⟨h.good,λf hf=>by cases hf⟩ hw λB hB=>?_).good;rw[h.at'.1]at hB;cases hB;refine⟨_,_,rfl,λj u T' hj hu ht=>?_⟩;rw[hsp]at hu;obtain⟨cs2,e2,hw2,hown⟩:=h.good.arr _ _ _ h.at'.1;rw[hw]at hw2;cases hw2;split at hu
  ·rename_i e1;subst e1;have hs:vw P T=sz:=by
    have:=h.ty;cases this with|sl _ _ _ t hs _ _=>exact hs
   rw[hs,HY ho]at ht;have:=aN.1 hno _ ht;simp at this
  ·exact hown j u T' hj hu ht
 ·exact h.Ox.other λb c hb=>DN w _ (λe=>by subst e;have:=h.old _ _ hb;rw[h.at'.1]at this;cases this)
 ·intro b c hb;by_cases e1:b=kb
  ·subst e1;simp only[J,kN]at hb;cases hb;exact⟨e,(0,0),hnew⟩
  ·rw[hJ b e1]at hb;obtain⟨e2,fr,h2⟩:=h.ag b c hb;exact⟨e2,fr,by rw[DN w _ e1];exact h2⟩
 ·refine h.rd.upd h.good h.ag h.at' h.root h.ty hi ho (u':=x) (c':=c') (λy=>?_) (λy b hy hb=>hJ b (λe1=>?_)) (hx J)
  ·unfold IH.cell;simp only[xO,nH,if_false,J,kN,hIk];exact hsp y
  ·subst e1;exact hkd.irrefl _ hb
 ·exact h.ty.set (T':=0) aI (λsz' es' e1=>aY e1 (hc' _ _)) (λT2 h2=>by have:=aN.1 hno _ h2;simp at this)
end
end
section
section
variable {P:Program} {g:Own} {I0 I J:IH} {w w':World} {T kb n cap sz i o:Nat} {q:wL} {es:List (List Cell)}
theorem EX.len (h:EX P g I0 I w T q kb n cap sz es):es.length=n/\vw P T=sz:=by have h1:=h.rd;have h2:=h.ty;cases h1 with|sl _ _ _ _ _ u hlen _ _ _ _ _ _=>cases h2 with|sl _ _ _ t hs _ _=>exact⟨hlen,hs⟩
theorem EX.child (h:EX P g I0 I w T q kb n cap sz es)(hi:i<n)(ho:o<sz){cs:Array Value}{e:TypeId}(hw:w.heap[kb]? = some (.cells cs e (0,0))){x:Value}(hx:cs[i*sz+o]? = some x){T' sz':Nat}{es':List (List Cell)}(hc:(es.getD i [])[o]? = some (.sl sz' es'))(ht:(o,T')∈nP P T)(hu:∀T2,(o,T2)∈nP P T->T2=T') :
 GR g x T' (.blk kb (i*sz+o))/\KF g (.blk kb (i*sz+o))/\Rd I x (.sl sz' es')/\PU P T' (.sl sz' es'):=by
 obtain⟨cs',e',hw',hI,hfit,hcell⟩:=h.row hi;rw[hw]at hw';cases hw';obtain⟨u,h1,h2⟩:=hcell o ho;rw[hx]at h1;cases h1;obtain⟨d,m,hkd⟩:=h.root.under (.here h.at'.1);refine⟨P9 h.good h.ag h.at' h.len.2 hi ho ?_ ht,.inr ⟨kb,_,d,m,rfl,hkd⟩,h2 _ hc,?_⟩
 ·rw[Addr.o9,fE];unfold IH.cell;simp only[xO,nH,if_false,hI aI];exact hx
 ·have h3:=h.ty;cases h3 with
  |sl _ _ _ t hs t1 t2=>
  have:=t2 _ _ _ _ hc
  rwa[hu _ (t1 _ _ _ _ hc)]at this
theorem EX.after (h:EX P g I0 I w T q kb n cap sz es)(hi:i<n)(ho:o<sz){cs:Array Value}{e:TypeId}(hw:w.heap[kb]? = some (.cells cs e (0,0))){x:Value}(hx:cs[i*sz+o]? = some x){T':Nat}{c1:Cell}(ht:(o,T')∈nP P T)(hu:∀T2,(o,T2)∈nP P T->T2=T')
 (hp:Post P g I w (.blk kb (i*sz+o)) x T' c1 w'):∃J,EX P g I0 J w' T q kb n cap sz (es.set i ((es.getD i []).set o c1))/\zK w w' (Under g q)/\∀b,¬Under g q b->J b=I b:=by
 obtain⟨hg',hF,⟨J,j1,j2,j3⟩,hty⟩:=hp;obtain⟨cs',e',hw',hI,hfit,hcell⟩:=h.row hi;rw[hw]at hw';cases hw';have hIk:=hI aI;have hl:=h.len;obtain⟨d,m,hkd⟩:=h.root.under (.here h.at'.1);have hup:∀{b},Under g (.blk kb (i*sz+o)) b->Under g q b:=λhb=>hb.trans (.here h.at'.1);have hJk:J kb=I kb:=j2 kb (hkd.irrefl _);refine⟨J,{ good:=hg',tabs:=h.tabs,Ox:=?_,old:=h.old,ag:=j1,at':=h.at',root:=h.root,rd:=?_,ty:=?_ },⟨hF.os,hF.tape,hF.output,hF.size,λb hb hn=>hF.block b hb λhx=>hn (hup hx)⟩,λb hb=>j2 b λhx=>hb (hup hx)⟩
 ·exact h.Ox.other λb c hb=>hF.block b (h.Ox.lt hb) λhx=>by obtain⟨T2,p,h2⟩:=hx.owned;have:=h.old b c hb;rw[h2]at this;cases this
 ·refine h.rd.upd h.good h.ag h.at' h.root h.ty hi ho (u':=x) (c':=c1) (λy=>?_) (λy b hy hb=>j2 b λhx=>hy (hkd.afu hb hx)) j3;unfold IH.cell;simp only[xO,nH,if_false,hJk,hIk];split
  ·rename_i e1;subst e1;exact hx
  ·rfl
 ·exact h.ty.set (T':=T') aI (λsz' es' e1=>⟨ht,hty⟩) hu
end
def PS (P:Program)(CO:Nat)(mt:G7)(tx:Int->List UInt8)(acts:List MA)(e:List Cell)(k:Int)(e':List Cell)(k':Int):Prop:=
 ∀ {T sz m:Nat} {rs:List (Array Oper)},OZ P CO mt T sz m acts rs=true->∀{g:Own} {I0 I:IH} {w:World} {q:wL} {kb n cap:Nat} {es:List (List Cell)} {i:Nat} {a:Act} {Q:Exit->Act->World->Prop},
   EX P g I0 I w T q kb n cap sz es->i<n->es.getD i []=e->5<m->IU P CO tx->ES tx sz kb i n cap m k E0 a w ->
   (∀a' w' J,ES tx sz kb i n cap m k' E0 a' w'->EX P g I0 J w' T q kb n cap sz (es.set i e')->zK w w' (Under g q)->(∀b,¬Under g q b->J b=I b)->Q .normal a' w')->Ap P Q rs a w
section
variable {P:Program} {CO:Nat} {mt:G7} {tx:Int->List UInt8} {r:List MA} {e e':List Cell} {k k':Int} {o:Nat}
theorem zK.any {w w':World}{M:Nat->Prop}(h:zK w w' λ_=>False):zK w w' M:=⟨h.os,h.tape,h.output,h.size,λk hk _=>h.block k hk λh=>h⟩
theorem set_self {α:Type}{es:List (List α)}{i:Nat}(hi:i<es.length):es.set i (es.getD i [])=es:=by
 apply List.ext_getElem?;intro j;rw[o5];split
 ·rename_i e1;subst e1;rw[fZ,aA hi];simp
 ·rfl
theorem akd : PS P CO mt tx [] e k e k:=by
 intro T sz m rs hc g I0 I w q kb n cap es i a Q hE hi he hm ht hs hk;cases rs with
 |cons _ _=>simp[OZ]at hc
 | nil=>refine hk a w I hs ?_ ⟨rfl,rfl,rfl,ak _,λ_ _ _=>rfl⟩ λb _=>rfl;rw[<- he,set_self (by rw[hE.len.1];exact hi)];exact hE
theorem aaw {sv:SV}{c':Cell}{x0:Value}(h1:x0.cells = #[x0])(hone:x0.oneCell'=true)(hx:∀J,(tx k).length<=maxLen->Rd J x0 c')(hc':∀sz' es',c' ≠ .sl sz' es')(hk:inR k)(hk':inR (k+1))
 (hden:∀{sz kb i n c:Nat} {w:World} {x:Value},sv.den tx sz kb i n c k w x->x=x0/\(sv = .txt->(tx k).length<=maxLen)) (htx:sv ≠ .txt->∀J,Rd J x0 c')
 (ih:PS P CO mt tx r (e.set o c') (k+1) e' k') {T sz m:Nat} {x y:Array Oper} {rs:List (Array Oper)} (s1:stR P CO sz m o sv E0 x.toList=true) (s2:Zd m 1 y.toList=true) (s3:((nP P T).all λe=>e.1 != o)=true) (s4:OZ P CO mt T sz m r rs=true)
 {g:Own} {I0 I:IH} {w:World} {q:wL} {kb n cap:Nat} {es:List (List Cell)} {i:Nat} {a:Act} {Q:Exit->Act->World->Prop} (hE:EX P g I0 I w T q kb n cap sz es) (hi:i<n) (he:es.getD i []=e) (hm:5<m) (ht:IU P CO tx) (hs:ES tx sz kb i n cap m k E0 a w)
 (hK:∀a' w' J,ES tx sz kb i n cap m k' E0 a' w'->EX P g I0 J w' T q kb n cap sz (es.set i e')->zK w w' (Under g q)->(∀b,¬Under g q b->J b=I b)->Q .normal a' w'):Ap P Q (x::y::rs) a w:=by
 obtain⟨cs,ty,hw,_,hfit,_⟩:=hE.row hi;refine Ur (Q:=Exit.then (Ap P Q (y::rs)) Q) s1 hs (λ_ _ h=>h) hi ht hk.1 hk.2 hE.tabs hE.Ox hw hfit (λx w hd=>by rw[(hden hd).1];exact⟨h1,hone⟩) (λa' w1 x hs' hF hw1 hd ho=>?_);obtain⟨rfl,hl⟩:=hden hd;have hrd:∀J,Rd J x c':=λJ=>by
  by_cases hsv:sv = .txt
  ·exact hx J (hl hsv)
  ·exact htx hsv J
 obtain⟨J,hE2,hF2,hJ⟩:=(hE.quiet hF).store hi ho s3 h1 hrd hc' hw1;show wpList P y (Exit.then (Ap P Q rs) Q) y.toList a' _;refine TL s2 hs'.size hs'.defers hs'.cnt ⟨hk'.1,by have:=hk'.2;omega⟩ aI (.inr (.inl rfl)) (λa2 b1 b2 b3 b4=>?_);show Ap P Q rs a2 _;have hs2:ES tx sz kb i n cap m (k+1) E0 a2 (w1.setRow kb (splice cs.toList (i*sz+o) [x]).toArray):=YX b1 b2 (by rw[b4 0 aI (.inl rfl)];exact hs'.arr) b3 (by rw[b4 5 aI (.inr (.inr rfl))];exact hs'.idx);refine ih s4 hE2 hi ?_ hm ht hs2 (λa3 w3 J3 hs3 hE3 hF3 hJ3=>?_)
 ·rw[NP (by rw[hE.len.1];exact hi),aF rfl,he]
 ·rw[List.set_set]at hE3;exact hK a3 w3 J3 hs3 hE3 ((hF.any.trans hF2 λ_ _ h=>h).trans hF3 λ_ _ h=>h) (λb hb=>(hJ3 b hb).trans (hJ b hb))
theorem ake {f:Nat}{c c1:Cell}{k1 k2:Int}(hc0:e[o]? = some c)(hsl:∃sz es,c = .sl sz es)(hk:inR k)(hC:adF P mt f c k c1 k1)(ih:PS P CO mt tx r (e.set o c1) k1 e' k2){T sz m:Nat}{x:Array Oper}{rs:List (Array Oper)}(s1:XW P CO sz m o f E0 x.toList=true)
 {T':Nat} (hmt:∃sz acts,mt f=some (T',sz,acts)) (hin:(o,T')∈nP P T) (hu:∀T2,(o,T2)∈nP P T->T2=T') (s4:OZ P CO mt T sz m r rs=true)
 {g:Own} {I0 I:IH} {w:World} {q:wL} {kb n cap:Nat} {es:List (List Cell)} {i:Nat} {a:Act} {Q:Exit->Act->World->Prop} (hE:EX P g I0 I w T q kb n cap sz es) (hi:i<n) (he:es.getD i []=e) (hm:5<m) (ht:IU P CO tx) (hs:ES tx sz kb i n cap m k E0 a w)
 (hK:∀a' w' J,ES tx sz kb i n cap m k2 E0 a' w'->EX P g I0 J w' T q kb n cap sz (es.set i e')->zK w w' (Under g q)->(∀b,¬Under g q b->J b=I b)->Q .normal a' w'):Ap P Q (x::rs) a w:=by
 obtain⟨cs,ty,hw,_,hfit,_⟩:=hE.row hi;obtain⟨sz',es',rfl⟩:=hsl;refine RF (Q:=Exit.then (Ap P Q rs) Q) s1 hs (λ_ _ h=>h) hi ht hk.1 hk.2 hE.tabs hE.Ox hw hfit hm (k1:=k1) (R:=λw1 w'=>∃J,EX P g I0 J w' T q kb n cap sz (es.set i ((es.getD i []).set o c1))/\zK w1 w' (Under g q)/\∀b,¬Under g q b->J b=I b) (λw1 x hF hx ho=>?_) (λa' w1 w' hs' hF hR=>?_)
 ·have hE1:=hE.quiet hF;have hw1:w1.heap[kb]? = some (.cells cs ty (0,0)):=by rw[hF.block kb (xB hw) λh=>h];exact hw
  obtain⟨g1,g2,g3,g4⟩:=hE1.child hi ho hw1 hx (by rw[he];exact hc0) hin hu;refine(hC g I0 I w1 T' _ x hmt hE1.good hE1.tabs hE1.Ox hE1.old hE1.ag g1 g2 g3 g4).mono ?_;rintro e w' ⟨rfl,hp⟩;exact⟨rfl,hE1.after hi ho hw1 hx hin hu hp⟩
 ·obtain⟨J,hE2,hF2,hJ⟩:=hR;show Ap P Q rs a' w';refine ih s4 hE2 hi ?_ hm ht hs' (λa3 w3 J3 hs3 hE3 hF3 hJ3=>?_)
  ·rw[NP (by rw[hE.len.1];exact hi),aF rfl,he]
  ·rw[List.set_set]at hE3;exact hK a3 w3 J3 hs3 hE3 ((hF.any.trans hF2 λ_ _ h=>h).trans hF3 λ_ _ h=>h) (λb hb=>(hJ3 b hb).trans (hJ b hb))
end
def abO (P:Program)(CO:Nat)(mt:G7)(f:Nat):Bool:=match mt f,P.funcs[f]? with
 | some (T,sz,acts),some fn=>(match fn.body with
   | some (.seq (.region _ r0 false) (.seq (.seq (.region _ r1 false) (.block b0 (.loop (.seq (.seq (.region _ r2 false) (.cond (.tmp c) .skip (.exit b0'))) (.seq (.block b1 body) (.region _ r3 false)))))) (.seq (.region _ r4 false) .ret)))=>
     (match r0.toList,r1.toList,r2.toList,r4.toList with
     | [x0],[x1],[y1,y2,y3,y4],[z1,z2]=>
       (match x0.guard,x0.dst,x0.op,x1.guard,x1.dst,x1.op with
        |none,some 4,.assign (.const (.int .i64 0)),none,some 5,.assign (.const (.int .i64 0))=>true
        |_,_,_,_,_,_=>false) &&
       (match y1.guard,y1.dst,y1.op,y2.guard,y2.dst,y2.op with
        | none,some t1,.move (.tmp 5),none,some t2,.move (.tmp 0)=>decide (5<t1/\5<t2/\t1≠t2/\t1<fn.ntmps/\t2<fn.ntmps)&&(match y3.guard,y3.dst,y3.op,y4.guard,y4.dst,y4.op with
          |none,some t3,.call ⟨.builtin .len,⟨[.tmp t2']⟩,⟨[ts]⟩⟩,none,some t4,.binOp .lss _ (.tmp t1') (.tmp t3') _=>(match P.underlying ts with|some (.slice _)=>true|_=>false)&&t1'==t1&&t2'==t2&&t3'==t3&&t4==c&&decide (5<t3/\t3≠t1/\t3≠t2/\5<t4/\t3<fn.ntmps/\t4<fn.ntmps)
          |_,_,_,_,_,_=>false)
        |_,_,_,_,_,_=>false) &&
       (match z1.guard,z1.dst,z1.op,z2.guard,z2.dst,z2.op with
        |none,some t,.move (.tmp 1),none,some 4,.assign (.tmp t')=>t'==t&&decide (t<fn.ntmps)
        |_,_,_,_,_,_=>false)
     | _,_,_,_=>false)&&b0'==b0&&Zd fn.ntmps 5 r3.toList&&(match Ri body with
       |some rs=>OZ P CO mt T sz fn.ntmps acts rs
       |none=>false)&&decide (5<fn.ntmps)&&(match fn.results.toList with
       |[.tmp 4]=>true
       |_=>false)
   |_=>false)
 |_,_=>false
end
section
structure BS (u:Value)(i:Nat)(k:Int)(m:Nat)(a:Act):Prop where
 size:a.tmps.size=m
 defers:a.defers=[]
 arr:a.tmps.getD 0 undef=u
 cnt:a.tmps.getD 1 undef = .int .i64 k
 idx:a.tmps.getD 5 undef = .int .i64 (i:Int)
theorem BS.put {u:Value}{i:Nat}{k:Int}{m:Nat}{a:Act}(h:BS u i k m a){d:Nat}(hd:5<d)(v:Value):BS u i k m (a.put (some d) v):=
 ⟨by simp[jv,h.size],h.defers,by rw[mJ aI];exact h.arr,by rw[mJ aI];exact h.cnt,by rw[mJ aI];exact h.idx⟩
theorem BS.es {ad:Addr}{kb n c i m:Nat}{k:Int}{a:Act}{w:World}{tx:Int->List UInt8}{sz:Nat}(h:BS (.slice (some ⟨kb,0,none⟩) n c) i k m a):ES tx sz kb i n c m k E0 a w:=YX h.size h.defers h.arr h.cnt h.idx
theorem ES.bs {kb n c i m:Nat}{k:Int}{a:Act}{w:World}{tx:Int->List UInt8}{sz:Nat}(h:ES tx sz kb i n c m k E0 a w):BS (.slice (some ⟨kb,0,none⟩) n c) i k m a:=⟨h.size,h.defers,h.arr,h.cnt,h.idx⟩
theorem CW (a:Act)(t:Nat):a.eval (.tmp t)=a.tmps.getD t undef:=rfl
section
variable {P:Program} {Q:Exit->Act->World->Prop} {a:Act} {w:World}
theorem Y8 {id cc b0 i m n cap t1 t2 t3:Nat}{k:Int}{ad:Option Addr}{r2:Array Oper}{y1 y2 y3 y4:Oper}{ty ty2 e:TypeId}{ts:TypeId}(hr:r2.toList=[y1,y2,y3,y4])(g1:y1.guard=none)(d1:y1.dst=some t1)(p1:y1.op = .move (.tmp 5))(g2:y2.guard=none)(d2:y2.dst=some t2)(p2:y2.op = .move (.tmp 0))
 (g3:y3.guard=none) (d3:y3.dst=some t3) (p3:y3.op = .call ⟨.builtin .len,⟨[.tmp t2]⟩,⟨[ts]⟩⟩) (ht:P.underlying ts=some (.slice e)) (g4:y4.guard=none) (d4:y4.dst=some cc) (p4:y4.op = .binOp .lss ty (.tmp t1) (.tmp t3) ty2)
 (q:5<t1/\5<t2/\t1≠t2/\t1<m/\t2<m) (q':5<t3/\t3≠t1/\t3≠t2/\5<cc/\t3<m/\cc<m) (bs:BS (.slice ad n cap) i k m a)
 (h1:i<n->∀a',BS (.slice ad n cap) i k m a'->Q .normal a' w) (h2:¬i<n->∀a',BS (.slice ad n cap) i k m a'->Q (.exit b0) a' w) :
 (Code.seq (.region id r2 false) (.cond (.tmp cc) .skip (.exit b0))).wp P Q a w:=by
 refine wp_seq (wp_region_list ?_);rw[hr];refine qR (v:=.int .i64 (i:Int)) (w':=w) g1 (by unfold execOp;rw[p1];exact kZ (λv=>l7 (lQ v) w) bs.idx) ?_;rw[d1];have b1:=bs.put q.1 (.int .i64 (i:Int));refine qR (v:=.slice ad n cap) (w':=w) g2 (by unfold execOp;rw[p2];exact kZ (λv=>l7 (lQ v) w) b1.arr) ?_;rw[d2];have b2:=b1.put q.2.1 (.slice ad n cap);have e2:((a.put (some t1) (.int .i64 (i:Int))).put (some t2) (.slice ad n cap)).eval (.tmp t2) = .slice ad n cap:=by rw[CW];exact ig (by rw[b1.size];exact q.2.2.2.2)
 refine qR (v:=.int .i64 (n:Int)) (w':=w) g3 (by simp[execOp,p3,resolve,invoke,builtin,Go.Builtin.len_,run_underlying ht,e2,goInt]) ?_;rw[d3];have b3:=b2.put q'.1 (.int .i64 (n:Int));have e3:(((a.put (some t1) (.int .i64 (i:Int))).put (some t2) (.slice ad n cap)).put (some t3) (.int .i64 (n:Int))).eval (.tmp t3) = .int .i64 (n:Int):=by rw[CW];exact ig (by rw[b2.size];exact q'.2.2.2.2.1)
 have e1:(((a.put (some t1) (.int .i64 (i:Int))).put (some t2) (.slice ad n cap)).put (some t3) (.int .i64 (n:Int))).eval (.tmp t1) = .int .i64 (i:Int):=by rw[CW,mJ (Ne.symm q'.2.1),mJ q.2.2.1];exact ig (by rw[bs.size];exact q.2.2.2.1)
 refine qR (v:=.bool (decide (i<n))) (w':=w) g4 ?_ ?_
 ·have hq:∀v,(eqGuard .lss ty (.tmp t1) (.tmp t3) (.int .i64 (i:Int)) v).run P w = .ok () w:=λv=>BM _ _ _ _ _ _ _ _;have hr0:(binOp .lss ty (.int .i64 (i:Int)) (.int .i64 (n:Int))).run P w = .ok (.bool (decide (i<n))) w:=by simp[binOp,Op.intCmp]
  unfold execOp;rw[p4];simp only[e1,e3,cu,hq,hr0,bu,bM]
 rw[d4];have b4:=b3.put q'.2.2.2.1 (.bool (decide (i<n)));refine wp_cond_split (t:=decide (i<n)) (by rw[CW];exact ig (by rw[b3.size];exact q'.2.2.2.2.2)) (λh=>wp_skip (h1 (by simpa using h) _ b4)) (λh=>wp_exit (h2 (by simpa using h) _ b4))
end
structure ajY (P:Program)(CO:Nat)(mt:G7)(T sz:Nat)(acts:List MA)(fn:Func)(id0 id1 id2 id3 id4 b0 b1 cc:Nat)(r0 r1 r2 r3 r4:Array Oper)(body:Code):Prop where
 code:fn.body=some (.seq (.region id0 r0 false) (.seq (.seq (.region id1 r1 false) (.block b0 (.loop (.seq (.seq (.region id2 r2 false) (.cond (.tmp cc) .skip (.exit b0))) (.seq (.block b1 body) (.region id3 r3 false)))))) (.seq (.region id4 r4 false) .ret)))
 m5:5<fn.ntmps
 res:fn.results.toList=[.tmp 4]
 first:∃x0,r0.toList=[x0]/\x0.guard=none/\x0.dst=some 4/\x0.op = .assign (.const (.int .i64 0))
 second:∃x1,r1.toList=[x1]/\x1.guard=none/\x1.dst=some 5/\x1.op = .assign (.const (.int .i64 0))
 head:∀{Q:Exit->Act->World->Prop} {a:Act} {w:World} {i n cap:Nat} {k:Int} {ad:Option Addr},BS (.slice ad n cap) i k fn.ntmps a->(i<n->∀a',BS (.slice ad n cap) i k fn.ntmps a'->Q .normal a' w)->(¬i<n->∀a',BS (.slice ad n cap) i k fn.ntmps a'->Q (.exit b0) a' w) ->
  (Code.seq (.region id2 r2 false) (.cond (.tmp cc) .skip (.exit b0))).wp P Q a w
 inc:Zd fn.ntmps 5 r3.toList=true
 steps:∃rs,Ri body=some rs/\OZ P CO mt T sz fn.ntmps acts rs=true
 last:∃z1 z2 t,r4.toList=[z1,z2]/\z1.guard=none/\z1.dst=some t/\z1.op = .move (.tmp 1)/\z2.guard=none/\z2.dst=some 4/\z2.op = .assign (.tmp t)/\t<fn.ntmps
theorem agN {P:Program}{CO:Nat}{mt:G7}{f T sz:Nat}{acts:List MA}(h:abO P CO mt f=true)(hmt:mt f=some (T,sz,acts)):∃fn,P.funcs[f]? = some fn/\∃id0 id1 id2 id3 id4 b0 b1 cc r0 r1 r2 r3 r4 body,ajY P CO mt T sz acts fn id0 id1 id2 id3 id4 b0 b1 cc r0 r1 r2 r3 r4 body:=by
 unfold abO at h;rw[hmt]at h;split at h
 ·rename_i T' sz' aj7 fn e1 hf;cases e1;refine⟨fn,hf,?_⟩;split at h
  ·rename_i id0 r0 id1 r1 b0 id2 r2 cc b0' b1 body id3 r3 id4 r4 hb;simp only[ah,aH,aj]at h;obtain⟨⟨⟨⟨⟨h1,rfl⟩,h2⟩,h3⟩,h4⟩,h5⟩:=h;refine⟨id0,id1,id2,id3,id4,b0',b1,cc,r0,r1,r2,r3,r4,body,?_⟩;split at h1
   ·rename_i x0 x1 y1 y2 y3 y4 z1 z2 l0 l1 l2 l4;simp only[ah]at h1;obtain⟨⟨q1,q2⟩,q3⟩:=h1;refine⟨hb,h4,?_,?_,?_,?_,h2,?_,?_⟩
    ·split at h5
     ·rename_i e;exact e
     ·cases h5
    ·split at q1
     ·exact⟨x0,l0,by assumption,by assumption,by assumption⟩
     ·cases q1
    ·split at q1
     ·exact⟨x1,l1,by assumption,by assumption,by assumption⟩
     ·cases q1
    ·split at q2
     ·rename_i t1 t2 g1 d1 p1 g2 d2 p2;simp only[ah,aj]at q2;obtain⟨q2,q4⟩:=q2;split at q4
      ·rename_i t3 t2' ts t4 ty t1' t3' ty2 g3 d3 p3 g4 d4 p4;simp only[ah,aH,aj]at q4;obtain⟨⟨⟨⟨⟨hu,rfl⟩,rfl⟩,rfl⟩,rfl⟩,q5⟩:=q4;split at hu
       ·rename_i e hu2;intro Q a w i n cap k ad bs k1 k2;exact Y8 l2 g1 d1 p1 g2 d2 p2 g3 d3 p3 hu2 g4 d4 p4 q2 q5 bs k1 k2
       ·cases hu
      ·cases q4
     ·cases q2
    ·split at h3
     ·exact⟨_,by assumption,h3⟩
     ·cases h3
    ·split at q3
     ·rename_i t t' g1 d1 p1 g2 d2 p2;simp only[ah,aH,aj]at q3;obtain⟨rfl,q3⟩:=q3;exact⟨z1,z2,_,l4,g1,d1,p1,g2,d2,p2,q3⟩
     ·cases q3
   ·cases h1
  ·cases h
 ·cases h
inductive abt (S:List Cell->Int->List Cell->Int->Prop):List (List Cell)->Int->List (List Cell)->Int->Prop
 |nil {k:Int} : abt S [] k [] k
 |cons {e e':List Cell} {es es':List (List Cell)} {k k1 k2:Int} (h:S e k e' k1) (t:abt S es k1 es' k2):abt S (e::es) k (e'::es') k2
theorem set_mid {α:Type}{D es:List α}{e e':α} : (D++e::es).set D.length e'=(D++[e'])++es:=by rw[List.set_append_right _ _ (ak _)];simp
theorem aej {P:Program}{CO:Nat}{mt:G7}{tx:Int->List UInt8}{f T sz:Nat}{acts:List MA}(hc:abO P CO mt f=true)(hmt:mt f=some (T,sz,acts))(ht:IU P CO tx){es es':List (List Cell)}{k k':Int}(hk:inR k)
 (hrun:abt (PS P CO mt tx acts) es k es' k'):adF P mt f (.sl sz es) k (.sl sz es') k':=by
 intro g I0 I w T1 q u hT hg hTb hA0 hold hA hgr hroot hrd hty;obtain⟨sz1,am0,hm1⟩:=hT;rw[hmt]at hm1;cases hm1;obtain⟨fn,hf,id0,id1,id2,id3,id4,b0,b1,cc,r0,r1,r2,r3,r4,body,C⟩:=agN hc hmt;obtain⟨ad,n,cap,rfl⟩:∃ad n cap,u = .slice ad n cap:=by rcases hgr with e|⟨_,_,_,e,_⟩<;>exact⟨_,_,_,e⟩
 have hn:es.length=n/\n<=maxLen:=by cases hrd with|sl _ _ _ _ _ _ h1 h2 h3 _ _ _ _=>exact⟨h1,dR h2 h3⟩
 refine calls_of_wp hf C.code ?_;obtain⟨x0,l0,g0,d0,p0⟩:=C.first;obtain⟨x1,l1,g1,d1,p1⟩:=C.second;have hm5:=C.m5
 let a0:Act:={ tmps:= #[zV ad n cap,.int .i64 k]++ug (fn.ntmps-2) undef,defers:=[] }
 have hs0:a0.tmps.size=fn.ntmps:=by simp[a0];omega
 have ha0:a0.tmps.getD 0 undef = .slice ad n cap/\a0.tmps.getD 1 undef = .int .i64 k:=by constructor<;>(simp only[a0,fK];rw[sZ nV];rfl)
 have Em:BS (.slice ad n cap) 0 k fn.ntmps ((a0.put (some 4) (.int .i64 0)).put (some 5) (.int .i64 0)):=
  ⟨by simp[jv,hs0],rfl,by rw[mJ aI,mJ aI];exact ha0.1,by rw[mJ aI,mJ aI];exact ha0.2,ig (by simp[jv,hs0];exact hm5)⟩
 refine wp_seq (wp_region_list ?_);rw[l0];refine qR (v:=.int .i64 0) (w':=w) g0 (by unfold execOp;rw[p0];rfl) ?_;rw[d0];refine wp_seq (wp_seq (wp_region_list ?_));rw[l1];refine qR (v:=.int .i64 0) (w':=w) g1 (by unfold execOp;rw[p1];rfl) ?_;rw[d1];refine wp_block (F7 (λj a w'=>∃D es1 agZ k1,abt (PS P CO mt tx acts) es1 k1 agZ k'/\D++agZ=es'/\j=es1.length/\(D++es1).length=n/\BS (.slice ad n cap) D.length k1 fn.ntmps a/\Post P g I w q (.slice ad n cap) T (.sl sz (D++es1)) w') ?_ ?_)
 ·exact⟨es.length,[],es,es',k,hrun,rfl,rfl,hn.1,Em,hg,⟨rfl,rfl,rfl,ak _,λ_ _ _=>rfl⟩,⟨I,hA,λ_ _=>rfl,hrd⟩,hty⟩
 ·rintro j a w1 ⟨D,es1,agZ,k1,hr,hD,rfl,hlen,bs,hp⟩;refine wp_seq (C.head bs (λhlt a' bs'=>?_) (λhge a' bs'=>?_))
  ·
   cases hr with
   |nil=>simp at hlen;omega
   | @cons e e' es2 alK _ k2 _ hS hr=>
   obtain⟨kb,n',c',e1,hkb⟩:∃kb n' c',zV ad n cap = .slice (some ⟨kb,0,none⟩) n' c'/\g.at kb n' T q:=by
    rcases hgr with e1|⟨kb,n',c',e1,h2⟩
    ·cases e1;omega
    ·exact⟨kb,n',c',e1,h2⟩
   cases e1;obtain⟨pg,pF,⟨J,pJ1,pJ2,pJ3⟩,pty⟩:=hp;have hE:EX P g I0 J w1 T q kb n cap sz (D++e::es2):=
    { good:=pg,tabs:=hTb,Ox:=hA0.other λb c hb=>pF.block b (hA0.lt hb) λhx=>(by obtain⟨T2,p,h2⟩:=hx.owned;have:=hold b c hb;rw[h2]at this;cases this),old:=hold,ag:=pJ1,at':=hkb,root:=hroot,rd:=pJ3,ty:=pty }
   obtain⟨rs,hrs,alY⟩:=C.steps;refine wp_seq (wp_block (ahv hrs (hS alY hE hlt (by simp[fZ]) hm5 ht (BS.es (ad:=⟨0,0,none⟩) bs') (λa2 w2 J2 hs2 hE2 hF2 hJ2=>?_))));refine wp_region_list (TL C.inc hs2.size hs2.defers hs2.idx (by have:=hn.2;simp only[maxLen]at this;omega) hm5 (.inr (.inr rfl)) (λa3 c1 c2 c3 c4=>?_));refine⟨es2.length,nV,D++[e'],es2,alK,k2,hr,by rw[<- hD];simp,rfl,by simp at hlen⊢;omega,?_,hE2.good,pF.trans hF2 λ_ _ h=>h,⟨J2,hE2.ag,λb hb=>(hJ2 b hb).trans (pJ2 b hb),?_⟩,?_⟩
   ·exact⟨c1,c2,by rw[c4 0 aI (.inl rfl)];exact hs2.arr,by rw[c4 1 aI (.inr (.inl rfl))];exact hs2.cnt,by rw[c3];simp⟩
   ·have:=hE2.rd;rwa[set_mid]at this
   ·have:=hE2.ty;rwa[set_mid]at this
  ·
   have hnil:es1=[]/\agZ=[]/\k1=k':=by
    cases hr with
    |nil=>exact⟨rfl,rfl,rfl⟩
    |cons _ _=>simp at hlen;omega
   obtain⟨rfl,rfl,rfl⟩:=hnil;show wX b0 _ (.exit b0) a' w1;simp only[wX,kN];obtain⟨z1,z2,t,l4,g4,d4,p4,g5,d5,p5,htm⟩:=C.last;refine wp_seq (wp_region_list ?_);rw[l4];refine qR (v:=.int .i64 k1) (w':=w1) g4 (by unfold execOp;rw[p4];exact kZ (λv=>l7 (lQ v) w1) bs'.cnt) ?_;rw[d4];have e2:(a'.put (some t) (.int .i64 k1)).tmps.getD t undef = .int .i64 k1:=ig (by rw[bs'.size];exact htm);refine qR (v:=.int .i64 k1) (w':=w1) g5 (by unfold execOp;rw[p5];exact kZ (λv=>l7 (lQ v) w1) e2) ?_;rw[d5];refine wp_ret ?_;refine⟨bs'.defers,.int .i64 k1,?_,rfl,?_⟩
   ·have e3:((a'.put (some t) (.int .i64 k1)).put (some 4) (.int .i64 k1)).tmps.getD 4 undef = .int .i64 k1:=ig (by simp[jv,bs'.size];omega);have e4:fn.results = #[.tmp 4]:=(by apply Array.toList_inj.1;rw[C.res]);rw[Ia,e4];simp[O4,e3]
   ·rw[<- hD];simpa using hp
theorem ae7 {P:Program}{CO:Nat}{mt:G7}{tx:Int->List UInt8}(hall:∀f,(mt f).isSome=true->abO P CO mt f=true)(ht:IU P CO tx){j:Jb}(h:J9 mt tx j):match j with
 |.C f c k c' k'=>adF P mt f c k c' k'/\inR k/\(∃sz es,c = .sl sz es)
 |.L acts es k es' k'=>abt (PS P CO mt tx acts) es k es' k'
 |.E acts e k e' k'=>PS P CO mt tx acts e k e' k':=by
 induction h with
 |c h hk hl ih=>exact⟨aej (hall _ (by rw[h];rfl)) h ht hk ih,hk,_,_,rfl⟩
 |l0=>exact .nil
 |l1 _ _ ih1 ih2=>exact .cons ih1 ih2
 |e0=>exact akd
 | ei hk hk' ho _ ih=>
   intro T sz m rs hc g I0 I w q kb n cap es i a Q hE hi he hm ht' hs hK
   match rs,hc with
   | x::y::rs,hc=>simp only[OZ,ah]at hc;exact aaw (sv:=.cnt) rfl rfl (λJ _=>.lit _ rfl) (λ_ _ e=>by cases e) hk hk' (λhd=>⟨hd,λe=>by cases e⟩) (λ_ J=>.lit _ rfl) ih hc.1.1.1 hc.1.1.2 hc.1.2 hc.2 hE hi he hm ht' hs hK
 | es hk hk' ho _ ih=>
   intro T sz m rs hc g I0 I w q kb n cap es i a Q hE hi he hm ht' hs hK
   match rs,hc with
   | x::y::rs,hc=>simp only[OZ,ah]at hc;exact aaw (sv:=.txt) rfl rfl (λJ hl=>.str _ hl) (λ_ _ e=>by cases e) hk hk' (λhd=>⟨hd.1,λ_=>hd.2⟩) (λe=>aY rfl e) ih hc.1.1.1 hc.1.1.2 hc.1.2 hc.2 hE hi he hm ht' hs hK
 | ef hc0 _ _ ih1 ih2=>
   intro T sz m rs hc g I0 I w q kb n cap es i a Q hE hi he hm ht' hs hK
   match rs,hc with
   | x::rs,hc=>
     simp only[OZ,ah]at hc;obtain⟨⟨h1,h2⟩,h3⟩:=hc;split at h2
     ·rename_i T' sz' aj7 hmt;simp only[ah,List.contains_iff_mem,aN,Bool.or_eq_true,bne_iff_ne,aH]at h2;exact ake hc0 ih1.2.2 ih1.2.1 ih1.1 ih2 h1 ⟨_,_,hmt⟩ h2.1 (λT2 h4=>by
       rcases h2.2 _ h4 with h5|h5
       ·exact aY rfl h5
       ·exact h5) h3 hE hi he hm ht' hs hK
     ·cases h2
end
section
inductive Stp where
 |sl (o g:Nat)
 |st (o sz g:Nat)
 deriving DecidableEq
abbrev Yp :=Nat->Option (Nat×List Stp)
inductive SR (mt:G7)(sb:Yp)(tx:Int->List UInt8):(Nat->Nat)->List Stp->List Cell->Int->List Cell->Int->Prop
 |nil {ty:Nat->Nat} {cs:List Cell} {k:Int} : SR mt sb tx ty [] cs k cs k
 |sl {ty:Nat->Nat} {o g:Nat} {r:List Stp} {cs cs':List Cell} {c c1:Cell} {k k1 k2:Int} (hc:cs[o]? = some c) (hT:∃sz acts,mt g=some (ty o,sz,acts)) (hm:J9 mt tx (.C g c k c1 k1)) (t:SR mt sb tx ty r (cs.set o c1) k1 cs' k2):SR mt sb tx ty (.sl o g::r) cs k cs' k2
 |st {ty:Nat->Nat} {o sz g:Nat} {r steps:List Stp} {cs cs2 cs':List Cell} {k k1 k2:Int} (hs:sb g=some (sz,steps)) (hl:o+sz<=cs.length) (h:SR mt sb tx (λj=>ty (o+j)) steps ((cs.drop o).take sz) k cs2 k1) (hl2:cs2.length=sz) (t:SR mt sb tx ty r (cs.take o++cs2++cs.drop (o+sz)) k1 cs' k2):SR mt sb tx ty (.st o sz g::r) cs k cs' k2
structure SX (P:Program)(g:Own)(I0 I:IH)(w:World)(vs:List Value)(cs:List Cell)(L:List Nat)(ty:Nat->Nat)(pid:Nat->wL):Prop where
 good:Good P g w
 tabs:Tabs P I0
 Ox:Agree I0 w
 old:∀b c,I0 b=some c->g b=none
 ag:Agree I w
 len:vs.length=cs.length
 rd:∀(j:Nat) (v:Value) (c:Cell),vs[j]? = some v->cs[j]? = some c->Rd I v c
 isl:∀(j sz:Nat) (es:List (List Cell)),cs[j]? = some (.sl sz es)->j∈L
 own:∀(j:Nat),j∈L->∀(v:Value),vs[j]? = some v->GR g v (ty j) (pid j)
 root:∀j,j∈L->KF g (pid j)
 typ:∀(j sz:Nat) (es:List (List Cell)),cs[j]? = some (.sl sz es)->PU P (ty j) (.sl sz es)
 dis:∀i j b,i∈L->j∈L->Under g (pid i) b->Under g (pid j) b->i=j
structure zW (P:Program)(g:Own)(I:IH)(w:World)(vs:List Value)(cs':List Cell)(L:List Nat)(ty:Nat->Nat)(pid:Nat->wL)(w':World):Prop where
 good:Good P g w'
 Aj:zK w w' λb=>∃j,j∈L/\Under g (pid j) b
 rd:∃J,Agree J w'/\(∀b,(∀j,j∈L->¬Under g (pid j) b)->J b=I b)/\∀(j:Nat) (v:Value) (c:Cell),vs[j]? = some v->cs'[j]? = some c->Rd J v c
 len:vs.length=cs'.length
 isl:∀(j sz:Nat) (es:List (List Cell)),cs'[j]? = some (.sl sz es)->j∈L
 typ:∀(j sz:Nat) (es:List (List Cell)),cs'[j]? = some (.sl sz es)->PU P (ty j) (.sl sz es)
section
variable {P:Program} {g:Own} {I0 I J:IH} {w w':World} {vs:List Value} {cs cs':List Cell} {L:List Nat} {ty:Nat->Nat} {pid:Nat->wL}
theorem SX.quiet (h:SX P g I0 I w vs cs L ty pid)(hF:zK w w' λ_=>False):SX P g I0 I w' vs cs L ty pid:=
 { h with good:=h.good.quiet hF,Ox:=h.Ox.quiet hF,ag:=h.ag.quiet hF }
theorem zW.next (h:SX P g I0 I w vs cs L ty pid)(hp:zW P g I w vs cs' L ty pid w'):∃J,SX P g I0 J w' vs cs' L ty pid/\∀b,(∀j,j∈L->¬Under g (pid j) b)->J b=I b:=by obtain⟨pg,pF,⟨J,p1,p2,p3⟩,pl,pi,pt⟩:=hp;refine⟨J,{ good:=pg,tabs:=h.tabs,Ox:=h.Ox.other λb c hb=>pF.block b (h.Ox.lt hb) ?_,old:=h.old,ag:=p1,len:=pl,rd:=p3,isl:=pi,own:=h.own,root:=h.root,typ:=pt,dis:=h.dis },p2⟩;rintro⟨j,_,hu⟩;obtain⟨T2,p,h2⟩:=hu.owned;have:=h.old b c hb;rw[h2]at this;cases this
theorem zW.trans {I':IH}{w1:World}(hF:zK w w1 λb=>∃j,j∈L/\Under g (pid j) b)(hI:∀b,(∀j,j∈L->¬Under g (pid j) b)->I' b=I b)(hp:zW P g I' w1 vs cs' L ty pid w'):zW P g I w vs cs' L ty pid w':=
 { hp with Aj:=hF.trans hp.Aj λ_ _ h=>h,rd:=let ⟨J,p1,p2,p3⟩:=hp.rd;⟨J,p1,λb hb=>(p2 b hb).trans (hI b hb),p3⟩ }
theorem zW.refl (h:SX P g I0 I w vs cs L ty pid):zW P g I w vs cs L ty pid w:=
 ⟨h.good,⟨rfl,rfl,rfl,ak _,λ_ _ _=>rfl⟩,⟨I,h.ag,λ_ _=>rfl,h.rd⟩,h.len,h.isl,h.typ⟩
theorem SX.slice (h:SX P g I0 I w vs cs L ty pid){o:Nat}{sz:Nat}{es:List (List Cell)}{c1:Cell}{v:Value}(hc:cs[o]? = some (.sl sz es))(hv:vs[o]? = some v)(hc1:∃sz es,c1 = .sl sz es)(hp:Post P g I w (pid o) v (ty o) c1 w'):zW P g I w vs (cs.set o c1) L ty pid w':=by
 obtain⟨pg,pF,⟨J,p1,p2,p3⟩,pt⟩:=hp;have hoL:=h.isl _ _ _ hc;have ho:o<cs.length:=(aT.1 hc).1;have hget:∀(j:Nat) (c:Cell),(cs.set o c1)[j]? = some c->(j=o/\c=c1)\/(j≠o/\cs[j]? = some c):=λj c hj=>by
  rw[o5]at hj;split at hj
  ·rename_i e;subst e;cases hj;exact .inl ⟨rfl,rfl⟩
  ·rename_i e;exact .inr ⟨λe'=>e e'.symm,hj⟩
 refine⟨pg,⟨pF.os,pF.tape,pF.output,pF.size,λb hb hn=>pF.block b hb λhx=>hn ⟨o,hoL,hx⟩⟩,⟨J,p1,λb hb=>p2 b (hb o hoL),λj x c hx hj=>?_⟩,by simpa using h.len,λj sz' es' hj=>?_,λj sz' es' hj=>?_⟩
 ·rcases hget j c hj with⟨rfl,rfl⟩|⟨hne,hj⟩
  ·rw[hv]at hx;cases hx;exact p3
  ·have hr:=h.rd j x c hx hj;cases c with
   |lit _=>exact hr.MI
   |str _=>exact hr.MZ
   | sl sz' es'=>have hjL:=h.isl _ _ _ hj;exact hr.under h.good h.ag (h.own j hjL x hx) (h.typ _ _ _ hj) λb hb=>p2 b λhb2=>hne (h.dis j o b hjL hoL hb hb2)
 ·rcases hget j _ hj with⟨rfl,_⟩|⟨_,hj⟩
  ·exact hoL
  ·exact h.isl _ _ _ hj
 ·rcases hget j _ hj with⟨rfl,e⟩|⟨_,hj⟩
  ·rw[e];exact pt
  ·exact h.typ _ _ _ hj
def XE (L:List Nat)(o sz:Nat):List Nat:=(List.range sz).filter λj=>L.contains (o+j)
theorem zI {o sz j:Nat} : j∈XE L o sz<->j<sz/\o+j∈L:=by simp[XE]
theorem Q3 {α:Type}(l:List α)(o sz j:Nat):((l.drop o).take sz)[j]? = if j<sz then l[o+j]? else none:=by
 by_cases h:j<sz
 ·rw[aF h,yz h,iL]
 ·rw[ai h,kV];rw[jc];omega
theorem EP {α:Type}{l:List α}{o sz j:Nat}{x:α}(h:((l.drop o).take sz)[j]? = some x):j<sz/\l[o+j]? = some x:=by
 rw[Q3]at h;split at h
 ·rename_i h1;exact⟨h1,h⟩
 ·cases h
theorem SX.part (h:SX P g I0 I w vs cs L ty pid){o sz:Nat}(hl:o+sz<=cs.length):SX P g I0 I w ((vs.drop o).take sz) ((cs.drop o).take sz) (XE L o sz) (λj=>ty (o+j)) λj=>pid (o+j) where
 good:=h.good
 tabs:=h.tabs
 Ox:=h.Ox
 old:=h.old
 ag:=h.ag
 len:=by have:=h.len;simp;omega
 rd:=λj v c hv hc=>h.rd _ v c (EP hv).2 (EP hc).2
 isl:=λj sz' es hj=>zI.2 ⟨(EP hj).1,h.isl _ _ _ (EP hj).2⟩
 own:=λj hj v hv=>h.own _ (zI.1 hj).2 v (EP hv).2
 root:=λj hj=>h.root _ (zI.1 hj).2
 typ:=λj sz' es hj=>h.typ _ _ _ (EP hj).2
 dis:=λi j b hi hj h1 h2=>by have:=h.dis _ _ b (zI.1 hi).2 (zI.1 hj).2 h1 h2;omega
theorem SX.ajy (h:SX P g I0 I w vs cs L ty pid){o sz:Nat}{cs2:List Cell}(hl:o+sz<=cs.length)(hl2:cs2.length=sz)(hp:zW P g I w ((vs.drop o).take sz) cs2 (XE L o sz) (λj=>ty (o+j)) (λj=>pid (o+j)) w') :
 zW P g I w vs (cs.take o++cs2++cs.drop (o+sz)) L ty pid w':=by
 obtain⟨pg,pF,⟨J,p1,p2,p3⟩,pl,pi,pt⟩:=hp;have hsub:∀{b},(∃j,j∈XE L o sz/\Under g (pid (o+j)) b)->∃j,j∈L/\Under g (pid j) b:=λ⟨j,hj,hu⟩=>⟨o+j,(zI.1 hj).2,hu⟩;have hto:(cs.take o).length=o:=by rw[jc];omega
 have hget:∀(j:Nat) (c:Cell),(cs.take o++cs2++cs.drop (o+sz))[j]? = some c->(∃i,j=o+i/\i<sz/\cs2[i]? = some c)\/((j<o\/o+sz<=j)/\cs[j]? = some c):=λj c hj=>by
  by_cases h1:j<o
  ·rw[dB,bD aI,yz h1]at hj;exact .inr ⟨.inl h1,hj⟩
  ·by_cases h2:j<o+sz
   ·rw[bD (by simp[hl2];omega),dw aI,hto]at hj;exact .inl ⟨j-o,aI,aI,hj⟩
   ·have hl3:(cs.take o++cs2).length=o+sz:=(by rw[ay,hto,hl2]);rw[dw aI,hl3,iL,show o+sz+(j-(o+sz))=j by omega]at hj;exact .inr ⟨.inr aI,hj⟩
 refine⟨pg,⟨pF.os,pF.tape,pF.output,pF.size,λb hb hn=>pF.block b hb λhx=>hn (hsub hx)⟩,⟨J,p1,λb hb=>p2 b λj hj hu=>hb _ (zI.1 hj).2 hu,λj x c hx hj=>?_⟩,?_,λj sz' es' hj=>?_,λj sz' es' hj=>?_⟩
 ·rcases hget j c hj with⟨i,rfl,hi,hc⟩|⟨hne,hj⟩
  ·exact p3 i x c (by rw[Q3,aF hi];exact hx) hc
  ·have hr:=h.rd j x c hx hj;cases c with
   |lit _=>exact hr.MI
   |str _=>exact hr.MZ
   | sl sz' es'=>
     have hjL:=h.isl _ _ _ hj;exact hr.under h.good h.ag (h.own j hjL x hx) (h.typ _ _ _ hj) λb hb=>p2 b λi hi hb2=>by have:=h.dis j (o+i) b hjL (zI.1 hi).2 hb hb2;have:=(zI.1 hi).1;omega
 ·have:=h.len;simp[hl2];omega
 ·rcases hget j _ hj with⟨i,rfl,hi,hc⟩|⟨_,hj⟩
  ·exact(zI.1 (pi _ _ _ hc)).2
  ·exact h.isl _ _ _ hj
 ·rcases hget j _ hj with⟨i,rfl,hi,hc⟩|⟨_,hj⟩
  ·exact pt _ _ _ hc
  ·exact h.typ _ _ _ hj
end
def stepS (P:Program)(s:Stp)(m:Nat):List Oper->Bool
 | [x,y,z,u,v]=>(match x.guard,x.dst,x.op,y.guard,y.dst,y.op with
   | none,some t1,.fieldAddr S (.tmp 2) fi,none,some t2,.load t (.tmp t1')=>t1'==t1&&decide (2<t1/\2<t2/\t1<m/\t2<m)&&(match z.guard,z.dst,z.op,u.guard,u.dst,u.op with
     | none,some t3,.move (.tmp 1),none,some t4,.call ⟨.value (.func f),⟨[.tmp t2',.tmp t3']⟩,_⟩=>t2'==t2&&t3'==t3&&decide (2<t3/\t3≠t2/\t3<m/\2<t4/\t4<m)&&zL P f&&(match v.guard,v.dst,v.op with
       |none,some 1,.assign (.tmp t4')=>t4'==t4
       |_,_,_=>false)&&(match s with
       |.sl o g=>f==g&&CX P S fi o&&IP P t false 1
       |.st o sz g=>f==g&&CX P S fi o&&IP P t true sz)
     |_,_,_,_,_,_=>false)
   |_,_,_,_,_,_=>false)
 |_=>false
def VB : Code->Option (List (Array Oper)×Array Oper)
 |.seq (.region _ ops false) .ret=>some ([],ops)
 |.seq (.region _ ops false) c=>(VB c).map λp=>(ops::p.1,p.2)
 |_=>none
def Rz (P:Program)(m:Nat):List Stp->List (Array Oper)->Bool
 |[],[]=>true
 |s::r,x::rs=>stepS P s m x.toList&&Rz P m r rs
 |_,_=>false
def agO (P:Program)(sb:Yp)(f:Nat):Bool:=match sb f,P.funcs[f]? with
 | some (sz,steps),some fn=>(match fn.body with
   | some (.seq (.region _ r0 false) rest)=>(match r0.toList with
     | [x,y]=>(match x.guard,x.dst,x.op,y.guard,y.dst,y.op with
       |none,some 2,.box _ (.tmp 0),none,some 4,.assign (.const (.int .i64 0))=>true
       |_,_,_,_,_,_=>false)
     |_=>false)&&(match VB rest with
     | some (rs,last)=>Rz P fn.ntmps steps rs&&(match last.toList with
       | [z1,z2]=>(match z1.guard,z1.dst,z1.op,z2.guard,z2.dst,z2.op with
         |none,some t,.move (.tmp 1),none,some 4,.assign (.tmp t')=>t'==t&&decide (t<fn.ntmps)
         |_,_,_,_,_,_=>false)
       |_=>false)
     |none=>false)&&decide (4<fn.ntmps)&&(match fn.results.toList with
     |[.tmp 4]=>true
     |_=>false)
   |_=>false)
 |_,_=>false
end
section
structure TS (kx:Nat)(k:Int)(m:Nat)(a:Act):Prop where
 size:a.tmps.size=m
 defers:a.defers=[]
 cnt:a.tmps.getD 1 undef = .int .i64 k
 ptr:a.tmps.getD 2 undef = .pointer (some ⟨kx,0,none⟩)
theorem TS.put {kx m:Nat}{k:Int}{a:Act}(h:TS kx k m a){d:Nat}(hd:2<d)(v:Value):TS kx k m (a.put (some d) v):=
 ⟨by simp[jv,h.size],h.defers,by rw[mJ aI];exact h.cnt,by rw[mJ aI];exact h.ptr⟩
def Stp.arg (vs:List Value):Stp->Option Value
 |.sl o _=>vs[o]?
 |.st o sz _=>if o+sz<=vs.length then some (.agg ((vs.drop o).take sz).toArray)else none
def Stp.fn : Stp->Nat
 |.sl _ g=>g
 |.st _ _ g=>g
section
variable {P:Program} {Q:Exit->Act->World->Prop} {a:Act} {w:World} {ops:Array Oper}
theorem acP {o:Oper}{S:TypeId}{t fi off kx base:Nat}(ho:o.op = .fieldAddr S (.tmp t) fi)(hf:CX P S fi off=true)(hv:a.tmps.getD t undef = .pointer (some ⟨kx,base,none⟩)) :
 (execOp a.eval o).run P w = .ok (.value (.pointer (some ⟨kx,base+off,none⟩))) w:=by
 unfold CX at hf;split at hf
 ·rename_i fs hs;split at hf
  ·rename_i OB hfld;simp only[ah,aH]at hf;obtain⟨rfl,hf⟩:=hf;split at hf
   ·rename_i ti hti;simp at hf;have v1:a.eval (.tmp t) = .pointer (some ⟨kx,base,none⟩):=hv;simp[execOp,ho,Go.Instr.fieldAt,run_underlying hs,hfld,v1,jO,fieldPlace,sizeOf,typeInfo,hti,hf,Addr.o9]
   ·cases hf
  ·cases hf
 ·cases hf
theorem OM {s:Stp}{m kx:Nat}{k k1:Int}{os:List Oper}{vs:List Value}{e:TypeId}{x:Value}{R:World->Prop}(hc:stepS P s m os=true)(ts:TS kx k m a)(hm:2<m)(hw:w.heap[kx]? = some (.cells vs.toArray e (0,0)))(hx:s.arg vs=some x)
 (hcall:Calls P s.fn #[x,.int .i64 k] w λe w'=>e = .returned (.int .i64 k1)/\R w') (hk:∀a' w',TS kx k1 m a'->R w'->Q .normal a' w'):wpList P ops Q os a w:=by
 unfold stepS at hc;split at hc
 ·rename_i x1 y z u v;split at hc
  ·rename_i t1 S fi t2 t t1' g1 d1 p1 g2 d2 p2;simp only[ah,aH,aj]at hc;obtain⟨⟨e1,q1,q2,q3,q4⟩,hc⟩:=hc;rw[e1]at p2;split at hc
   ·rename_i t3 t4 f t2' t3' ts' g3 d3 p3 g4 d4 p4;simp only[ah,aH,aj]at hc;obtain⟨⟨⟨⟨⟨e2,e3⟩,q5,q6,q7,q8,q9⟩,hok⟩,hc5⟩,hs⟩:=hc;rw[e2,e3]at p4;split at hc5
    ·rename_i t4' g5 d5 p5;simp only[aH]at hc5;rw[hc5]at p5;have hload:∃off,CX P S fi off=true/\(loadVar t ⟨kx,off,none⟩).run P w = .ok x w/\f=s.fn:=by
      cases s with
      | sl o g=>simp only[ah,aH]at hs;refine⟨o,hs.1.2,Ib hs.2 ?_,hs.1.1⟩;simp only[iy,hw];simpa[Stp.arg]using hx
      | st o sz g=>
        simp only[ah,aH]at hs;refine⟨o,hs.1.2,?_,hs.1.1⟩;simp only[Stp.arg]at hx;split at hx
        ·rename_i hl;cases hx;obtain⟨h1,h2⟩:=EU hs.2 w;have h3:=run_loadCells_list (P:=P) w ⟨kx,o,none⟩ ((vs.drop o).take sz) (λj u hu=>by
          rw[Q3]at hu;split at hu
          ·rw[Addr.o9];simp only[iy,hw];simpa using hu
          ·cases hu)
         rw[show((vs.drop o).take sz).length=sz by simp;omega]at h3;simp[loadVar,h1,h2,h3]
        ·cases hx
     obtain⟨off,hf,hl,rfl⟩:=hload;refine qR (v:=.pointer (some ⟨kx,off,none⟩)) (w':=w) g1 (by have:=acP (P:=P) (w:=w) p1 hf ts.ptr;rwa[fE]at this) ?_;rw[d1];have b1:=ts.put q1 (.pointer (some ⟨kx,off,none⟩));have v1:(a.put (some t1) (.pointer (some ⟨kx,off,none⟩))).eval (.tmp t1) = .pointer (some ⟨kx,off,none⟩):=(by rw[CW];exact ig (by rw[ts.size];exact q3));refine qR (v:=x) (w':=w) g2 (by simp[execOp,p2,v1,jO,nM,hl]) ?_;rw[d2];have b2:=b1.put q2 x;refine qR (v:=.int .i64 k) (w':=w) g3 (by unfold execOp;rw[p3];exact kZ (λv=>l7 (lQ v) w) b2.cnt) ?_;rw[d3];have b3:=b2.put q5 (.int .i64 k);have v2:(((a.put (some t1) (.pointer (some ⟨kx,off,none⟩))).put (some t2) x).put (some t3) (.int .i64 k)).eval (.tmp t2)=x:=(by rw[CW,mJ (Ne.symm q6)];exact ig (by rw[b1.size];exact q4));have v3:(((a.put (some t1) (.pointer (some ⟨kx,off,none⟩))).put (some t2) x).put (some t3) (.int .i64 k)).eval (.tmp t3) = .int .i64 k:=(by rw[CW];exact ig (by rw[b2.size];exact q7));have he:=D7 (w:=w) (a:=(((a.put (some t1) (.pointer (some ⟨kx,off,none⟩))).put (some t2) x).put (some t3) (.int .i64 k))) p4 (x:=.func s.fn) (caps:= #[]) rfl hok;refine JW g4 (f:=s.fn) (args:= #[x,.int .i64 k]) (by simpa[v2,v3]using he) (hcall.mono ?_);rintro e w' ⟨rfl,hR⟩;refine⟨_,rfl,?_⟩;rw[d4];have b4:=b3.put q8 (.int .i64 k1);have v4:((((a.put (some t1) (.pointer (some ⟨kx,off,none⟩))).put (some t2) x).put (some t3) (.int .i64 k)).put (some t4) (.int .i64 k1)).tmps.getD t4 undef = .int .i64 k1:=ig (by rw[b3.size];exact q9);refine qR (v:=.int .i64 k1) (w':=w') g5 (by unfold execOp;rw[p5];exact kZ (λv=>l7 (lQ v) w') v4) ?_;rw[d5];exact hk _ w' ⟨by simp[jv,b4.size]<;>(have:=b4.size;simpa[jv]using this),b4.defers,ig (by rw[b4.size];omega),by rw[mJ aI];exact b4.ptr⟩ hR
    ·cases hc5
   ·cases hc
  ·cases hc
 ·cases hc
end
theorem afo {P:Program}{Q:Exit->Act->World->Prop}{K:Act->World->Prop} : ∀{c:Code} {rs:List (Array Oper)} {last:Array Oper} {a:Act} {w:World},VB c=some (rs,last) ->
 (∀a w,K a w->wpList P last (Exit.then (Q .ret) Q) last.toList a w)->Ap P (Exit.then K Q) rs a w->c.wp P Q a w:=by
 intro c rs last a w hc hK h
 fun_induction VB c generalizing rs a w with
 | case1 id ops=>
   cases hc;refine wp_seq (wp_mono (wp_region_list (hK a w h)) λe a w hq=>?_);cases e with
   |normal=>exact wp_ret hq
   |_=>exact hq
 | case2 id ops c hne ih=>
   simp only[bY]at hc;obtain⟨⟨rs',l'⟩,hp,e⟩:=hc;cases e;simp only[Ap]at h;refine wp_seq (wp_mono (wp_region_list h) λe a w hq=>?_);cases e with
   |normal=>exact ih hp hq
   |_=>exact hq
 |case3=>cases hc
def ahS (P:Program)(ty:Nat->Nat)(steps:List Stp)(cs:List Cell)(k:Int)(cs':List Cell)(k':Int):Prop:=
 ∀ {g:Own} {I0 I:IH} {w:World} {vs:List Value} {L:List Nat} {pid:Nat->wL},SX P g I0 I w vs cs L ty pid->∀{m kx:Nat} {rs:List (Array Oper)} {e:TypeId} {a:Act} {Q:Exit->Act->World->Prop},Rz P m steps rs=true->2<m->TS kx k m a ->
   w.heap[kx]? = some (.cells vs.toArray e (0,0))->g kx=none->(∀a' w',TS kx k' m a'->zW P g I w vs cs' L ty pid w'->Q .normal a' w')->Ap P Q rs a w
def V8 (P:Program)(f:Nat)(ty:Nat->Nat)(cs:List Cell)(k:Int)(cs':List Cell)(k':Int):Prop:=
 ∀{g:Own} {I0 I:IH} {w:World} {vs:List Value} {L:List Nat} {pid:Nat->wL},SX P g I0 I w vs cs L ty pid->Calls P f #[.agg vs.toArray,.int .i64 k] w λe w'=>e = .returned (.int .i64 k')/\zW P g I w vs cs' L ty pid w'
theorem QH {P:Program}{sb:Yp}{f sz:Nat}{steps:List Stp}{ty:Nat->Nat}{cs cs':List Cell}{k k':Int}(hc:agO P sb f=true)(hs:sb f=some (sz,steps))(hr:ahS P ty steps cs k cs' k'):V8 P f ty cs k cs' k':=by
 intro g I0 I w vs L pid hX;unfold agO at hc;rw[hs]at hc;split at hc
 ·rename_i sz' steps' fn e1 hf;cases e1;split at hc
  ·rename_i id r0 rest hb;simp only[ah,aj]at hc;obtain⟨⟨⟨h1,h2⟩,hm⟩,h3⟩:=hc;refine calls_of_wp hf hb (wp_seq (wp_region_list ?_));split at h1
   ·rename_i x y l0;split at h1
    ·rename_i S g1 d1 p1 g2 d2 p2;rw[l0]
     let a0:Act:={ tmps:= #[Value.agg vs.toArray,.int .i64 k]++ug (fn.ntmps-2) undef,defers:=[] }
     have hs0:a0.tmps.size=fn.ntmps:=(by simp[a0];omega);have ha0:a0.tmps.getD 0 undef = .agg vs.toArray/\a0.tmps.getD 1 undef = .int .i64 k:=(by constructor<;>(simp only[a0,fK];rw[sZ nV];rfl));have v0:a0.eval (.tmp 0) = .agg vs.toArray:=ha0.1;refine qR (v:=.pointer (some ⟨w.heap.size,0,none⟩)) (w':=w.alloc (.cells vs.toArray S)) g1 ?_ ?_
     ·have e1:(Value.agg vs.toArray).cells=vs.toArray:=rfl;show(execOp a0.eval x).run P w=_;simp only[execOp,p1,v0,Go.Instr.box,cu,bu,DL,bM,e1]
     rw[d1];refine qR (v:=.int .i64 0) (w':=w.alloc (.cells vs.toArray S)) g2 (by unfold execOp;rw[p2];rfl) ?_;rw[d2];have ts:TS w.heap.size k fn.ntmps ((a0.put (some 2) (.pointer (some ⟨w.heap.size,0,none⟩))).put (some 4) (.int .i64 0)):=
      ⟨by simp[jv,hs0],rfl,by rw[mJ aI,mJ aI];exact ha0.2,by rw[mJ aI];exact ig (by rw[hs0];omega)⟩
     have hF:zK w (w.alloc (.cells vs.toArray S)) λ_=>False:=⟨rfl,rfl,rfl,by show _<=(w.heap.push _).size;simp,λb hb _=>TI w _ b hb⟩;split at h2
     ·rename_i rs last hp;simp only[ah]at h2;obtain⟨h4,h5⟩:=h2;have hgk:g w.heap.size=none:=by
       cases hx:g w.heap.size with
       |none=>rfl
       |some B=>exact aY (hX.good.lt hx) (sQ _)
      show rest.wp P _ _ _;refine afo (K:=λa w'=>TS w.heap.size k' fn.ntmps a/\zW P g I w vs cs' L ty pid w') hp (λa w' hK=>?_) (hr (hX.quiet hF) h4 aI ts (heap_alloc_new w _) hgk (λa' w' ts' hp'=>⟨ts',zW.trans hF.any (λ_ _=>rfl) hp'⟩));obtain⟨ts',hP⟩:=hK;split at h5
      ·rename_i z1 z2 l4;split at h5
       ·rename_i t t' g4 d4 p4 g5 d5 p5;simp only[ah,aH,aj]at h5;obtain⟨e5,htm⟩:=h5;rw[e5]at p5;rw[l4];refine qR (v:=.int .i64 k') (w':=w') g4 (by unfold execOp;rw[p4];exact kZ (λv=>l7 (lQ v) w') ts'.cnt) ?_;rw[d4];have e2:(a.put (some t) (.int .i64 k')).tmps.getD t undef = .int .i64 k':=ig (by rw[ts'.size];exact htm);refine qR (v:=.int .i64 k') (w':=w') g5 (by unfold execOp;rw[p5];exact kZ (λv=>l7 (lQ v) w') e2) ?_;rw[d5];refine⟨ts'.defers,.int .i64 k',?_,rfl,hP⟩;have e3:((a.put (some t) (.int .i64 k')).put (some 4) (.int .i64 k')).tmps.getD 4 undef = .int .i64 k':=ig (by simp[jv,ts'.size];omega);split at h3
        ·rename_i er;have e4:fn.results = #[.tmp 4]:=(by apply Array.toList_inj.1;rw[er]);rw[Ia,e4];simp[O4,e3]
        ·cases h3
       ·cases h5
      ·cases h5
     ·cases h2
    ·cases h1
   ·cases h1
  ·cases hc
 ·cases hc
theorem afM {P:Program}{CO:Nat}{mt:G7}{sb:Yp}{tx:Int->List UInt8}(hall:∀f,(mt f).isSome=true->abO P CO mt f=true)(hst:∀f,(sb f).isSome=true->agO P sb f=true)(ht:IU P CO tx)
 {ty:Nat->Nat} {steps:List Stp} {cs cs':List Cell} {k k':Int} (h:SR mt sb tx ty steps cs k cs' k'):ahS P ty steps cs k cs' k':=by
 induction h with
 | nil=>
   intro g I0 I w vs L pid hX m kx rs e a Q hc hm ts hw hg hk
   match rs,hc with
   |[],_=>exact hk a w ts (zW.refl hX)
 | @sl ty o g r cs cs' c c1 k k1 k2 hc0 hT hmk _ ih=>
   intro gh I0 I w vs L pid hX m kx rs e a Q hc hm ts hw hg hk
   match rs,hc with
   | x::rs,hc=>
     simp only[Rz,ah]at hc;have hsl:(∃sz es,c = .sl sz es)/\∃sz es,c1 = .sl sz es:=by cases hmk with|c _ _ _=>exact⟨⟨_,_,rfl⟩,_,_,rfl⟩
     obtain⟨⟨sz',es,rfl⟩,hc1⟩:=hsl;have ho:o<vs.length:=(by rw[hX.len];exact(aT.1 hc0).1);have hv:=aA ho;have hoL:=hX.isl _ _ _ hc0;have hC:=(ae7 hall ht hmk).1;refine OM (Q:=Exit.then (Ap P Q rs) Q) hc.1 ts hm hw (x:=vs[o]) hv (k1:=k1) (R:=λw'=>zW P gh I w vs (cs.set o c1) L ty pid w') ?_ (λa' w' ts' hP=>?_)
     ·refine(hC gh I0 I w (ty o) (pid o) _ hT hX.good hX.tabs hX.Ox hX.old hX.ag (hX.own o hoL _ hv) (hX.root o hoL) (hX.rd o _ _ hv hc0) (hX.typ o _ _ hc0)).mono ?_;rintro e w' ⟨rfl,hp⟩;exact⟨rfl,hX.slice hc0 hv hc1 hp⟩
     ·obtain⟨J,hX2,hJ⟩:=zW.next hX hP;refine ih (e:=e) hX2 hc.2 hm ts' ?_ hg (λa2 w2 ts2 hP2=>hk a2 w2 ts2 (zW.trans hP.Aj hJ hP2));rw[hP.Aj.block kx (xB hw) (λ⟨j,_,hu⟩=>by obtain⟨T2,p,h2⟩:=hu.owned;rw[hg]at h2;cases h2)];exact hw
 | @st ty o sz g r steps cs cs2 cs' k k1 k2 hs hl _ hl2 _ ih1 ih2=>
   intro gh I0 I w vs L pid hX m kx rs e a Q hc hm ts hw hg hk
   match rs,hc with
   | x::rs,hc=>
     simp only[Rz,ah]at hc;have hF:V8 P g (λj=>ty (o+j)) ((cs.drop o).take sz) k cs2 k1:=QH (hst g (by rw[hs];rfl)) hs ih1;refine OM (Q:=Exit.then (Ap P Q rs) Q) hc.1 ts hm hw (x:=.agg ((vs.drop o).take sz).toArray) (by simp only[Stp.arg];rw[aF (by rw[hX.len];exact hl)]) (k1:=k1) (R:=λw'=>zW P gh I w vs (cs.take o++cs2++cs.drop (o+sz)) L ty pid w') ?_ (λa' w' ts' hP=>?_)
     ·refine(hF (hX.part hl)).mono ?_;rintro e w' ⟨rfl,hp⟩;exact⟨rfl,hX.ajy hl hl2 hp⟩
     ·obtain⟨J,hX2,hJ⟩:=zW.next hX hP;refine ih2 (e:=e) hX2 hc.2 hm ts' ?_ hg (λa2 w2 ts2 hP2=>hk a2 w2 ts2 (zW.trans hP.Aj hJ hP2));rw[hP.Aj.block kx (xB hw) (λ⟨j,_,hu⟩=>by obtain⟨T2,p,h2⟩:=hu.owned;rw[hg]at h2;cases h2)];exact hw
end
section
def takeA : Nat->gI->gI
 |n+1,.seq x y=>.seq x (takeA n y)
 |_,_=>.skip
def TB : Nat->gI->gI
 |n+1,.seq _ y=>TB n y
 |_,c=>c
def OA : Nat->Code->Code
 |n+1,.seq _ b=>OA n b
 |_,c=>c
def FX (P:Program)(pl:List Nat):Nat->Code->gI->List OF->Option (List OF)
 |0,_,_,Γ =>some Γ
 | n+1,.seq a b,.seq x y,Γ =>(match oC P pl (λ_=>true) a x Γ with
   |some (some Gf,_)=>FX P pl n b y Gf
   |_=>none)
 |_,_,_,_=>none
def QA (K R:iI->Prop):AQ
 |.normal,st=>K st
 |.ret,st=>R st
 |.exit _,_=>False
section
variable {P:Program} {E:Env P} {N:Nat} {g0:Own} {dp:Nat} {pa:List (Nat×Value)} {pl:List Nat}
theorem FI (hm:E.m<=10)(hpl:∀e,e∈pa->e.1∈pl){K R:iI->Prop}{Q:Exit->Act->World->Prop} : ∀{n:Nat} {c:Code} {ac:gI} {Γ yN:List OF} {a:Act} {w:World},tC P N E.m c ac=true->FX P pl n c ac Γ = some yN ->
 AO E g0 pa dp N (wpC P (takeA n ac) (QA K R)) Γ a w->(∀a w,AO E g0 pa dp N K yN a w->(OA n c).wp P Q a w)->(∀a w,AK E N R a w->Q .ret a w)->c.wp P Q a w
 | 0,c,ac,Γ,yN,a,w,hc,ho,h,hk,hr=>by simp only[FX,aC]at ho;subst ho;exact hk a w (by simpa[takeA,wpC,QA]using h)
 | n+1,c,ac,Γ,yN,a,w,hc,ho,h,hk,hr=>by
   cases c<;>cases ac<;>try(simp[FX]at ho;done)
   rename_i p q x y;simp only[tC,ah]at hc;simp only[FX]at ho;split at ho
   ·rename_i Gf xs hq;have h':AO E g0 pa dp N (wpC P x (tJ.then (wpC P (takeA n y) (QA K R)) (QA K R))) Γ a w:=h;refine wp_seq (wp_mono (uy hm hpl hc.1 hq h') λe a' w' he=>?_);cases e with
    | normal=>obtain⟨Yj,e1,h2⟩:=he;cases e1;exact FI hm hpl hc.2 ho h2 hk hr
    | ret=>obtain⟨Yj,_,h2⟩:=he;exact hr a' w' h2.1.1
    | exit id=>obtain⟨Yj,_,h2⟩:=he;obtain⟨_,_,_,h3,_⟩:=h2.1.1;exact h3.elim
    |goto l=>exact he.elim
    |panic ch=>exact he.elim
    |outgrown=>exact he.elim
   ·cases ho
end
def V3 : Ren:=λ_=>none
def V7 (J:IH)(a:Act)(ts:List (Nat×Slot)):Prop:=∀t s,(t,s)∈ts->GSl J V3 (a.tmps.getD t undef) s
theorem V7.mono {I J:IH}{a:Act}{ts:List (Nat×Slot)}(h:V7 I a ts)(hle:I.le J):V7 J a ts:=λt s hs=>(h t s hs).mono hle (λ_ _ h=>h)
theorem TQ : ∀{ts:List (Nat×Slot)} {t:Nat},yQ ts t = .none\/(t,yQ ts t)∈ts
 |[],t=>.inl rfl
 | (x,s)::r,t=>by
   simp only[yQ];by_cases h:x=t
   ·subst h;simp
   ·rw[ai h];rcases TQ (ts:=r) (t:=t)with h2|h2
    ·exact .inl h2
    ·exact .inr (List.mem_cons_of_mem _ h2)
noncomputable def IH.with (I:IH)(w:World)(V:Nat->Prop):IH:=λk=>open Classical in if V k then(match w.heap[k]? with
 |some (.cells c _ _)=>some c
 |_=>I k)else I k
theorem X4 {I:IH}{w:World}{V:Nat->Prop}{k:Nat}{c:Array Value}{e:TypeId}{fr:Nat×Nat}(hk:V k)(hw:w.heap[k]? = some (.cells c e fr)):I.with w V k=some c:=by unfold IH.with;rw[aF hk,hw]
theorem VV {I:IH}{w:World}{V:Nat->Prop}(hA:Agree I w):I.le (I.with w V):=λk c h=>by
 obtain⟨e,fr,hw⟩:=hA k c h;unfold IH.with
 split
 ·rw[hw]
 ·exact h
theorem RU {I:IH}{w:World}{V:Nat->Prop}(hA:Agree I w):Agree (I.with w V) w:=λk c h=>by
 unfold IH.with at h;split at h
 ·split at h
  ·rename_i c' e fr hw;cases h;exact⟨e,fr,hw⟩
  ·exact hA k c h
 ·exact hA k c h
section
variable {P:Program} {N:Nat} {a:Act} {w:World} {J:IH}
abbrev E1 (w:World)(J:IH)(hT:Tabs P J):Env P:=⟨w,J,λk=>∃b,(zX ([]:List Box) b).uses (V3 b) k,V3,([]:List Box).length,hT⟩
theorem aeq (hT:Tabs P J)(hA:Agree J w){ts:List (Nat×Slot)}(hs:V7 J a ts)(hn:a.tmps.size=N)(hd:a.defers=[]):GX (E1 w J hT) J V3 N (iI.of ts []) a w where
 agree:=hA
 bx:=⟨λb=>by rw[Cc];exact rfl,λb b' k h _=>by rw[Cc]at h;exact h.elim,λb k h=>by rw[Cc]at h;exact h.elim⟩
 tm:=λt _=>by
  rw[GH];rcases TQ (ts:=ts) (t:=t)with h|h
  ·rw[h];trivial
  ·exact hs t _ h
 size:=hn
 defers:=hd
 Aj:=zK.refl _ _
 own:=λb k h=>by rw[Cc]at h;exact h.elim
 Kq:=IH.le_refl _
 Fa:=λ_ _ _=>rfl
 vW:=λb hb=>aY hb (Nat.not_lt_zero b)
theorem YT {w':World}{hT:Tabs P J}(h:zK w w' (E1 w J hT).M):zK w w' λ_=>False:=⟨h.os,h.tape,h.output,h.size,λk hk _=>h.block k hk (by rintro⟨b,hb⟩;exact hb)⟩
def OE : Own:=⟨λ_=>none,λ_=>0⟩
theorem Vz {dp:Nat} : OW P FV OE dp [] a w:=⟨⟨λk T p h=>(by cases h),λk row d b h=>(by cases h)⟩,λf hf=>(by cases hf)⟩
end
theorem Uc {P:Program}{f:FuncId}{args:List AV}(hk:MG f true=true)(h:∀(I:IH) (w:World) (vs:List Value),Tabs P I->Agree I w->PM I V3 vs args->Calls P f vs.toArray w λe w'=>e = .returned (.bool true)/\zK w w' λ_=>False):iW P f args (tH true):=by
 refine oN.of0 hk λI ρ w vs hT hA hB hV=>?_;have hρ:ρ=V3:=by
  funext b
  have:=hB.ok b;exact this
 subst hρ;refine(h I w vs hT hA hV).mono ?_;rintro e w' ⟨rfl,hF⟩;refine⟨.bool true,I,V3,_,_,rfl,⟨rfl,rfl⟩,Rd.lit _ rfl,hA.quiet hF,⟨λb=>rfl,λb b' k h=>h.elim,λb k h=>h.elim⟩,IH.le_refl I,hF.any,λb k h=>h.elim,λ_ _ _=>rfl,λ_ _=>rfl⟩
theorem ag6 {P:Program}{Q:Exit->Act->World->Prop}{id:Nat}{ops:Array Oper}{c r:Code}{a:Act}{w:World}(h:c = .seq (.region id ops false) r)(hw:(zO id ops false).wp P (Exit.then (r.wp P Q) Q) a w):c.wp P Q a w:=by subst h;exact wp_seq hw
end
def Zg (P:Program)(N:Nat):List Oper->Option (Option Nat×Nat×Nat×Nat×List Nat)
 | [o1,o2,o3,o4]=>(match o1.guard,o1.dst,o2.guard,o2.dst,o2.op with
   | none,some t1,none,some t2,.move (.tmp y)=>(match o3.guard,o3.dst,o3.op,o4.guard,o4.dst,o4.op with
     | none,some t3,.call ⟨.value (.func f),⟨[.tmp u1,.tmp u2]⟩,_⟩,none,some y',.assign (.tmp u3)=>
       if u1=t1/\u2=t2/\u3=t3/\y'=y/\t1≠t2/\y≠t1/\t1<N/\t2<N/\t3<N/\y<N/\zL P f=true then(match o1.op with
        | .load t (.tmp x)=>(match P.info? t with
          |some i=>if IP P t true i.size=true then some (some i.size,x,y,f,[t1,t2,t3,y])else none
          |none=>none)
        |.move (.tmp x)=>some (none,x,y,f,[t1,t2,t3,y])
        |_=>none)
       else none
     |_,_,_,_,_,_=>none)
   |_,_,_,_,_=>none)
 |_=>none
def Held (a:Act)(w:World)(x:Nat)(vs:List Value):Option Nat->Prop
 |some sz=>∃kx e,a.tmps.getD x undef = .pointer (some ⟨kx,0,none⟩)/\w.heap[kx]? = some (.cells vs.toArray e (0,0))/\vs.length=sz
 |none=>∃v,vs=[v]/\a.tmps.getD x undef=v
def Kt (vs:List Value):Option Nat->Value
 |some _=>.agg vs.toArray
 |none=>vs.headD undef
theorem acy {P:Program}{N id x y f:Nat}{k k':Int}{s:Option Nat}{tms:List Nat}{ops:Array Oper}{Q:Exit->Act->World->Prop}{a:Act}{w:World}{vs:List Value}{R:World->Prop}(hm:Zg P N ops.toList=some (s,x,y,f,tms))(hN:a.tmps.size=N)(hd:a.defers=[])
 (hv:Held a w x vs s) (hk:a.tmps.getD y undef = .int .i64 k) (hcall:Calls P f #[Kt vs s,.int .i64 k] w λe w'=>e = .returned (.int .i64 k')/\R w')
 (hQ:∀a' w',a'.tmps.size=N->a'.defers=[]->a'.tmps.getD y undef = .int .i64 k'->(∀t,t ∉ tms->a'.tmps.getD t undef=a.tmps.getD t undef)->R w'->Q .normal a' w'):(zO id ops false).wp P Q a w:=by
 refine wp_region_list ?_;generalize ops.toList=os at hm;unfold Zg at hm;split at hm
 ·rename_i o1 o2 o3 o4;split at hm
  ·rename_i t1 t2 y' g1 d1 g2 d2 p2;split at hm
   ·rename_i t3 f' u1 u2 ts y2 u3 g3 d3 p3 g4 d4 p4;split at hm
    ·rename_i hc;obtain⟨rfl,rfl,rfl,rfl,n1,n2,l1,l2,l3,l4,hok⟩:=hc;have fin:∀{x0:Nat},(execOp a.eval o1).run P w = .ok (.value (Kt vs s)) w->(s,x0,y2,f',[u1,u2,u3,y2])=(s,x,y,f,tms)->wpList P ops Q [o1,o2,o3,o4] a w:=λhr e=>by
      cases e;refine qR g1 hr ?_;rw[d1];refine qR (v:=.int .i64 k) (w':=w) g2 (by unfold execOp;rw[p2];exact kZ (λv=>l7 (lQ v) w) ((mJ n2).trans hk)) ?_;rw[d2];have v1:((a.put (some u1) (Kt vs s)).put (some u2) (.int .i64 k)).eval (.tmp u1)=Kt vs s:=(by rw[CW,mJ n1];exact ig (by rw[hN];exact l1));have v2:((a.put (some u1) (Kt vs s)).put (some u2) (.int .i64 k)).eval (.tmp u2) = .int .i64 k:=(by rw[CW];exact ig (by simp[jv,hN];exact l2));have he:=D7 (w:=w) (a:=((a.put (some u1) (Kt vs s)).put (some u2) (.int .i64 k))) p3 (x:=.func f) (caps:= #[]) rfl hok;refine JW g3 (f:=f) (args:= #[Kt vs s,.int .i64 k]) (by simpa[v1,v2]using he) (hcall.mono ?_);rintro e w' ⟨rfl,hR⟩;refine⟨_,rfl,?_⟩;rw[d3];have v3:(((a.put (some u1) (Kt vs s)).put (some u2) (.int .i64 k)).put (some u3) (.int .i64 k')).tmps.getD u3 undef = .int .i64 k':=ig (by simp[jv,hN];exact l3);refine qR (v:=.int .i64 k') (w':=w') g4 (by unfold execOp;rw[p4];exact kZ (λv=>l7 (lQ v) w') v3) ?_;rw[d4];refine hQ _ w' (by simp[jv,hN]) hd (ig (by simp[jv,hN];exact l4)) (λt ht=>?_) hR;simp only[aO,List.not_mem_nil,or_false,not_or]at ht;rw[mJ ht.2.2.2,mJ ht.2.2.1,mJ ht.2.1,mJ ht.1]
     split at hm
     ·rename_i t x0 p1;split at hm
      ·rename_i i hi;split at hm
       ·rename_i hty;have e:s=some i.size/\x0=x:=by cases hm;exact⟨rfl,rfl⟩
        obtain⟨rfl,rfl⟩:=e;obtain⟨kx,e,h1,h2,h3⟩:=hv;refine fin (x0:=x0) ?_ (by simpa using hm);obtain⟨q1,q2⟩:=EU hty w;have q3:=run_loadCells_list (P:=P) w ⟨kx,0,none⟩ vs (λj u hu=>by rw[Addr.o9,fE];simp only[iy,h2];simpa using hu)
        rw[h3]at q3;have v1:a.eval (.tmp x0) = .pointer (some ⟨kx,0,none⟩):=h1;simp[execOp,p1,v1,jO,nM,loadVar,q1,q2,q3,Kt]
       ·cases hm
      ·cases hm
     ·rename_i x0 p1;have e:s=none/\x0=x:=by cases hm;exact⟨rfl,rfl⟩
      obtain⟨rfl,rfl⟩:=e;obtain⟨v,rfl,h1⟩:=hv;refine fin (x0:=x0) ?_ (by simpa using hm);unfold execOp;rw[p1];exact kZ (λv=>l7 (lQ v) w) h1
     ·cases hm
    ·cases hm
   ·cases hm
  ·cases hm
 ·cases hm
section
section
variable {P:Program} {E:Env P} {I I0 J:IH} {ρ:Ren} {N dp:Nat} {st:iI} {a:Act} {w w':World} {g:Own} {Γ : List OF}
theorem aap {I:IH}{ρ:Ren}{cells:Array Value}{xs:List AC}{cs:List Cell}(hxs:xs=cs.map .c)(hg:∀(j:Nat) (u:Value) (x:AC),cells[j]? = some u->xs[j]? = some x->GC I ρ u x)(j:Nat)(v:Value)(c:Cell)(hv:cells.toList[j]? = some v)(hc:cs[j]? = some c):Rd I v c:=
 hg j v (.c c) (by simpa using hv) (by rw[hxs,dD,hc];rfl)
theorem ac4 (hG:GX E I ρ N st a w)(hO:OW P FV g dp Γ a w){x b:Nat}{xs:List AC}{cs:List Cell}{rows:List (Nat×Nat×Nat)}(hx:x<N)(htm:st.tm x = .v true (.one (.ptr b 0)))(hb:st.bx b = .var xs)(hxs:xs=cs.map .c)(hvp:OF.vp x x 0 ∈ Γ)
 (hr:∀r,r∈rows->OF.row x ⟨r.1,r.2.1,r.2.2⟩ ∈ Γ) :
 ∃ (kx:Nat) (vs:List Value) (e:TypeId),a.tmps.getD x undef = .pointer (some ⟨kx,0,none⟩)/\w.heap[kx]? = some (.cells vs.toArray e (0,0))/\vs.length=cs.length/\(∀(j:Nat) (v:Value) (c:Cell),vs[j]? = some v->cs[j]? = some c->Rd I v c) /\
   (∃row d b,g kx=some (.var row d b))/\∀r,r∈rows->∀v,vs[r.1]? = some v->GR g v r.2.1 (.tag dp r.2.2):=by
 obtain⟨kx,row,h1,_,h2⟩:=hO.fs _ hvp;have h3:=hG.tm x hx;rw[htm]at h3;obtain⟨k,cap,h4,h5⟩:=h3.1 rfl;have h6:=hG.bx.ok b;rw[hb]at h6;obtain⟨k',cap',cells,h7,h8,h9,h10⟩:=h6;rw[h4]at h7;cases h7;rw[h1]at h5;cases h5;refine⟨kx,cells.toList,_,h1,by simpa using h8,by rw[kS,h9,hxs];simp,λj v c hv hc=>aap hxs h10 j v c hv hc,⟨_,_,_,h2⟩,λr hrr v hv=>?_⟩;obtain⟨k2,Kr,q1,q2,q3⟩:=hO.fs _ (hr r hrr);rw[h1]at q1;cases q1;obtain⟨cells2,e2,q4,q5⟩:=hO.good.var _ _ _ _ q2;rw[h8]at q4;cases q4;obtain⟨u,q6,q7⟩:=q5 _ q3;rw[show cells.toList[r.1]? = cells[r.1]? by simp,q6]at hv;cases hv;exact q7
def tyR (rows:List (Nat×Nat×Nat))(j:Nat):Nat:=match rows.find? (λr=>r.1==j)with
 |some r=>r.2.1
 |none=>0
def afr (dp:Nat)(rows:List (Nat×Nat×Nat))(j:Nat):wL:=match rows.find? (λr=>r.1==j)with
 |some r=>.tag dp r.2.2
 |none=>.dead
def Rk (rows:List (Nat×Nat×Nat)):Bool:=Fb (rows.map (·.1))&&Fb (rows.map (·.2.2))
theorem Jc {rows:List (Nat×Nat×Nat)}(h:Rk rows=true){r:Nat×Nat×Nat}(hr:r∈rows):rows.find? (λq=>q.1==r.1)=some r:=by
 unfold Rk at h;simp only[ah]at h;have hn:=Fe h.1;clear h
 induction rows with
 |nil=>cases hr
 | cons q rows ih=>
   simp only[bJ,xe]at hn;rw[List.find?_cons];rcases aO.1 hr with rfl|hr
   ·simp
   ·have:(q.1==r.1)=false:=by
     simp only[beq_eq_false_iff_ne,ne_eq];intro e;exact hn.1 (e▸bf.2 ⟨r,hr,rfl⟩)
    rw[this];exact ih hr hn.2
theorem ahH {rows:List (Nat×Nat×Nat)}(h:Rk rows=true){r q:Nat×Nat×Nat}(hr:r∈rows)(hq:q∈rows)(e:r.2.2=q.2.2):r=q:=by
 unfold Rk at h;simp only[ah]at h;have hn:=Fe h.2;clear h
 induction rows with
 |nil=>cases hr
 | cons z rows ih=>
   simp only[bJ,xe]at hn;rcases aO.1 hr with e1|hr'<;>rcases aO.1 hq with e2|hq'
   ·rw[e1,e2]
   ·subst e1;exact aY (show _∈rows.map (·.2.2)from bf.2 ⟨q,hq',e.symm⟩) hn.1
   ·subst e2;exact aY (show _∈rows.map (·.2.2)from bf.2 ⟨r,hr',e⟩) hn.1
   ·exact ih hr' hq' hn.2
theorem ak9 (hg:Good P g w)(hT:Tabs P I0)(hA0:Agree I0 w)(hold:∀b c,I0 b=some c->g b=none)(hA:Agree I w){vs:List Value}{cs:List Cell}(hlen:vs.length=cs.length)(hrd:∀(j:Nat) (v:Value) (c:Cell),vs[j]? = some v->cs[j]? = some c->Rd I v c)
 {rows:List (Nat×Nat×Nat)} (hok:Rk rows=true) (hgr:∀r,r∈rows->∀v,vs[r.1]? = some v->GR g v r.2.1 (.tag dp r.2.2)) (hcov:∀(j sz:Nat) (es:List (List Cell)),cs[j]? = some (.sl sz es)->∃r,r∈rows/\r.1=j/\PU P r.2.1 (.sl sz es)) :
 SX P g I0 I w vs cs (rows.map (·.1)) (tyR rows) (afr dp rows) where
 good:=hg
 tabs:=hT
 Ox:=hA0
 old:=hold
 ag:=hA
 len:=hlen
 rd:=hrd
 isl:=λj sz es h=>by obtain⟨r,h1,h2,_⟩:=hcov j sz es h;exact bf.2 ⟨r,h1,h2⟩
 own:=λj hj v hv=>by obtain⟨r,h1,rfl⟩:=bf.1 hj;simp only[tyR,afr,Jc hok h1];exact hgr r h1 v hv
 root:=λj hj=>by obtain⟨r,h1,rfl⟩:=bf.1 hj;simp only[afr,Jc hok h1];exact .inl ⟨_,_,rfl⟩
 typ:=λj sz es h=>by obtain⟨r,h1,rfl,h2⟩:=hcov j sz es h;simp only[tyR,Jc hok h1];exact h2
 dis:=λi j b hi hj h1 h2=>by obtain⟨r,q1,rfl⟩:=bf.1 hi;obtain⟨q,q2,rfl⟩:=bf.1 hj;simp only[afr,Jc hok q1]at h1;simp only[afr,Jc hok q2]at h2;rw[ahH hok q1 q2 (h1.ajx h2).2]
theorem SX.keep {vs:List Value}{cs:List Cell}{L LA:List Nat}{ty:Nat->Nat}{pid afq:Nat->wL}(h:SX P g I0 I w vs cs L ty pid)(hg:Good P g w')(hF:zK w w' λb=>∃j,j∈LA/\Under g (afq j) b)(hA:Agree J w')(hJ:∀b,(∀j,j∈LA->¬Under g (afq j) b)->J b=I b)
 (hd:∀i,i∈LA->∀j,j∈L->∀b,Under g (afq i) b->¬Under g (pid j) b):SX P g I0 J w' vs cs L ty pid:=
 { h with
   good:=hg
   Ox:=h.Ox.other λb c hb=>hF.block b (h.Ox.lt hb) (by rintro⟨j,_,hu⟩;obtain⟨T2,p,h2⟩:=hu.owned;have:=h.old b c hb;rw[h2]at this;cases this)
   ag:=hA
   rd:=λj v c hv hc=>by
    have hr:=h.rd j v c hv hc;cases c with
    |lit _=>exact hr.MI
    |str _=>exact hr.MZ
    | sl sz es=>have hj:=h.isl _ _ _ hc;exact hr.under h.good h.ag (h.own j hj v hv) (h.typ _ _ _ hc) λb hb=>hJ b λi hi h2=>hd i hi j hj b h2 hb }
theorem ajc {IA:IH}{LA:List Nat}{afq:Nat->wL}(hold:∀b c,IA b=some c->g b=none)(hle:IA.le I)(hJ:∀b,(∀j,j∈LA->¬Under g (afq j) b)->J b=I b):IA.le J:=λb c h=>by
 rw[hJ b (λj _ hu=>by obtain⟨T2,p,h2⟩:=hu.owned;have:=hold b c h;rw[h2]at this;cases this)]
 exact hle b c h
theorem Un {kx:Nat}{vs:List Value}{cs:List Cell}{x:Nat}(h1:a.tmps.getD x undef = .pointer (some ⟨kx,0,none⟩))(h2:J kx=some vs.toArray)(hl:vs.length=cs.length)(hrd:∀(j:Nat) (v:Value) (c:Cell),vs[j]? = some v->cs[j]? = some c->Rd J v c) :
 GSl J V3 (a.tmps.getD x undef) (.v true (.one (.EG cs))):=by
 refine⟨λ_=>⟨⟨kx,0,none⟩,h1,λj c hc=>?_⟩,λe=>by cases e⟩;have hj:j<vs.length:=by rw[hl];exact(aT.1 hc).1
 refine⟨vs[j],?_,hrd j _ c (aA hj) hc⟩;rw[Addr.o9,fE];unfold IH.cell;simp[h2,hj]
def ajA (ρ:Ren)(st:iI)(k:Nat):Prop:=∃b xs cap,st.bx b = .var xs/\ρ b=some (k,cap)
theorem afK (hG:GX E I ρ N st a w){x b:Nat}{xs:List AC}{cs:List Cell}(hx:x<N)(htm:st.tm x = .v true (.one (.ptr b 0)))(hb:st.bx b = .var xs)(hxs:xs=cs.map .c):GSl (I.with w (ajA ρ st)) V3 (a.tmps.getD x undef) (.v true (.one (.EG cs))):=by have h3:=hG.tm x hx;rw[htm]at h3;obtain⟨k,cap,h4,h5⟩:=h3.1 rfl;have h6:=hG.bx.ok b;rw[hb]at h6;obtain⟨k',cap',cells,h7,h8,h9,h10⟩:=h6;rw[h4]at h7;cases h7;exact Un (vs:=cells.toList) h5 (by rw[X4 ⟨b,xs,_,hb,h4⟩ h8]) (by rw[kS,h9,hxs];simp) λj v c hv hc=>(aap hxs h10 j v c hv hc).mono (VV hG.agree)
theorem afJ (hG:GX E I ρ N st a w){x:Nat}{c:Cell}(hx:x<N)(htm:st.tm x = .v true (.one (.c c)))(hle:I.le J):GSl J V3 (a.tmps.getD x undef) (.v true (.one (.c c))):=by have h3:=hG.tm x hx;rw[htm]at h3;exact⟨λ_=>Rd.mono hle (h3.1 rfl),λe=>by cases e⟩
end
end
section
abbrev RL (rt:Nat):iI->Prop:=Gi [.tmp rt] 0 (λr bs=>r=tH true/\bs=[])
abbrev Bd (P:Program)(fn:Func)(w0:World):Exit->Act->World->Prop:=bodyPost P fn λe w'=>e = .returned (.bool true)/\zK w0 w' λ_=>False
structure agn (K:iI->Prop)(S:iI):Prop where
 f:K S
section
variable {P:Program} {fn:Func} {w0 w w' wA:World} {I J JA:IH} {a a':Act} {g:Own} {c:Code} {ac:gI} {rt:Nat}
theorem MH (hcr:CE P fn.ntmps fn.results.toList [.tmp rt]=true){hT:Tabs P J}(hF:zK w0 w λ_=>False)(h:AK (E1 w J hT) fn.ntmps (RL rt) a w'):Bd P fn w0 .ret a w':=by obtain⟨h1,v,h2,v',J',σ,r,bs,e,⟨rfl,rfl⟩,h3,_,_,_,h4,_⟩:=aaB (fp:=[]) hcr h;refine⟨h1,v,h2,?_,hF.trans (YT (hT:=hT) h4) λ_ _ h=>h⟩;cases e;cases h3;rfl
structure Mid (P:Program)(N:Nat)(w0:World)(J:IH)(ts:List (Nat×Slot))(a:Act)(w:World):Prop where
 tabs:Tabs P J
 ag:Agree J w
 sl:V7 J a ts
 size:a.tmps.size=N
 defers:a.defers=[]
 Aj:zK w0 w λ_=>False
structure Aft (P:Program)(N:Nat)(w0 wA:World)(JA:IH)(I:IH)(ρ:Ren)(g:Own)(pa:List (Nat×Value))(Γ : List OF)(st:iI)(a:Act)(w:World):Prop where
 tabs:Tabs P JA
 gx:∃hT:Tabs P JA,GX (E1 wA JA hT) I ρ N st a w
 ow:OW P FV g 0 Γ a w
 new:∀k,k<wA.heap.size->g k=none
 old:∀b c,JA b=some c->g b=none
 Ox:Agree JA w
 ag:Agree I w
 pa:PA pa a
 alP:zK wA w λ_=>False
 Aj:zK w0 w λ_=>False
 Kq:JA.le I
theorem MK {N:Nat}(h:Rel 0 N OE g)(k:Nat)(hk:k<N):g k=none:=by
 cases hx:g k with
 |none=>rfl
 |some B=>obtain⟨B',h1,_⟩:=h.old k B hk hx;cases h1
theorem acg (hcr:CE P fn.ntmps fn.results.toList [.tmp rt]=true){ts:List (Nat×Slot)}{S:iI}{pa:List (Nat×Value)}{pl:List Nat}{n:Nat}{Γ : List OF}(h:Mid P fn.ntmps w0 JA ts a wA)(hpl:∀e,e∈pa->e.1∈pl)(hpa:PA pa a)
 (hc:tC P fn.ntmps 0 c ac=true) (ho:FX P pl n c ac []=some Γ) (hw:∀K,agn K S->wpC P (takeA n ac) (QA K (RL rt)) (iI.of ts []))
 (hk:∀{I ρ g a w},Aft P fn.ntmps w0 wA JA I ρ g pa Γ S a w->(OA n c).wp P (Bd P fn w0) a w):c.wp P (Bd P fn w0) a wA:=by
 have hG:=aeq h.tabs h.ag h.sl h.size h.defers;refine FI (E:=E1 wA JA h.tabs) (g0:=OE) (dp:=0) (pa:=pa) (K:=λst=>st=S) (R:=(RL rt)) (aJ 10) hpl hc ho ⟨⟨⟨JA,V3,_,hw _ ⟨rfl⟩,hG⟩,⟨OE,Rel.refl _ _ _,Vz⟩⟩,hpa⟩ (λa w hA=>?_) λa w hA=>MH hcr h.Aj hA;obtain⟨⟨⟨I,ρ,st,rfl,hG⟩,g,hR,hO⟩,hPA⟩:=hA;have hF:=YT hG.Aj;refine hk ⟨h.tabs,⟨_,hG⟩,hO,MK hR,λb c hb=>MK hR b (h.ag.lt hb),h.ag.quiet hF,hG.agree,hPA,hF,h.Aj.trans hF λ_ _ h=>h,hG.Kq⟩
theorem aeM (hcr:CE P fn.ntmps fn.results.toList [.tmp rt]=true){ts:List (Nat×Slot)}(h:Mid P fn.ntmps w0 J ts a w)(hc:tC P fn.ntmps 0 c ac=true)(hw:wpC P ac (QF [.tmp rt] 0 (λr bs=>r=tH true/\bs=[])) (iI.of ts [])):c.wp P (Bd P fn w0) a w:=by
 have hG:=aeq h.tabs h.ag h.sl h.size h.defers;refine wp_mono (vU (E:=E1 w J h.tabs) (aJ 10) hc ⟨J,V3,_,hw,hG⟩) λe a w' hq=>?_;cases e with
 |normal=>exact MH hcr h.Aj hq
 |ret=>exact MH hcr h.Aj hq
 |exit id=>obtain⟨_,_,_,h,_⟩:=hq;exact h.elim
 |goto l=>exact hq.elim
 |panic ch=>exact hq.elim
 |outgrown=>exact hq.elim
theorem acf {f:FuncId}{args:List AV}(hf:P.funcs[f]? = some fn)(hb:fn.body=some c)(hk:MG f true=true)(hl:args.length<=fn.ntmps)(hcr:CE P fn.ntmps fn.results.toList [.tmp rt]=true){S:iI}{n:Nat}{Γ : List OF}(hc:tC P fn.ntmps 0 c ac=true)(ho:FX P [] n c ac []=some Γ)
 (hw:∀K,agn K S->wpC P (takeA n ac) (QA K (RL rt)) (st0 args []))
 (hk':∀{w0 wA JA I ρ g a w},Aft P fn.ntmps w0 wA JA I ρ g [] Γ S a w->(OA n c).wp P (Bd P fn w0) a w):iW P f args (tH true):=by
 refine Uc hk λI w vs hT hA hV=>?_;have hB:BX I V3 w (zX []):=Vr I w;have hG:=NL (fn:=fn) hl hT hA hB hV;refine calls_of_wp hf hb ?_;refine FI (E:=E1 w I hT) (g0:=OE) (dp:=0) (pa:=[]) (K:=λst=>st=S) (R:=(RL rt)) (aJ 10) (λe he=>by cases he) hc ho ⟨⟨⟨I,V3,_,hw _ ⟨rfl⟩,hG⟩,⟨OE,Rel.refl _ _ _,Vz⟩⟩,λe he=>by cases he⟩ (λa w' hA'=>?_) λa w' hA'=>MH hcr (zK.refl _ _) hA';obtain⟨⟨⟨I',ρ,st,rfl,hG⟩,g,hR,hO⟩,hPA⟩:=hA';have hF:=YT hG.Aj;exact hk' ⟨hT,⟨_,hG⟩,hO,MK hR,λb c hb=>MK hR b (hA.lt hb),hA.quiet hF,hG.agree,hPA,hF,hF,hG.Kq⟩
theorem ace {f:FuncId}{args:List AV}(hf:P.funcs[f]? = some fn)(hb:fn.body=some c)(hk:MG f true=true)(hl:args.length<=fn.ntmps)(hcr:CE P fn.ntmps fn.results.toList [.tmp rt]=true){n:Nat}{Γ : List OF}(hc:tC P fn.ntmps 0 c ac=true)(ho:FX P [] n c ac []=some Γ)
 (hw:wpC P (takeA n ac) (QA (λ_=>False) (RL rt)) (st0 args [])):iW P f args (tH true):=by
 refine Uc hk λI w vs hT hA hV=>?_;have hG:=NL (fn:=fn) hl hT hA (Vr I w) hV;refine calls_of_wp hf hb ?_;refine FI (E:=E1 w I hT) (g0:=OE) (dp:=0) (pa:=[]) (K:=λ_=>False) (R:=(RL rt)) (aJ 10) (λe he=>by cases he) hc ho ⟨⟨⟨I,V3,_,hw,hG⟩,⟨OE,Rel.refl _ _ _,Vz⟩⟩,λe he=>by cases he⟩ (λa w' hA'=>?_) λa w' hA'=>MH hcr (zK.refl _ _) hA';obtain⟨⟨⟨I',ρ,st,h,hG⟩,_⟩,hPA⟩:=hA';exact h.elim
structure Mks (P:Program)(N:Nat)(w0 wA:World)(JA J:IH)(g:Own)(a:Act)(w:World):Prop where
 new:∀k,k<wA.heap.size->g k=none
 sz:wA.heap.size<=w.heap.size
 old:∀b c,JA b=some c->g b=none
 Kq:JA.le J
 ag:Agree J w
 size:a.tmps.size=N
 defers:a.defers=[]
 Aj:zK w0 w λ_=>False
 sz0:w0.heap.size<=wA.heap.size
def ahR (P:Program)(s:Option Nat)(f:Nat)(ty:Nat->Nat)(cs:List Cell)(k:Int)(cs':List Cell)(k':Int):Prop:=
 ∀{g:Own} {I0 I:IH} {w:World} {vs:List Value} {L:List Nat} {pid:Nat->wL},SX P g I0 I w vs cs L ty pid->Calls P f #[Kt vs s,.int .i64 k] w λe w'=>e = .returned (.int .i64 k')/\zW P g I w vs cs' L ty pid w'
theorem V8.any {f n:Nat}{ty:Nat->Nat}{cs cs':List Cell}{k k':Int}(h:V8 P f ty cs k cs' k'):ahR P (some n) f ty cs k cs' k':=h
def Zn (P:Program)(N:Nat):Code->Option (Option Nat×Nat×Nat×Nat×List Nat)
 |.seq (.region _ ops false) _=>Zg P N ops.toList
 |_=>none
theorem ag8 {x kx:Nat}{vs:List Value}{e:TypeId}{n:Nat}(h1:a.tmps.getD x undef = .pointer (some ⟨kx,0,none⟩))(h2:w.heap[kx]? = some (.cells vs.toArray e (0,0)))(h3:vs.length=n):Held a w x vs (some n):=⟨kx,e,h1,h2,h3⟩
theorem aeN {N x y f:Nat}{k k':Int}{s:Option Nat}{tms:List Nat}{Q:Exit->Act->World->Prop}{vs:List Value}{cs cs':List Cell}{L:List Nat}{ty:Nat->Nat}{pid:Nat->wL}
 (hM:Mks P N w0 wA JA J g a w) (hS:SX P g JA J w vs cs L ty pid) (hm:Zn P N c=some (s,x,y,f,tms)) (hv:Held a w x vs s) (hk:a.tmps.getD y undef = .int .i64 k) (hf:ahR P s f ty cs k cs' k')
 (hQ:∀{a' w' J'},Mks P N w0 wA JA J' g a' w'->SX P g JA J' w' vs cs' L ty pid->a'.tmps.getD y undef = .int .i64 k'->(∀t,t ∉ tms->a'.tmps.getD t undef=a.tmps.getD t undef) ->
  (∀b row d m,g b=some (.var row d m)->w'.heap[b]? = w.heap[b]?) ->
  (∀{vs2 cs2 L2 ty2 ajh},SX P g JA J w vs2 cs2 L2 ty2 ajh->(∀i,i∈L->∀j,j∈L2->∀b,Under g (pid i) b->¬Under g (ajh j) b)->SX P g JA J' w' vs2 cs2 L2 ty2 ajh)->(OA 1 c).wp P Q a' w'):c.wp P Q a w:=by
 unfold Zn at hm;split at hm
 case h_2=>cases hm
 refine ag6 rfl (acy (R:=zW P g J w vs cs' L ty pid) hm hM.size hM.defers hv hk (hf hS) λa' w' h1 h2 h3 h4 hp=>?_);obtain⟨J',hS',hJ'⟩:=zW.next hS hp;have hF:zK w w' λb=>wA.heap.size<=b:=⟨hp.Aj.os,hp.Aj.tape,hp.Aj.output,hp.Aj.size,λk hk hn=>hp.Aj.block k hk (by rintro⟨j,_,hu⟩;obtain⟨T2,p,h2⟩:=hu.owned;rw[hM.new k aI]at h2;cases h2)⟩
 refine hQ ⟨hM.new,dR hM.sz hF.size,hM.old,ajc hM.old hM.Kq hJ',hS'.ag,h1,h2,hM.Aj.trans hF λb hb hn=>by have:=hM.sz0;omega,hM.sz0⟩ hS' h3 h4 (λb row d m hb=>hp.Aj.block b (by obtain⟨_,e,hw,_⟩:=hS.good.var b row d m hb;exact xB hw) ?_) λh2 hd=>h2.keep hp.good hp.Aj hS'.ag hJ' hd
 rintro⟨j,_,hu⟩;obtain⟨T2,p,h2⟩:=hu.owned;rw[hb]at h2;cases h2
end
end
def ptK (P:Program)(f:FuncId):Bool:=match kindOf f with
 | .ow sg=>(match sg.rs with
   |[[(0,T)],[]]=>decide (sg=⟨[.any],[[(0,T)],[]]⟩)&&(nP P T).isEmpty
   |_=>false)
 |_=>true
theorem ahr {P:Program}{f:FuncId}{a v:Value}{b:Bool}{w w':World}{X:Ending->World->Prop}(hk:ptK P f=true)(hX:Sl P f [a] w X)(hF:zK w w' λ_=>False)
 (hv:v = .slice none 0 0\/∃k n c cs e,v = .slice (some ⟨k,0,none⟩) n c/\w.heap.size<=k/\w'.heap[k]? = some (.cells cs e (0,0))):X (.returned (.tuple #[v,.bool b])) w':=by
 cases hX with
 |XZ=>trivial
 |rd h=>exact hF
 | ow sg h hl g dp hin=>
   unfold ptK at hk;rw[h]at hk
   dsimp only at hk
   split at hk
   ·rename_i T hrs;simp only[ah,aj,List.isEmpty_iff]at hk;obtain⟨rfl,hT⟩:=hk;have good:Good P g w':=hin.good.world λk hk=>hF.block k (by
     cases hx:g k with
     |none=>exact aY hx hk
     |some B=>exact hin.good.lt hx) (λh=>h)
    rcases hv with rfl|⟨k,n,c,cs,e,rfl,hk0,hc⟩
    ·refine⟨_,g,rfl,Rel.refl _ _ _,good,λf hf=>?_⟩;have:f = .Bg 1 0 ⟨0,T,20000⟩:=(by simpa[Oe,Vx,XD,List.zipIdx]using hf);subst this;exact⟨_,_,_,rfl,rfl,rfl,.inl rfl⟩
    ·have hn:g k=none:=by
      cases hx:g k with
      |none=>rfl
      |some B=>have:=hin.good.lt hx;omega
     have hna:∀T' q,g k≠some (.arr T' q):=λT' q e=>(by rw[hn]at e;cases e);refine⟨_,g.upn k (.arr T (.tag dp 20000)) n,rfl,Rel.new hn hk0,⟨λk' T' p hk'=>?_,λk' row d b hk'=>?_⟩,λf hf=>?_⟩
     ·rw[tZ]at hk';split at hk'
      ·rename_i e1;subst e1;cases hk';exact⟨cs,e,hc,λj u T' _ _ ht=>by rw[hT]at ht;cases ht⟩
      ·rename_i hne;obtain⟨cs',e',h1,h2⟩:=good.arr k' T' p hk';exact⟨cs',e',h1,λj u T'' hb hu ht=>(h2 j u T'' (by rwa[DV,ai hne]at hb) hu ht).upd hna⟩
     ·rw[tZ]at hk';split at hk'
      ·cases hk'
      ·obtain⟨cs',e',h1,h2⟩:=good.var k' row d b hk';exact⟨cs',e',h1,λr hr=>let ⟨u,hu,hg⟩:=h2 r hr;⟨u,hu,hg.upd hna⟩⟩
     ·have:f = .Bg 1 0 ⟨0,T,20000⟩:=(by simpa[Oe,Vx,XD,List.zipIdx]using hf);subst this;exact⟨_,_,_,rfl,rfl,rfl,.inr ⟨k,n,c,rfl,aF rfl,by rw[DV,aF rfl];exact ak _⟩⟩
   ·cases hk
section
def BQ (e:TypeId)(v:Value)(l:List UInt8)(w:World):Prop:=
 (v = .slice none 0 0/\l=[])\/∃g cap cs,v = .slice (some ⟨g,0,none⟩) l.length cap/\cap≠0/\l.length<=cap/\cap<=maxLen/\w.heap[g]? = some (.cells cs e (0,0))/\cs.size=cap /\
  (∀(j:Nat) (u:Value),cs[j]? = some u->u.oneCell'=true)/\∀(j:Nat) (x:UInt8),l[j]? = some x->cs[j]? = some (.int .u8 x.toNat)
def PN (w w':World)(v v':Value):Prop:=w.grownBy w' v.ownBlock/\(v'.ownBlock=v.ownBlock\/∃g,v'.ownBlock=some g/\w.heap.size<=g)
section
variable {P:Program} {w:World}
theorem UE (l:List UInt8)(j:Nat):(cO l)[j]? = (l[j]?).map λx=>lg .u8 x.toNat:=by simp[cO]
theorem Yw (l:List UInt8):∀u∈cO l,u.oneCell'=true:=λu hu=>by simp[cO]at hu;obtain⟨a,_,rfl⟩:=hu;rfl
theorem XM {e:TypeId}(l:List UInt8)(h0:l≠[])(cap:Nat)(hc:l.length<=cap)(hm:cap<=maxLen)(w0:World)(z:Array Value)(hz:z=(cO l).toArray++bI (lg .u8 0).cells (cap-l.length)) :
 BQ e (.slice (some ⟨w0.heap.size,0,none⟩) l.length cap) l (w0.alloc (.cells z e)):=by
 have hl:0<l.length:=xw.2 h0;have hzs:(bI (lg .u8 0).cells (cap-l.length)).size=cap-l.length:=by rw[size_zeroCells];exact sJ _
 refine .inr ⟨w0.heap.size,cap,z,rfl,aI,hc,hm,heap_alloc_new w0 _,?_,λj u hu=>?_,λj x hx=>?_⟩
 ·rw[hz,Array.size_append,hzs,List.size_toArray,lG];omega
 ·rw[hz]at hu;rcases dm.1 hu with⟨hj,hu⟩
  have hm:u∈(cO l).toArray++bI (lg .u8 0).cells (cap-l.length):=hu▸Array.getElem_mem hj;rcases Array.mem_append.1 hm with hm|hm
  ·exact Yw l u (by simpa using hm)
  ·simp[bI,Go.Value.cells]at hm;obtain⟨i,_,h⟩:=hm;rw[Nat.mod_one]at h;rw[<- h];rfl
 ·have hj:=(aT.1 hx).1;rw[hz,sZ (by simpa[lG]using hj)];simpa[hx]using UE l j
theorem XN {e:TypeId}{g cap:Nat}{cs:Array Value}{l s:List UInt8}(hg:w.heap[g]? = some (.cells cs e (0,0)))(hs:cs.size=cap)(hc0:cap≠0)(hm:cap<=maxLen)(h1:∀(j:Nat) (u:Value),cs[j]? = some u->u.oneCell'=true)
 (hb:∀(j:Nat) (x:UInt8),l[j]? = some x->cs[j]? = some (.int .u8 x.toNat)) (hr:l.length+s.length<=cap) :
 BQ e (.slice (some ⟨g,0,none⟩) (l++s).length cap) (l++s) (w.setRow g (cs.toList.take l.length++cO s++cs.toList.drop (l.length+s.length)).toArray):=by
 have hlen:(cs.toList.take l.length).length=l.length:=by simp;omega
 refine .inr ⟨g,cap,_,rfl,hc0,by simpa using hr,hm,setRow_heap w g cs _ e _ hg,?_,λj u hu=>?_,λj x hx=>?_⟩
 ·simp[lG];omega
 ·have hm':=List.mem_of_getElem? (show(cs.toList.take l.length++cO s++cs.toList.drop (l.length+s.length))[j]? = some u by simpa using hu);rcases aS.1 hm' with hm'|hm'
  ·rcases aS.1 hm' with hm'|hm'
   ·obtain⟨i,hi⟩:=List.mem_iff_getElem?.1 (List.mem_of_mem_take hm');exact h1 i u (by simpa using hi)
   ·exact Yw s u hm'
  ·obtain⟨i,hi⟩:=List.mem_iff_getElem?.1 (List.mem_of_mem_drop hm');exact h1 i u (by simpa using hi)
 ·have hj:=(aT.1 hx).1;show(cs.toList.take l.length++cO s++cs.toList.drop (l.length+s.length)).toArray[j]? = _;rw[kW,dB];by_cases hjl:j<l.length
  ·rw[bD hjl]at hx;rw[bD aI,List.getElem?_take,aF hjl];simpa using hb j x hx
  ·rw[dw aI]at hx;rw[dw aI,hlen,bD (by rw[lG];exact(aT.1 hx).1),UE,hx];rfl
theorem CZ (g n c:Nat):qG (.slice (some ⟨g,0,none⟩) n c)=some g:=rfl
theorem adK {t u ty e:TypeId}{i:TypeInfo}(ht:P.underlying t=some (.slice e))(hu:P.underlying u=some .string)(hi:P.info? e=some i)(hz:i.zero=some (.int .u8 0))(hs1:i.size=1)(hby:i.bytes=1)
 {v:Value} {l:List UInt8} (hv:BQ e v l w) (s:List UInt8) (hl:l.length+s.length<=140737488355328) :
 ∃v' w',(iK #[t,u] ty #[v,.string ⟨⟨s⟩⟩]).run P w = .ok v' w'/\BQ e v' (l++s) w'/\PN w w' v v':=by
 have hmax:(140737488355328:Nat)<=maxLen:=by unfold maxLen;omega
 have hss:(Bo ⟨s⟩).size=s.length:=rfl;have hsc:Lib.strCells (Bo ⟨s⟩)=cO s:=Lib.strCells_eq _;have fresh:∀(old:Nat) (v:Value),old<l.length+s.length ->
  BQ e (.slice (some ⟨w.heap.size,0,none⟩) (l++s).length (grownCap w (l.length+s.length) old e)) (l++s)
   (w.drew.alloc (.cells ((cO l).toArray++(cO s).toArray++bI (lg .u8 0).cells (grownCap w (l.length+s.length) old e-(l.length+s.length))) e)) /\
  PN w (w.drew.alloc (.cells ((cO l).toArray++(cO s).toArray++bI (lg .u8 0).cells (grownCap w (l.length+s.length) old e-(l.length+s.length))) e)) v
   (.slice (some ⟨w.heap.size,0,none⟩) (l++s).length (grownCap w (l.length+s.length) old e)):=by
  intro old v ho;refine⟨XM (l++s) (λh=>?_) _ ?_ (grownCap_le_maxLen _ _ _ _ aI) w.drew _ ?_,⟨rfl,rfl,rfl,nV,λk hk _=>vS w.drew _ k hk⟩,.inr ⟨w.heap.size,rfl,ak _⟩⟩
  ·have:=kZ List.length h;rw[ay,fB]at this;omega
  ·simpa using grownCap_ge w (l.length+s.length) old e
  ·rw[Lib.byteCells_append];simp
 rcases hv with⟨rfl,rfl⟩|⟨g,cap,cs,rfl,hc0,hle,hcm,hg,hcs,h1,hb⟩
 ·by_cases h0:s=[]
  ·subst h0;refine⟨.slice none 0 0,w,?_,.inl ⟨rfl,rfl⟩,⟨rfl,rfl,rfl,ak _,λ_ _ _=>rfl⟩,.inl rfl⟩;have hf:=Lib.run_firstCells_string (P:=P) w 1 ⟨⟨[]⟩⟩;have e0:(Bo ⟨[]⟩).size=0:=rfl;rw[e0]at hf;simp[iK,run_underlying ht,run_underlying hu,sizeOf,typeInfo,hi,hs1,Go.Builtin.lenOf,e0,hf]
  ·have hp:0<s.length:=xw.2 h0;have hr:=run_append_nil_string (P:=P) w t u ty e i (.int .u8 0) ht hu hi hz ⟨⟨s⟩⟩ (by rw[hss];omega) (by rw[hss];simp at hl;omega) (by rw[hby,hss];simp at hl;omega);have hf:=fresh 0 (.slice none 0 0) (by simpa using hp);simp only[ja,fB,fE,Array.append_assoc]at hf;have e1:((Bo ⟨s⟩).data.map λb=>lg .u8 b.toNat)=(cO s).toArray:=(by apply Array.ext';simp[cO]);rw[e1,hss]at hr;have e2:(cO ([]:List UInt8)).toArray = #[]:=rfl;rw[e2,pX]at hf;exact⟨_,_,hr,hf.1,hf.2⟩
 ·by_cases hroom:l.length+s.length<=cap
  ·have hr:=Lib.run_append_room_string (P:=P) w t u ty e i ht hu hi hs1 g l.length cap cs hg ⟨⟨s⟩⟩ (by rw[hss];exact hroom) (by rw[hss];omega);rw[hss,hsc]at hr;have hR:=XN hg hcs hc0 hcm h1 hb hroom;rw[ay]at hR;exact⟨_,_,hr,hR,⟨rfl,rfl,rfl,nV,λk _ hk=>setRow_other w g k _ (λe=>hk (by simp[qG,e]))⟩,.inl rfl⟩
  ·have hr:=Lib.run_append_grow_string (P:=P) w t u ty e i (.int .u8 0) ht hu hi hz ⟨g,0,none⟩ l.length cap (cO l) (by rw[hs1,lG,sJ]) (λj x hx=>by
    rw[UE]at hx;cases hlj:l[j]? with
    |none=>rw[hlj]at hx;cases hx
    |some y=>rw[hlj]at hx;simp at hx;subst hx;rw[Addr.o9];simp[iy,hg,hb j y hlj]) ⟨⟨s⟩⟩ (by rw[hss];omega) (by rw[hss];omega) (by rw[hby,hss];exact growslice_fits aI aI)
   rw[hss,hsc]at hr;have hf:=fresh cap (.slice (some ⟨g,0,none⟩) l.length cap) aI;rw[ay]at hf;exact⟨_,_,hr,hf.1,hf.2⟩
theorem agI {t ty e:TypeId}{i:TypeInfo}(ht:P.underlying t=some (.slice e))(hi:P.info? e=some i)(hz:i.zero=some (.int .u8 0))(hs1:i.size=1)(hby:i.bytes=1)
 {v:Value} {l:List UInt8} (hv:BQ e v l w) (s:List UInt8) (h0:s≠[]) (ad:Addr) (c:Nat) (hnews:∀j v,(cO s)[j]? = some v->w.cell? (ad.add j)=some v) (hl:l.length+s.length<=140737488355328) :
 ∃v' w',(iK #[t,t] ty #[v,.slice (some ad) s.length c]).run P w = .ok v' w'/\BQ e v' (l++s) w'/\PN w w' v v':=by
 have hmax:(140737488355328:Nat)<=maxLen:=by unfold maxLen;omega
 have hp:0<s.length:=xw.2 h0;have fresh:∀(old:Nat) (v:Value),old<l.length+s.length ->
  BQ e (.slice (some ⟨w.heap.size,0,none⟩) (l++s).length (grownCap w (l.length+s.length) old e)) (l++s)
   (w.drew.alloc (.cells ((cO l).toArray++(cO s).toArray++bI (lg .u8 0).cells (grownCap w (l.length+s.length) old e-(l.length+s.length))) e)) /\
  PN w (w.drew.alloc (.cells ((cO l).toArray++(cO s).toArray++bI (lg .u8 0).cells (grownCap w (l.length+s.length) old e-(l.length+s.length))) e)) v
   (.slice (some ⟨w.heap.size,0,none⟩) (l++s).length (grownCap w (l.length+s.length) old e)):=by
  intro old v ho;refine⟨XM (l++s) (λh=>?_) _ ?_ (grownCap_le_maxLen _ _ _ _ aI) w.drew _ ?_,⟨rfl,rfl,rfl,nV,λk hk _=>vS w.drew _ k hk⟩,.inr ⟨w.heap.size,rfl,ak _⟩⟩
  ·have:=kZ List.length h;rw[ay,fB]at this;omega
  ·simpa using grownCap_ge w (l.length+s.length) old e
  ·rw[Lib.byteCells_append];simp
 have hn:(cO s).length=s.length*i.size:=by rw[hs1,lG,sJ]
 rcases hv with⟨rfl,rfl⟩|⟨g,cap,cs,rfl,hc0,hle,hcm,hg,hcs,h1,hb⟩
 ·have hr:=run_append_nil (P:=P) w t ty e i (.int .u8 0) ht hi hz ad s.length c (cO s) hn hnews hp (by simp at hl;omega) (by rw[hby];simp at hl;omega);have hf:=fresh 0 (.slice none 0 0) (by simpa using hp);simp only[ja,fB,fE,Array.append_assoc]at hf;have e2:(cO ([]:List UInt8)).toArray = #[]:=rfl;rw[e2,pX]at hf;exact⟨_,_,hr,hf.1,hf.2⟩
 ·by_cases hroom:l.length+s.length<=cap
  ·have hr:=run_append_room' (P:=P) (w:=w) (ty:=ty) t e e i ht hi g l.length cap cs hg ad s.length c (cO s) hn hnews (Yw s) hroom (by rw[hs1,lG];omega);rw[hs1,lG,sJ]at hr;have hR:=XN hg hcs hc0 hcm h1 hb hroom;rw[ay]at hR;exact⟨_,_,hr,hR,⟨rfl,rfl,rfl,nV,λk _ hk=>setRow_other w g k _ (λe=>hk (by simp[qG,e]))⟩,.inl rfl⟩
  ·have hr:=run_append_grow (P:=P) w t ty e i (.int .u8 0) ht hi hz ⟨g,0,none⟩ l.length cap (cO l) (by rw[hs1,lG,sJ]) (λj x hx=>by
    rw[UE]at hx;cases hlj:l[j]? with
    |none=>rw[hlj]at hx;cases hx
    |some y=>rw[hlj]at hx;simp at hx;subst hx;rw[Addr.o9];simp[iy,hg,hb j y hlj]) ad s.length c (cO s) hn hnews aI aI (by rw[hby];exact growslice_fits aI aI)
   have hf:=fresh cap (.slice (some ⟨g,0,none⟩) l.length cap) aI;rw[ay]at hf;exact⟨_,_,hr,hf.1,hf.2⟩
end
end
end Go.Ab
section
namespace Go.Ab
open Go Go.Shelf Go.RowKit Go.Proofs
section
variable {P:Program} {w:World}
theorem BQ.alloc {e:TypeId}{v:Value}{l:List UInt8}(h:BQ e v l w)(o:Obj):BQ e v l (w.alloc o):=by
 rcases h with h|⟨g,cap,cs,h1,h2,h3,h4,h5,h6⟩
 ·exact .inl h
 ·exact .inr ⟨g,cap,cs,h1,h2,h3,h4,(vS w o g (xB h5)).trans h5,h6⟩
theorem BQ.same {e:TypeId}{v:Value}{l:List UInt8}{w':World}(h:BQ e v l w)(hk:∀g,v.ownBlock=some g->w'.heap[g]? = w.heap[g]?):BQ e v l w':=by
 rcases h with h|⟨g,cap,cs,h1,h2,h3,h4,h5,h6⟩
 ·exact .inl h
 ·exact .inr ⟨g,cap,cs,h1,h2,h3,h4,(hk g (by rw[h1];rfl)).trans h5,h6⟩
theorem BQ.Zz {e:TypeId}{v:Value}{l:List UInt8}(h:BQ e v l w){g:Nat}(hg:v.ownBlock=some g):g<w.heap.size/\∃cs,w.heap[g]? = some (.cells cs e (0,0)):=by
 rcases h with⟨rfl,_⟩|⟨g',cap,cs,rfl,h2,h3,h4,h5,h6⟩
 ·cases hg
 ·simp only[CZ,aC]at hg;subst hg;exact⟨xB h5,cs,h5⟩
theorem BQ.ne {e T:TypeId}{v:Value}{l:List UInt8}{k:Nat}{cs:Array Value}(h:BQ e v l w)(hk:w.heap[k]? = some (.cells cs T (0,0)))(hT:T≠e):v.ownBlock≠some k:=λhe=>by obtain⟨_,c,hc⟩:=h.Zz he;rw[hk]at hc;simp only[aC,Obj.cells.injEq]at hc;exact hT hc.2.1
theorem O8 {ops:Array Oper}{rest:List Oper}{o:Oper}{a:Act}{Q:Exit->Act->World->Prop}(hgd:o.guard=none)(sl x:Operand)(t u:TypeId)
 (ho:o.op = .call { callee:=.builtin .append,args:= #[sl,x],argTypes:= #[t,u] })
 (e:TypeId) (i:TypeInfo) (ht:P.underlying t=some (.slice e)) (hu:P.underlying u=some .string) (hi:P.info? e=some i) (hz:i.zero=some (.int .u8 0)) (hsize:i.size=1) (hby:i.bytes=1)
 (v:Value) (l:List UInt8) (hs:a.eval sl=v) (hv:BQ e v l w) (s:List UInt8) (hx:a.eval x = .string ⟨⟨s⟩⟩) (hl:l.length+s.length<=140737488355328)
 (h:∀v' w',BQ e v' (l++s) w'->PN w w' v v'->wpList P ops Q rest (a.put o.dst v') w'):wpList P ops Q (o::rest) a w:=by
 refine wpList_plain hgd λK hK=>?_;obtain⟨v',w',hr,h2,h3⟩:=adK (P:=P) (ty:=o.type) ht hu hi hz hsize hby hv s hl;unfold Go.Oper.wp execOp;simp only[ho,resolve,invoke,builtin,cu,bM,bu,kP,bJ,jY,hs,hx,hr];exact hK _ _ (h v' w' h2 h3)
theorem RX {ops:Array Oper}{rest:List Oper}{o:Oper}{a:Act}{Q:Exit->Act->World->Prop}(hgd:o.guard=none)(sl x:Operand)(t:TypeId)
 (ho:o.op = .call { callee:=.builtin .append,args:= #[sl,x],argTypes:= #[t,t] })
 (e:TypeId) (i:TypeInfo) (ht:P.underlying t=some (.slice e)) (hi:P.info? e=some i) (hz:i.zero=some (.int .u8 0)) (hsize:i.size=1) (hby:i.bytes=1)
 (v:Value) (l:List UInt8) (hs:a.eval sl=v) (hv:BQ e v l w) (s:List UInt8) (h0:s≠[]) (ad:Addr) (c:Nat) (hx:a.eval x = .slice (some ad) s.length c) (hnews:∀j v,(cO s)[j]? = some v->w.cell? (ad.add j)=some v)
 (hl:l.length+s.length<=140737488355328)
 (h:∀v' w',BQ e v' (l++s) w'->PN w w' v v'->wpList P ops Q rest (a.put o.dst v') w'):wpList P ops Q (o::rest) a w:=by
 refine wpList_plain hgd λK hK=>?_;obtain⟨v',w',hr,h2,h3⟩:=agI (P:=P) (ty:=o.type) ht hi hz hsize hby hv s h0 ad c hnews hl;unfold Go.Oper.wp execOp;simp only[ho,resolve,invoke,builtin,cu,bM,bu,kP,bJ,jY,hs,hx,hr];exact hK _ _ (h v' w' h2 h3)
end
variable {P:Program} {ρ:Go.Shelf.Ren}
def ags (k:Nat)(p:Value):Prop:=p = .pointer none\/p = .pointer (some ⟨k,0,none⟩)
structure Hid (p:Prop):Prop where
 h:p
theorem Tm (L:Lays.n240 P ρ)(X:Builder.X72 P ρ)(k:Nat)(p v:Value)(w:World)(hk:w.heap[k]? = some (.cells #[p,v] (ρ.t 72) (0,0)))(hp:ags k p) :
 Calls P (ρ.f 240) #[.pointer (some ⟨k,0,none⟩)] w λe w'=>e = .returned (.tuple #[])/\w'.heap[k]? = some (.cells #[.pointer (some ⟨k,0,none⟩),v] (ρ.t 72) (0,0))/\Hid (w'.heap.size=w.heap.size)/\zK w w' (λk'=>k'=k):=by
 rcases hp with rfl|rfl
 ·refine(Any.Builder_copyCheck_fresh L X k w (by rw[kT hk];rfl) (by simp[zi,hk]) (zD hk 0)).mono ?_;rintro e w' ⟨rfl,rfl⟩;refine⟨rfl,?_,⟨by simp[rf]⟩,⟨rfl,rfl,rfl,by simp[rf],λk' _ hk'=>Below.heap_setCell _ _ _ _ (λe=>hk' (by simp[e]))⟩⟩;simp[rf,vY,hk]
 ·refine(Any.Builder_copyCheck_used L X k w (by rw[kT hk];rfl)).mono ?_;rintro e w' ⟨rfl,rfl⟩;exact⟨rfl,hk,⟨rfl⟩,zK.refl _ _⟩
def Wrote (T e:TypeId)(k:Nat)(v:Value)(l:List UInt8)(w w':World):Prop:=
 ∃v',w'.heap[k]? = some (.cells #[.pointer (some ⟨k,0,none⟩),v'] T (0,0))/\BQ e v' l w'/\(v'.ownBlock=v.ownBlock\/∃g,v'.ownBlock=some g/\w.heap.size<=g)/\zK w w' (λk'=>k'=k\/some k'=v.ownBlock)
theorem Yb {T e:TypeId}{k:Nat}{v v':Value}{l:List UInt8}{w w1 w1' w2:World}(hT:T≠e)(hv:BQ e v l w)(hlt:k<w.heap.size)(h1:w1.heap[k]? = some (.cells #[.pointer (some ⟨k,0,none⟩),v] T (0,0)))(hs:w1.heap.size=w.heap.size)(hF:zK w w1 (λk'=>k'=k))
 (ha:w1'=w1\/∃o,w1'=w1.alloc o) {l':List UInt8} (hr:BQ e v' l' w2) (hg:PN w1' w2 v v') (hne:v.ownBlock≠some k) :
 w2.heap[k]? = some (.cells #[.pointer (some ⟨k,0,none⟩),v] T (0,0))/\Wrote T e k v l' w (w2.setCell ⟨k,1,none⟩ v'):=by
 have hsz:w.heap.size<=w1'.heap.size:=by
  rcases ha with rfl|⟨o,rfl⟩
  ·omega
  ·simp;omega
 have hk1:∀k',k'<w.heap.size->w1'.heap[k']? = w1.heap[k']?:= λk' hk'=>by
  rcases ha with rfl|⟨o,rfl⟩
  ·rfl
  ·exact vS w1 o k' aI
 have hk2:w2.heap[k]? = some (.cells #[.pointer (some ⟨k,0,none⟩),v] T (0,0)):=by rw[hg.1.block k aI (λe=>hne e.symm),hk1 k hlt];exact h1
 have hne2:v'.ownBlock≠some k:=hr.ne hk2 hT;refine⟨hk2,v',?_,?_,?_,?_⟩
 ·simp[rf,vY,hk2]
 ·exact hr.same λg hg'=>Below.heap_setCell _ _ _ _ (λe=>hne2 (by rw[hg'];simp at e;rw[e]))
 ·rcases hg.2 with h|⟨g,h,hb⟩
  ·exact .inl h
  ·exact .inr ⟨g,h,aI⟩
 ·have ha':zK w1 w1' (λ_=>False):=by
   rcases ha with rfl|⟨o,rfl⟩
   ·exact zK.refl _ _
   ·exact⟨rfl,rfl,rfl,nV,λk' h _=>vS w1 o k' h⟩
  have h01:=hF.trans ha' (λ_ _ h=>h.elim);exact⟨hg.1.os.trans h01.os,hg.1.tape.trans h01.tape,hg.1.output.trans h01.output,by have:=hg.1.size;simp[rf];omega,λk' hlt' hm=>by rw[Below.heap_setCell _ _ _ _ (λe=>hm (.inl (by simpa using e))),hg.1.block k' aI (λe=>hm (.inr e))];exact h01.block k' hlt' (λe=>hm (.inl e))⟩
set_option maxHeartbeats 2000000 in
set_option maxRecDepth 100000 in
theorem OV (L:Lays.n166 P ρ)(X:Builder.Extra P ρ)(k:Nat)(p v:Value)(l s:List UInt8)(w:World)(hk:w.heap[k]? = some (.cells #[p,v] (ρ.t 72) (0,0)))(hp:ags k p)(hv:BQ (ρ.t 5) v l w)
 (hlen:l.length+s.length<=140737488355328) :
 Calls P (ρ.f 166) #[.pointer (some ⟨k,0,none⟩),.string ⟨⟨s⟩⟩] w λe w'=>e = .returned (.tuple #[.int .i64 s.length,.nilIface])/\Wrote (ρ.t 72) (ρ.t 5) k v (l++s) w w':=by
 obtain⟨i0,hi,hz0,hz1,hz2⟩:=info_parts X.infoByte;have hlt:=xB hk;have hne:=hv.ne hk X.neB5;have mixed:=L.mixed;have t72:=L.t72;have a72:=L.a72;have z72:=L.z72;have v72:=L.v72;have u72:=run_underlying L.t72;have t70:=L.t70;have a70:=L.a70;have z70:=L.z70;have v70:=L.v70;have u70:=run_underlying L.t70;have t37:=L.t37;have a37:=L.a37;have z37:=L.z37;have v37:=L.v37;have u37:=run_underlying L.t37;have t3:=L.t3;have a3:=L.a3;have z3:=L.z3;have v3:=L.v3;have u3:=run_underlying L.t3;have t9:=L.t9;have a9:=L.a9;have z9:=L.z9;have v9:=L.v9;have u9:=run_underlying L.t9;have t4:=L.t4;have a4:=L.a4;have z4:=L.z4;have v4:=L.v4;have u4:=run_underlying L.t4;have t164:=L.t164;have a164:=L.a164;have z164:=L.z164;have v164:=L.v164;have u164:=run_underlying L.t164;have t5:=X.t5;have a5:=X.a5;have z5:=X.z5;have v5:=X.v5;have u5:=run_underlying X.t5;have e240:∀args w,(callFunc (ρ.f 240) args).run P w = .ok (.enter (ρ.f 240) args) w:=enters_of L.f240 oK rfl
 go_enter L.f166,Body.n166_ntmps ρ
 go_wp2_with (go_at_fn (ρ.f 240);refine(Tm { L with } X.toX72 k p v _ hk hp).mono ?_)
 rintro e w1 ⟨rfl,hk1,hs1,hF1⟩;have hv1:BQ (ρ.t 5) v l w1:=hv.same λg hg=>hF1.block g (hv.Zz hg).1 (λe=>hne (by rw[hg,e]));have c0:w1.cell? ⟨k,0,none⟩=some (.pointer (some ⟨k,0,none⟩)):=by rw[kT hk1];rfl
 have c1:w1.cell? ⟨k,1,none⟩=some v:=by rw[kT hk1];rfl
 go_wp2_with (at_builtin;refine O8 rfl _ _ (ρ.t 37) (ρ.t 9) rfl (ρ.t 5) i0 L.t37 L.t9 hi hz0 hz1 hz2 _ _ rfl hv1 s rfl hlen ?_)
 intro v' w2 hr hg;obtain⟨hb2,hW⟩:=Yb X.neB5 hv hlt hk1 hs1.h hF1 (.inl rfl) hr hg hne;have d0:w2.cell? ⟨k,0,none⟩=some (.pointer (some ⟨k,0,none⟩)):=by rw[kT hb2];rfl
 have d1:w2.cell? ⟨k,1,none⟩=some v:=by rw[kT hb2];rfl
 have f1:w2.frozen? ⟨k,1,none⟩=false:=zD hb2 1;obtain⟨ao,n',cap,rfl⟩:∃ao n' cap,v' = .slice ao n' cap:=by
  rcases hr with⟨hv,_⟩|⟨g,cap,cs,hv,_⟩
  ·exact⟨_,_,_,hv⟩
  ·exact⟨_,_,_,hv⟩
 go_wp2
 go_ret2
 exact⟨rfl,hW⟩
theorem adQ (c:Int)(hc:0<=c/\c<256):lg .u8 (fA c.toNat).toNat = .int .u8 c:=by
 have:((fA c.toNat).toNat:Int)=c:=by simp[UInt8.toNat_ofNat'];omega
 rw[this]
set_option maxHeartbeats 2000000 in
set_option maxRecDepth 100000 in
theorem Sr (L:Lays.n167 P ρ)(X:Builder.Extra P ρ)(k:Nat)(p v:Value)(l:List UInt8)(c:Int)(w:World)(hk:w.heap[k]? = some (.cells #[p,v] (ρ.t 72) (0,0)))(hp:ags k p)(hv:BQ (ρ.t 5) v l w)
 (hc:0<=c/\c<256) (hlen:l.length+1<=140737488355328) :
 Calls P (ρ.f 167) #[.pointer (some ⟨k,0,none⟩),.int .u8 c] w λe w'=>e = .returned .nilIface/\Wrote (ρ.t 72) (ρ.t 5) k v (l++[fA c.toNat]) w w':=by
 obtain⟨i0,hi,hz0,hz1,hz2⟩:=info_parts X.infoByte;have hlt:=xB hk;have hne:=hv.ne hk X.neB5;have hbc:cO [fA c.toNat]=[lg .u8 c]:=by simp only[cO,bJ,jY,adQ c hc]
 have hnews:∀w1:World,∀j u,(cO [fA c.toNat])[j]? = some u->(w1.alloc (.cells #[.int .u8 c] (ρ.t 5))).cell? ((⟨w1.heap.size,0,none⟩:Addr).add j)=some u:=by
  intro w1 j u hj;rw[hbc]at hj
  match j,hj with
  |0,hj=>simp at hj;subst hj;simp[sG]
 have mixed:=L.mixed;have t72:=L.t72;have a72:=L.a72;have z72:=L.z72;have v72:=L.v72;have u72:=run_underlying L.t72;have t70:=L.t70;have a70:=L.a70;have z70:=L.z70;have v70:=L.v70;have u70:=run_underlying L.t70;have t5:=L.t5;have a5:=L.a5;have z5:=L.z5;have v5:=L.v5;have u5:=run_underlying L.t5;have t37:=L.t37;have a37:=L.a37;have z37:=L.z37;have v37:=L.v37;have u37:=run_underlying L.t37;have t9:=L.t9;have a9:=L.a9;have z9:=L.z9;have v9:=L.v9;have u9:=run_underlying L.t9;have t4:=L.t4;have a4:=L.a4;have z4:=L.z4;have v4:=L.v4;have u4:=run_underlying L.t4;have t164:=L.t164;have a164:=L.a164;have z164:=L.z164;have v164:=L.v164;have u164:=run_underlying L.t164;have e240:∀args w,(callFunc (ρ.f 240) args).run P w = .ok (.enter (ρ.f 240) args) w:=enters_of L.f240 oK rfl
 go_enter L.f167,Body.n167_ntmps ρ
 go_wp2_with (go_at_fn (ρ.f 240);refine(Tm { L with } X.toX72 k p v _ hk hp).mono ?_)
 rintro e w1 ⟨rfl,hk1,hs1,hF1⟩;have hv1:BQ (ρ.t 5) v l w1:=hv.same λg hg=>hF1.block g (hv.Zz hg).1 (λe=>hne (by rw[hg,e]));have c0:w1.cell? ⟨k,0,none⟩=some (.pointer (some ⟨k,0,none⟩)):=by rw[kT hk1];rfl
 have c1:w1.cell? ⟨k,1,none⟩=some v:=by rw[kT hk1];rfl
 go_wp2_with (at_builtin;refine RX rfl _ _ (ρ.t 37) rfl (ρ.t 5) i0 L.t37 hi hz0 hz1 hz2 _ _ rfl (hv1.alloc _) [fA c.toNat] (List.cons_ne_nil _ _) ⟨w1.heap.size,0,none⟩ 1 rfl (hnews w1) hlen ?_)
 intro v' w2 hr hg;obtain⟨hb2,hW⟩:=Yb X.neB5 hv hlt hk1 hs1.h hF1 (.inr ⟨_,rfl⟩) hr hg hne;have d0:w2.cell? ⟨k,0,none⟩=some (.pointer (some ⟨k,0,none⟩)):=by rw[kT hb2];rfl
 have d1:w2.cell? ⟨k,1,none⟩=some v:=by rw[kT hb2];rfl
 have f1:w2.frozen? ⟨k,1,none⟩=false:=zD hb2 1;obtain⟨ao,n',cap,rfl⟩:∃ao n' cap,v' = .slice ao n' cap:=by
  rcases hr with⟨hv,_⟩|⟨g,cap,cs,hv,_⟩
  ·exact⟨_,_,_,hv⟩
  ·exact⟨_,_,_,hv⟩
 go_wp2
 go_ret
 exact⟨rfl,hW⟩
theorem Y4 (w:World)(g n:Nat):zK w (w.drew.freeze ⟨g,0,none⟩ n) (λk'=>k'=g):=by
 unfold World.freeze;split
 ·exact⟨rfl,rfl,rfl,ak _,λ_ _ _=>rfl⟩
 ·exact⟨rfl,rfl,rfl,by simp only[Array.size_modify];exact ak _,λk hk hm=>by simp only[vY];rw[ai (λe=>hm e.symm)];rfl⟩
theorem A7 {w w':World}(h:Below w.heap.size w w')(M:Nat->Prop):zK w w' M:=⟨h.os,h.tape,h.output,h.size,λk hk _=>h.block k hk⟩
set_option maxHeartbeats 2000000 in
set_option maxRecDepth 100000 in
theorem Yz (L:Lays.n169 P ρ)(X:Builder.Extra P ρ)(k:Nat)(p v:Value)(l:List UInt8)(w:World)(hk:w.heap[k]? = some (.cells #[p,v] (ρ.t 72) (0,0)))(hv:BQ (ρ.t 5) v l w) :
 Calls P (ρ.f 169) #[.pointer (some ⟨k,0,none⟩)] w λe w'=>e = .returned (.string ⟨⟨l⟩⟩)/\zK w w' (λk'=>some k'=v.ownBlock):=by
 rcases hv with⟨rfl,rfl⟩|⟨g,cap,cs,rfl,hc0,hle,hcm,hg,hcs,h1,hb⟩
 ·refine(Any.Builder_String_nil L X w.heap.size k p w hk).mono ?_;rintro e w' ⟨rfl,h⟩;exact⟨rfl,A7 h _⟩
 by_cases h0:l=[]
 ·subst h0;refine(Any.Builder_String_room L X w.heap.size k g cap p w hc0 hk).mono ?_;rintro e w' ⟨rfl,h⟩;exact⟨rfl,A7 h _⟩
 have hl0:l.length≠0:=by simpa using h0
 have c1:w.drew.cell? ⟨k,1,none⟩=some (.slice (some ⟨g,0,none⟩) l.length cap):=by have:w.drew.heap[k]? = some (.cells #[p,.slice (some ⟨g,0,none⟩) l.length cap] (ρ.t 72) (0,0)):=hk;rw[kT this];rfl
 have hSD:(Builtin.unsafeSliceData_ #[(ρ.t 37)] (ρ.t 127) #[.slice (some ⟨g,0,none⟩) l.length cap]).run P w.drew = .ok (.pointer (some ⟨g,0,none⟩)) w.drew:=
  Lib.run_unsafeSliceData_row _ _ _ _ _ _ aI
 have hUS:(Builtin.unsafeString_ #[(ρ.t 127),(ρ.t 3)] (ρ.t 9) #[.pointer (some ⟨g,0,none⟩),.int .i64 l.length]).run P w.drew = .ok (.string ⟨l.toArray⟩) (w.drew.freeze ⟨g,0,none⟩ l.length):=by refine Lib.run_unsafeString_row w.drew (ρ.t 127) (ρ.t 3) (ρ.t 9) (ρ.t 5) L.t127 X.cellsByte g cs.size (by have hg':w.drew.heap[g]? = some (.cells cs (ρ.t 5) (0,0)):=hg;simp[zi,hg']) l h0 aI (by unfold maxLen at hcm;omega) ?_;intro j x hx;rw[Addr.o9];have hg':w.drew.heap[g]? = some (.cells cs (ρ.t 5) (0,0)):=hg;simp[iy,hg',hb j x hx]
 have mixed:=L.mixed;have t72:=L.t72;have a72:=L.a72;have z72:=L.z72;have v72:=L.v72;have u72:=run_underlying L.t72;have t70:=L.t70;have a70:=L.a70;have z70:=L.z70;have v70:=L.v70;have u70:=run_underlying L.t70;have t37:=L.t37;have a37:=L.a37;have z37:=L.z37;have v37:=L.v37;have u37:=run_underlying L.t37;have t127:=L.t127;have a127:=L.a127;have z127:=L.z127;have v127:=L.v127;have u127:=run_underlying L.t127;have t3:=L.t3;have a3:=L.a3;have z3:=L.z3;have v3:=L.v3;have u3:=run_underlying L.t3;have t9:=L.t9;have a9:=L.a9;have z9:=L.z9;have v9:=L.v9;have u9:=run_underlying L.t9;have t5:=X.t5;have a5:=X.a5;have z5:=X.z5;have v5:=X.v5;have u5:=run_underlying X.t5;have hF:=Y4 w g l.length;clear hb hcs hg hle hcm h1 hk
 go_enter L.f169,Body.n169_ntmps ρ
 go_wp2
 go_region_o
 all_goals(go_wp2;go_ret;exact⟨rfl,hF.os,hF.tape,hF.output,hF.size,λk' hk' hm=>hF.block k' hk' (λe=>hm (by rw[e];rfl))⟩)
end Go.Ab
end
section
namespace Go.Ab
open Go Go.Shelf Go.Proofs
section
variable {P:Program} {I:IH} {ρ:Ren} {w:World}
structure Bld (I:IH)(ρ:Ren)(w:World)(T e k:Nat)(p v:Value)(l:List UInt8):Prop where
 r0:ρ 0=some (k,T)
 hk:w.heap[k]? = some (.cells #[p,v] T (0,0))
 hp:ags k p
 hv:BQ e v l w
 own:∀g,v.ownBlock=some g->∃cap,ρ 1=some (g,cap)/\cap≠0
 i0:I k=none
 i1:∀g,v.ownBlock=some g->I g=none
theorem alD {cs:Array Value}(h:cs.size=2):∃p v,cs = #[p,v]:=by
 match cs,h with
 |⟨[p,v]⟩,_=>exact⟨p,v,rfl⟩
theorem Yy {T e:Nat}{l:List UInt8}(h:BX I ρ w (zX [.var [.opt T 0,.uM 1 l.length],.row e l])):∃k p v,Bld I ρ w T e k p v l:=by
 obtain⟨k,cap,cs,hr,hw,hs,hc⟩:=h.ok 0;obtain⟨p,v,rfl⟩:=alD hs;obtain⟨k',hr',hp⟩:=hc 0 p (.opt T 0) rfl rfl;rw[hr]at hr';simp only[aC,aK]at hr';obtain⟨rfl,rfl⟩:=hr';obtain⟨g,cp,hg,hn,hv⟩:=hc 1 v (.uM 1 l.length) rfl rfl;obtain⟨g',cp',hg',hl,hm,hrow⟩:=h.ok 1;rw[hg]at hg';simp only[aC,aK]at hg';obtain⟨rfl,rfl⟩:=hg';have i0:I k=none:=h.fresh 0 k ⟨_,hr⟩;rcases hv with⟨h0,rfl⟩|⟨h0,rfl⟩
 ·refine⟨k,p,_,hr,hw,hp,.inl ⟨rfl,?_⟩,(λg hx=>by cases hx),i0,(λg hx=>by cases hx)⟩;exact List.eq_nil_of_length_eq_zero aI
 ·obtain⟨cs,h1,h2,h3,h4⟩:=hrow h0;refine⟨k,p,_,hr,hw,hp,.inr ⟨g,cp,cs,rfl,h0,hl,hm,h1,h2,h3,h4⟩,λg' hx=>?_,i0,λg' hx=>?_⟩
  ·simp only[CZ,aC]at hx;subst hx;exact⟨cp,hg,h0⟩
  ·simp only[CZ,aC]at hx;subst hx;exact h.fresh 1 g ⟨cp,hg,h0⟩
theorem WA {T e k:Nat}{p v:Value}{l l':List UInt8}{w':World}(hT:T≠e)(hA:Agree I w)(hB:BX I ρ w (zX [.var [.opt T 0,.uM 1 l.length],.row e l]))(b:Bld I ρ w T e k p v l)(h:Wrote T e k v l' w w') :
 ∃ σ:Ren,Agree I w'/\BX I σ w' (zX [.var [.opt T 0,.uM 2 l'.length],.dead,.row e l']) /\
   zK w w' (λk=>∃c,(zX [.var [.opt T 0,.uM 1 l.length],.row e l] c).uses (ρ c) k) /\
   (∀c k',(zX [.var [.opt T 0,.uM 2 l'.length],.dead,.row e l'] c).uses (σ c) k'->w.heap.size<=k'\/∃c',(zX [.var [.opt T 0,.uM 1 l.length],.row e l] c').uses (ρ c') k') /\
   (∀c,c<2->σ c=ρ c):=by
 obtain⟨v',hk',hv',hown,hF⟩:=h;have hu0:(zX [.var [.opt T 0,.uM 1 l.length],.row e l] 0).uses (ρ 0) k:=⟨_,b.r0⟩;have hu1:∀g,v.ownBlock=some g->(zX [.var [.opt T 0,.uM 1 l.length],.row e l] 1).uses (ρ 1) g:=λg hg=>b.own g hg;have hρ:∀c,2<=c->ρ c=none:=λc hc=>by have h1:=hB.ok c;rw[Bf (by simpa using hc)]at h1;exact h1
 have hne:v'.ownBlock≠some k:=hv'.ne hk' hT;obtain⟨g,cap,hg⟩:∃g cap,(cap=0/\v' = .slice none 0 0/\l'=[])\/(cap≠0/\v' = .slice (some ⟨g,0,none⟩) l'.length cap/\l'.length<=cap/\cap<=maxLen/\∃cs,w'.heap[g]? = some (.cells cs e (0,0))/\cs.size=cap /\
  (∀(j:Nat) (u:Value),cs[j]? = some u->u.oneCell'=true)/\∀(j:Nat) (x:UInt8),l'[j]? = some x->cs[j]? = some (.int .u8 x.toNat)):=by
  rcases hv' with⟨rfl,rfl⟩|⟨g,cap,cs,h1,h2,h3,h4,h5⟩
  ·exact⟨0,0,.inl ⟨rfl,rfl,rfl⟩⟩
  ·exact⟨g,cap,.inr ⟨h2,h1,h3,h4,cs,h5⟩⟩
 have hnew:cap≠0->I g=none/\g≠k/\(w.heap.size<=g\/(zX [.var [.opt T 0,.uM 1 l.length],.row e l] 1).uses (ρ 1) g):=λh0=>by
  rcases hg with⟨h1,_⟩|⟨_,rfl,_⟩
  ·exact aY h1 h0
  ·rw[CZ]at hne hown;refine⟨?_,λe=>hne (by rw[e]),?_⟩
   ·rcases hown with h|⟨g',h,hb⟩
    ·exact b.i1 g h.symm
    ·simp only[aC]at h;subst h;exact hA.Xt hb
   ·rcases hown with h|⟨g',h,hb⟩
    ·exact .inr (hu1 g h.symm)
    ·simp only[aC]at h;subst h;exact .inl hb
 have hle:ρ.le (ρ.set 2 g cap):=Ren.KT (hρ 2 (ak _));have s2:(ρ.set 2 g cap) 2=some (g,cap):=Ren.mO _ _ _ _;have s0:(ρ.set 2 g cap) 0=some (k,T):=(Ren.uq xR).trans b.r0;have u0:∀k',(zX [.var [.opt T 0,.uM 2 l'.length],.dead,.row e l'] 0).uses ((ρ.set 2 g cap) 0) k'->k'=k:=λk' hu=>by obtain⟨c,hc⟩:=hu;rw[s0]at hc;simp only[aC,aK]at hc;exact hc.1.symm
 have u2:∀k',(zX [.var [.opt T 0,.uM 2 l'.length],.dead,.row e l'] 2).uses ((ρ.set 2 g cap) 2) k'->k'=g/\cap≠0:=λk' hu=>by obtain⟨c,hc,h0⟩:=hu;rw[s2]at hc;simp only[aC,aK]at hc;exact⟨hc.1.symm,by rw[hc.2];exact h0⟩
 have uu:∀c k',(zX [.var [.opt T 0,.uM 2 l'.length],.dead,.row e l'] c).uses ((ρ.set 2 g cap) c) k'->(c=0/\k'=k)\/(c=2/\k'=g/\cap≠0):=λc k' hu=>by
  match c with
  |0=>exact .inl ⟨rfl,u0 k' hu⟩
  |1=>exact hu.elim
  |2=>exact .inr ⟨rfl,u2 k' hu⟩
  |c+3=>rw[Bf nV]at hu;exact hu.elim
 refine⟨ρ.set 2 g cap,?_,⟨λc=>?_,λc c' k' hc hc'=>?_,λc k' hc=>?_⟩,⟨hF.os,hF.tape,hF.output,hF.size,λk' hlt hm=>hF.block k' hlt λe=>hm ?_⟩,λc k' hc=>?_,λc hc=>Ren.uq aI⟩
 ·refine hA.other λk1 c hc=>hF.block k1 (hA.lt hc) λe=>?_;rcases e with rfl|e
  ·rw[b.i0]at hc;cases hc
  ·rw[b.i1 k1 e.symm]at hc;cases hc
 ·match c with
  | 0=>
    refine⟨k,T,_,s0,hk',rfl,λj u x hu hx=>?_⟩
    match j with
    | 0=>simp at hu hx;subst hu;subst hx;exact⟨k,s0,.inr rfl⟩
    | 1=>
      simp at hu hx;subst hu;subst hx;rcases hg with⟨h1,h2,h3⟩|⟨h1,h2,h3,_⟩
      ·exact⟨g,cap,s2,by rw[h3];exact aJ _,.inl ⟨h1,h2⟩⟩
      ·exact⟨g,cap,s2,h3,.inr ⟨h1,h2⟩⟩
    |j+2=>simp at hu
  |1=>trivial
  | 2=>
    rcases hg with⟨h1,h2,h3⟩|⟨h1,h2,h3,h4,h5⟩
    ·exact⟨g,cap,s2,by rw[h3];exact aJ _,by rw[h1];exact aJ _,λh=>aY h1 h⟩
    ·exact⟨g,cap,s2,h3,h4,λ_=>h5⟩
  | c+3=>rw[Bf nV];exact(Ren.uq aI).trans (hρ _ aI)
 ·rcases uu c k' hc with⟨rfl,h1⟩|⟨rfl,h1,h2⟩<;>rcases uu c' k' hc' with⟨rfl,h3⟩|⟨rfl,h3,h4⟩
  ·rfl
  ·exact aY (h3.symm.trans h1) (hnew h4).2.1
  ·exact aY (h1.symm.trans h3) (hnew h2).2.1
  ·rfl
 ·rcases uu c k' hc with⟨rfl,rfl⟩|⟨rfl,rfl,h2⟩
  ·exact b.i0
  ·exact(hnew h2).1
 ·rcases e with rfl|e
  ·exact⟨0,hu0⟩
  ·exact⟨1,hu1 k' e.symm⟩
 ·rcases uu c k' hc with⟨rfl,rfl⟩|⟨rfl,rfl,h2⟩
  ·exact .inr ⟨0,hu0⟩
  ·rcases(hnew h2).2.2 with h|h
   ·exact .inl h
   ·exact .inr ⟨1,h⟩
end
variable {P:Program} {ρ:Go.Shelf.Ren}
structure iP where
 buf:List UInt8
 deriving Inhabited
theorem Mc {I:IH}{r:Ren}{vs:List Value}{x y:AV}(h:PM I r vs [x,y]):∃a b,vs=[a,b]/\GV I r a x/\GV I r b y:=by
 obtain⟨h1,h2⟩:=h
 match vs,h1 with
 |[a,b],_=>exact⟨a,b,rfl,h2 0 a x rfl rfl,h2 1 b y rfl rfl⟩
theorem L9 {I:IH}{r:Ren}{vs:List Value}{x:AV}(h:PM I r vs [x]):∃a,vs=[a]/\GV I r a x:=by
 obtain⟨h1,h2⟩:=h
 match vs,h1 with
 |[a],_=>exact⟨a,rfl,h2 0 a x rfl rfl⟩
theorem UD (L:Lays.n167 P ρ)(X:Builder.Extra P ρ){l:List UInt8}{c:Int}(hc:0<=c/\c<256)(hl:l.length+1<=140737488355328)(hk:MG (ρ.f 167) false=true:=by rfl) :
 oN P (ρ.f 167) [.one (.ptr 0 0),.one (.c (.lit (.int .u8 c)))] [.var [.opt (ρ.t 72) 0,.uM 1 l.length],.row (ρ.t 5) l] λr bs=>r = .one (.c (.lit .nilIface))/\bs=[.var [.opt (ρ.t 72) 0,.uM 2 (l++[fA c.toNat]).length],.dead,.row (ρ.t 5) (l++[fA c.toNat])]:=by
 refine oN.of0 hk ?_;intro I r w vs hT hA hB hG;obtain⟨a,b',rfl,ha,hb⟩:=Mc hG;obtain⟨k,p,v,b⟩:=Yy hB;obtain⟨k',cap',hr,rfl⟩:=ha;rw[b.r0]at hr;simp only[aC,aK]at hr;obtain⟨rfl,_⟩:=hr;cases hb;refine(Sr L X k p v l c w b.hk b.hp b.hv hc hl).mono ?_;rintro e w' ⟨rfl,hW⟩;obtain⟨σ,h1,h2,h3,h4,h5⟩:=WA X.neB5 hA hB b hW;exact⟨_,I,σ,_,_,rfl,⟨rfl,rfl⟩,Rd.lit _ rfl,h1,h2,IH.le_refl I,h3,h4,λ_ _ _=>rfl,h5⟩
theorem PX (L:Lays.n166 P ρ)(X:Builder.Extra P ρ){l s:List UInt8}(hl:l.length+s.length<=140737488355328)(hk:MG (ρ.f 166) false=true:=by rfl) :
 oN P (ρ.f 166) [.one (.ptr 0 0),.one (.c (.str s))] [.var [.opt (ρ.t 72) 0,.uM 1 l.length],.row (ρ.t 5) l] λr bs=>r = .AX [(false,[.c (.lit (.int .i64 s.length))]),(false,[.c (.lit .nilIface)])]/\bs=[.var [.opt (ρ.t 72) 0,.uM 2 (l++s).length],.dead,.row (ρ.t 5) (l++s)]:=by
 refine oN.of0 hk ?_;intro I r w vs hT hA hB hG;obtain⟨a,b',rfl,ha,hb⟩:=Mc hG;obtain⟨k,p,v,b⟩:=Yy hB;obtain⟨k',cap',hr,rfl⟩:=ha;rw[b.r0]at hr;simp only[aC,aK]at hr;obtain⟨rfl,_⟩:=hr;cases hb;refine(OV L X k p v l s w b.hk b.hp b.hv hl).mono ?_;rintro e w' ⟨rfl,hW⟩;obtain⟨σ,h1,h2,h3,h4,h5⟩:=WA X.neB5 hA hB b hW;refine⟨_,I,σ,_,_,rfl,⟨rfl,rfl⟩,⟨_,rfl,rfl,λj u q hu hq=>?_⟩,h1,h2,IH.le_refl I,h3,h4,λ_ _ _=>rfl,h5⟩
 match j with
 |0=>simp at hu hq;subst hu;subst hq;exact⟨_,rfl,Rd.lit _ rfl⟩
 |1=>simp at hu hq;subst hu;subst hq;exact⟨_,rfl,Rd.lit _ rfl⟩
 |j+2=>simp at hu
theorem abx (L:Lays.n169 P ρ)(X:Builder.Extra P ρ){l:List UInt8}(hl:l.length<=maxLen)(hk:MG (ρ.f 169) false=true:=by rfl) :
 oN P (ρ.f 169) [.one (.ptr 0 0)] [.var [.opt (ρ.t 72) 0,.uM 1 l.length],.row (ρ.t 5) l] λr bs=>r = .one (.c (.str l))/\bs=[.dead,.dead]:=by
 refine oN.of0 hk ?_;intro I r w vs hT hA hB hG;obtain⟨a,rfl,ha⟩:=L9 hG;obtain⟨k,p,v,b⟩:=Yy hB;obtain⟨k',cap',hr,rfl⟩:=ha;rw[b.r0]at hr;simp only[aC,aK]at hr;obtain⟨rfl,_⟩:=hr;refine(Yz L X k p v l w b.hk b.hv).mono ?_;rintro e w' ⟨rfl,hF⟩;have hρ:∀c,2<=c->r c=none:=λc hc=>by have h1:=hB.ok c;rw[Bf (by simpa using hc)]at h1;exact h1
 have un:∀c k',(zX [.dead,.dead] c).uses (r c) k'->False:=λc k' hu=>by
  match c with
  |0=>exact hu
  |1=>exact hu
  |c+2=>rw[Bf nV]at hu;exact hu
 refine⟨_,I,r,_,_,rfl,⟨rfl,rfl⟩,Rd.str _ hl,?_,⟨λc=>?_,λc c' k' hc=>(un c k' hc).elim,λc k' hc=>(un c k' hc).elim⟩,IH.le_refl I,⟨hF.os,hF.tape,hF.output,hF.size,λk' hlt hm=>hF.block k' hlt λe=>hm ⟨1,?_⟩⟩,λc k' hc=>(un c k' hc).elim,λ_ _ _=>rfl,λ_ _=>rfl⟩
 ·exact hA.other λk1 c hc=>hF.block k1 (hA.lt hc) λe=>by rw[b.i1 k1 e.symm]at hc;cases hc
 ·match c with
  |0=>trivial
  |1=>trivial
  |c+2=>rw[Bf nV];exact hρ _ aI
 ·exact b.own k' e.symm
end Go.Ab
end
section
namespace Go.Ab
open Go Go.Shelf Go.Proofs
variable {P:Program} {ρ:Go.Shelf.Ren}
theorem ajv {I:IH} {w:World} (hT:Tabs P I) (hA:Agree I w) {g:Nat} (hg:P.globalNamed "internal/strconv.uint64pow10" = some g):Lib.TabIs P w "internal/strconv.uint64pow10" .u64 Go.Lib.pow10Tab:=by
 obtain⟨e,fr,h⟩:=hA g _ (hT.pow g hg);unfold Lib.TabIs World.var?;simp only[hg,Option.bind_some,h]
theorem agD (L:LaysM.n171 P ρ){n:Int}(h0 : -9223372036854775808<=n/\n<=9223372036854775807)(hl:(Go.Lib.itoa n).length<=maxLen){r:List UInt8}(hr:r=Go.Lib.itoa n)(hk:MG (ρ.f 171) true=true:=by rfl) :
 iW P (ρ.f 171) [.one (.c (.lit (.int .i64 n)))] (.one (.c (.str r))):=by
 subst hr;refine oN.of0 hk ?_;intro I r w vs hT hA hB hG;obtain⟨a,rfl,ha⟩:=L9 hG;cases ha;have hB':∀b,zX [] b = .absent:=λb=>Bf (aJ _);refine(Any.strconv_Itoa L n h0.1 h0.2 w (ajv hT hA L.m17)).mono ?_;rintro e w' ⟨rfl,k,os,rfl⟩;have hb:=Lib.below_grow w.heap.size w (ak _) k os;refine⟨_,I,r,_,_,rfl,⟨rfl,rfl⟩,Rd.str _ hl,hA.other λk1 c hc=>hb.block k1 (hA.lt hc),⟨λb=>?_,λb b' k hu=>?_,λb k hu=>?_⟩,IH.le_refl I,A7 hb _,λb k hu=>?_,λ_ _ _=>rfl,λ_ _=>rfl⟩
 ·have:=hB.ok b;rw[hB']at this⊢;exact this
 all_goals(rw[hB']at hu;exact hu.elim)
end Go.Ab
end
section
namespace Go.Ab
open Go Go.Shelf Go.Proofs Go.RowKit
variable {P:Program} {ρ:Go.Shelf.Ren}
theorem Jq {I:IH}{v:Value}{s:di}(h:Rd I v (.str s)):v = .string ⟨⟨s⟩⟩/\s.length<=maxLen:=by
 cases h with
 |str l h=>exact⟨rfl,h⟩
theorem ahu {I:IH}{w:World}(hA:Agree I w){v:Value}{l:List di}(h:Rd I v (.sl 1 (l.map cS))):∃a len cap,v = .slice a len cap/\l.length=len/\len<=cap/\(0<len->∃b o,a=some ⟨b,o,none⟩/\b<w.heap.size/\∀j s,l[j]? = some s->w.cell? ⟨b,o+j,none⟩=some (.string ⟨⟨s⟩⟩)):=by
 cases h with
 | sl a len cap sz es u hlen hcap hmax hsz ha hcell hr=>
   rw[kX]at hlen;refine⟨a,len,cap,rfl,hlen,hcap,λh0=>?_⟩;obtain⟨ad,rfl⟩:∃ad,a=some ad:=by
    cases a with
    |none=>exact aY rfl (ha h0)
    |some ad=>exact⟨ad,rfl⟩
   have h00:=hcell ad rfl 0 0 h0 aI;have hsp:ad.spot=none:=by
    unfold IH.cell at h00;split at h00
    ·cases h00
    ·rename_i hs;have:(ad.add (0*1+0)).spot=ad.spot:=rfl;rw[this]at hs;cases h:ad.spot with
     |none=>rfl
     |some x=>rw[h]at hs;simp at hs
   have hlt:ad.block<w.heap.size:=by have:=hA.cell h00;exact World.block_lt_of_cell? _ _ this
   refine⟨ad.block,ad.off,?_,hlt,λj s hj=>?_⟩
   ·cases ad;simp only at hsp;rw[hsp]
   ·obtain⟨hjl,rfl⟩:=aT.1 hj;have h1:=hA.cell (hcell ad rfl j 0 aI aI);have h2:=hr j 0 (.str l[j]) (by simp[hjl,cS]);obtain⟨e,_⟩:=Jq h2;rw[e]at h1;have:ad.add (j*1+0)=⟨ad.block,ad.off+j,none⟩:=by cases ad;simp only at hsp;subst hsp;simp[sG]
    rw[this]at h1;exact h1
theorem agE (L:Lays.n156 P ρ)(X:Builder.Extra P ρ){l:List di}{sep r:di}(hN:l.length<=140737488355328)(hl:(uS l sep).length<=140737488355328)(hr:r=uS l sep)(hk:MG (ρ.f 156) true=true:=by rfl) :
 iW P (ρ.f 156) [.one (.c (.sl 1 (l.map cS))),.one (.c (.str sep))] (.one (.c (.str r))):=by
 subst hr;refine oN.of0 hk ?_;intro I r w vs hT hA hB hG;obtain⟨a,b,rfl,ha,hb⟩:=Mc hG;have hB':∀b,zX [] b = .absent:=λb=>Bf (aJ _);have ha:Rd I a (.sl 1 (l.map cS)):=ha;obtain⟨e2,hs2⟩:=Jq (show Rd I b (.str sep)from hb);subst e2;obtain⟨ad,len,cap,rfl,hlen,hcap,hcells⟩:=ahu hA ha;have hml:140737488355328<=maxLen:=by decide
 have key:Calls P (ρ.f 156) #[.slice ad len cap,.string ⟨⟨sep⟩⟩] w λe w'=>e = .returned (.string ⟨⟨uS l sep⟩⟩)/\Below w.heap.size w w':=by
  by_cases h0:0<len
  ·obtain⟨bk,o,rfl,hlt,hc⟩:=hcells h0;have:=Any.strings_Join L X bk o cap (l.map λs=>⟨⟨s⟩⟩) ⟨⟨sep⟩⟩ w (λj x hx=>by
    rw[dD]at hx;obtain⟨s,hs,rfl⟩:=bY.1 hx;exact hc j s hs) hlt (by rw[kX];omega) (by rw[kX];omega) (by rw[yB];have:(l.map ((λx:ByteArray=>x.data.toList)∘λs=>⟨⟨s⟩⟩))=l:=(by simp[yj]);rw[this];exact hl)
   rw[kX,hlen,yB]at this;have e:(l.map ((λx:ByteArray=>x.data.toList)∘λs=>⟨⟨s⟩⟩))=l:=(by simp[yj]);rw[e]at this;exact this
  ·have:len=0:=(by omega);subst this;have hnil:l=[]:=List.length_eq_zero_iff.1 hlen;subst hnil;refine(Any.strings_Join_none L X ad cap ⟨⟨sep⟩⟩ w).mono λe w' ⟨he,hw⟩=>⟨?_,hw▸Below.refl _ _⟩;rw[he];rfl
 refine key.mono ?_;rintro e w' ⟨rfl,hb⟩;refine⟨_,I,r,_,_,rfl,⟨rfl,rfl⟩,Rd.str _ (dR hl hml),hA.other λk1 c hc=>hb.block k1 (hA.lt hc),⟨λb=>?_,λb b' k hu=>?_,λb k hu=>?_⟩,IH.le_refl I,A7 hb _,λb k hu=>?_,λ_ _ _=>rfl,λ_ _=>rfl⟩
 ·have:=hB.ok b;rw[hB']at this⊢;exact this
 all_goals(rw[hB']at hu;exact hu.elim)
theorem UB (L:Lays.n99 P ρ){s p:di}{r:Bool}(hr:r=Go.Lib.hasPrefix s p)(hk:MG (ρ.f 99) true=true:=by rfl) :
 iW P (ρ.f 99) [.one (.c (.str s)),.one (.c (.str p))] (.one (.c (.lit (.bool r)))):=by
 subst hr;refine oN.of0 hk ?_;intro I r w vs hT hA hB hG;obtain⟨a,b,rfl,ha,hb⟩:=Mc hG;have hB':∀b,zX [] b = .absent:=λb=>Bf (aJ _);obtain⟨e1,_⟩:=Jq (show Rd I a (.str s)from ha);obtain⟨e2,_⟩:=Jq (show Rd I b (.str p)from hb);subst e1 e2;refine(Any.strings_HasPrefix L ⟨⟨s⟩⟩ ⟨⟨p⟩⟩ w).mono ?_;rintro e w' ⟨rfl,rfl⟩;have hb:=Below.refl w'.heap.size w';refine⟨_,I,r,_,_,rfl,⟨rfl,rfl⟩,Rd.lit _ rfl,hA,⟨λb=>?_,λb b' k hu=>?_,λb k hu=>?_⟩,IH.le_refl I,A7 hb _,λb k hu=>?_,λ_ _ _=>rfl,λ_ _=>rfl⟩
 ·have:=hB.ok b;rw[hB']at this⊢;exact this
 all_goals(rw[hB']at hu;exact hu.elim)
end Go.Ab
end
section
namespace Go.Ab
open Go Go.Shelf Go.Proofs Go.RowKit
variable {P:Program} {ρ:Go.Shelf.Ren}
def Gp (s:di):Int×Bool:=match xG s with
 |.ok v=>(v,false)
 |.range=>(Lib.atoiSat s,true)
 | _=>(0,true)
theorem agC (L:LaysC.n172 P ρ){s:di}{r:Int×Bool}(hl:s.length<=281474976710656)(hr:r=Gp s)(hk:MG (ρ.f 172) true=true:=by rfl) :
 iW P (ρ.f 172) [.one (.c (.str s))] (.AX [(false,[.c (.lit (.int .i64 r.1))]),(false,[.err r.2])]):=by
 subst hr;refine oN.of0 hk ?_;intro I r w vs hT hA hB hG;obtain⟨a,rfl,ha⟩:=L9 hG;have hB':∀b,zX [] b = .absent:=λb=>Bf (aJ _);obtain⟨e1,_⟩:=Jq (show Rd I a (.str s)from ha);subst e1;obtain⟨v1,hv1,hi1⟩:=hT.ers _ L.m15;obtain⟨v2,hv2,hi2⟩:=hT.err _ L.m16;have key:Calls P (ρ.f 172) #[.string ⟨⟨s⟩⟩] w λe w'=>Below w.heap.size w w'/\∃v,e = .returned (.tuple #[.int .i64 (Gp s).1,v])/\GC I r v (.err (Gp s).2):=by
  unfold Gp;cases h:xG s with
  | ok v=>
    refine(Any.strconv_Atoi_ok L ⟨⟨s⟩⟩ (by show s.length<=_;omega) v h w).mono ?_;rintro e w' ⟨rfl,hw⟩;refine⟨?_,_,rfl,rfl⟩;rcases hw with rfl|⟨t,rfl⟩
    ·exact Below.refl _ _
    ·exact Lib.bytesWorld_below _ _ _
  | range=>refine(Any.strconv_Atoi_range L ⟨⟨s⟩⟩ hl h v2 w (hA.cell hv2) hi2).mono ?_;rintro e w' ⟨N,rfl,_,_,hb⟩;exact⟨hb,_,rfl,_,_,rfl⟩
  | _=>refine(Any.strconv_Atoi_syntax L ⟨⟨s⟩⟩ hl h v1 w (hA.cell hv1) hi1).mono ?_;rintro e w' ⟨N,rfl,_,_,hb⟩;exact⟨hb,_,rfl,_,_,rfl⟩
 refine key.mono ?_;rintro e w' ⟨hb,v,rfl,hv⟩;refine⟨_,I,r,_,_,rfl,⟨rfl,rfl⟩,⟨_,rfl,rfl,λj x p hx hp=>?_⟩,hA.other λk1 c hc=>hb.block k1 (hA.lt hc),⟨λb=>?_,λb b' k hu=>?_,λb k hu=>?_⟩,IH.le_refl I,A7 hb _,λb k hu=>?_,λ_ _ _=>rfl,λ_ _=>rfl⟩
 ·match j with
  | 0=>simp at hx hp;subst hx hp;unfold GP;rw[ai nV];exact⟨_,rfl,Rd.lit _ rfl⟩
  | 1=>simp at hx hp;subst hx hp;unfold GP;rw[ai nV];exact⟨_,rfl,hv⟩
  |j+2=>simp at hp
 ·have:=hB.ok b;rw[hB']at this⊢;exact this
 all_goals(rw[hB']at hu;exact hu.elim)
theorem aep {I:IH}{r:Go.Ab.Ren}{vs:List Value}{x y z:AV}(h:PM I r vs [x,y,z]):∃a b c,vs=[a,b,c]/\GV I r a x/\GV I r b y/\GV I r c z:=by
 obtain⟨hl,hv⟩:=h
 match vs,hl with
 |[a,b,c],_=>exact⟨a,b,c,rfl,hv 0 a x rfl rfl,hv 1 b y rfl rfl,hv 2 c z rfl rfl⟩
theorem MX (sep:ByteArray)(save:Nat):∀(k:Nat) (s x:ByteArray),x∈Au sep save k s->x.size<=s.size
 | 0,s,x,h=>by rw[Lib.splitB_zero]at h;rw[dL.1 h];exact ak _
 | k+1,s,x,h=>by
   unfold Au at h;split at h
   ·rw[dL.1 h];exact ak _
   ·rcases aO.1 h with e|e
    ·rw[e,nZ];omega
    ·have:=MX sep save k _ x e;rw[nZ]at this;omega
theorem abz (w:World)(o:Obj):(w.alloc o).heap[w.heap.size]? = some o:=by show(w.heap.push o)[w.heap.size]? = some o;simp
def IH.add (I:IH)(k:Nat)(cs:Array Value):IH:=λb=>if b=k then some cs else I b
theorem abw (L:Lays.n147 P ρ)(hi9:(P.info? (ρ.t 9)).map (λi=>(i.zero,i.size,i.bytes))=some (some (.string rG),1,16)){s sep:di}{n:Int}{r:List di}
 (hs:s.length<4294967281) (h1:1<=sep.length) (hn:1<=n) (hn63:n<=1000000) (hg:P.globalNamed "internal/bytealg.MaxLen" = some (ρ.g 1)) (hr:r=mX sep 0 (min n.toNat (s.length+1)-1) s) (hk:MG (ρ.f 147) true=true:=by rfl) :
 iW P (ρ.f 147) [.one (.c (.str s)),.one (.c (.str sep)),.one (.c (.lit (.int .i64 n)))] (.one (.c (.sl 1 (r.map cS)))):=by
 subst hr;refine oN.of0 hk ?_;intro I r w vs hT hA hB hG;obtain⟨a,b,c,rfl,ha,hb,hc⟩:=aep hG;have hB':∀b,zX [] b = .absent:=λb=>Bf (aJ _);obtain⟨e1,_⟩:=Jq (show Rd I a (.str s)from ha);obtain⟨e2,_⟩:=Jq (show Rd I b (.str sep)from hb);have e3:c = .int .i64 n:=vz hc;subst e1 e2 e3;obtain⟨m,hm⟩:=hT.mxl _ hg;obtain⟨k,rfl⟩:∃k:Nat,n=k:=⟨n.toNat,aI⟩;have hS:=Any.strings_SplitN L hi9 ⟨⟨s⟩⟩ ⟨⟨sep⟩⟩ k m w hs (hA.cell hm) h1 aI aI;refine hS.mono ?_;rintro e w' ⟨rfl,rfl⟩;rw[show(⟨⟨s⟩⟩:ByteArray).size=s.length from rfl];have hK:=Lib.splitB_data ⟨⟨sep⟩⟩ 0 (min k (s.length+1)-1) ⟨⟨s⟩⟩;have hle:=Lib.splitB_length_le ⟨⟨sep⟩⟩ 0 (min k (s.length+1)-1) ⟨⟨s⟩⟩;have hK:(Au ⟨⟨sep⟩⟩ 0 (min k (s.length+1)-1) ⟨⟨s⟩⟩).map (·.data.toList)=mX sep 0 (min k (s.length+1)-1) s:=hK;rw[Int.toNat_natCast,<- hK];have alW:=MX ⟨⟨sep⟩⟩ 0 (min k (s.length+1)-1) ⟨⟨s⟩⟩;generalize Au ⟨⟨sep⟩⟩ 0 (min k (s.length+1)-1) ⟨⟨s⟩⟩=l at *;have hI:I w.heap.size=none:=by
  cases h:I w.heap.size with
  |none=>rfl
  |some c=>exact aY (hA.lt h) (sQ _)
 have hile:I.le (I.add w.heap.size (Du l (min k (s.length+1)))):=λb c hc=>by
  unfold IH.add;by_cases h:b=w.heap.size
  ·rw[h,hI]at hc;cases hc
  ·rw[ai h];exact hc
 have hml:4294967281<=maxLen:=by decide
 refine⟨_,I.add w.heap.size (Du l (min k (s.length+1))),r,_,_,rfl,⟨rfl,rfl⟩,?_,?_,⟨λb=>?_,λb b' k hu=>?_,λb k hu=>?_⟩,hile,A7 ((Below.refl _ w).alloc (ak _) _) _,λb k hu=>?_,λk1 hk _=>?_,λ_ _=>rfl⟩
 ·refine Rd.sl (some ⟨w.heap.size,0,none⟩) l.length (min k (s.length+1)) 1 _ (λi _=>.string (l.getD i rG)) nV aI aI (λe he=>?_) (λ_ h=>by cases h) (λad had i j hi hj=>?_) (λi j c hc=>?_)
  ·obtain⟨x,_,rfl⟩:=bf.1 he;rfl
  ·cases had;have e:(⟨w.heap.size,0,none⟩:Addr).add (i*1+j)=⟨w.heap.size,i,none⟩:=by
    have:i*1+j=i:=(by omega);rw[this];by_cases h0:i=0
    ·subst h0;rfl
    ·simp[sG,h0]
   rw[e];unfold IH.cell IH.add;simp only[kN];unfold Du;rw[ai nV];simp only[kW];rw[bD (by simpa using hi),dD];simp[bH,hi]
  ·rw[yB]at hc;by_cases hi:i<l.length
   ·have e1:((l.map (cS∘λx:ByteArray=>x.data.toList)).getD i [])=cS (l[i]).data.toList:=(by simp[bH,hi]);rw[e1]at hc
    match j with
    | 0=>simp[cS]at hc;subst hc;have e2:l.getD i rG=⟨⟨(l[i]).data.toList⟩⟩:=(by simp[bH,hi]);rw[e2];refine Rd.str _ ?_;have:=alW l[i] (fU hi);have h3:(l[i]).data.toList.length=(l[i]).size:=rfl;have h4:(⟨⟨s⟩⟩:ByteArray).size=s.length:=rfl;omega
    |j+1=>simp[cS]at hc
   ·have:((l.map (cS∘λx:ByteArray=>x.data.toList)).getD i [])=[]:=(by simp[bH,kV (by simpa using hi:(l.map _).length<=i)]);rw[this]at hc;simp at hc
 ·intro b c hc;unfold IH.add at hc;by_cases h:b=w.heap.size
  ·rw[aF h]at hc;cases hc;subst h;exact⟨_,_,abz w _⟩
  ·rw[ai h]at hc;obtain⟨e,fr,hw⟩:=hA b c hc;exact⟨e,fr,(Below.heap_alloc _ _ _ (hA.lt hc)).trans hw⟩
 ·have:=hB.ok b;rw[hB']at this⊢;exact this
 ·rw[hB']at hu;exact hu.elim
 ·rw[hB']at hu;exact hu.elim
 ·rw[hB']at hu;exact hu.elim
 ·unfold IH.add;rw[ai aI]
end Go.Ab
end
namespace Go.Ab
open Go
def Be : di->List di
 |[]=>[[]]
 | b::r=>if b=44 then []::Be r else match Be r with
   |[]=>[[b]]
   |x::xs=>(b::x)::xs
def al1 (b:UInt8):Bool:=(decide (48<=b.toNat)&&decide (b.toNat<=57))||(decide (97<=b.toNat)&&decide (b.toNat<=102))
def Ij (s:di):Bool:=s.all al1&&decide (s.length=4)
def OO (sv:di->Bool)(x:di):Option di:=
 if x=[42]then some x else if x.length=6/\x.getD 0 0=34/\x.getD 5 0=34/\sv ((x.drop 1).take 4)=true then some ((x.drop 1).take 4)else none
def colS (sv:di->Bool)(acc:Option (List di))(x:di):Option (List di):=acc.bind λl=>if l.length=4 then none else(OO sv x).map λy=>l++[y]
def agQ (sv:di->Bool)(ws:List di):Option (List di):=ws.foldl (colS sv) (some [])
def VD (sv:di->Bool)(s:di):List di×Bool:=if s=[]then([],true)else match agQ sv (Be s)with
 |some l=>(l,true)
 |none=>([],false)
end Go.Ab
