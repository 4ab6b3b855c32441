/- What the functions of the program compute (part 2). No conditions. -/
import Derived.Test.YtaodeagfpncomaaGreatDoorD1
set_option linter.unusedVariables false
set_option linter.unusedSimpArgs false
set_option maxRecDepth 100000
set_option maxHeartbeats 4000000
set_option linter.defProp false
open Go.DataW renaming trod->jf
open Go.IntKind renaming i64->qh
open List renaming getElem?_map->aP
open Nat renaming le_refl->aA,le_trans->dh
open Option renaming map_eq_some_iff->aU
namespace Go.Ab
open Go
section
variable {P:Program} {W:World} {H:Type} {enc:TypeId×Value->H}
structure Po (P:Program)(tI tS tL tN tK:TypeId):Prop where
 i:P.underlying tI=some (.int .i64)
 s:P.underlying tS=some .string
 l:P.underlying tL=some (.slice tS)
 k:P.underlying tK=some (.slice tN)
 n:∃fs,P.underlying tN=some (.struct fs)/\fs.toList.map (λf=>(f.type,f.offset))=[(tI,0),(tI,1),(tS,2),(tL,3),(tK,4)]
 ci:P.cellsOf tI=1
 cs:P.cellsOf tS=1
 cl:P.cellsOf tL=1
 ck:P.cellsOf tK=1
 cn:P.cellsOf tN=5
abbrev Jy (enc:TypeId×Value->H)(P:Program)(W:World):=jf enc P W 0 (λ_=>true) true
theorem MK {fuel:Nat}{t:TypeId}{cs:List Value}{d:DataW H}{ps:List MemPlace}(ht:P.underlying t=some .string)(h:Jy enc P W fuel t cs=some (d,ps)):∃s:jE,Jl (I0 W) cs (cS s)/\s.length<=maxLen:=by
 obtain⟨s,rfl,hl⟩:=abO ht h;refine⟨s.data.toList,Jl.one ?_,hl⟩;have:s=⟨⟨s.data.toList⟩⟩:=by cases s;rfl
 rw[this];exact Rd.str _ hl
theorem Hu {fuel:Nat}{t:TypeId}{cs:List Value}{d:DataW H}{ps:List MemPlace}(ht:P.underlying t=some (.int .i64))(h:Jy enc P W fuel t cs=some (d,ps)):∃n:Int,Jl (I0 W) cs [.lit (.int .i64 n)] /\ -9223372036854775808<=n/\n<=9223372036854775807:=by obtain⟨n,rfl,hw⟩:=trod_int ht h;refine⟨n,Jl.one (Rd.lit _ rfl),?_⟩;have hw:(decide (qh.min<=n)&&decide (n<=qh.max))=true:=hw;obtain⟨h1,h2⟩:=Bool.and_eq_true_iff.1 hw;exact⟨of_decide_eq_true h1,of_decide_eq_true h2⟩
theorem OJ {fuel:Nat}{t tS:TypeId}{cs:List Value}{d:DataW H}{ps:List MemPlace}(ht:P.underlying t=some (.slice tS))(hS:P.underlying tS=some .string)(hc:P.cellsOf tS=1)(h:Jy enc P W fuel t cs=some (d,ps)):∃l:List jE,Jl (I0 W) cs [.sl 1 (l.map cS)]/\l.length<=maxLen/\∀s,s∈l->s.length<=maxLen:=by obtain⟨l,v,rfl,hr,hm,hq⟩:=FU (cells:=cS) (Q:=λs=>s.length<=maxLen) ht hc (λf ecs d p _ h=>MK hS h) h;exact⟨l,Jl.one hr,hm,hq⟩
theorem aaU : maxLen<=mx:=zx
theorem part {cs:List Value}{k:Nat}(h:k<cs.length):(cs.drop k).take 1=[cs[k]]:=by rw[List.drop_eq_getElem_cons h];rfl
theorem YK {tI tS tL tN tK:TypeId}(T:Po P tI tS tL tN tK):∀(fuel:Nat) {cs:List Value} {d:DataW H} {ps:List MemPlace},Jy enc P W fuel tN cs=some (d,ps)->∃n:aN,Jl (I0 W) cs (aN.cells n)/\cs.length=5/\tq mx fuel n:=by
 intro fuel
 induction fuel using Nat.strongRecOn with|_ fuel ih=>
 intro cs d ps h;obtain⟨fs,hfs,hl⟩:=T.n;obtain⟨f,rfl,h5,hx⟩:=trod_struct hfs h;rw[T.cn]at h5;have at_:∀k ty off,[(tI,0),(tI,1),(tS,2),(tL,3),(tK,4)][k]? = some (ty,off)->∃d' p',Jy enc P W f ty ((cs.drop off).take (P.cellsOf ty))=some (d',p'):=λk ty off hk=>by rw[<- hl,aP]at hk;obtain⟨x,hx1,hx2⟩:=aU.1 hk;cases hx2;exact hx k x hx1
 obtain⟨d0,p0,h0⟩:=at_ 0 tI 0 rfl
 obtain⟨d1,p1,h1⟩:=at_ 1 tI 1 rfl
 obtain⟨d2,p2,h2⟩:=at_ 2 tS 2 rfl
 obtain⟨d3,p3,h3⟩:=at_ 3 tL 3 rfl
 obtain⟨d4,p4,h4⟩:=at_ 4 tK 4 rfl
 rw[T.ci,part aQ]at h0 h1;rw[T.cs,part aQ]at h2;rw[T.cl,part aQ]at h3;rw[T.ck,part aQ]at h4;obtain⟨z0,r0,_⟩:=Hu T.i h0;obtain⟨z1,r1,_⟩:=Hu T.i h1;obtain⟨z2,r2,m2⟩:=MK T.s h2;obtain⟨z3,r3,m3,q3⟩:=OJ T.l T.s T.cs h3;obtain⟨z4,v4,e4,r4,m4,q4⟩:=FU (cells:=aN.cells) (Q:=λn=>tq mx f n) T.k T.cn (λf' ecs d p hf hh=>(ih f' aQ hh).imp λn hn=>⟨hn.1,hn.2.2.mono (aA _) aQ⟩) h4;have hM:=aaU;refine⟨aN.mk z0 z1 z2 z3 z4,?_,h5,dh m2 hM,dh m3 hM,λs hs=>dh (q3 s hs) hM,dh m4 hM,trivial,q4⟩;rw[aN.iO];have ec:cs=[cs[0]]++([cs[1]]++([cs[2]]++([cs[3]]++[cs[4]]))):=by
  match cs,h5 with
  |[a,b,c,d,e],_=>rfl
 rw[ec];have e4':cs[4]=v4:=by simpa using e4
 exact r0.app (r1.app (r2.app (r3.app (e4'▸Jl.one r4))))
end
section
variable {P:Program} {W:World} {H:Type} {enc:TypeId×Value->H}
structure Un (P:Program)(tI tS tL tN tK tD tE tT:TypeId):Prop where
 nt:Po P tI tS tL tN tK
 d:∃fs,P.underlying tD=some (.struct fs)/\fs.toList.map (λf=>(f.type,f.offset))=[(tS,0),(tI,1),(tN,2)]
 e:P.underlying tE=some (.slice tD)
 t:∃fs,P.underlying tT=some (.struct fs)/\fs.toList.map (λf=>(f.type,f.offset))=[(tE,0),(tI,1)]
 cd:P.cellsOf tD=7
 ce:P.cellsOf tE=1
 ct:P.cellsOf tT=2
theorem adG {f:Nat}{cs:List Value}{fs:Array Field}{l:List (TypeId×Nat)}(hl:fs.toList.map (λf=>(f.type,f.offset))=l)
 (hx:∀(k:Nat) x,fs.toList[k]? = some x->∃d' p',jf enc P W 0 (λ_=>true) true f x.type ((cs.drop x.offset).take (P.cellsOf x.type))=some (d',p')) :
 ∀(k:Nat) (ty:TypeId) (off:Nat),l[k]? = some (ty,off)->∃d' p',Jy enc P W f ty ((cs.drop off).take (P.cellsOf ty))=some (d',p'):=λk ty off hk=>by
 rw[<- hl,aP]at hk;obtain⟨x,hx1,hx2⟩:=aU.1 hk;cases hx2;exact hx k x hx1
theorem YJ {tI tS tL tN tK tD tE tT:TypeId}(T:Un P tI tS tL tN tK tD tE tT){fuel:Nat}{cs:List Value}{d:DataW H}{ps:List MemPlace}(h:Jy enc P W fuel tD cs=some (d,ps)):∃o:jc,Jl (I0 W) cs (jc.cells o)/\cs.length=7/\Pm mx fuel o:=by
 obtain⟨fs,hfs,hl⟩:=T.d;obtain⟨f,rfl,h7,hx⟩:=trod_struct hfs h;rw[T.cd]at h7;have at_:=adG hl hx
 obtain⟨d0,p0,h0⟩:=at_ 0 tS 0 rfl
 obtain⟨d1,p1,h1⟩:=at_ 1 tI 1 rfl
 obtain⟨d2,p2,h2⟩:=at_ 2 tN 2 rfl
 rw[T.nt.cs,part aQ]at h0;rw[T.nt.ci,part aQ]at h1;obtain⟨z0,r0,m0⟩:=MK T.nt.s h0;obtain⟨z1,r1,_⟩:=Hu T.nt.i h1;obtain⟨n,r2,_,q2⟩:=YK T.nt f h2;have hM:=aaU;rw[aN.iO,T.nt.cn]at r2;refine⟨jc.mk z0 z1 n,?_,h7,dh m0 hM,q2.mono (aA _) aQ⟩;have ec:cs=[cs[0]]++([cs[1]]++(cs.drop 2).take 5):=by
  match cs,h7 with
  |[a,b,c,d,e,f,g],_=>rfl
 rw[ec];exact r0.app (r1.app r2)
theorem Vz {tI tS tL tN tK tD tE tT:TypeId}(T:Un P tI tS tL tN tK tD tE tT){fuel:Nat}{cs:List Value}{d:DataW H}{ps:List MemPlace}(h:Jy enc P W fuel tT cs=some (d,ps)) :
 ∃s:gQ,Jl (I0 W) cs [.sl 7 (s.dG.map jc.cells),.lit (.int .i64 s.pW)]/\cs.length=2/\s.dG.length<=mx/\∃D,∀o,o∈s.dG->Pm mx D o:=by
 obtain⟨fs,hfs,hl⟩:=T.t;obtain⟨f,rfl,h2,hx⟩:=trod_struct hfs h;rw[T.ct]at h2;have at_:=adG hl hx
 obtain⟨d0,p0,h0⟩:=at_ 0 tE 0 rfl
 obtain⟨d1,p1,h1⟩:=at_ 1 tI 1 rfl
 rw[T.ce,part aQ]at h0;rw[T.nt.ci,part aQ]at h1;obtain⟨z0,v0,e0,r0,m0,q0⟩:=FU (cells:=jc.cells) (Q:=λn=>Pm mx f n) T.e T.cd (λf' ecs d p _ hh=>(YJ T hh).imp λn hn=>⟨hn.1,hn.2.2.1,hn.2.2.2.mono (aA _) aQ⟩) h0;obtain⟨z1,r1,_⟩:=Hu T.nt.i h1;refine⟨gQ.mk z0 z1,?_,h2,dh m0 aaU,f,q0⟩;have ec:cs=[cs[0]]++[cs[1]]:=by
  match cs,h2 with
  |[a,b],_=>rfl
 rw[ec];have e0':cs[0]=v0:=by simpa using e0
 exact(e0'▸Jl.one r0).app r1
end
end Go.Ab
