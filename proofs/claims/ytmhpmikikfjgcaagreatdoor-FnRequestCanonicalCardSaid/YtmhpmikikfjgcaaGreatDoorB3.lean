/- The functions of the program that the laws reach: what they compute, the proofs that they do, the laws of the data (part 3). No conditions. -/
import Derived.Test.YtmhpmikikfjgcaaGreatDoorB2
set_option linter.unusedVariables false
set_option linter.unusedSimpArgs false
section
namespace Go.Ab
open Go
set_option maxRecDepth 100000
structure At (s:aA) (a:Nat):Prop where
 le:a<=s.length
 len:s.length<=1000000
theorem Eg {s p:aA} : Lib.hasPrefix s p=true<->p <+: s:=by unfold Lib.hasPrefix; exact List.isPrefixOf_iff_prefix
theorem tu (p r:aA):Lib.hasPrefix (p++r) p=true:=Eg.2 (List.prefix_append p r)
theorem T.hasPrefix (s p:aA):Ev (fun f=>G.strings_HasPrefix f s p) (Lib.hasPrefix s p):=by
 refine Ev.up ?_
 simp only [G.strings_HasPrefix]
 exact Ev.ret _
def Es (s:aA) (a:Nat) (p:aA):Bool × au:=if Lib.hasPrefix (s.drop a) p then (true,au.mk s ((a+p.length:Nat):Int)) else (false,au.mk s (a:Int))
theorem qW {s p:aA} {a:Nat} (ha:a<=s.length) (h:Lib.hasPrefix (s.drop a) p=true):a+p.length<=s.length:=by
 have:=(Eg.1 h).length_le
 rw [List.length_drop] at this; omega
theorem T.take {s p:aA} {a:Nat} (h:At s a):Ev (fun f=>G.dm f (au.mk s (a:Int)) p) (Es s a p):=by
 have h1:=h.le
 have h2:=h.len
 refine Ev.up ?_
 simp only [G.dm,Int.toNat_natCast]
 unfold Es
 refine Ev.chk ⟨by omega,by omega,by omega⟩ (Ev.bind (T.hasPrefix _ _) (Ev.ite (fun e => ?_) (fun e => ?_)))
 ·rw [if_pos e]
  have:=qW h1 e
  exact Ev.ret' (by rw [wrapN (m:=a+p.length) (by omega) (by omega)])
 ·rw [if_neg (by rw [e]; simp)]
  exact Ev.ret _
theorem drop_tail {s x r:aA} {a:Nat} (h:s.drop a=x++r):s.drop (a+x.length)=r:=by
 rw [<- List.drop_drop,h,List.drop_left]
theorem kL {s r:aA} {a:Nat} {b:UInt8} (h:s.drop a=b::r):a<s.length/\s.getD a 0=b/\s.drop (a+1)=r:=by
 have hl:a<s.length:=by
  have:=congrArg List.length h
  rw [List.length_drop,List.length_cons] at this; omega
 refine ⟨hl,?_,?_⟩
 ·rw [aY (0:UInt8) hl] at h
  exact (List.cons.inj h).1
 ·rw [aY (0:UInt8) hl] at h
  exact (List.cons.inj h).2
theorem kP (b:UInt8) (c:UInt8):((((b.toNat:Nat):Int))==((c.toNat:Nat):Int))=(b==c):=by
 rw [Bool.eq_iff_iff,beq_iff_eq,beq_iff_eq]
 exact ⟨fun h=>UInt8.toNat_inj.1 (by omega),fun h=>by rw [h]⟩
theorem Aw (b:UInt8) (c:UInt8):((((b.toNat:Nat):Int)) != ((c.toNat:Nat):Int)) = !(b==c):=by
 show (!((((b.toNat:Nat):Int))==((c.toNat:Nat):Int)))=_
 rw [kP]
structure P6 (s:aA) (a:Nat) (v:aA × Bool × au):Prop where
 pos:∃ b:Nat,v.2.2=au.mk s (b:Int)/\a<=b/\b<=s.length/\(v.2.1=true->a<b)
 len:v.1.length<=s.length
 all:∀ t r,s.drop a=ny t++r->v=(t,true,au.mk s ((a+(ny t).length:Nat):Int))
theorem nT {t r q:aA} {b:UInt8} (h:b::q=t.flatMap mg++34::r):(b=34/\t=[]/\q=r) \/
    (b=92/\∃ c t',(c=34\/c=92)/\t=c::t'/\q=c::(t'.flatMap mg++34::r))\/(b ≠ 34/\b ≠ 92/\∃ t',t=b::t'/\q=t'.flatMap mg++34::r):=by
  cases t with
  | nil =>
    simp at h
    exact .inl ⟨h.1,rfl,h.2⟩
  | cons c t' =>
    rw [List.flatMap_cons] at h
    by_cases hc:c=34\/c=92
    · have e:mg c=[92,c]:=if_pos hc
      rw [e] at h
      simp at h
      exact .inr (.inl ⟨h.1,c,t',hc,rfl,h.2⟩)
    · have e:mg c=[c]:=if_neg hc
      rw [e] at h
      simp at h
      obtain ⟨rfl,h2⟩:=h
      exact .inr (.inr ⟨fun e=>hc (.inl e),fun e=>hc (.inr e),t',rfl,h2⟩)
theorem T.uY.L3 {s:aA} {v1:Bool × au} (hv:v1.2.text=s) (hl:s.length<=1000000):∀ (k y:Nat) (z:aA),y+k=s.length->z.length<=y ->
    Tot (fun v=>(∃ b:Nat,v.2.2=au.mk s (b:Int)/\y<=b/\b<=s.length/\(v.2.1=true->y<b))/\v.1.length<=s.length/\∀ t r,s.drop y=t.flatMap mg++34::r->v=(z++t,true,au.mk s ((y+(t.flatMap mg).length+1:Nat):Int)))
      (fun f=>G.aH.L3 f v1 (y:Int) z):=by
  intro k
  induction k using Nat.strongRecOn with | _ k ih =>
  intro y z hy hz
  refine Tot.up ?_
  simp only [G.aH.L3,hv,Int.toNat_natCast]
  refine Tot.ite (fun e => ?_) (fun e => ?_)
  · have hyl:y<s.length:=by simp only [decide_eq_true_eq] at e; omega
    have w1:IntKind.wrap .i64 ((y:Int)+1)=((y+1:Nat):Int):=bu (by omega)
    have w2:IntKind.wrap .i64 (((y+1:Nat):Int)+1)=((y+2:Nat):Int):=bu (by omega)
    have hd:=aY (0:UInt8) hyl
    have wr:∀ (b:UInt8) (y':Nat),y<y'->y'<=s.length->Tot (fun v=>(∃ b:Nat,v.2.2=au.mk s (b:Int)/\y<=b/\b<=s.length/\(v.2.1=true->y<b))/\v.1.length<=s.length /\
        ∀ t r,s.drop y'=t.flatMap mg++34::r->v=(z++b::t,true,au.mk s ((y'+(t.flatMap mg).length+1:Nat):Int))) (fun f=>G.aH.K4 f v1 z (((b.toNat:Nat):Int)) (y':Int)):=fun b y' h1 h2=>by
      refine Tot.up ?_
      simp only [G.aH.K4]
      refine Tot.iy (oq b (by omega)) ((ih (s.length-y') (by omega) y' (z++[b]) (by omega) (by simp; omega)).mono ?_)
      rintro v ⟨⟨p,e1,e2,e3,e4⟩,e5,e6⟩
      refine ⟨⟨p,e1,by omega,e3,fun h=>by have:=e4 h; omega⟩,e5,fun t r h => ?_⟩
      rw [e6 t r h]
      simp
    refine Tot.chk ⟨by omega,by omega⟩ ?_
    rw [show (34:Int)=(((34:UInt8).toNat:Nat):Int) from rfl,show (92:Int)=(((92:UInt8).toNat:Nat):Int) from rfl]
    refine Tot.ite (fun e1 => ?_) (fun e1=>Tot.ite (fun e2 => ?_) (fun e2 => ?_))
    · rw [kP,beq_iff_eq] at e1
      refine Tot.iy (T.bs' (by show z.length<=_; omega)) (Tot.ret ?_)
      rw [w1]
      refine ⟨⟨y+1,rfl,by omega,by omega,fun _=>by omega⟩,by show z.length<=_; omega,fun t r h => ?_⟩
      rw [hd] at h
      rcases nT h with ⟨_,rfl,_⟩ | ⟨DI,_⟩ | ⟨zK,_⟩
      · simp
      · rw [e1] at DI; exact absurd DI (by decide)
      · exact absurd e1 zK
    · rw [kP,beq_iff_eq] at e2
      rw [w1]
      refine Tot.ite (fun e3=>Tot.ret ?_) (fun e3 => ?_)
      · have e3 : y + 1 = s.length := by have:((y+1:Nat):Int)=((s.length:Nat):Int):=by simpa using e3
                                         omega
        refine ⟨⟨y+1,rfl,by omega,by omega,fun h=>by cases h⟩,Nat.zero_le _,fun t r h => ?_⟩
        rw [hd] at h
        rcases nT h with ⟨zK,_⟩ | ⟨_,c,t',_,_,hq⟩ | ⟨_,DI,_⟩
        · rw [e2] at zK; exact absurd zK (by decide)
        · rw [List.drop_of_length_le (by omega)] at hq; cases hq
        · exact absurd e2 DI
      · have hy1:y+1<s.length:=by
          have:¬ ((y+1:Nat):Int)=((s.length:Nat):Int):=by simpa using e3
          omega
        simp only [w2,Int.toNat_natCast]
        have hd1:=aY (0:UInt8) hy1
        have good:(s.getD (y+1) 0=34\/s.getD (y+1) 0=92)->Tot (fun v=>(∃ b:Nat,v.2.2=au.mk s (b:Int)/\y<=b/\b<=s.length/\(v.2.1=true->y<b))/\v.1.length<=s.length/\∀ t r,s.drop y=t.flatMap mg++34::r->v=(z++t,true,au.mk s ((y+(t.flatMap mg).length+1:Nat):Int)))
            (fun f=>G.aH.K4 f v1 z ((((s.getD (y+1) 0).toNat:Nat):Int)) ((y+2:Nat):Int)):=fun hc=>(wr (s.getD (y+1) 0) (y+2) (by omega) (by omega)).mono fun v ⟨p1,p2,p3⟩=>⟨p1,p2,fun t r h=>by
          rw [hd] at h
          rcases nT h with ⟨zK,_⟩ | ⟨_,c,t',hc',rfl,hq⟩ | ⟨_,DI,_⟩
          · rw [e2] at zK; exact absurd zK (by decide)
          · rw [hd1] at hq
            obtain ⟨rfl,hq2⟩:=List.cons.inj hq
            rw [p3 t' r hq2,List.flatMap_cons,show mg (s.getD (y+1) 0)=[92,s.getD (y+1) 0] from if_pos hc']
            simp; omega
          · exact absurd e2 DI⟩
        refine Tot.chk ⟨by omega,by omega⟩ ?_
        refine Tot.ite (fun e4 => ?_) (fun e4 => ?_)
        · refine Tot.chk ⟨by omega,by omega⟩ (Tot.ite (fun e5=>Tot.ret ?_) (fun e5 => ?_))
          · rw [Aw] at e4 e5
            refine ⟨⟨y+1,rfl,by omega,by omega,fun h=>by cases h⟩,Nat.zero_le _,fun t r h => ?_⟩
            rw [hd] at h
            rcases nT h with ⟨zK,_⟩ | ⟨_,c,t',hc',_,hq⟩ | ⟨_,DI,_⟩
            · rw [e2] at zK; exact absurd zK (by decide)
            · rw [hd1] at hq
              obtain ⟨rfl,_⟩:=List.cons.inj hq
              rcases hc' with h | h<;>rw [h] at e4 e5
              · exact absurd e4 (by decide)
              · exact absurd e5 (by decide)
            · exact absurd e2 DI
          · rw [Aw] at e5
            exact Tot.chk ⟨by omega,by omega⟩ (good (.inr (by simpa using e5)))
        · rw [Aw] at e4
          exact Tot.chk ⟨by omega,by omega⟩ (good (.inl (by simpa using e4)))
    · rw [kP] at e1 e2
      have n1:s.getD y 0 ≠ 34:=by simpa using e1
      have n2:s.getD y 0 ≠ 92:=by simpa using e2
      rw [w1]
      refine (wr (s.getD y 0) (y+1) (by omega) (by omega)).mono fun v ⟨p1,p2,p3⟩=>⟨p1,p2,fun t r h => ?_⟩
      rw [hd] at h
      rcases nT h with ⟨zK,_⟩ | ⟨DI,_⟩ | ⟨_,_,t',rfl,hq⟩
      · exact absurd zK n1
      · exact absurd DI n2
      · rw [p3 t' r hq,List.flatMap_cons,show mg (s.getD y 0)=[s.getD y 0] from if_neg (fun h=>h.elim n1 n2)]
        simp; omega
  · have hyl:y=s.length:=by simp only [decide_eq_false_iff_not] at e; omega
    refine Tot.ret ⟨⟨y,rfl,Nat.le_refl _,by omega,fun h=>by cases h⟩,Nat.zero_le _,fun t r h => ?_⟩
    rw [List.drop_of_length_le (by omega)] at h
    have:=congrArg List.length h
    simp at this
theorem T.uY {s:aA} {a:Nat} (h:At s a):Tot (P6 s a) (fun f=>G.aH f (au.mk s (a:Int))):=by
 have h1:=h.le
 have h2:=h.len
 refine Tot.up ?_
 simp only [G.aH]
 refine Tot.iy (T.take h) ?_
 unfold Es
 by_cases e:Lib.hasPrefix (s.drop a) [34]=true
 ·rw [if_pos e]
  have hb:=qW h1 e
  refine Tot.ite (fun _ => ?_) (fun h=>by cases h)
  refine (T.uY.L3 (s:=s) (v1:=(true,au.mk s ((a+[34].length:Nat):Int))) rfl h2 (s.length-(a+1)) (a+1) [] (by simp at hb; omega) (by simp)).mono ?_
  rintro v ⟨⟨p,e1,e2,e3,e4⟩,e5,e6⟩
  refine ⟨⟨p,e1,by omega,e3,fun h=>by have:=e4 h; omega⟩,e5,fun t r h => ?_⟩
  unfold ny at h ⊢
  have hd:=kL (h.trans (List.cons_append ..))
  rw [e6 t r (by rw [hd.2.2]; simp)]
  simp; omega
 ·rw [if_neg e]
  refine Tot.ite (fun h=>by cases h) (fun _=>Tot.ret ⟨⟨a,rfl,Nat.le_refl _,h1,fun h=>by cases h⟩,Nat.zero_le _,fun t r h => ?_⟩)
  exfalso
  apply e
  rw [h]
  unfold ny
  exact tu [34] _
def qH (b:UInt8):Bool:=b==45||(decide (48<=b.toNat)&&decide (b.toNat<=57))
def okR (r:aA):Prop:=∀ b,r.head? = some b->qH b=false
theorem Fa:okR []:=fun b h=>by cases h
theorem uQ {b:UInt8} {r:aA} (h:qH b=false):okR (b::r):=fun c hc=>by cases hc; exact h
theorem Ik:∀ k:Nat,k<10->qH (UInt8.ofNat (48+k))=true:=by decide
theorem BZ (i:Nat):∀ b,b∈kT i->qH b=true:=by
 induction i using Nat.strongRecOn with | _ i ih =>
 intro b hb
 by_cases h:i<10
 ·rw [kV h,List.mem_singleton] at hb
  rw [hb]; exact Ik i h
 ·rw [mZ h] at hb
  rcases List.mem_append.1 hb with e | e
  ·exact ih (i/10) (by omega) b e
  ·rw [List.mem_singleton] at e
   rw [e]; exact Ik (i%10) (by omega)
theorem xP (z:Int):∀ b,b∈mM z->qH b=true:=by
 intro b hb
 unfold mM at hb
 split at hb
 ·rcases List.mem_cons.1 hb with e | e
  ·rw [e]; rfl
  ·exact BZ _ b e
 ·exact BZ _ b hb
theorem uF (i:Nat):kT i ≠ []:=by
 by_cases h:i<10
 ·rw [kV h]; simp
 ·rw [mZ h]; simp
theorem EN (z:Int):mM z ≠ []:=by
 unfold mM
 split
 ·simp
 ·exact uF _
theorem Gv (acc:Nat):∀ i:Nat,acc*10^(kT i).length+i<1000000000->∀ r,Lib.parseUint10 acc (kT i++r)=Lib.parseUint10 (acc*10^(kT i).length+i) r:=by
 intro i
 induction i using Nat.strongRecOn generalizing acc with | _ i ih =>
 intro hb r
 have MG:∀ k:Nat,k<10->(UInt8.ofNat (48+k)).toNat=48+k:=fun k hk=>by
  rw [UInt8.toNat_ofNat']; omega
 have one:∀ (acc k:Nat) (r:aA),k<10->acc*10+k<1000000000->Lib.parseUint10 acc (UInt8.ofNat (48+k)::r)=Lib.parseUint10 (acc*10+k) r:=fun acc k r hk hb=>by
  rw [Lib.parseUint10]
  simp only [MG k hk]
  rw [if_pos (by omega),if_neg (by omega),if_neg (by omega)]
  congr 1; omega
 by_cases h:i<10
 ·rw [kV h] at hb ⊢
  simp only [List.length_singleton,Nat.pow_one] at hb ⊢
  exact one acc i r h hb
 ·rw [mZ h] at hb ⊢
  rw [List.length_append,List.length_singleton,Nat.pow_succ] at hb ⊢
  have e:acc*(10^(kT (i/10)).length*10)+i=(acc*10^(kT (i/10)).length+i/10)*10+i%10:=by
   rw [<- Nat.mul_assoc]; omega
  rw [e] at hb ⊢
  rw [List.append_assoc,ih (i/10) (by omega) acc (by omega)]
  exact one _ _ r (by omega) hb
theorem xE {z:Int} (h1 : -999999<=z) (h2:z<=999999):o8 (mM z)=(z,false):=by
  have hP:∀ i:Nat,i<=999999->Lib.parseMag (kT i) = .ok i:=fun i hi=>by
    unfold Lib.parseMag
    rw [if_neg (uF i)]
    have:=Gv 0 i (by omega) []
    rw [List.append_nil,Nat.zero_mul,Nat.zero_add] at this
    rw [this]; rfl
  have h0:∀ (i:Nat) b,(kT i).head? = some b->48<=b.toNat:=fun i=>by
    induction i using Nat.strongRecOn with | _ i ih =>
    intro b hb
    by_cases h:i<10
    · rw [kV h] at hb
      cases hb
      rw [UInt8.toNat_ofNat']; omega
    · rw [mZ h] at hb
      refine ih (i/10) (by omega) b ?_
      cases hd:kT (i/10) with
      | nil=>exact absurd hd (uF _)
      | cons c l=>rw [hd] at hb; exact hb
  unfold o8 mM
  by_cases hz:z<0
  · rw [if_pos hz]
    have e:Lib.atoiAll (45::kT (-z).toNat) = .ok z:=by
      rw [Lib.atoiAll_minus,hP (-z).toNat (by omega)]
      unfold Lib.signed
      dsimp only
      rw [if_neg (by omega)]
      congr 1; omega
    rw [e]
  · rw [if_neg hz]
    cases hd:kT z.toNat with
    | nil=>exact absurd hd (uF _)
    | cons c l =>
      have hc:=h0 z.toNat c (by rw [hd]; rfl)
      have e:Lib.atoiAll (c::l) = .ok z:=by
        rw [Lib.atoiAll_plain c l (by omega) (by omega),<- hd,hP z.toNat (by omega)]
        unfold Lib.signless
        dsimp only
        rw [if_neg (by omega)]
        congr 1; omega
      rw [e]
theorem nP {p:UInt8->Bool} : ∀ {x r:aA},(∀ b,b∈x->p b=true)->(∀ b,r.head? = some b->p b=false)->(x++r).takeWhile p=x
  | [],[],_,_=>rfl
  | [],b::r,_,h=>by
    have:=h b rfl
    simp [List.takeWhile,this]
  | a::x,r,h,k=>by
    rw [List.cons_append,List.takeWhile_cons,if_pos (h a (List.mem_cons_self ..)),nP (fun b hb=>h b (List.mem_cons_of_mem _ hb)) k]
structure Ov (s:aA) (a:Nat) (v:af × Bool × au):Prop where
 pos:∃ b:Nat,v.2.2=au.mk s (b:Int)/\a<=b/\b<=s.length/\(v.2.1=true->a<b)
 fin:∃ z,v.1=af.mk 0 0 [] [] []\/v.1=af.mk 1 z [] [] []
 all:∀ z r,-999999<=z->z<=999999->okR r->s.drop a=mM z++r->v=(af.mk 1 z [] [] [],true,au.mk s ((a+(mM z).length:Nat):Int))
theorem T.atoi (s:aA) (hl:s.length<=1000000):Ev (fun f=>G.strconv_Atoi f s) (o8 s):=by
 refine Ev.up ?_
 simp only [G.strconv_Atoi]
 exact Ev.chk (by omega) (Ev.ret _)
theorem FY (s:aA) (h:(o8 s).2=false) : -9223372036854775808<=(o8 s).1/\(o8 s).1<=9223372036854775807/\s ≠ []:=by
  unfold o8 at h ⊢
  cases e:Lib.atoiAll s with
  | ok v =>
    have:=Lib.atoiAll_bounds e
    refine ⟨this.1,this.2,fun h0 => ?_⟩
    subst h0
    cases e
  | range=>rw [e] at h; cases h
  | _ => rw [e] at h; cases h
theorem T.KP {z:Int} (h : -9223372036854775808<=z/\z<=9223372036854775807):Ev (fun f=>G.strconv_Itoa f z) (mM z):=by
 rw [<- CS]
 refine Ev.up ?_
 simp only [G.strconv_Itoa]
 exact Ev.chk ⟨h,Nat.le_trans (Lib.itoa_length_le z (by omega) (by omega)) (by decide)⟩ (Ev.ret _)
theorem T.Em {s:aA} {a:Nat} (h:At s a):Tot (Ov s a) (fun f=>G.aW f (au.mk s (a:Int))):=by
  have h1:=h.le
  have h2:=h.len
  have W:∀ x:Nat,a<=x->x<=s.length->((s.drop a).takeWhile qH=(s.take x).drop a)->Tot (Ov s a) (fun n=>Option.bind (G.strconv_Atoi n ((s.take x).drop a)) fun v3=>cond v3.2 (some ((af.mk 0 0 [] [] []),false,au.mk s (a:Int)))
      (Option.bind (G.strconv_Itoa n v3.1) fun v4=>cond (v4==((s.take x).drop a)) (some ((af.mk 1 v3.1 [] [] []),true,(au.mk s (x:Int)))) (some ((af.mk 0 0 [] [] []),false,au.mk s (a:Int))))):=fun x hx hxl hw=>by
    have hlen:((s.take x).drop a).length=x-a:=by rw [List.length_drop,List.length_take]; omega
    have cmp:∀ z r,-999999<=z->z<=999999->okR r->s.drop a=mM z++r->(s.take x).drop a=mM z:=fun z r _ _ hr hd=>by
      rw [<- hw,hd,nP (xP z) hr]
    refine Tot.iy (T.atoi _ (by omega)) (Tot.ite (fun e=>Tot.ret ?_) (fun e => ?_))
    · refine ⟨⟨a,rfl,Nat.le_refl _,h1,fun h=>by cases h⟩,⟨0,.inl rfl⟩,fun z r z1 z2 hr hd => ?_⟩
      rw [cmp z r z1 z2 hr hd,xE z1 z2] at e
      cases e
    · obtain ⟨b1,b2,b3⟩:=FY _ e
      refine Tot.iy (T.KP ⟨b1,b2⟩) (Tot.ite (fun e2=>Tot.ret ?_) (fun e2=>Tot.ret ?_))
      · have e2:mM (o8 ((s.take x).drop a)).1=(s.take x).drop a:=by simpa using e2
        have hpos:a<x:=by
          have:(s.take x).drop a ≠ []:=b3
          have:=List.length_pos_iff.2 this
          omega
        refine ⟨⟨x,rfl,by omega,hxl,fun _=>hpos⟩,⟨_,.inr rfl⟩,fun z r z1 z2 hr hd => ?_⟩
        have hc:=cmp z r z1 z2 hr hd
        rw [hc,xE z1 z2]
        rw [hc] at hlen
        have:x=a+(mM z).length:=by omega
        rw [this]
      · refine ⟨⟨a,rfl,Nat.le_refl _,h1,fun h=>by cases h⟩,⟨0,.inl rfl⟩,fun z r z1 z2 hr hd => ?_⟩
        have hc:=cmp z r z1 z2 hr hd
        rw [hc,xE z1 z2] at e2
        simp at e2
  have L:∀ (k x:Nat),x+k=s.length->a<=x->(∀ b,b∈(s.take x).drop a->qH b=true)->Tot (Ov s a) (fun f=>G.aW.L1 f (au.mk s (a:Int)) (x:Int)):=by
    intro k
    induction k with
    | zero =>
      intro x hx ha hdg
      refine Tot.up ?_
      simp only [G.aW.L1,Int.toNat_natCast]
      refine Tot.ite (fun e=>by simp only [decide_eq_true_eq] at e; omega) (fun _=>Tot.chk ⟨by omega,by omega,by omega⟩ (W x ha (by omega) ?_))
      have hs:s.take x=s:=List.take_of_length_le (by omega)
      rw [hs] at hdg ⊢
      have:=nP (r:=[]) hdg (fun b h=>by cases h)
      rwa [List.append_nil] at this
    | succ k ih =>
      intro x hx ha hdg
      have hxl:x<s.length:=by omega
      have hsplit:(s.drop a)=(s.take x).drop a++(s.getD x 0::s.drop (x+1)):=by
        rw [<- aY (0:UInt8) hxl]
        conv=>lhs; rw [<- List.take_append_drop x s]
        rw [List.drop_append_of_le_length (by rw [List.length_take]; omega)]
      have sO:(s.take (x+1)).drop a=(s.take x).drop a++[s.getD x 0]:=by
        rw [List.take_succ_eq_append_getElem hxl,List.drop_append_of_le_length (by rw [List.length_take]; omega),dI (0:UInt8) hxl]
      have go:qH (s.getD x 0)=true->Tot (Ov s a) (fun f=>G.aW.L1 f (au.mk s (a:Int)) ((x+1:Nat):Int)):=fun hb=>ih (x+1) (by omega) (by omega) (fun b hm=>by
        rw [sO] at hm
        rcases List.mem_append.1 hm with e | e
        · exact hdg b e
        · rw [List.mem_singleton] at e; rw [e]; exact hb)
      have no:qH (s.getD x 0)=false->(s.drop a).takeWhile qH=(s.take x).drop a:=fun hb=>by
        rw [hsplit]
        exact nP hdg (fun b h=>by cases h; exact hb)
      refine Tot.up ?_
      simp only [G.aW.L1,Int.toNat_natCast,bu (show x+1<9223372036854775808 by omega)]
      refine Tot.ite (fun _ => ?_) (fun e=>by simp only [decide_eq_false_iff_not] at e; omega)
      refine Tot.chk ⟨by omega,by omega⟩ ?_
      rw [show (45:Int)=(((45:UInt8).toNat:Nat):Int) from rfl]
      refine Tot.ite (fun e => ?_) (fun e => ?_)
      · rw [kP] at e
        exact go (by unfold qH; rw [e]; rfl)
      · rw [kP] at e
        refine Tot.chk ⟨by omega,by omega⟩ (Tot.ite (fun e1=>Tot.chk ⟨by omega,by omega⟩ (Tot.ite (fun e2 => ?_) (fun e2 => ?_))) (fun e1 => ?_))
        · simp only [decide_eq_true_eq] at e1 e2
          exact go (by unfold qH; rw [e,decide_eq_true (show 48<=(s.getD x 0).toNat by omega),decide_eq_true (show (s.getD x 0).toNat<=57 by omega)]; rfl)
        · simp only [decide_eq_true_eq,decide_eq_false_iff_not] at e1 e2
          exact Tot.chk ⟨by omega,by omega,by omega⟩ (W x ha (by omega) (no (by unfold qH; rw [e,decide_eq_false (show ¬ (s.getD x 0).toNat<=57 by omega)]; simp)))
        · simp only [decide_eq_false_iff_not] at e1
          exact Tot.chk ⟨by omega,by omega,by omega⟩ (W x ha (by omega) (no (by unfold qH; rw [e,decide_eq_false (show ¬ 48<=(s.getD x 0).toNat by omega)]; simp)))
  refine Tot.up ?_
  simp only [G.aW]
  refine L (s.length-a) a (by omega) (Nat.le_refl _) (fun b hb => ?_)
  rw [List.drop_of_length_le (by rw [List.length_take]; omega)] at hb
  cases hb
end Go.Ab
end
section
namespace Go.Ab
open Go
set_option maxRecDepth 100000
theorem Tot.ct {α:Type} {Q:α->Prop} {F F':Nat->Option α} {c:Bool} (hc:c=true) (h:Tot Q F):Tot Q (fun n=>cond c (F n) (F' n)):=by subst hc; exact h
theorem Tot.cf {α:Type} {Q:α->Prop} {F F':Nat->Option α} {c:Bool} (hc:c=false) (h:Tot Q F'):Tot Q (fun n=>cond c (F n) (F' n)):=by subst hc; exact h
def Hg (s r:aA):au:=au.mk s ((s.length-r.length:Nat):Int)
theorem xQ {s x r:aA} {a:Nat} (ha:a<=s.length) (h:s.drop a=x++r):au.mk s ((a+x.length:Nat):Int)=Hg s r:=by
 have:=congrArg List.length h
 rw [List.length_drop,List.length_append] at this
 unfold Hg
 congr 2; omega
theorem qV {s x r:aA} {a:Nat} (ha:a<=s.length) (h:s.drop a=x++r):s.drop (s.length-r.length)=r/\s.length-r.length<=s.length/\a+x.length=s.length-r.length:=by
 have hl:=congrArg List.length h
 rw [List.length_drop,List.length_append] at hl
 have e:s.length-r.length=a+x.length:=by omega
 rw [e]
 exact ⟨drop_tail h,by omega,rfl⟩
structure Px (d:Nat) (s:aA) (a:Nat) (v:af × Bool × au):Prop where
 pos:∃ b:Nat,v.2.2=au.mk s (b:Int)/\a<=b/\b<=s.length/\(v.2.1=true->a<b)
 fin:jT 1000000 (d+1) v.1
 all:∀ n r,Shape d n=true->okR r->s.drop a=iH d n++r->v=(n,true,Hg s r)
theorem lN {d:Nat} {k z:Int} {t:aA} (ht:t.length<=1000000):jT 1000000 (d+1) (af.mk k z t [] []) :=
 ⟨ht,Nat.zero_le _,fun s h=>(by cases h),Nat.zero_le _,trivial,fun k h=>(by cases h)⟩
theorem l9 (n:af):af.mk n.Kind n.Num n.Text n.Names n.Kids=n:=by cases n; rfl
def oN (F:af->aA) (n:af) (i:Nat):aA:=(if n.Kind=4 then ny (n.Names.getD i default)++[58] else [])++F (n.Kids.getD i default)
def kz (F:af->aA) (n:af) (i:Nat) (cl r:aA):aA:=(List.range' i (n.Kids.length-i)).flatMap (mX F n)++(cl++r)
theorem nM {F:af->aA} {n:af} {i:Nat} {cl r:aA} (h:n.Kids.length<=i):kz F n i cl r=cl++r:=by
 unfold kz
 rw [show n.Kids.length-i=0 by omega]; rfl
theorem nN {F:af->aA} {n:af} {i:Nat} {cl r:aA} (h:i<n.Kids.length) (h0:0<i):kz F n i cl r=44::(oN F n i++kz F n (i+1) cl r):=by
 unfold kz
 obtain ⟨k,hk⟩:∃ k,n.Kids.length-i=k+1:=⟨n.Kids.length-i-1,by omega⟩
 rw [hk,List.range'_succ,List.flatMap_cons,uH,if_pos h0,show n.Kids.length-(i+1)=k by omega]
 unfold oN
 simp
theorem qm {F:af->aA} {n:af} {cl r:aA} (h:0<n.Kids.length):kz F n 0 cl r=oN F n 0++kz F n 1 cl r:=by
 unfold kz
 obtain ⟨k,hk⟩:∃ k,n.Kids.length-0=k+1:=⟨n.Kids.length-1,by omega⟩
 rw [hk,List.range'_succ,List.flatMap_cons,uH,if_neg (Nat.lt_irrefl 0),show n.Kids.length-(0+1)=k by omega]
 unfold oN
 simp
theorem yE {F:af->aA} {n:af} {i:Nat} {c:UInt8} {r:aA} (hc:c=93\/c=125) (h0:0<i):okR (kz F n i [c] r):=by
 by_cases h:i<n.Kids.length
 ·rw [nN h h0]; exact uQ rfl
 ·rw [nM (by omega)]
  rcases hc with rfl | rfl<;>exact uQ rfl
structure Big (d:Nat) (k:Int) (n:af):Prop where
 kd:n.Kind=k
 num:n.Num=0
 text:n.Text=[]
 tJ:k=3->n.Names=[]
 len:k=4->n.Names.length=n.Kids.length
 kids:∀ k,k∈n.Kids->Shape d k=true
theorem take_snoc {α:Type} {l:List α} {i:Nat} (d:α) (h:i<l.length):l.take i++[l.getD i d]=l.take (i+1):=by
 rw [dI d h,List.take_succ_eq_append_getElem h]
theorem sD {s p:aA} {a:Nat} (h:Lib.hasPrefix (s.drop a) p=false):Es s a p=(false,au.mk s (a:Int)):=by unfold Es; rw [if_neg (by rw [h]; simp)]
theorem pJ {s p:aA} {a:Nat} (h:Lib.hasPrefix (s.drop a) p=true):Es s a p=(true,au.mk s ((a+p.length:Nat):Int)):=by unfold Es; rw [if_pos h]
theorem IG {a b:UInt8} {r:aA} (h:a ≠ b):Lib.hasPrefix (a::r) [b]=false:=by
  cases e:Lib.hasPrefix (a::r) [b] with
  | false=>rfl
  | true =>
    have:=Eg.1 e
    rw [List.cons_prefix_cons] at this
    exact absurd this.1.symm h
theorem yf {n:af} (h:Parts n=true) (hk:n.Kind ≠ 1):n.Num=0:=by
 unfold Parts at h
 simp only [Bool.and_eq_true,Bool.or_eq_true,beq_iff_eq] at h
 exact h.1.1.1.resolve_left hk
theorem yg {n:af} (h:Parts n=true) (hk:n.Kind ≠ 2):n.Text=[]:=by
 unfold Parts at h
 simp only [Bool.and_eq_true,Bool.or_eq_true,beq_iff_eq] at h
 exact h.1.1.2.resolve_left hk
theorem tX {n:af} (h:Parts n=true) (hk:n.Kind=0):n.Num=0/\n.Text=[]:=⟨yf h (by omega),yg h (by omega)⟩
theorem xU {d:Nat} {n:af} (h:Shape d n=true):∃ b q,iH d n=b::q/\b ≠ 93/\b ≠ 125:=by
  cases d with
  | zero=>cases h
  | succ d =>
    rcases qf (iq h) with k | k | k | k | k
    · rw [jd,if_neg (by omega),if_neg (by omega),if_pos k]
      exact ⟨_,_,rfl,by decide,by decide⟩
    · rw [jd,if_pos k]
      cases hz:mM n.Num with
      | nil=>exact absurd hz (EN _)
      | cons b q =>
        have hb:=xP n.Num b (by rw [hz]; exact List.mem_cons_self ..)
        exact ⟨b,q,rfl,fun e=>by rw [e] at hb; exact absurd hb (by decide),fun e=>by rw [e] at hb; exact absurd hb (by decide)⟩
    · rw [jd,if_neg (by omega),if_pos k]
      exact ⟨_,_,rfl,by decide,by decide⟩
    · rw [jd,if_neg (by omega),if_neg (by omega),if_neg (by omega),if_neg (by omega)]
      exact ⟨_,_,rfl,by decide,by decide⟩
    · rw [jd,if_neg (by omega),if_neg (by omega),if_neg (by omega),if_pos k]
      exact ⟨_,_,rfl,by decide,by decide⟩
structure P5 (d:Nat) (kind:Int) (c:UInt8) (s:aA) (y:Nat) (z5:List aA) (z6:List af) (v:af × Bool × au):Prop where
 pos:∃ b:Nat,v.2.2=au.mk s (b:Int)/\y<=b/\b<=s.length
 fin:jT 1000000 (d+2) v.1
 all:∀ n r,Big d kind n->z6.length<n.Kids.length->z6=n.Kids.take z6.length->z5=(if kind=4 then n.Names.take z6.length else []) ->
  s.drop y=oN (iH d) n z6.length++kz (iH d) n (z6.length+1) [c] r->v=(n,true,Hg s r)
section
variable {d:Nat} (hd:d<=4) (IH:∀ (s:aA) (a:Nat) (lv:Int),At s a->lv=6-(d:Int)->Tot (Px d s a) (fun f=>G.cu f (au.mk s (a:Int)) lv))
 {kind:Int} {c:UInt8} (hk:kind=3/\c=93\/kind=4/\c=125) {s:aA} (hl:s.length<=1000000) {lv:Int} (hlv:lv=5-(d:Int))
include hd IH hk hl hlv
theorem T.rX.L3:∀ (k y:Nat) (z5:List aA) (z6:List af),y+k=s.length->z6.length<=y->z5.length<=y->(∀ t,t∈z5->t.length<=1000000)->(∀ n,n∈z6->jT 1000000 (d+1) n) ->
    Tot (P5 d kind c s y z5 z6) (fun f=>G.aP.L3 f kind lv [c] s (y:Int) z5 z6):=by
  have hc:c=93\/c=125:=by rcases hk with ⟨_,h⟩ | ⟨_,h⟩<;>simp [h]
  have OX:(44:UInt8) ≠ c:=by rcases hc with h | h<;>rw [h]<;>decide
  intro k
  induction k using Nat.strongRecOn with | _ k ih =>
  intro y z5 z6 hy h6 h5 ht hn
  have K4:∀ (p:Nat) (z7:List aA),y<=p->p<=s.length->z7.length<=p+1->(∀ t,t∈z7->t.length<=1000000) ->
      Tot (fun v=>(∃ b:Nat,v.2.2=au.mk s (b:Int)/\y<=b/\b<=s.length)/\jT 1000000 (d+2) v.1/\∀ n r,Big d kind n->z6.length<n.Kids.length->z6=n.Kids.take z6.length->z7=(if kind=4 then n.Names.take (z6.length+1) else []) ->
        s.drop p=iH d (n.Kids.getD z6.length default)++kz (iH d) n (z6.length+1) [c] r->v=(n,true,Hg s r))
      (fun f=>G.aP.K4 f kind lv [c] z6 s (p:Int) z7):=fun p z7 hp hpl h7 ND=>by
    refine Tot.up ?_
    simp only [G.aP.K4]
    have w1:IntKind.wrap .i64 (lv+1)=6-(d:Int):=by rw [xk (by omega) (by omega)]; omega
    rw [w1]
    refine Tot.bind (IH s p _ ⟨hpl,hl⟩ rfl) ?_
    rintro ⟨m,ok,q⟩ ⟨⟨b,hb1,hb2,hb3,hb4⟩,hf,hall⟩
    simp only at hb1 hb4 hf
    subst hb1
    cases ok with
    | false =>
      refine Tot.cf rfl (Tot.ret ⟨⟨b,rfl,by omega,hb3⟩,lN (Nat.zero_le _),fun n r hB hlt _ _ hdr => ?_⟩)
      have:=hall _ _ (hB.kids _ (getD_mem default hlt)) (yE hc (Nat.succ_pos _)) hdr
      cases this
    | true =>
      have hpb:=hb4 rfl
      have hAt:At s b:=⟨hb3,hl⟩
      have hfin:∀ (z7':List aA),z7'.length<=1000000->(∀ t,t∈z7'->t.length<=1000000)->jT 1000000 (d+2) (af.mk kind 0 [] z7' (z6++[m])):=fun z7' g1 g2 =>
        ⟨Nat.zero_le _,g1,g2,by show (z6++[m]).length<=_; rw [List.length_append,List.length_singleton]; omega,trivial,fun x hx=>by
          rcases List.mem_append.1 hx with e | e
          · exact hn x e
          · rw [List.mem_singleton] at e; subst e; exact hf⟩
      refine Tot.ct rfl (Tot.chk (by omega) (Tot.iy (T.take hAt) ?_))
      have kid:∀ n r,Big d kind n->z6.length<n.Kids.length->s.drop p=iH d (n.Kids.getD z6.length default)++kz (iH d) n (z6.length+1) [c] r->m=n.Kids.getD z6.length default/\s.drop b=kz (iH d) n (z6.length+1) [c] r:=fun n r hB hlt hdr=>by
        have h1:=hall _ _ (hB.kids _ (getD_mem default hlt)) (yE hc (Nat.succ_pos _)) hdr
        have h2:=qV hpl hdr
        simp only [Prod.mk.injEq] at h1
        refine ⟨h1.1,?_⟩
        have h3:=h1.2.2
        unfold Hg at h3
        have h4:(b:Int)=((s.length-(kz (iH d) n (z6.length+1) [c] r).length:Nat):Int):=by injection h3
        have h5:b=s.length-(kz (iH d) n (z6.length+1) [c] r).length:=by omega
        rw [h5]; exact h2.1
      cases e1:Lib.hasPrefix (s.drop b) [c] with
      | true =>
        rw [pJ e1]
        have hb':=qW hb3 e1
        refine Tot.ct rfl (Tot.ret ⟨⟨b+1,rfl,by omega,by simpa using hb'⟩,hfin z7 (by omega) ND,fun n r hB hlt zL NC hdr => ?_⟩)
        obtain ⟨hm,hdb⟩:=kid n r hB hlt hdr
        have hend:¬ z6.length+1<n.Kids.length:=fun h=>by
          rw [hdb,nN h (Nat.succ_pos _),IG OX] at e1; cases e1
        rw [nM (by omega)] at hdb
        have hkids:z6++[m]=n.Kids:=by
          have:=take_snoc (default:af) hlt
          rw [<- zL,<- hm,List.take_of_length_le (by omega)] at this
          exact this
        have IE:z7=n.Names:=by
          rw [NC]
          rcases hk with ⟨k3,_⟩ | ⟨k4,_⟩
          · rw [if_neg (by omega),hB.tJ k3]
          · rw [if_pos k4,List.take_of_length_le (by have:=hB.len k4; omega)]
        have hpos:au.mk s ((b+[c].length:Nat):Int)=Hg s r:=xQ hb3 hdb
        rw [hpos,hkids,IE,<- hB.kd,<- l9 n,hB.num,hB.text]
      | false =>
        rw [sD e1]
        refine Tot.cf rfl (Tot.iy (T.take hAt) ?_)
        have Oh:∀ n r,Big d kind n->z6.length<n.Kids.length->s.drop p=iH d (n.Kids.getD z6.length default)++kz (iH d) n (z6.length+1) [c] r->z6.length+1<n.Kids.length:=fun n r hB hlt hdr=>by
          obtain ⟨_,hdb⟩:=kid n r hB hlt hdr
          by_cases h:z6.length+1<n.Kids.length
          · exact h
          · rw [hdb,nM (by omega),tu] at e1; cases e1
        cases e2:Lib.hasPrefix (s.drop b) [44] with
        | true =>
          rw [pJ e2]
          have hb':=qW hb3 e2
          simp only [List.length_singleton] at hb' ⊢
          refine Tot.ct rfl ((ih (s.length-(b+1)) (by omega) (b+1) z7 (z6++[m]) (by omega) (by rw [List.length_append,List.length_singleton]; omega) (by omega) ND (fun x hx => ?_)).mono ?_)
          · rcases List.mem_append.1 hx with e | e
            · exact hn x e
            · rw [List.mem_singleton] at e; subst e; exact hf
          rintro v ⟨⟨b2,g1,g2,g3⟩,g4,g5⟩
          refine ⟨⟨b2,g1,by omega,g3⟩,g4,fun n r hB hlt zL NC hdr => ?_⟩
          obtain ⟨hm,hdb⟩:=kid n r hB hlt hdr
          have hnx:=Oh n r hB hlt hdr
          rw [nN hnx (Nat.succ_pos _)] at hdb
          have hlen:(z6++[m]).length=z6.length+1:=by simp
          refine g5 n r hB (by rw [hlen]; exact hnx) ?_ (by rw [hlen]; exact NC) (by rw [hlen]; exact (kL hdb).2.2)
          rw [hlen]
          have:=take_snoc (default:af) hlt
          rw [<- zL,<- hm] at this
          exact this
        | false =>
          rw [sD e2]
          refine Tot.cf rfl (Tot.ret ⟨⟨b,rfl,by omega,hb3⟩,lN (Nat.zero_le _),fun n r hB hlt zL NC hdr => ?_⟩)
          obtain ⟨_,hdb⟩:=kid n r hB hlt hdr
          rw [hdb,nN (Oh n r hB hlt hdr) (Nat.succ_pos _)] at e2
          have:=tu [44] (oN (iH d) n (z6.length+1)++kz (iH d) n (z6.length+1+1) [c] r)
          rw [List.singleton_append] at this
          rw [this] at e2; cases e2
  refine Tot.up ?_
  simp only [G.aP.L3]
  refine Tot.ite (fun e => ?_) (fun e => ?_)
  · have k4:kind=4:=by simpa using e
    refine Tot.bind (T.uY ⟨by omega,hl⟩) ?_
    rintro ⟨t,ok,q⟩ ⟨⟨b,hb1,hb2,hb3,hb4⟩,hlen,hall⟩
    simp only at hb1 hb4 hlen
    subst hb1
    have key:∀ n r,s.drop y=oN (iH d) n z6.length++kz (iH d) n (z6.length+1) [c] r->n.Kind=4->s.drop y=ny (n.Names.getD z6.length default)++(58::(iH d (n.Kids.getD z6.length default)++kz (iH d) n (z6.length+1) [c] r)):=fun n r hdr hk4=>by
      rw [hdr]; unfold oN; rw [if_pos hk4]; simp
    cases ok with
    | false =>
      refine Tot.cf rfl (Tot.ret ⟨⟨b,rfl,hb2,hb3⟩,lN (Nat.zero_le _),fun n r hB hlt _ _ hdr => ?_⟩)
      have:=hall _ _ (key n r hdr (by rw [hB.kd,k4]))
      cases this
    | true =>
      have hpb:=hb4 rfl
      refine Tot.ct rfl (Tot.iy (T.take (p:=[58]) ⟨hb3,hl⟩) ?_)
      have after:∀ n r,Big d kind n->s.drop y=oN (iH d) n z6.length++kz (iH d) n (z6.length+1) [c] r->t=n.Names.getD z6.length default/\s.drop b=58::(iH d (n.Kids.getD z6.length default)++kz (iH d) n (z6.length+1) [c] r):=fun n r hB hdr=>by
        have hk':=key n r hdr (by rw [hB.kd,k4])
        have h1:=hall _ _ hk'
        simp only [Prod.mk.injEq] at h1
        refine ⟨h1.1,?_⟩
        have h4:(b:Int)=((y+(ny (n.Names.getD z6.length default)).length:Nat):Int):=by injection h1.2.2
        have h5:b=y+(ny (n.Names.getD z6.length default)).length:=by omega
        rw [h5]; exact drop_tail hk'
      cases e2:Lib.hasPrefix (s.drop b) [58] with
      | false =>
        rw [sD e2]
        refine Tot.cf rfl (Tot.ret ⟨⟨b,rfl,hb2,hb3⟩,lN (Nat.zero_le _),fun n r hB hlt _ _ hdr => ?_⟩)
        have h1:=(after n r hB hdr).2
        rw [h1] at e2
        have:=tu [58] (iH d (n.Kids.getD z6.length default)++kz (iH d) n (z6.length+1) [c] r)
        rw [List.singleton_append] at this
        rw [this] at e2; cases e2
      | true =>
        rw [pJ e2]
        have hb':=qW hb3 e2
        simp only [List.length_singleton] at hb' ⊢
        refine Tot.ct rfl (Tot.chk (by omega) ((K4 (b+1) (z5++[t]) (by omega) hb' (by rw [List.length_append,List.length_singleton]; omega) (fun x hx => ?_)).mono ?_))
        · rcases List.mem_append.1 hx with e | e
          · exact ht x e
          · rw [List.mem_singleton] at e; subst e; omega
        rintro v ⟨g1,g2,g3⟩
        refine ⟨g1,g2,fun n r hB hlt zL Cm hdr => ?_⟩
        obtain ⟨h1,h2⟩:=after n r hB hdr
        refine g3 n r hB hlt zL ?_ (kL h2).2.2
        rw [if_pos k4] at Cm ⊢
        have hnl:=hB.len k4
        rw [Cm,h1]
        exact take_snoc (default:aA) (by omega)
  · have k3:kind=3:=by
      rcases hk with ⟨h,_⟩ | ⟨h,_⟩
      · exact h
      · rw [h] at e; simp at e
    refine (K4 y z5 (Nat.le_refl _) (by omega) (by omega) ht).mono ?_
    rintro v ⟨g1,g2,g3⟩
    refine ⟨g1,g2,fun n r hB hlt zL Cm hdr => ?_⟩
    refine g3 n r hB hlt zL ?_ ?_
    · rw [if_neg (by omega)] at Cm ⊢
      exact Cm
    · unfold oN at hdr
      rw [if_neg (by rw [hB.kd]; omega)] at hdr
      simpa using hdr
theorem T.rX {a:Nat} (ha:a<=s.length):Tot (fun v:af × Bool × au=>(∃ b:Nat,v.2.2=au.mk s (b:Int)/\a<=b/\b<=s.length)/\jT 1000000 (d+2) v.1/\∀ n r,Big d kind n->s.drop a=kz (iH d) n 0 [c] r->v=(n,true,Hg s r))
    (fun f=>G.aP f (au.mk s (a:Int)) kind lv [c]):=by
  have hc:c=93\/c=125:=by rcases hk with ⟨_,h⟩ | ⟨_,h⟩<;>simp [h]
  refine Tot.up ?_
  simp only [G.aP]
  refine Tot.iy (T.take ⟨ha,hl⟩) ?_
  cases e1:Lib.hasPrefix (s.drop a) [c] with
  | true =>
    rw [pJ e1]
    have hb:=qW ha e1
    refine Tot.ct rfl (Tot.ret ⟨⟨a+1,rfl,by omega,by simpa using hb⟩,lN (Nat.zero_le _),fun n r hB hdr => ?_⟩)
    have h0:n.Kids.length=0:=by
      by_cases h:0<n.Kids.length
      · exfalso
        rw [hdr,qm h] at e1
        unfold oN at e1
        rcases hk with ⟨k3,rfl⟩ | ⟨k4,rfl⟩
        · rw [if_neg (by rw [hB.kd]; omega)] at e1
          have hS:=hB.kids _ (getD_mem default h)
          obtain ⟨b,q,hq,hb⟩:=xU hS
          rw [List.nil_append,hq,List.cons_append,IG hb.1] at e1
          cases e1
        · rw [if_pos (by rw [hB.kd]; omega)] at e1
          unfold ny at e1
          rw [List.cons_append,List.cons_append,List.cons_append,IG (by decide)] at e1
          cases e1
      · omega
    rw [nM (by omega)] at hdr
    have hpos:au.mk s ((a+[c].length:Nat):Int)=Hg s r:=xQ ha hdr
    have hkids:n.Kids=[]:=List.eq_nil_of_length_eq_zero h0
    have IE:n.Names=[]:=by
      rcases hk with ⟨k3,_⟩ | ⟨k4,_⟩
      · exact hB.tJ k3
      · exact List.eq_nil_of_length_eq_zero (by rw [hB.len k4,h0])
    rw [hpos,<- l9 n,hB.kd,hB.num,hB.text,IE,hkids]
  | false =>
    rw [sD e1]
    refine Tot.cf rfl ((T.rX.L3 hd IH hk hl hlv (s.length-a) a [] [] (by omega) (Nat.zero_le _) (Nat.zero_le _) (fun t h=>by cases h) (fun t h=>by cases h)).mono ?_)
    rintro v ⟨g1,g2,g3⟩
    refine ⟨g1,g2,fun n r hB hdr => ?_⟩
    have h0:0<n.Kids.length:=by
      by_cases h:0<n.Kids.length
      · exact h
      · rw [hdr,nM (by omega),tu] at e1; cases e1
    refine g3 n r hB h0 rfl (by split<;>rfl) ?_
    rw [hdr]
    exact qm h0
end
theorem Aq {d:Nat} {n:af} (h:Shape (d+1) n=true) (hk:n.Kind=3\/n.Kind=4):Big d n.Kind n:=by
 have hp:=iq h
 rcases hk with k | k
 ·obtain ⟨h1,h2,h3,_⟩:=qg hp k
  exact ⟨rfl,h1,h2,fun _=>h3,fun h=>by omega,kN h⟩
 ·have hm:=nJ hp k
  exact ⟨rfl,hm.1,hm.2.1,fun h=>by omega,fun _=>hm.2.2.2.2.symm,kN h⟩
theorem uI {d:Nat} {n:af} (r:aA) (k:n.Kind=3):iH (d+1) n++r=91::kz (iH d) n 0 [93] r:=by
 rw [jd,if_neg (by omega),if_neg (by omega),if_neg (by omega),if_neg (by omega)]
 unfold kz
 simp
theorem xe {d:Nat} {n:af} (r:aA) (k:n.Kind=4):iH (d+1) n++r=123::kz (iH d) n 0 [125] r:=by
 rw [jd,if_neg (by omega),if_neg (by omega),if_neg (by omega),if_pos k]
 unfold kz
 simp
theorem T.uX:∀ (d:Nat),d<=5->∀ (s:aA) (a:Nat) (lv:Int),At s a->lv=6-(d:Int)->Tot (Px d s a) (fun f=>G.cu f (au.mk s (a:Int)) lv)
  | 0,_,s,a,lv,h,hlv=>by
    refine Tot.up ?_
    simp only [G.cu]
    refine Tot.ct (decide_eq_true (by omega)) (Tot.ret ⟨⟨a,rfl,Nat.le_refl _,h.le,fun h=>by cases h⟩,lN (Nat.zero_le _),fun n r hS=>by cases hS⟩)
  | d+1,hd,s,a,lv,h,hlv=>by
    have h1:=h.le
    have h2:=h.len
    refine Tot.up ?_
    simp only [G.cu,Int.toNat_natCast]
    refine Tot.cf (decide_eq_false (by omega)) (Tot.ite (fun e=>Tot.ret ?_) (fun e => ?_))
    · simp only [decide_eq_true_eq] at e
      refine ⟨⟨a,rfl,Nat.le_refl _,h1,fun h=>by cases h⟩,lN (Nat.zero_le _),fun n r hS _ hdr => ?_⟩
      obtain ⟨b,q,hq,_⟩:=xU hS
      rw [hq,List.drop_of_length_le (by omega)] at hdr
      cases hdr
    have hal:a<s.length:=by simp only [decide_eq_false_iff_not] at e; omega
    have hdd:=aY (0:UInt8) hal
    have FZ:∀ n r,Shape (d+1) n=true->s.drop a=iH (d+1) n++r->(n.Kind=0/\s.getD a 0=110)\/(n.Kind=1/\qH (s.getD a 0)=true)\/(n.Kind=2/\s.getD a 0=34)\/(n.Kind=3/\s.getD a 0=91)\/(n.Kind=4/\s.getD a 0=123):=fun n r hS hdr=>by
      rw [hdd] at hdr
      rcases qf (iq hS) with k | k | k | k | k
      · rw [jd,if_neg (by omega),if_neg (by omega),if_pos k] at hdr
        exact .inl ⟨k,(List.cons.inj hdr).1⟩
      · rw [jd,if_pos k] at hdr
        cases hz:mM n.Num with
        | nil=>exact absurd hz (EN _)
        | cons b q =>
          rw [hz] at hdr
          refine .inr (.inl ⟨k,?_⟩)
          rw [(List.cons.inj hdr).1]
          exact xP n.Num b (by rw [hz]; exact List.mem_cons_self ..)
      · rw [jd,if_neg (by omega),if_pos k] at hdr
        exact .inr (.inr (.inl ⟨k,(List.cons.inj hdr).1⟩))
      · rw [uI r k] at hdr
        exact .inr (.inr (.inr (.inl ⟨k,(List.cons.inj hdr).1⟩)))
      · rw [xe r k] at hdr
        exact .inr (.inr (.inr (.inr ⟨k,(List.cons.inj hdr).1⟩)))
    have w1:IntKind.wrap .i64 ((a:Int)+1)=((a+1:Nat):Int):=bu (by omega)
    refine Tot.chk ⟨by omega,by omega⟩ ?_
    rw [show (110:Int)=(((110:UInt8).toNat:Nat):Int) from rfl,show (34:Int)=(((34:UInt8).toNat:Nat):Int) from rfl,show (91:Int)=(((91:UInt8).toNat:Nat):Int) from rfl,show (123:Int)=(((123:UInt8).toNat:Nat):Int) from rfl]
    have dn:∀ {b:UInt8} (c:UInt8),qH b=true->qH c=false->b ≠ c:=fun c h1 h2 e=>by rw [e,h2] at h1; cases h1
    refine Tot.ite (fun e0 => ?_) (fun e0=>Tot.ite (fun e2 => ?_) (fun e2=>Tot.ite (fun e3 => ?_) (fun e3=>Tot.ite (fun e4 => ?_) (fun e4 => ?_))))
    · rw [kP,beq_iff_eq] at e0
      refine Tot.iy (T.take h) (Tot.ret ?_)
      cases e1:Lib.hasPrefix (s.drop a) [110,117,108,108] with
      | true =>
        rw [pJ e1]
        have hb:=qW h1 e1
        refine ⟨⟨a+4,rfl,by omega,by simpa using hb,fun _=>by omega⟩,lN (Nat.zero_le _),fun n r hS _ hdr => ?_⟩
        rcases FZ n r hS hdr with ⟨k,_⟩ | ⟨_,hx⟩ | ⟨_,hx⟩ | ⟨_,hx⟩ | ⟨_,hx⟩
        · have hp:=iq hS
          have hl:=kW hp (by omega) (by omega)
          have hn0:n.Num=0/\n.Text=[]:=tX hp k
          rw [jd,if_neg (by omega),if_neg (by omega),if_pos k] at hdr
          have hpos:au.mk s ((a+[110,117,108,108].length:Nat):Int)=Hg s r:=xQ h1 hdr
          have hn:af.mk 0 0 [] [] []=n:=by conv=>rhs; rw [<- l9 n,k,hn0.1,hn0.2,hl.1,hl.2]
          exact Prod.ext hn (Prod.ext rfl hpos)
        · exact absurd e0 (dn 110 hx rfl)
        all_goals (rw [hx] at e0; exact absurd e0 (by decide))
      | false =>
        rw [sD e1]
        refine ⟨⟨a,rfl,Nat.le_refl _,h1,fun h=>by cases h⟩,lN (Nat.zero_le _),fun n r hS _ hdr => ?_⟩
        rcases FZ n r hS hdr with ⟨k,_⟩ | ⟨_,hx⟩ | ⟨_,hx⟩ | ⟨_,hx⟩ | ⟨_,hx⟩
        · rw [jd,if_neg (by omega),if_neg (by omega),if_pos k] at hdr
          rw [hdr,tu] at e1; cases e1
        · exact absurd e0 (dn 110 hx rfl)
        all_goals (rw [hx] at e0; exact absurd e0 (by decide))
    · rw [kP,beq_iff_eq] at e2
      refine Tot.bind (T.uY h) ?_
      rintro ⟨t,ok,q⟩ ⟨hpos,hlen,hall⟩
      refine Tot.ret ⟨hpos,lN (Nat.le_trans hlen h2),fun n r hS _ hdr => ?_⟩
      rcases FZ n r hS hdr with ⟨_,hx⟩ | ⟨_,hx⟩ | ⟨k,_⟩ | ⟨_,hx⟩ | ⟨_,hx⟩
      · rw [hx] at e2; exact absurd e2 (by decide)
      · exact absurd e2 (dn 34 hx rfl)
      · have hp:=iq hS
        have hl:=kW hp (by omega) (by omega)
        have hn0:n.Num=0:=yf hp (by omega)
        rw [jd,if_neg (by omega),if_pos k] at hdr
        have h3:=hall _ _ hdr
        rw [xQ h1 hdr] at h3
        simp only [Prod.mk.injEq] at h3
        obtain ⟨rfl,rfl,rfl⟩:=h3
        refine Prod.ext ?_ rfl
        show af.mk 2 0 n.Text [] []=n
        conv=>rhs; rw [<- l9 n,k,hn0,hl.1,hl.2]
      all_goals (rw [hx] at e2; exact absurd e2 (by decide))
    · rw [kP,beq_iff_eq] at e3
      rw [w1]
      refine Tot.bind (T.rX (by omega) (fun s a lv h hlv=>T.uX d (by omega) s a lv h hlv) (.inl ⟨rfl,rfl⟩) h2 (by omega) (show a+1<=s.length by omega)) ?_
      rintro ⟨m,ok,q⟩ ⟨⟨b,hb1,hb2,hb3⟩,hf,hall⟩
      refine Tot.ret ⟨⟨b,hb1,by omega,hb3,fun _=>by omega⟩,hf,fun n r hS _ hdr => ?_⟩
      rcases FZ n r hS hdr with ⟨_,hx⟩ | ⟨_,hx⟩ | ⟨_,hx⟩ | ⟨k,_⟩ | ⟨_,hx⟩
      · rw [hx] at e3; exact absurd e3 (by decide)
      · exact absurd e3 (dn 91 hx rfl)
      · rw [hx] at e3; exact absurd e3 (by decide)
      · rw [uI r k] at hdr
        have hB:=Aq hS (.inl k)
        rw [k] at hB
        exact hall n r hB (kL hdr).2.2
      · rw [hx] at e3; exact absurd e3 (by decide)
    · rw [kP,beq_iff_eq] at e4
      rw [w1]
      refine Tot.bind (T.rX (by omega) (fun s a lv h hlv=>T.uX d (by omega) s a lv h hlv) (.inr ⟨rfl,rfl⟩) h2 (by omega) (show a+1<=s.length by omega)) ?_
      rintro ⟨m,ok,q⟩ ⟨⟨b,hb1,hb2,hb3⟩,hf,hall⟩
      refine Tot.ret ⟨⟨b,hb1,by omega,hb3,fun _=>by omega⟩,hf,fun n r hS _ hdr => ?_⟩
      rcases FZ n r hS hdr with ⟨_,hx⟩ | ⟨_,hx⟩ | ⟨_,hx⟩ | ⟨_,hx⟩ | ⟨k,_⟩
      · rw [hx] at e4; exact absurd e4 (by decide)
      · exact absurd e4 (dn 123 hx rfl)
      · rw [hx] at e4; exact absurd e4 (by decide)
      · rw [hx] at e4; exact absurd e4 (by decide)
      · rw [xe r k] at hdr
        have hB:=Aq hS (.inr k)
        rw [k] at hB
        exact hall n r hB (kL hdr).2.2
    · rw [kP] at e0 e2 e3 e4
      refine Tot.bind (T.Em h) ?_
      rintro ⟨m,ok,q⟩ ⟨hpos,⟨z,hf⟩,hall⟩
      refine Tot.ret ⟨hpos,by rcases hf with e | e<;>(simp only at e; rw [e]; exact lN (Nat.zero_le _)),fun n r hS hr hdr => ?_⟩
      rcases FZ n r hS hdr with ⟨_,hx⟩ | ⟨k,_⟩ | ⟨_,hx⟩ | ⟨_,hx⟩ | ⟨_,hx⟩
      · rw [hx] at e0; exact absurd e0 (by decide)
      · have hp:=iq hS
        have hl:=kW hp (by omega) (by omega)
        have hn:=pg hp k
        have ht:=yg hp (by omega)
        rw [jd,if_pos k] at hdr
        have h3:=hall n.Num r hn.1 hn.2 hr hdr
        rw [xQ h1 hdr] at h3
        rw [h3]
        refine Prod.ext ?_ rfl
        show af.mk 1 n.Num [] [] []=n
        conv=>rhs; rw [<- l9 n,k,ht,hl.1,hl.2]
      · rw [hx] at e2; exact absurd e2 (by decide)
      · rw [hx] at e3; exact absurd e3 (by decide)
      · rw [hx] at e4; exact absurd e4 (by decide)
end Go.Ab
end
section
namespace Go.Ab
open Go
set_option maxRecDepth 100000
theorem sN {c:UInt8} : ∀ {a b:aA},c ∉ a->Lib.indexByte (a++c::b) c=(a.length:Int)
  | [],b,_=>by simp [Lib.indexByte]
  | x::a,b,h=>by
    have h1:(x==c)=false:=by
      rw [beq_eq_false_iff_ne]
      intro e; exact h (by rw [e]; exact List.mem_cons_self ..)
    have ih:=sN (a:=a) (b:=b) (fun e=>h (List.mem_cons_of_mem _ e))
    have h2:((a.length:Int) == -1)=false:=by rw [beq_eq_false_iff_ne]; omega
    rw [List.cons_append,Lib.indexByte,h1,ih,h2]
    simp
theorem qj {a b:aA} {k:Nat} (h:(32:UInt8) ∉ a):Lib.splitK [32] 0 (k+1) (a++32::b)=a::Lib.splitK [32] 0 k b:=by
 have h2:((a.length:Int) == -1)=false:=by rw [beq_eq_false_iff_ne]; omega
 rw [Lib.splitK,Lib.index_one,sN h,h2,if_neg (by simp)]
 simp
theorem yD:∀ {k:Nat} {s t:aA},t∈Lib.splitK [32] 0 k s->t.length<=s.length
  | 0,s,t,h=>by
    rw [Lib.splitK,List.mem_singleton] at h; rw [h]; exact Nat.le_refl _
  | k+1,s,t,h=>by
    rw [Lib.splitK] at h
    split at h
    · rw [List.mem_singleton] at h; rw [h]; exact Nat.le_refl _
    · rcases List.mem_cons.1 h with e | e
      · rw [e,List.length_take]; omega
      · have:=yD e
        rw [List.length_drop] at this; omega
theorem Jt {a b c d e:aA} (ha:(32:UInt8) ∉ a) (hb:(32:UInt8) ∉ b) (hc:(32:UInt8) ∉ c) (hd:(32:UInt8) ∉ d):Lib.splitK [32] 0 4 (a++[32]++b++[32]++c++[32]++d++[32]++e)=[a,b,c,d,e]:=by
 have:a++[32]++b++[32]++c++[32]++d++[32]++e=a++32::(b++32::(c++32::(d++32::e))):=by simp
 rw [this,qj ha,qj hb,qj hc,qj hd]; rfl
theorem JB {q:RequestT} (h:Ox q):(32:UInt8) ∉ pO.getD q.Method.toNat default:=by
 rcases meth h with e | e | e | e | e<;>rw [e]<;>decide
theorem IZ {s:aA} (h:BD s=true):(32:UInt8) ∉ s:=fun e=>by
 unfold BD at h
 simp only [Bool.and_eq_true,List.all_eq_true] at h
 have:=h.1 _ e
 exact absurd this (by decide)
theorem xh {t:aA} (h:qG t=true) (c:UInt8) (hc:c=32\/c=44):c ∉ oI t:=fun e=>by
 unfold oI at e
 split at e
 ·rw [List.mem_singleton] at e
  rcases hc with h | h<;>rw [h] at e<;>exact absurd e (by decide)
 ·rename_i hn
  have hs:uy t=true:=by
   unfold qG at h
   simp only [Bool.or_eq_true,beq_iff_eq] at h
   exact h.resolve_left hn
  unfold uy at hs
  simp only [Bool.and_eq_true,List.all_eq_true] at hs
  simp only [List.mem_cons,List.mem_append,List.not_mem_nil,or_false] at e
  rcases e with e | e | e
  ·rcases hc with h | h<;>rw [h] at e<;>exact absurd e (by decide)
  ·have:=hs.1 _ e
   rcases hc with h | h<;>rw [h] at this<;>exact absurd this (by decide)
  ·rcases hc with h | h<;>rw [h] at e<;>exact absurd e (by decide)
theorem Bq (l:List aA):(32:UInt8) ∉ nG l:=fun e=>by
 unfold nG at e
 split at e
 ·rename_i h
  obtain ⟨i,hi,e⟩:=List.mem_flatMap.1 e
  have hi:i<l.length:=by simpa using hi
  have hv:=(lq h).2 _ (getD_mem default hi)
  unfold Bl at e
  rcases List.mem_append.1 e with e | e
  ·split at e
   ·rw [List.mem_singleton] at e; exact absurd e (by decide)
   ·cases e
  ·exact xh hv 32 (.inl rfl) e
 ·cases e
def pY (t:aA):aA:=44::oI t
theorem Dk (l:List aA):∀ (k i:Nat),0<i->i+k=l.length->(List.range' i k).flatMap (Bl l)=(l.drop i).flatMap pY
  | 0,i,_,h=>by rw [List.drop_of_length_le (by omega)]; rfl
  | k+1,i,h0,h=>by
    rw [List.range'_succ,List.flatMap_cons,Dk l k (i+1) (by omega) (by omega),aY (default:aA) (by omega:i<l.length),List.flatMap_cons]
    unfold Bl pY
    rw [if_pos h0]; rfl
theorem yH {t:aA} {l:List aA} (h:lY (t::l)=true):nG (t::l)=oI t++l.flatMap pY:=by
 unfold nG
 rw [if_pos h,List.length_cons,List.range'_succ,List.flatMap_cons,Dk (t::l) l.length (0+1) (by omega) (by simp; omega)]
 rfl
theorem F8 {x r:aA} (h:(44:UInt8) ∉ x):lX (x++44::r)=x::lX r:=by
  induction x with
  | nil=>rfl
  | cons b x ih =>
    have hb:b ≠ 44:=fun e=>h (by rw [e]; exact List.mem_cons_self ..)
    rw [List.cons_append,lX,if_neg hb,ih (fun e=>h (List.mem_cons_of_mem _ e))]
theorem F9 {x:aA} (h:(44:UInt8) ∉ x):lX x=[x]:=by
  induction x with
  | nil=>rfl
  | cons b x ih =>
    have hb:b ≠ 44:=fun e=>h (by rw [e]; exact List.mem_cons_self ..)
    rw [lX,if_neg hb,ih (fun e=>h (List.mem_cons_of_mem _ e))]
theorem xK:∀ {l:List aA} {t:aA},(∀ y,y∈t::l->qG y=true)->lX (oI t++l.flatMap pY)=oI t::l.map oI
  | [],t,h=>by
    rw [List.flatMap_nil,List.append_nil,F9 (xh (h t (List.mem_cons_self ..)) 44 (.inr rfl))]; rfl
  | u::l,t,h=>by
    rw [List.flatMap_cons]
    show lX (oI t++44::(oI u++l.flatMap pY))=_
    rw [F8 (xh (h t (List.mem_cons_self ..)) 44 (.inr rfl)),xK (fun y hy=>h y (List.mem_cons_of_mem _ hy))]; rfl
theorem JF {t:aA} (h:qG t=true):wM ql (oI t)=some t:=by
 unfold wM oI
 by_cases c:t=[42]
 ·rw [if_pos c,if_pos rfl,c]
 ·rw [if_neg c]
  have hs:uy t=true:=by
   unfold qG at h
   simp only [Bool.or_eq_true,beq_iff_eq] at h
   exact h.resolve_left c
  have hl:=su hs
  have e4:((34::(t++[34])).drop 1).take 4=t:=by
   rw [List.drop_succ_cons,List.drop_zero,List.take_append_of_le_length (by omega),List.take_of_length_le (by omega)]
  have e5:(34::(t++[34])).getD 5 0=34:=by
   rw [List.getD_cons_succ,List.getD,List.getElem?_append_right (by omega),hl]; rfl
  rw [if_neg (fun e=>by have:=congrArg List.length e; simp at this),e4,if_pos ⟨by simp [hl],rfl,e5,hs⟩]
theorem BV:∀ {l p:List aA},(∀ y,y∈l->qG y=true)->p.length+l.length<=4->(l.map oI).foldl (colS ql) (some p)=some (p++l)
  | [],p,_,_=>by simp
  | t::l,p,h,hl=>by
    simp only [List.length_cons] at hl
    have e:colS ql (some p) (oI t)=some (p++[t]):=by
      unfold colS
      rw [Option.bind_some,if_neg (by omega),JF (h t (List.mem_cons_self ..))]; rfl
    rw [List.map_cons,List.foldl_cons,e,BV (fun y hy=>h y (List.mem_cons_of_mem _ hy)) (by simp; omega)]
    simp
theorem Fg {l:List aA} (h:lY l=true):Bd ql (nG l)=(l,true):=by
  obtain ⟨h4,hv⟩:=lq h
  cases l with
  | nil=>rfl
  | cons t l =>
    have hne:nG (t::l) ≠ []:=by
      rw [yH h]
      unfold oI
      split<;>simp
    unfold Bd
    rw [if_neg hne,yH h,xK hv]
    unfold Ky
    have:=BV (l:=t::l) (p:=[]) hv (by simpa using h4)
    rw [List.map_cons] at this
    rw [this]; rfl
theorem Ia {ws:List aA} : ∀ {a:Option (List aA)},(∀ p,a=some p->p.length<=4/\∀ t,t∈p->t.length<=4)->∀ l,ws.foldl (colS ql) a=some l->l.length<=4/\∀ t,t∈l->t.length<=4:=by
  induction ws with
  | nil=>intro a h l e; exact h l e
  | cons w ws ih =>
    intro a h l e
    refine ih (fun p hp => ?_) l e
    cases a with
    | none=>cases hp
    | some z =>
      obtain ⟨h1,h2⟩:=h z rfl
      unfold colS at hp
      rw [Option.bind_some] at hp
      split at hp
      · cases hp
      · rename_i hn
        cases hw:wM ql w with
        | none=>rw [hw] at hp; cases hp
        | some y =>
          rw [hw] at hp
          cases hp
          refine ⟨by simp; omega,fun t ht => ?_⟩
          rcases List.mem_append.1 ht with e | e
          · exact h2 t e
          · rw [List.mem_singleton] at e
            subst e
            unfold wM at hw
            split at hw
            · cases hw; rename_i c; rw [c]; decide
            · split at hw
              · cases hw; rw [List.length_take]; omega
              · cases hw
theorem Ff (s:aA):ji 60 (Bd ql s).1:=by
 unfold Bd
 split
 ·exact ⟨by simp,fun t h=>by cases h⟩
 ·split
  ·rename_i l e
   obtain ⟨h1,h2⟩:=Ia (a:=some []) (fun p hp=>by cases hp; exact ⟨by simp,fun t h=>by cases h⟩) l e
   exact ⟨by show l.length<=_; omega,fun t ht=>by have:=h2 t ht; omega⟩
  ·exact ⟨by simp,fun t h=>by cases h⟩
theorem T.jF {s:aA} (h:s.length<=1000000):Ev (fun f=>G.jF f s) (Bd ql s):=by
 refine Ev.up ?_
 simp only [G.jF]
 exact Ev.chk h (Ev.ret _)
theorem Gq:1000000<=lim:=by decide
theorem lG (B d:Nat):jT B (d+1) (af.mk 0 0 [] [] []):=⟨Nat.zero_le _,Nat.zero_le _,fun s h=>(by cases h),Nat.zero_le _,trivial,fun k h=>(by cases h)⟩
theorem T.iR {s:aA} (h:s.length<=1000000):Tot (fun v:af × Bool=>jT 1000000 6 v.1/\∀ n,Val n=true->s.length<=2000->s=iH 5 n->v=(n,true)) (fun f=>G.iR f s):=by
 refine Tot.up ?_
 simp only [G.iR]
 refine Tot.ite (fun e=>Tot.ret ⟨lG _ _,fun n _ hl=>by simp only [decide_eq_true_eq] at e; omega⟩) (fun _=>Tot.bind (T.uX 5 (by omega) s 0 1 ⟨Nat.zero_le _,h⟩ rfl) ?_)
 rintro ⟨m,ok,q⟩ ⟨⟨b,hb,_,hbl,_⟩,hf,hall⟩
 simp only at hb hf
 subst hb
 have key:∀ n,Val n=true->s=iH 5 n->m=n/\ok=true/\b=s.length:=fun n hn hs=>by
  have:=hall n [] (jP hn) Fa (by rw [List.drop_zero,List.append_nil]; exact hs)
  simp only [Prod.mk.injEq] at this
  refine ⟨this.1,this.2.1,?_⟩
  have h3:=this.2.2
  unfold Hg at h3
  injection h3 with _ h4
  simp at h4; omega
 refine Tot.ite (fun e=>Tot.ite (fun e1=>Tot.ret ⟨lG _ _,fun n hn _ hs => ?_⟩) (fun _ => ?_)) (fun e=>Tot.ret ⟨lG _ _,fun n hn _ hs => ?_⟩)
 ·rw [(key n hn hs).2.2] at e1; simp at e1
 ·refine Tot.iy (T0.cZ Gq hf) (Tot.ite (fun e2=>Tot.iy (T0.aX Gq hf) (Tot.ret ⟨hf,fun n hn _ hs => ?_⟩)) (fun e2=>Tot.ret ⟨lG _ _,fun n hn _ hs => ?_⟩))
  ·rw [(key n hn hs).1]
  ·rw [(key n hn hs).1,hn] at e2; cases e2
 ·rw [(key n hn hs).2.1] at e; cases e
theorem T.dR {d:Nat} {n:af} (h:jT 1000000 (d+1) n):Tot (fun v:List aA × Bool=>ji 1000000 v.1/\∀ p,PP p=true->n=nX p->v=(p,true)) (fun f=>G.dR f n):=by
  have fin0:ji 1000000 []:=⟨by simp,fun t h=>by cases h⟩
  have hk:=h.kids
  have L:∀ (k i:Nat) (z:List aA),i+k=n.Kids.length->z.length=i->(∀ t,t∈z->t.length<=1000000)->Tot (fun v:List aA × Bool=>ji 1000000 v.1/\∀ p,PP p=true->n=nX p->z=p.take i->v=(p,true)) (fun f=>G.dR.L1 f n (i:Int) z):=by
    intro k
    induction k with
    | zero =>
      intro i z hi hz ht
      have hfz:ji 1000000 z:=⟨by omega,ht⟩
      refine Tot.up ?_
      simp only [G.dR.L1]
      refine Tot.cf (decide_eq_false (by omega)) (Tot.iy (T.fA _ (hfz.sm Gq)) (Tot.ret ⟨hfz,fun p hp hn he => ?_⟩))
      have:z=p:=by
        rw [he,List.take_of_length_le]
        rw [hn] at hi
        simp [nX] at hi; omega
      rw [this,hp]
    | succ k ih =>
      intro i z hi hz ht
      have hil:i<n.Kids.length:=by omega
      refine Tot.up ?_
      simp only [G.dR.L1,Int.toNat_natCast,bu (show i+1<9223372036854775808 by omega)]
      have kid:∀ p,n=nX p->i<p.length/\n.Kids.getD i default=oZ (p.getD i default):=fun p hn=>by
        rw [hn] at hil ⊢
        have MP:i<p.length:=by simpa [nX] using hil
        refine ⟨MP,?_⟩
        show (p.map oZ).getD i default=_
        rw [dI _ (by simpa using MP),dI _ MP,List.getElem_map]
      refine Tot.ct (decide_eq_true (by omega)) (Tot.chk (by omega) (Tot.ite (fun e=>Tot.ret ⟨fin0,fun p _ hn _ => ?_⟩) (fun e=>Tot.chk (by omega) ((ih (i+1) _ (by omega) (by simp [hz]) (fun t hm => ?_)).mono fun v hv=>⟨hv.1,fun p hp hn he=>hv.2 p hp hn ?_⟩))))
      · rw [(kid p hn).2] at e; exact absurd e (by simp [oZ])
      · rcases List.mem_append.1 hm with e | e
        · exact ht t e
        · rw [List.mem_singleton] at e
          subst e
          have:=h.kid hil
          cases d with
          | zero=>exact this.elim
          | succ d=>exact this.1
      · rw [(kid p hn).2,he]
        exact take_snoc (default:aA) (kid p hn).1
  refine Tot.up ?_
  simp only [G.dR]
  refine Tot.ite (fun e=>Tot.ret ⟨fin0,fun p _ hn => ?_⟩) (fun _=>(L n.Kids.length 0 [] (by omega) rfl (fun t h=>by cases h)).mono fun v hv=>⟨hv.1,fun p hp hn=>hv.2 p hp hn rfl⟩)
  rw [hn] at e; exact absurd e (by simp [nX])
theorem CX:∀ i:Nat,i<7->∀ j:Nat,j<7->oW.getD i default=oW.getD j default->i=j:=by decide
theorem Dn:∀ i:Nat,i<6->∀ j:Nat,j<6->pO.getD i default=pO.getD j default->i=j:=by decide
theorem T.yS (s:aA):Tot (fun v:Int × Bool=>∀ j:Nat,1<=j->j<=6->s=oW.getD j default->v=((j:Int),true)) (fun f=>G.bV f s 1 6):=by
  have W:∀ x:Nat,1<=x->x<=6->Ev (fun f=>G.jv f (x:Int)) (oW.getD x default):=fun x h1 h2=>by
    refine Ev.up ?_
    simp only [G.jv]
    have:x=1\/x=2\/x=3\/x=4\/x=5\/x=6:=by omega
    rcases this with e | e | e | e | e | e<;>subst e<;>exact NS
  have L:∀ (k x:Nat),x+k=7->1<=x->Tot (fun v:Int × Bool=>∀ j:Nat,x<=j->j<=6->s=oW.getD j default->v=((j:Int),true)) (fun f=>G.bV.L1 f s 6 (x:Int)):=by
    intro k
    induction k with
    | zero =>
      intro x hx h1
      refine Tot.up ?_
      simp only [G.bV.L1]
      exact Tot.cf (decide_eq_false (by omega)) (Tot.ret fun j h1 h2=>by omega)
    | succ k ih =>
      intro x hx h1
      refine Tot.up ?_
      simp only [G.bV.L1,bu (show x+1<9223372036854775808 by omega)]
      refine Tot.ct (decide_eq_true (by omega)) (Tot.iy (W x h1 (by omega)) (Tot.ite (fun e=>Tot.ret fun j h1 h2 hs => ?_) (fun e=>(ih (x+1) (by omega) (by omega)).mono fun v hv j h1 h2 hs=>hv j ?_ h2 hs)))
      · have:oW.getD x default=oW.getD j default:=by rw [<- hs]; simpa using e
        rw [CX x (by omega) j (by omega) this]
      · have:j ≠ x:=fun he=>by rw [he] at hs; rw [<- hs] at e; simp at e
        omega
  refine Tot.up ?_
  simp only [G.bV]
  exact L 6 1 (by omega) (by omega)
theorem T.uN (s:aA):Tot (fun v:Int × Bool=>∀ j:Nat,1<=j->j<=5->s=pO.getD j default->v=((j:Int),true)) (fun f=>G.bC f s 1 5):=by
  have W:∀ x:Nat,1<=x->x<=5->Ev (fun f=>G.gI f (x:Int)) (pO.getD x default):=fun x h1 h2=>by
    refine Ev.up ?_
    simp only [G.gI]
    have:x=1\/x=2\/x=3\/x=4\/x=5:=by omega
    rcases this with e | e | e | e | e<;>subst e<;>exact NS
  have L:∀ (k x:Nat),x+k=6->1<=x->Tot (fun v:Int × Bool=>∀ j:Nat,x<=j->j<=5->s=pO.getD j default->v=((j:Int),true)) (fun f=>G.bC.L1 f s 5 (x:Int)):=by
    intro k
    induction k with
    | zero =>
      intro x hx h1
      refine Tot.up ?_
      simp only [G.bC.L1]
      exact Tot.cf (decide_eq_false (by omega)) (Tot.ret fun j h1 h2=>by omega)
    | succ k ih =>
      intro x hx h1
      refine Tot.up ?_
      simp only [G.bC.L1,bu (show x+1<9223372036854775808 by omega)]
      refine Tot.ct (decide_eq_true (by omega)) (Tot.iy (W x h1 (by omega)) (Tot.ite (fun e=>Tot.ret fun j h1 h2 hs => ?_) (fun e=>(ih (x+1) (by omega) (by omega)).mono fun v hv j h1 h2 hs=>hv j ?_ h2 hs)))
      · have:pO.getD x default=pO.getD j default:=by rw [<- hs]; simpa using e
        rw [Dn x (by omega) j (by omega) this]
      · have:j ≠ x:=fun he=>by rw [he] at hs; rw [<- hs] at e; simp at e
        omega
  refine Tot.up ?_
  simp only [G.bC]
  exact L 5 1 (by omega) (by omega)
theorem GK {n:af} (h:Val n=true) (hk:n.Kind=4):n.Names.length<=6/\n.Kids.length=n.Names.length:=by
 have:=nJ (iq (jP h)) hk
 exact this.2.2.2
theorem T.je {d:Nat} {n:af} (h:jT 1000000 (d+2) n):Tot (fun v:iI × Bool=>(∃ D,qC 1000000 D v.1)/\∀ o,vK o=true->Val (qc o)=true->n=qc o->v=(o,true)) (fun f=>G.je f n):=by
 have no:∃ D,qC 1000000 D (iI.mk 0 [] [] (af.mk 0 0 [] [] [])):=⟨1,⟨by simp,fun t h=>by cases h⟩,⟨by simp,fun t h=>by cases h⟩,lG _ _⟩
 refine Tot.up ?_
 simp only [G.je]
 refine Tot.iy (T0.cZ Gq h) (Tot.ite (fun ev=>Tot.ite (fun e4=>Tot.ret ⟨no,fun o _ _ hn => ?_⟩) (fun e4 => ?_)) (fun ev=>Tot.ret ⟨no,fun o _ hv hn => ?_⟩))
 ·rw [hn] at e4; exact absurd e4 (by simp [qc])
 ·have e4:n.Kind=4:=by simpa using e4
  have hnm:=h.sm Gq
  refine Tot.iy (T.slices_Equal_string hnm.1) (Tot.ite (fun en => ?_) (fun en=>Tot.ret ⟨no,fun o _ _ hn => ?_⟩))
  ·have en:n.Names=yc:=of_decide_eq_true en
   have hl:n.Kids.length=4:=by rw [(GK ev e4).2,en]; rfl
   have kf:∀ i,i<4->jT 1000000 (d+1) (n.Kids.getD i default):=fun i hi=>h.kid (by omega)
   refine Tot.chk (by omega) (Tot.bind (T.dR (kf 0 (by omega))) ?_)
   rintro ⟨p0,k0⟩ ⟨f0,c0⟩
   refine Tot.ite (fun e0=>Tot.chk (by omega) (Tot.ite (fun e1=>Tot.ret ⟨no,fun o _ _ hn => ?_⟩) (fun e1=>Tot.chk (by omega) (Tot.bind (T.yS _) ?_)))) (fun e0=>Tot.ret ⟨no,fun o ho _ hn => ?_⟩)
   ·rw [hn] at e1; exact absurd e1 (by simp [qc,oZ])
   ·rintro ⟨m,km⟩ cm
    refine Tot.ite (fun em=>Tot.chk (by omega) (Tot.bind (T.dR (kf 2 (by omega))) ?_)) (fun em=>Tot.ret ⟨no,fun o ho _ hn => ?_⟩)
    ·rintro ⟨p2,k2⟩ ⟨f2,c2⟩
     refine Tot.ite (fun e2=>Tot.chk (by omega) (Tot.iy (T0.aX Gq (kf 3 (by omega))) (Tot.ret ⟨⟨_,f2,f0,kf 3 (by omega)⟩,fun o ho _ hn => ?_⟩))) (fun e2=>Tot.ret ⟨no,fun o ho _ hn => ?_⟩)
     ·have hf:=kD ho
      have k1:=hf.k1
      have k6:=hf.k6
      have h0:=c0 o.From hf.from_ (by rw [hn]; rfl)
      have h2:=c2 o.Path hf.path (by rw [hn]; rfl)
      have hm:=cm o.Kind.toNat (by omega) (by omega) (by rw [hn]; rfl)
      simp only [Prod.mk.injEq] at h0 h2 hm
      have hmk:m=o.Kind:=by rw [hm.1]; omega
      refine Prod.ext ?_ rfl
      show iI.mk m p2 p0 (n.Kids.getD 3 default)=o
      rw [h0.1,h2.1,hmk,hn]
      rfl
     ·have:=c2 o.Path (kD ho).path (by rw [hn]; rfl)
      simp only [Prod.mk.injEq] at this
      rw [this.2] at e2; cases e2
    ·have hf:=kD ho
     have k1:=hf.k1
     have k6:=hf.k6
     have:=cm o.Kind.toNat (by omega) (by omega) (by rw [hn]; rfl)
     simp only [Prod.mk.injEq] at this
     rw [this.2] at em; cases em
   ·have:=c0 o.From (kD ho).from_ (by rw [hn]; rfl)
    simp only [Prod.mk.injEq] at this
    rw [this.2] at e0; cases e0
  ·rw [hn] at en; exact absurd en (by simp [qc,yc])
 ·rw [hn,hv] at ev; cases ev
theorem Jb (o:iI):Ja o ≠ []:=by unfold Ja; simp
theorem T.gm {s:aA} (h:s.length<=1000000):Tot (fun v:List iI × Bool=>uw v.1/\∀ l,o6 l=true->okO l=true->s=opsT l->v=(l,true)) (fun f=>G.gm f s):=by
  have fin0:uw []:=⟨by simp,fun o h=>by cases h⟩
  have L:∀ (k a:Nat) (z:List iI),a+k=s.length->z.length<=a->(∀ o,o∈z->∃ D,qC 1000000 D o)->Tot (fun v:List iI × Bool=>uw v.1/\∀ l,o6 l=true->okO l=true->z.length<=l.length->z=l.take z.length->s.drop a=opsT (l.drop z.length)->v=(l,true)) (fun f=>G.gm.L1 f s z s (a:Int)):=by
    intro k
    induction k using Nat.strongRecOn with | _ k ih =>
    intro a z ha hz hf
    refine Tot.up ?_
    simp only [G.gm.L1]
    refine Tot.ite (fun e => ?_) (fun e=>Tot.ret ⟨⟨by show z.length<=_; omega,fun o ho => ?_⟩,fun l _ _ hzl he hd => ?_⟩)
    · have hal:a<s.length:=by simp only [decide_eq_true_eq] at e; omega
      refine Tot.bind (T.uX 5 (by omega) s a 1 ⟨by omega,h⟩ rfl) ?_
      rintro ⟨m,ok,q⟩ ⟨⟨b,hb,hab,hbl,hlt⟩,hfm,hall⟩
      simp only at hb hfm hlt
      subst hb
      have JX:∀ l,o6 l=true->okO l=true->z.length<=l.length->s.drop a=opsT (l.drop z.length)->z.length<l.length/\vK (l.getD z.length default)=true/\Val (qc (l.getD z.length default))=true /\
          m=qc (l.getD z.length default)/\ok=true/\s.drop b=59::opsT (l.drop (z.length+1)):=fun l hp ho hzl hd=>by
        have hlt:z.length<l.length:=by
          rcases Nat.lt_or_ge z.length l.length with h | h
          · exact h
          · rw [List.drop_of_length_le h] at hd
            have:=congrArg List.length hd
            rw [List.length_drop] at this
            simp [opsT] at this; omega
        have hm:=getD_mem default hlt
        have hv:Val (qc (l.getD z.length default))=true:=by
          unfold okO at ho
          exact List.all_eq_true.1 ho _ hm
        have hd2:s.drop a=iH 5 (qc (l.getD z.length default))++(59::opsT (l.drop (z.length+1))):=by
          rw [hd,aY default hlt]
          unfold opsT
          rw [List.flatMap_cons]
          unfold Ja
          simp
        have h1:=hall _ _ (jP hv) (uQ rfl) hd2
        simp only [Prod.mk.injEq] at h1
        have h3:=h1.2.2
        unfold Hg at h3
        injection h3 with _ h4
        have h5:b=s.length-(59::opsT (l.drop (z.length+1))).length:=by omega
        refine ⟨hlt,(wF hp).2 _ hm,hv,h1.1,h1.2.1,?_⟩
        rw [h5]; exact (qV (by omega) hd2).1
      cases ok with
      | false=>exact Tot.cf rfl (Tot.ret ⟨fin0,fun l hp ho hzl _ hd=>by have:=(JX l hp ho hzl hd).2.2.2.2.1; cases this⟩)
      | true =>
        have hab':=hlt rfl
        refine Tot.ct rfl (Tot.iy (T.take (p:=[59]) ⟨hbl,h⟩) ?_)
        cases e1:Lib.hasPrefix (s.drop b) [59] with
        | false =>
          rw [sD e1]
          refine Tot.cf rfl (Tot.ret ⟨fin0,fun l hp ho hzl _ hd => ?_⟩)
          rw [(JX l hp ho hzl hd).2.2.2.2.2] at e1
          have:=tu [59] (opsT (l.drop (z.length+1)))
          rw [List.singleton_append] at this
          rw [this] at e1; cases e1
        | true =>
          rw [pJ e1]
          have hb':=qW hbl e1
          simp only [List.length_singleton] at hb' ⊢
          refine Tot.ct rfl (Tot.bind (T.je (d:=4) hfm) ?_)
          rintro ⟨o,ko⟩ ⟨fo,co⟩
          refine Tot.ite (fun e2=>Tot.ite (fun e3=>Tot.ret ⟨fin0,fun l hp ho hzl _ hd => ?_⟩) (fun e3=>Tot.chk (by omega) ((ih (s.length-(b+1)) (by omega) (b+1) (z++[o]) (by omega) (by simp; omega) (fun x hx => ?_)).mono fun v hv=>⟨hv.1,fun l hp ho hzl he hd => ?_⟩))) (fun e2=>Tot.ret ⟨fin0,fun l hp ho hzl _ hd => ?_⟩)
          · have:=(JX l hp ho hzl hd).1
            have:=(wF hp).1
            simp only [beq_iff_eq] at e3
            omega
          · rcases List.mem_append.1 hx with e | e
            · exact hf x e
            · rw [List.mem_singleton] at e; subst e; exact fo
          · obtain ⟨n1,n2,n3,n4,_,n6⟩:=JX l hp ho hzl hd
            have hc:=co _ n2 n3 n4
            simp only [Prod.mk.injEq] at hc
            have hlen:(z++[o]).length=z.length+1:=by simp
            refine hv.2 l hp ho (by rw [hlen]; omega) ?_ (by rw [hlen]; exact (kL n6).2.2)
            rw [hlen,<- take_snoc default n1,<- he,<- hc.1]
          · obtain ⟨_,n2,n3,n4,_,_⟩:=JX l hp ho hzl hd
            have hc:=co _ n2 n3 n4
            simp only [Prod.mk.injEq] at hc
            rw [hc.2] at e2; cases e2
    · obtain ⟨D,hD⟩:=hf o ho
      exact ⟨D,⟨by have:=hD.path.1; omega,fun s hs=>by have:=hD.path.2 s hs; omega⟩,⟨by have:=hD.from_.1; omega,fun s hs=>by have:=hD.from_.2 s hs; omega⟩,hD.val.mono (by omega) (Nat.le_refl _)⟩
    · have hal:a=s.length:=by simp only [decide_eq_false_iff_not] at e; omega
      have hd:opsT (l.drop z.length)=[]:=by rw [<- hd,List.drop_of_length_le (by omega)]
      have:l.length<=z.length:=by
        rcases Nat.lt_or_ge z.length l.length with h | h
        · rw [aY default h] at hd
          unfold opsT at hd
          rw [List.flatMap_cons] at hd
          exact absurd (List.append_eq_nil_iff.1 hd).1 (Jb _)
        · exact h
      rw [List.take_of_length_le this] at he
      rw [he]
  refine Tot.up ?_
  simp only [G.gm]
  exact (L s.length 0 [] (by omega) (by simp) (fun o h=>by cases h)).mono fun v hv=>⟨hv.1,fun l hp ho hs=>hv.2 l hp ho (Nat.zero_le _) rfl (by simpa using hs)⟩
def sS:RequestT:=RequestT.mk 0 [] [] [] (af.mk 0 0 [] [] []) []
theorem yu {q:RequestT} (h:BG q=true):oL 60 q:=by
 have hr:=zX h
 have P:∀ {l:List aA},lY l=true->ji 60 l:=fun {l} hl=>by
  obtain ⟨h1,h2⟩:=lq hl
  exact ⟨by omega,fun s hs=>by have:=pI (h2 s hs); omega⟩
 exact ⟨by have:=rC hr.tJ; omega,P hr.want,P hr.avoid,⟨5,kZ hr.body⟩,Gh hr.ops⟩
theorem JC {q:RequestT} (h:BG q=false):jZ q=[]:=by unfold jZ; rw [h]; rfl
theorem T0.ah {B:Nat} {q:RequestT} (hB:B<=lim) (h:Ht B q):Ev (fun f=>G.ah f q) (jZ q):=by
  cases e:BG q with
  | true=>exact T.ah (yu e)
  | false =>
    refine Ev.up ?_
    simp only [G.ah]
    exact Ev.bind (T0.gV hB h) (Ev.cf e (Ev.ret' (JC e).symm))
theorem lS {q:RequestT} (h:jZ q ≠ []):BG q=true/\lean q=true/\okO q.Ops=true/\jZ q=qJ q:=by
 unfold jZ at h ⊢
 split
 ·rename_i c
  simp only [Bool.and_eq_true] at c
  exact ⟨c.1,c.2.1,c.2.2,rfl⟩
 ·rename_i c
  rw [if_neg c] at h; exact absurd rfl h
structure PR (s:aA) (v:RequestT × Bool):Prop where
 no:v.2=false->v.1=sS
 yes:v.2=true->jZ v.1=s/\s ≠ []/\s.length<=2000
 all:∀ q,s ≠ []->s.length<=2000->jZ q=s->v=(q,true)
theorem zQ {q:RequestT} (h:BG q=true) (hl:lean q=true) (hm:q.Method=4):q.Body=af.mk 0 0 [] [] []:=by
 have hr:=zX h
 unfold lean at hl
 simp only [Bool.and_eq_true,Bool.or_eq_true,beq_iff_eq] at hl
 have hk:q.Body.Kind=0:=by
  rcases hl.1 with (h | h) | h
  ·exact h
  ·omega
  ·omega
 have hp:=iq (jP hr.body)
 have h1:=kW hp (by omega) (by omega)
 have h2:=tX hp hk
 rw [<- l9 q.Body,hk,h1.1,h1.2,h2.1,h2.2]
theorem CU {q:RequestT} (hl:lean q=true) (hm:q.Method ≠ 4):q.Ops=[]:=by
 unfold lean at hl
 simp only [Bool.and_eq_true,Bool.or_eq_true,beq_iff_eq] at hl
 exact List.isEmpty_iff.1 (hl.2.resolve_right hm)
theorem wG {s:aA} (h:∀ q,s ≠ []->s.length<=2000->jZ q=s->False):PR s (sS,false):=⟨fun _=>rfl,fun h=>(by cases h),fun q h1 h2 h3=>(h q h1 h2 h3).elim⟩
theorem T.dG {s:aA} (hl:s.length<=4000000000):Tot (PR s) (fun f=>G.dG f s):=by
 refine Tot.up ?_
 simp only [G.dG]
 refine Tot.iy (a:=Lib.splitK [32] 0 (min 5 (s.length+1)-1) s) (Ev.up ?_) ?_
 ·simp only [G.strings_SplitN]
  exact Ev.chk ⟨by omega,by simp,by omega,by omega⟩ (Ev.ret _)
 generalize hv1:Lib.splitK [32] 0 (min 5 (s.length+1)-1) s=v1
 have words:∀ q,s ≠ []->jZ q=s->v1=[pO.getD q.Method.toNat default,q.Name,nG q.Want,nG q.jk,if q.Method=4 then opsT q.Ops else iH 5 q.Body]:=fun q h0 hw=>by
  have hne:jZ q ≠ []:=by rw [hw]; exact h0
  obtain ⟨o1,o2,o3,o4⟩:=lS hne
  have hr:=zX o1
  rw [hw] at o4
  have hlen:4<=s.length:=by
   rw [o4]; unfold qJ IB
   simp only [List.length_append,List.length_singleton]; omega
  rw [show min 5 (s.length+1)-1=4 by omega,o4] at hv1
  rw [<- hv1]
  unfold qJ IB
  exact Jt (JB hr) (IZ hr.tJ) (Bq _) (Bq _)
 have Jh:∀ i,i<v1.length->(v1.getD i default).length<=s.length:=fun i hi=>yD (k:=min 5 (s.length+1)-1) (by rw [hv1]; exact getD_mem default hi)
 refine Tot.ite (fun e=>Tot.ret (wG fun q _ h2 _=>by simp only [decide_eq_true_eq] at e; omega)) (fun e=>Tot.ite (fun e5=>Tot.ret (wG fun q h1 _ h3 => ?_)) (fun e5 => ?_))
 ·rw [words q h1 h3] at e5; exact absurd e5 (by simp)
 have hlen:v1.length=5:=by
  have:((v1.length:Nat):Int)=5:=by simpa using e5
  omega
 have p0:=Jh 0 (by omega)
 have p1:=Jh 1 (by omega)
 have p2:=Jh 2 (by omega)
 have p3:=Jh 3 (by omega)
 have p4:=Jh 4 (by omega)
 have hs2:s.length<=2000:=by simp only [decide_eq_false_iff_not] at e; omega
 refine Tot.chk (by omega) (Tot.bind (T.uN _) ?_)
 rintro ⟨m,km⟩ cm
 have hm:∀ q,s ≠ []->jZ q=s->m=q.Method/\km=true:=fun q h0 hw=>by
  have hr:=zX (lS (show jZ q ≠ [] by rw [hw]; exact h0)).1
  have lo:=hr.lo
  have hi:=hr.hi
  have:=cm q.Method.toNat (by omega) (by omega) (by rw [words q h0 hw]; rfl)
  simp only [Prod.mk.injEq] at this
  exact ⟨by rw [this.1]; omega,this.2⟩
 refine Tot.chk (by omega) (Tot.iy (T.jF (by omega)) (Tot.chk (by omega) (Tot.iy (T.jF (by omega)) ?_)))
 have hw2:∀ q,s ≠ []->jZ q=s->Bd ql (v1.getD 2 default)=(q.Want,true):=fun q h0 hw=>by
  rw [words q h0 hw]
  exact Fg (zX (lS (show jZ q ≠ [] by rw [hw]; exact h0)).1).want
 have hw3:∀ q,s ≠ []->jZ q=s->Bd ql (v1.getD 3 default)=(q.jk,true):=fun q h0 hw=>by
  rw [words q h0 hw]
  exact Fg (zX (lS (show jZ q ≠ [] by rw [hw]; exact h0)).1).avoid
 refine Tot.ite (fun em=>Tot.ite (fun ew=>Tot.ite (fun ea => ?_) (fun ea=>Tot.ret (wG fun q h1 _ h3 => ?_))) (fun ew=>Tot.ret (wG fun q h1 _ h3 => ?_))) (fun em=>Tot.ret (wG fun q h1 _ h3 => ?_))
 ·have hf2:=Ff (v1.getD 2 default)
  have hf3:=Ff (v1.getD 3 default)
  have mono:∀ {l:List aA},ji 60 l->ji 1048576 l:=fun h=>⟨by have:=h.1; omega,fun t ht=>by have:=h.2 t ht; omega⟩
  have K:∀ (ok:Bool) (n:af) (l:List iI),jT 1000000 6 n->uw l->(∀ q,s ≠ []->jZ q=s->q=RequestT.mk m (v1.getD 1 default) (Bd ql (v1.getD 2 default)).1 (Bd ql (v1.getD 3 default)).1 n l/\ok=true) ->
    Tot (PR s) (fun f=>G.dG.K1 f s v1 (m,km) (Bd ql (v1.getD 2 default)) (Bd ql (v1.getD 3 default)) ok n.Kind n.Num n.Text n.Names n.Kids l):=fun ok n l hn hL hq=>by
   refine Tot.up ?_
   simp only [G.dG.K1,af.eta]
   have OV:Ht 1048576 (RequestT.mk m (v1.getD 1 default) (Bd ql (v1.getD 2 default)).1 (Bd ql (v1.getD 3 default)).1 n l):=⟨by show (v1.getD 1 default).length<=_; omega,mono hf2,mono hf3,⟨6,hn.mono (by omega) (Nat.le_refl _)⟩,hL⟩
   refine Tot.ite (fun e1=>Tot.iy (T0.ah KQ OV) (Tot.ite (fun e2=>Tot.ret ⟨fun h=>(by cases h),fun _=>⟨by simpa using e2,fun h0 => ?_,hs2⟩,fun q h1 _ h3 => ?_⟩) (fun e2=>Tot.ret (wG fun q h1 _ h3 => ?_)))) (fun e1=>Tot.ret (wG fun q h1 _ h3 => ?_))
   ·rw [h0] at hv1
    rw [<- hv1] at hlen
    exact absurd hlen (by decide)
   ·rw [<- (hq q h1 h3).1]
   ·rw [<- (hq q h1 h3).1,h3] at e2; simp at e2
   ·rw [(hq q h1 h3).2] at e1; cases e1
  have base:∀ q,s ≠ []->jZ q=s->q=RequestT.mk m (v1.getD 1 default) (Bd ql (v1.getD 2 default)).1 (Bd ql (v1.getD 3 default)).1 q.Body q.Ops:=fun q h1 h3=>by
   rw [hw2 q h1 h3,hw3 q h1 h3,(hm q h1 h3).1,words q h1 h3]; rfl
  refine Tot.chk (by omega) (Tot.ite (fun e4=>Tot.chk (by omega) (Tot.bind (T.gm (by omega)) ?_)) (fun e4=>Tot.chk (by omega) (Tot.bind (T.iR (by omega)) ?_)))
  ·rintro ⟨l,kl⟩ ⟨fl,cl⟩
   have e4:m=4:=by simpa using e4
   refine K kl (af.mk 0 0 [] [] []) l (lG _ _) fl (fun q h1 h3 => ?_)
   obtain ⟨o1,o2,o3,_⟩:=lS (show jZ q ≠ [] by rw [h3]; exact h1)
   have hm4:q.Method=4:=by rw [<- (hm q h1 h3).1]; exact e4
   have:=cl q.Ops (zX o1).ops o3 (by rw [words q h1 h3,if_pos hm4]; rfl)
   simp only [Prod.mk.injEq] at this
   refine ⟨?_,this.2⟩
   rw [this.1,<- zQ o1 o2 hm4]
   exact base q h1 h3
  ·rintro ⟨n,kn⟩ ⟨fn,cn⟩
   have e4:m ≠ 4:=by simpa using e4
   refine K kn n [] fn ⟨by simp,fun o h=>by cases h⟩ (fun q h1 h3 => ?_)
   obtain ⟨o1,o2,o3,_⟩:=lS (show jZ q ≠ [] by rw [h3]; exact h1)
   have hm4:q.Method ≠ 4:=by rw [<- (hm q h1 h3).1]; exact e4
   have:=cn q.Body (zX o1).body (by omega) (by rw [words q h1 h3,if_neg hm4]; rfl)
   simp only [Prod.mk.injEq] at this
   refine ⟨?_,this.2⟩
   rw [this.1,<- CU o2 hm4]
   exact base q h1 h3
 ·rw [hw3 q h1 h3] at ea; cases ea
 ·rw [hw2 q h1 h3] at ew; cases ew
 ·rw [(hm q h1 h3).2] at em; cases em
end Go.Ab
end
section
namespace Go.Ab
open Go
set_option maxRecDepth 100000
def tH:Nat:=1048576
def Zq (s r:aA):aV:=aV.mk s ((s.length-r.length:Nat):Int) false
end Go.Ab
end
section
namespace Go.Ab
open Go
set_option maxRecDepth 100000
structure OE (d:Nat) (s:aA) (a:Nat) (v:af × aV):Prop where
 pos:∃ (b:Nat) (bd:Bool),v.2=aV.mk s (b:Int) bd/\a<=b/\b<=s.length/\(bd=false->a<b)
 fin:jT tH (d+1) v.1
 all:∀ n r,Shape d n=true->okR r->s.drop a=iH d n++r->v=(n,Zq s r)
end Go.Ab
end
section
namespace Go.Ab
open Go
set_option maxRecDepth 100000
theorem T0.aF {B:Nat} {q:RequestT} (hB:B<=lim) (h:Ht B q):Ev (fun f=>G.aF f q) (jZ q):=by
  cases e:BG q with
  | true=>exact T.aF (yu e)
  | false =>
    refine Ev.up ?_
    simp only [G.aF]
    exact Ev.bind (T0.fD hB h) (Ev.cf e (Ev.ret' (JC e).symm))
end Go.Ab
end
section
namespace Go.Ab
open Go
set_option maxRecDepth 100000
theorem Fv (q:RequestT):(jZ q).length<=60000000:=by
 by_cases h:jZ q=[]
 ·rw [h]; exact Nat.zero_le _
 ·obtain ⟨h1,_,h3,h4⟩:=lS h
  have hr:=zX h1
  have h5:=fmt5 hr.body
  have hn:=(rC hr.tJ).2
  have hv:=Bv hr
  have t1:=sH q.Want
  have t2:=sH q.jk
  have h6:=Fb h3
  have h7:=Nat.mul_le_mul_right 4000001 (wF hr.ops).1
  rw [h4]
  unfold qJ IB
  simp only [List.length_append,List.length_singleton]
  split<;>omega
theorem Ed:oL 60 sS:=⟨by simp [sS],uG,uG,⟨5,kZ vZ⟩,rP⟩
theorem zI {q:RequestT} (h:oL 60 q):Ev (fun f=>G.gW f q q) true:=by
 obtain ⟨D,hD⟩:=h.body
 have tx:∀ {l:List aA},ji 60 l->Ev (fun f=>G.bU f l l) true:=fun {l} hl=>(T.bU (by have:=hl.1; unfold big; omega)).eq (by simp)
 refine Ev.up ?_
 simp only [G.gW]
 exact Ev.ct (by simp) (Ev.ct (by simp) (Ev.bind (tx h.want) (Ev.ct rfl (Ev.bind (tx h.avoid) (Ev.ct rfl (Ev.bind (T.Ec l7 hD) (Ev.ct rfl (Ev.bind (yR h.ops) (Ev.ret _)))))))))
theorem PR.fine {s:aA} {v:RequestT × Bool} (h:PR s v):oL 60 v.1:=by
  cases e:v.2 with
  | true =>
    obtain ⟨h1,h2,_⟩:=h.yes e
    exact yu (lS (show jZ v.1 ≠ [] by rw [h1]; exact h2)).1
  | false=>rw [h.no e]; exact Ed
end Go.Ab
end
section
set_option linter.unusedVariables false
set_option linter.unusedSimpArgs false
set_option maxRecDepth 100000
set_option maxHeartbeats 4000000
namespace Go.Proofs
open Go.RowKit Go.Shelf
attribute [local go_sem] Oper.semAt_some
inductive Lm:ByteArray->List ByteArray->Prop
 | last (s:ByteArray) (h:Lib.indexByte s.data.toList 44<0):Lm s [s]
 | more (s:ByteArray) (i:Nat) (ws:List ByteArray) (h:Lib.indexByte s.data.toList 44=i) (t:Lm (s.extract (i+1) s.size) ws):Lm s (s.extract 0 i::ws)
def strLen (W:World) (b:Nat):Nat:=match W.cell? ⟨b,0,none⟩ with
 | some (.string s)=>s.size
 | _=>0
theorem xY:∀ (l:List UInt8) (c:UInt8) (i:Nat),Lib.indexByte l c=i->i<l.length
  | [],c,i,h=>by simp [Lib.indexByte] at h
  | b::l,c,i,h=>by
    unfold Lib.indexByte at h
    split at h
    · have:i=0:=by omega
      subst this; simp
    · split at h
      · omega
      · rename_i h1 h2
        have h2:¬ Lib.indexByte l c = -1:=by simpa using h2
        have h3:=Lib.indexByte_ge l c
        have:=xY l c (i-1) (by omega)
        simp only [List.length_cons]; omega
theorem Ad {x:Int} (h0:0<=x) (h1:x<9223372036854775808):wrap64 x=x:=by
 unfold wrap64; omega
theorem tq {W W':World} {b:Nat} (h:W'.heap[b]? = W.heap[b]?):W'.cell? ⟨b,0,none⟩=W.cell? ⟨b,0,none⟩/\W'.frozen? ⟨b,0,none⟩=W.frozen? ⟨b,0,none⟩ :=
 ⟨World.cell?_of_block h,World.frozen?_of_block h⟩
theorem zY {W:World} {b:Nat} {s:ByteArray} (h:W.cell? ⟨b,0,none⟩=some (.string s)):strLen W b=s.size:=by
 unfold strLen; rw [h]
theorem Ol {ρ:Go.Shelf.Ren} (L:Lays.n143 Tryz.prog ρ) (n:Nat) (hn:1<=n) (hf:ρ.f 143=138) (l bp bs bv:Nat) (s:ByteArray) (ws:List ByteArray) (hw:Lm s ws) (hz:s.size<=1000000) (J Jx:List ByteArray->World->Prop)
    (hJ:∀ pre (W:World) (v:Value),J pre W->W.frozen? ⟨bs,0,none⟩=false->J pre (W.setCell ⟨bs,0,none⟩ v))
    (hY:∀ pre x W,J pre W->pre.length<ws.length->YieldAt Fence.wide (n-1) Tryz.prog l #[.string x] W fun e W' =>
      (e = .returned (.bool true)/\J (pre++[x]) W'/\(∀ b,b=bp\/b=bs\/b=bv->W'.heap[b]? = W.heap[b]?))\/(e = .returned (.bool false)/\Jx (pre++[x]) W'))
    (W:World) (hd:bs ≠ bp/\bs ≠ bv) (hp:W.cell? ⟨bp,0,none⟩=some (.string ⟨#[44]⟩)) (hs:W.cell? ⟨bs,0,none⟩=some (.string s)) (hsf:W.frozen? ⟨bs,0,none⟩=false) (hv:W.cell? ⟨bv,0,none⟩=some (.int .i64 0)) (h0:J [] W) :
    CallsIn Fence.wide n Tryz.prog 179 #[.func (.yield l) #[] #[],.pointer (some ⟨bp,0,none⟩),.pointer (some ⟨bs,0,none⟩),.pointer (some ⟨bv,0,none⟩)] W fun e W'=>(∃ v,e = .returned v) /\
      (J ws W'\/(∃ pre,pre <+: ws/\Jx pre W')):=by
  refine callsIn_of_wp Tryz.func179 rfl trivial ?_ rfl
  simp only [Tryz.ntmps179,List.size_toArray,List.length_cons,List.length_nil,Nat.reduceAdd,Nat.reduceSub,Array.replicate_succ,Array.replicate_zero,List.push_toArray,List.append_toArray,List.nil_append,List.cons_append]
  have hIdx:∀ (s:ByteArray) (n:Nat) (w:World),CallsIn Fence.wide n Tryz.prog 138 #[.string s,.string ⟨#[44]⟩] w fun e w'=>e = .returned (.int .i64 (Lib.indexByte s.data.toList 44))/\w'=w:=fun s n w=>by
    have:=Any.strings_Index_one L s 44 w
    rw [hf] at this
    exact callsIn_wide.2 this
  gi_wp2
  gi_loopw [] (fun wr=>∃ (pre rest:List ByteArray) (s':ByteArray),ws=pre++rest/\Lm s' rest/\s'.size<=1000000/\wr.cell? ⟨bp,0,none⟩=some (.string ⟨#[44]⟩)/\wr.cell? ⟨bs,0,none⟩=some (.string s')/\wr.frozen? ⟨bs,0,none⟩=false/\wr.cell? ⟨bv,0,none⟩=some (.int .i64 0)/\J pre wr)
    (fun wr=>strLen wr bs)
  case atStart =>
    exact ⟨[],ws,s,rfl,hw,hz,hp,hs,hsf,hv,h0⟩
  case round =>
    obtain ⟨pre,rest,s',hx,hwd,hz',hp',hs',O1,hv',hJs⟩:=hrel
    cases hwd with
    | last _ h =>
      obtain ⟨fn,tmps,assign,body,hy,hR⟩:=hY pre s' wr hJs (by rw [hx]; simp)
      gi_wp2_with (refine ⟨trivial,?_⟩; gi_at_call 138; refine (hIdx _ _ _).mono ?_; rintro e w' ⟨rfl,rfl⟩)
      refine hR.mono ?_
      rintro e W3 (⟨rfl,hJ3,hk3⟩ | ⟨rfl,hJx3⟩)
      · gi_wp2
        go_end0
        exact ⟨⟨_,rfl⟩,.inl (by rw [hx]; exact hJ3)⟩
      · gi_wp2
        go_end0
        exact ⟨⟨_,rfl⟩,.inr ⟨pre++[s'],by rw [hx]; exact List.prefix_rfl,hJx3⟩⟩
    | more _ i ws' h t =>
      have hlt:i<s'.size:=xY _ _ _ h
      have e1:wrap64 (i:Int)=i:=Ad (by omega) (by omega)
      have e2:wrap64 ((i:Int)+1)=i+1:=Ad (by omega) (by omega)
      have b0:0<=wrap64 (i:Int):=by omega
      have b1:wrap64 (i:Int)<=s'.size:=by omega
      have c0:0<=wrap64 ((i:Int)+1):=by omega
      have c1:wrap64 ((i:Int)+1)<=s'.size:=by omega
      obtain ⟨fn,tmps,assign,body,hy,hR⟩:=hY pre (s'.extract 0 i) wr hJs (by rw [hx]; simp)
      gi_wp2_with (refine ⟨trivial,?_⟩; gi_at_call 138; refine (hIdx _ _ _).mono ?_; rintro e w' ⟨rfl,rfl⟩)
      refine hR.mono ?_
      rintro e W3 (⟨rfl,hJ3,hk3⟩ | ⟨rfl,hJx3⟩)
      · have kp:=tq (hk3 bp (.inl rfl))
        have ks:=tq (hk3 bs (.inr (.inl rfl)))
        have kv:=tq (hk3 bv (.inr (.inr rfl)))
        rw [hp'] at kp
        rw [hs',O1] at ks
        rw [hv'] at kv
        have hp3:=kp.1
        have hs3:=ks.1
        have hf3:=ks.2
        have hv3:=kv.1
        have hd1:=hd.1
        have hd2:=hd.2
        gi_wp2
        have hsame:=World.cell?_setCell_same W3 ⟨bs,0,none⟩ (Value.string (s'.extract (i+1) s'.size)) hs3
        refine ⟨⟨pre++[s'.extract 0 i],ws',_,by rw [hx]; simp,t,by rw [ByteArray.size_extract]; omega,?_,hsame,by rw [World.frozen?_setCell]; exact hf3,?_,hJ _ _ _ hJ3 hf3⟩,?_⟩
        · rw [World.cell?_setCell_other _ _ _ _ (fun h=>hd1 (congrArg Addr.block h))]; exact hp3
        · rw [World.cell?_setCell_other _ _ _ _ (fun h=>hd2 (congrArg Addr.block h))]; exact hv3
        · rw [zY hsame,zY hs',ByteArray.size_extract]; omega
      · gi_wp2
        refine bodyPost_ret (results_none rfl _ _ _) rfl ?_
        exact ⟨⟨_,rfl⟩,.inr ⟨pre++[s'.extract 0 i],⟨ws',by rw [hx]; simp⟩,hJx3⟩⟩
theorem Nb (n:Nat) (hn:1<=n) (s sep:ByteArray) (W:World):CallsIn Fence.wide n Tryz.prog 91 #[.string s,.string sep] W fun e W' =>
  e = .returned (.func (.func 179) #[] #[.pointer (some ⟨W.heap.size+1,0,none⟩),.pointer (some ⟨W.heap.size,0,none⟩),.pointer (some ⟨W.heap.size+2,0,none⟩)]) /\
  W'=(((W.alloc (.cells #[.string s] 9)).alloc (.cells #[.string sep] 9)).alloc (.cells #[.int .i64 0] 3)):=by
 have OU:∀ n,CallsIn Fence.wide n Tryz.prog 139 #[.string s,.string sep,.int .i64 0] W fun e W' =>
  e = .returned (.func (.func 179) #[] #[.pointer (some ⟨W.heap.size+1,0,none⟩),.pointer (some ⟨W.heap.size,0,none⟩),.pointer (some ⟨W.heap.size+2,0,none⟩)]) /\
  W'=(((W.alloc (.cells #[.string s] 9)).alloc (.cells #[.string sep] 9)).alloc (.cells #[.int .i64 0] 3)):=fun n=>by
  refine callsIn_of_wp Tryz.func139 rfl trivial ?_ rfl
  simp only [Tryz.ntmps139,List.size_toArray,List.length_cons,List.length_nil,Nat.reduceAdd,Nat.reduceSub,Array.replicate_succ,Array.replicate_zero,List.push_toArray,List.append_toArray,List.nil_append,List.cons_append]
  gi_wp2
  go_ret
  exact ⟨rfl,rfl⟩
 refine callsIn_of_wp Tryz.func91 rfl trivial ?_ rfl
 simp only [Tryz.ntmps91,List.size_toArray,List.length_cons,List.length_nil,Nat.reduceAdd,Nat.reduceSub,Array.replicate_succ,Array.replicate_zero,List.push_toArray,List.append_toArray,List.nil_append,List.cons_append]
 gi_wp2_with (refine ⟨trivial,?_⟩; gi_at_call 139; refine (OU _).mono ?_; rintro e w' ⟨rfl,rfl⟩)
 go_ret
 exact ⟨rfl,rfl⟩
section
variable {P:Program} {n:Nat}
theorem zW {l D:Nat} {r:Loop} {W0 W3:World} (jump:Option Code) (hne:l ≠ D) (hl:W0.heap[l]? = some (.loop r)) (hd:W0.heap[D]? = some (.deferred (some []))) (hk:KeepsOthers W0 W3) :
  (Instr.endRound l jump).run P W3 = .ok (.bool jump.isNone) (W3.putObj l (.loop { r with state:=if jump.isNone then .ready else .done,pending:=jump }))/\W3.heap[l]? = some (.loop r) /\
  (W3.putObj l (.loop { r with state:=if jump.isNone then .ready else .done,pending:=jump })).heap[l]? = some (.loop { r with state:=if jump.isNone then .ready else .done,pending:=jump }) /\
  (W3.putObj l (.loop { r with state:=if jump.isNone then .ready else .done,pending:=jump })).heap[D]? = some (.deferred (some [])):=by
 have h3:=hk.same _ _ hl rfl
 exact ⟨run_endRound jump h3,h3,World.putObj_heap_same (Array.getElem?_eq_some_iff.1 h3).1,(World.putObj_heap_other (fun e=>hne e.symm)).trans (hk.same _ _ hd rfl)⟩
def Eh (Kp:World->World->Prop) (I Ix:List ByteArray->World->Prop) (xs:List ByteArray) (W:World):Exit->Act->World->Prop
 | .normal,_,W'=>KeepsOthers W W'/\Kp W W'/\I xs W'
 | .ret,_,W'=>KeepsOthers W W'/\Ix xs W'
 | _,_,_=>False
theorem KY {g:Operand} {p:Tmp} {assign body:Code} {Q:Exit->Act->World->Prop} {a:Act} {w:World} (h1:1<=n) {gf:Nat} {lb:Array Value} (hg:a.eval g = .func (.func gf) #[] lb)
    (eg:∀ args w,(callFunc gf args).run P w = .ok (.enter gf args) w) (b:Nat) (hb:b<w.heap.size) (ws:List ByteArray) (Kp:World->World->Prop)
    (hKt:∀ {A B C:World},Kp A B->Kp B C->Kp A C) (PI:∀ (W:World) (l:Nat) (o:Obj),w.heap.size<=l->Kp W (W.putObj l o))
    (hseq:∀ (l:Nat) (J Jx:List ByteArray->World->Prop) (W:World),(∀ k,k<w.heap.size->W.heap[k]? = w.heap[k]?)->(∀ pre (W:World) (v:Value),J pre W->J pre (W.setCell ⟨b,0,none⟩ v)) ->
      (∀ pre x W,J pre W->pre.length<ws.length->YieldAt Fence.wide (n-1-1) P l #[.string x] W fun e W'=>(e = .returned (.bool true)/\J (pre++[x]) W'/\Kp W W')\/(e = .returned (.bool false)/\Jx (pre++[x]) W')) ->
      J [] W->CallsIn Fence.wide (n-1) P gf (#[.func (.yield l) #[] #[]]++lb) W fun e W'=>(∃ v,e = .returned v)/\(J ws W'\/∃ pre,pre <+: ws/\Jx pre W'))
    (I Ix:List ByteArray->World->Prop) (hI:OwnFrom w.heap.size I) (hIx:OwnFrom w.heap.size Ix) (Qg:∀ pre (W:World) (v:Value),I pre W->I pre (W.setCell ⟨b,0,none⟩ v)) (h0:I [] w) (a₁:ByteArray->Act)
    (hassign:∀ (l:Nat) (x:ByteArray) (W:World) (K:Act->World->Prop),K (a₁ x) W->assign.wpIn (Fence.wide.inRound l) (n-1-1) P (Exit.then K (fun _ _ _=>False)) { tmps:=a.tmps.setIfInBounds p (.string x),defers:=[] } W)
    (hbody:∀ (l:Nat) (pre:List ByteArray) (x:ByteArray) (W:World),I pre W->pre.length<ws.length->body.wpIn (Fence.wide.inRound l) (n-1-1) P (Eh Kp I Ix (pre++[x]) W) (a₁ x) W)
    (hdone:∀ (D:Nat) (W:World),w.heap.size<=D->I ws W->W.heap[D]? = some (.deferred (some []))->Q .normal { a with defers := { target := .collected D,args := #[] } :: a.defers } W)
    (hstop:∀ (D:Nat) (pre:List ByteArray) (W:World),w.heap.size<=D->pre <+: ws->Ix pre W->W.heap[D]? = some (.deferred (some []))->Code.ret.wpIn Fence.wide n P Q { a with defers := { target := .collected D,args := #[] } :: a.defers } W) :
    (Code.rangeFunc g #[p] assign body).wpIn Fence.wide n P Q a w:=by
  refine wpIn_rangeFunc fun fn hfn => ?_
  let D:=w.heap.size
  let l:=w.heap.size+1
  let yU (st:LoopState) (pe:Option Code):Loop := { state:=st,pending:=pe,fn,tmps:=a.tmps,params := #[p],assign,body,defers:=D }
  let W1:=(w.alloc (.deferred (some []))).alloc (.loop (yU .ready none))
  have NW:l ≠ D:=Nat.succ_ne_self _
  have hL:W1.heap[l]? = some (.loop (yU .ready none)):=by
    have:=World.alloc_heap_new (w.alloc (.deferred (some []))) (.loop (yU .ready none)); rwa [World.size_alloc] at this
  have hD:W1.heap[D]? = some (.deferred (some [])):=(Below.heap_alloc _ _ _ (by simp [D])).trans (World.alloc_heap_new w _)
  have hlow:∀ k,k<w.heap.size->W1.heap[k]? = w.heap[k]? := fun k hk=>(Below.heap_alloc _ _ _ (by simp; omega)).trans (Below.heap_alloc _ _ _ hk)
  refine ⟨l,[{ target := .collected D,args := #[] }],W1,{ target := .fn (.func gf) lb,args := #[.func (.yield l) #[] #[]] },W1,gf,#[.func (.yield l) #[] #[]]++lb,W1,run_enterLoop_outer _ _ _ _ _,?_,fun f' _=>trivial,?_,fun _=>h1,?_⟩
  · simp only [resolve,hg]
    simp [go_sem]
  · simp [invoke,go_sem,eg]
  refine (hseq l (fun pre W=>I pre W/\W.heap[l]? = some (.loop (yU .ready none))/\W.heap[D]? = some (.deferred (some [])))
    (fun pre W=>Ix pre W/\W.heap[l]? = some (.loop (yU .done (some .ret)))/\W.heap[D]? = some (.deferred (some []))) W1 hlow ?_ ?_ ⟨hI.alloc _ (hI.alloc _ h0),hL,hD⟩).mono ?_
  · rintro pre W v ⟨hi,hl,hd⟩
    exact ⟨Qg _ _ _ hi,(Below.heap_setCell W _ v l (by show l ≠ b; omega)).trans hl,(Below.heap_setCell W _ v D (by show D ≠ b; omega)).trans hd⟩
  · rintro pre x W ⟨hi,hl,hd⟩ hlen
    have hy:=run_yield (P:=P) (args := #[.string x]) hl rfl
    refine ⟨fn,_,assign,body,hy,roundIn_of_wpIn hfn ?_⟩
    have e1:((#[p]:Array Tmp).zip #[Value.string x]).foldl (fun tmps (t,a)=>tmps.setIfInBounds t a) a.tmps=a.tmps.setIfInBounds p (.string x):=by simp
    show Code.wpIn _ _ _ _ _ { tmps:=((#[p]:Array Tmp).zip #[Value.string x]).foldl (fun tmps (t,a)=>tmps.setIfInBounds t a) a.tmps,defers:=[] } W
    rw [e1]
    refine hassign _ x W _ ⟨_,run_beginRound hl rfl,?_⟩
    have hl2:(W.putObj l (.loop { yU .ready none with state := .busy })).heap[l]? = some (.loop { yU .ready none with state := .busy }):=World.putObj_heap_same (Array.getElem?_eq_some_iff.1 hl).1
    have hd2:(W.putObj l (.loop { yU .ready none with state := .busy })).heap[D]? = some (.deferred (some [])):=(World.putObj_heap_other (fun e=>NW e.symm)).trans hd
    refine wpIn_mono (hbody _ pre x _ (hI.putObj _ hi (Nat.le_succ _) hl rfl) hlen) ?_
    rintro e a3 W3 hp
    cases e with
    | normal =>
      obtain ⟨k3,q3,i3⟩:=hp
      obtain ⟨hr,h3,h4,h5⟩:=zW (P:=P) none NW hl2 hd2 k3
      exact ⟨_,_,hr,.inl ⟨rfl,⟨hI.putObj _ i3 (Nat.le_succ _) h3 rfl,h4,h5⟩,hKt (hKt (PI _ _ _ (Nat.le_succ _)) q3) (PI _ _ _ (Nat.le_succ _))⟩⟩
    | ret =>
      obtain ⟨k3,i3⟩:=hp
      obtain ⟨hr,h3,h4,h5⟩:=zW (P:=P) (some .ret) NW hl2 hd2 k3
      exact ⟨_,_,hr,.inr ⟨rfl,hIx.putObj _ i3 (Nat.le_succ _) h3 rfl,h4,h5⟩⟩
    | exit id=>exact hp.elim
    | goto t=>exact hp.elim
    | panic ch=>exact hp.elim
    | outgrown=>exact hp.elim
  · rintro e W2 ⟨⟨v,rfl⟩,(⟨hi,hl,hd⟩ | ⟨pre,hpre,hi,hl,hd⟩)⟩
    · exact ⟨none,_,run_endLoop hl (by simp [yU]),hdone D _ (Nat.le_refl _) (hI.putObj _ hi (Nat.le_succ _) hl rfl) ((World.putObj_heap_other (fun e=>NW e.symm)).trans hd)⟩
    · exact ⟨some .ret,_,run_endLoop hl (by simp [yU]),hstop D pre _ (Nat.le_refl _) hpre (hIx.putObj _ hi (Nat.le_succ _) hl rfl) ((World.putObj_heap_other (fun e=>NW e.symm)).trans hd)⟩
end
def og (sv:ByteArray->Bool) (x:ByteArray):Option ByteArray :=
 if x.toList=[42] then some x else if x.size=6/\x.toList.getD 0 0=34/\x.toList.getD 5 0=34/\sv (x.extract 1 5)=true then some (x.extract 1 5) else none
def lI (sv:ByteArray->Bool) (acc:Option (List ByteArray)) (x:ByteArray):Option (List ByteArray) :=
 acc.bind fun l=>if l.length=4 then none else (og sv x).map fun y=>l++[y]
def col (sv:ByteArray->Bool) (ws:List ByteArray):Option (List ByteArray):=ws.foldl (lI sv) (some [])
theorem BU (sv:ByteArray->Bool) (ws:List ByteArray) (x:ByteArray):col sv (ws++[x])=lI sv (col sv ws) x:=by unfold col; rw [List.foldl_append]; rfl
theorem Ib (sv:ByteArray->Bool) (pre:List ByteArray) (h:col sv pre=none):∀ (ws:List ByteArray),pre <+: ws->col sv ws=none:=by
 rintro ws ⟨t,rfl⟩
 unfold col at h ⊢
 rw [List.foldl_append,h]
 induction t with
 | nil=>rfl
 | cons a t ih=>exact ih
theorem EL (sv:ByteArray->Bool) (ws:List ByteArray) (l:List ByteArray) (h:col sv ws=some l):l.length<=4:=by
  have key:∀ (ws:List ByteArray) (a l:List ByteArray),a.length<=4->ws.foldl (lI sv) (some a)=some l->l.length<=4:=by
    intro ws
    induction ws with
    | nil=>intro a l ha h; cases h; exact ha
    | cons x ws ih =>
      intro a l ha h
      rw [List.foldl_cons] at h
      cases hs:lI sv (some a) x with
      | none =>
        rw [hs] at h
        have:∀ ws:List ByteArray,ws.foldl (lI sv) none=none:=fun ws=>by
          induction ws with
          | nil=>rfl
          | cons y ws ih=>exact ih
        rw [this] at h; cases h
      | some b =>
        rw [hs] at h
        refine ih b l ?_ h
        unfold lI at hs
        simp only [Option.bind_some] at hs
        split at hs
        · cases hs
        · obtain ⟨y,_,rfl⟩:=Option.map_eq_some_iff.1 hs
          simp; omega
  exact key ws [] l (by simp) h
def Jj (sv:ByteArray->Bool) (s:ByteArray) (ws:List ByteArray) (w:World) (e:Ending) (W':World):Prop :=
 ∃ v l ok,e = .returned (.tuple #[v,.bool ok])/\W'.ownsRow w.heap.size 9 1 v l.length (l.map Value.string)/\Below w.heap.size w W'/\(if s.toList=[] then some [] else col sv ws)=(if ok then some l else none)/\(ok=false->l=[])
structure Hw (w W:World) (acc:List ByteArray) (v:Value):Prop where
 box:Boxed W (w.heap.size+1+1) 23 v
 row:W.ownsRow (w.heap.size+6) 9 1 v acc.length (acc.map Value.string)
 b0:Boxed W w.heap.size 23 (.slice none 0 0)
 b1:Boxed W (w.heap.size+1) 4 (.bool false)
 bel:Below w.heap.size w W
 NF:w.heap.size+6<=W.heap.size
theorem Jo {W W2:World} {base:Nat} {e:TypeId} {size:Nat} {v:Value} {k:Nat} {xs:List Value} (h:W.ownsRow base e size v k xs) (hg:W.grownBy W2 none):W2.ownsRow base e size v k xs :=
 h.kept hg (by cases hv:v.ownBlock with | none=>exact .inl rfl | some x=>exact .inr (by simp))
theorem rY {W:World} {base:Nat} {e:TypeId} {size:Nat} {v:Value} {k:Nat} {xs:List Value} (h:W.ownsRow base e size v k xs) {b:Nat} (hb:b<base) (u:Value):(W.setCell ⟨b,0,none⟩ u).ownsRow base e size v k xs:=by
 refine h.kept (grownBy_setCell' W b u) ?_
 rcases h.2 with ⟨rfl,_⟩ | ⟨g,cap,cur,rfl,hg,_⟩
 ·exact .inl rfl
 ·refine .inr fun e => ?_
  have:g=b:=by simpa [Value.ownBlock] using e
  omega
theorem Hw.kept {w W W2:World} {acc:List ByteArray} {v:Value} (h:Hw w W acc v) (hg:W.grownBy W2 none):Hw w W2 acc v :=
 ⟨h.box.kept hg (by simp),Jo h.row hg,h.b0.kept hg (by simp),h.b1.kept hg (by simp),h.bel.grown hg h.bel.size (fun k e=>by cases e),Nat.le_trans h.NF hg.size⟩
theorem Hw.ret {w W:World} {acc:List ByteArray} {v:Value} (h:Hw w W acc v):KeepsOthers W ((W.setCell ⟨w.heap.size,0,none⟩ (.slice none 0 0)).setCell ⟨w.heap.size+1,0,none⟩ (.bool false)) /\
  Boxed ((W.setCell ⟨w.heap.size,0,none⟩ (.slice none 0 0)).setCell ⟨w.heap.size+1,0,none⟩ (.bool false)) w.heap.size 23 (.slice none 0 0) /\
  Boxed ((W.setCell ⟨w.heap.size,0,none⟩ (.slice none 0 0)).setCell ⟨w.heap.size+1,0,none⟩ (.bool false)) (w.heap.size+1) 4 (.bool false) /\
  Below w.heap.size w ((W.setCell ⟨w.heap.size,0,none⟩ (.slice none 0 0)).setCell ⟨w.heap.size+1,0,none⟩ (.bool false)) :=
 ⟨(KeepsOthers.setCell _ _ _).trans (KeepsOthers.setCell _ _ _),(h.b0.set _).other (by omega) _,(h.b1.other (by omega) _).set _,(h.bel.setCell (p:=⟨w.heap.size,0,none⟩) (Nat.le_refl _) _).setCell (p:=⟨w.heap.size+1,0,none⟩) (by simp) _⟩
theorem Hw.app {w W w1:World} {acc:List ByteArray} {v v':Value} {y:ByteArray} {tmp:Obj} (h:Hw w W acc v) (hown:w1.ownsRow (w.heap.size+6) 9 1 v' (acc.length+1) (acc.map Value.string++[.string y])) (hg:(W.alloc tmp).grownBy w1 v.ownBlock) :
  Boxed w1 (w.heap.size+1+1) 23 v/\Hw w (w1.setCell ⟨w.heap.size+1+1,0,none⟩ v') (acc++[y]) v'/\KeepsOthers W (w1.setCell ⟨w.heap.size+1+1,0,none⟩ v') /\
  (∀ k,k=w.heap.size+1+1+1+1\/k=w.heap.size+1+1+1\/k=w.heap.size+1+1+1+2->(w1.setCell ⟨w.heap.size+1+1,0,none⟩ v').heap[k]? = W.heap[k]?):=by
 have hlow:∀ j,j<w.heap.size+6->some j ≠ v.ownBlock:=fun j hj e=>by
  rcases h.row.2 with ⟨rfl,_⟩ | ⟨g,cap,cur,rfl,hgg,_⟩
  ·simp [Value.ownBlock] at e
  ·have:j=g:=by simpa [Value.ownBlock] using e
   omega
 obtain ⟨a1,a2,a3,a4,a5⟩:=h.box.appended (n₀:=w.heap.size) (by decide) (h.row.mono (by omega)) h.bel.size (by omega) (hown.mono (by omega)) hg
 have hsz:=hg.size
 rw [World.size_alloc] at hsz
 have Qq:=h.NF
 have kb:∀ {b:Nat} {t:TypeId} {u:Value},Boxed W b t u->b<w.heap.size+6->Boxed w1 b t u:=fun hb hlt=>(hb.alloc tmp).kept hg (hlow _ hlt)
 refine ⟨a1,⟨a2,by rw [List.length_append,List.length_singleton,List.map_append]; exact rY hown (by omega) _,(kb h.b0 (by omega)).other (by omega) _,(kb h.b1 (by omega)).other (by omega) _,h.bel.trans a5,?_⟩,a4,fun k hk => ?_⟩
 ·have:(w1.setCell ⟨w.heap.size+1+1,0,none⟩ v').heap.size=w1.heap.size:=by simp [World.setCell]
  rw [this]; omega
 ·rw [Below.heap_setCell _ _ _ _ (by show k ≠ w.heap.size+1+1; omega)]
  rw [hg.block k (by rw [World.size_alloc]; omega) (hlow k (by omega))]
  exact Below.heap_alloc _ _ _ (by omega)
theorem uD {sv:ByteArray->Bool} {pre acc:List ByteArray} {x:ByteArray} (hc:col sv pre=some acc) (h:acc.length=4\/og sv x=none):col sv (pre++[x])=none:=by
 rw [BU,hc]
 unfold lI
 simp only [Option.bind_some]
 rcases h with h | h
 ·rw [if_pos h]
 ·rw [h]; split<;>rfl
theorem BR {sv:ByteArray->Bool} {pre acc:List ByteArray} {x y:ByteArray} (hc:col sv pre=some acc) (h:¬ acc.length=4) (hw:og sv x=some y):col sv (pre++[x])=some (acc++[y]):=by
 rw [BU,hc]
 unfold lI
 simp only [Option.bind_some]
 rw [if_neg h,hw]; rfl
def LY (w A B:World):Prop:=∀ k,k=w.heap.size+1+1+1+1\/k=w.heap.size+1+1+1\/k=w.heap.size+1+1+1+2->B.heap[k]? = A.heap[k]?
def Nu (sv:ByteArray->Bool) (w:World) (pre:List ByteArray) (W:World):Prop:=∃ acc v,col sv pre=some acc/\Hw w W acc v
def J4 (sv:ByteArray->Bool) (w:World) (pre:List ByteArray) (W:World):Prop:=col sv pre=none/\Boxed W w.heap.size 23 (.slice none 0 0)/\Boxed W (w.heap.size+1) 4 (.bool false)/\Below w.heap.size w W
theorem J4.mk {sv:ByteArray->Bool} {w W:World} {pre acc:List ByteArray} {v:Value} {x:ByteArray} {W0:World} (hk:KeepsOthers W0 W) (hP:Hw w W acc v) (h:col sv (pre++[x])=none) {a:Act} :
  Eh (LY w) (Nu sv w) (J4 sv w) (pre++[x]) W0 Exit.ret a ((W.setCell ⟨w.heap.size,0,none⟩ (.slice none 0 0)).setCell ⟨w.heap.size+1,0,none⟩ (.bool false)):=by
 obtain ⟨q1,q2,q3,q4⟩:=hP.ret
 exact ⟨hk.trans q1,h,q2,q3,q4⟩
theorem Nu.mk {sv:ByteArray->Bool} {w W W0 W1:World} {pre acc:List ByteArray} {v:Value} (hk:KeepsOthers W0 W) (hp:LY w W0 W) (k1:KeepsOthers W W1) (p1:LY w W W1) (hP:Hw w W1 acc v) (h:col sv pre=some acc) {a:Act} :
  Eh (LY w) (Nu sv w) (J4 sv w) pre W0 Exit.normal a W1:=⟨hk.trans k1,fun k hk=>(p1 k hk).trans (hp k hk),acc,v,h,hP⟩
theorem get_at {x:ByteArray} {i:Nat} (h:i<x.size):x[i]=x.toList.getD i 0:=by
 rw [ByteArray.toList_eq]
 have h':i<x.data.toList.length:=by rw [Array.length_toList]; exact h
 rw [List.getD,List.getElem?_eq_getElem h',Option.getD_some]
 rfl
theorem vz {sv:ByteArray->Bool} {x:ByteArray} (h0:(!x.toList==[42])=true) (h:¬ (x.size=6/\x.toList.getD 0 0=34/\x.toList.getD 5 0=34/\sv (x.extract 1 5)=true)):og sv x=none:=by
 unfold og
 rw [if_neg (by simpa using h0),if_neg h]
theorem GM {sv:ByteArray->Bool} {x:ByteArray} (h0:(!x.toList==[42])=true) (h:x.size=6/\x.toList.getD 0 0=34/\x.toList.getD 5 0=34/\sv (x.extract 1 5)=true):og sv x=some (x.extract 1 5):=by
 unfold og
 rw [if_neg (by simpa using h0),if_pos h]
theorem GN {sv:ByteArray->Bool} {x:ByteArray} (h0:(!x.toList==[42])=false):og sv x=some x:=by
 unfold og
 rw [if_pos (by simpa using h0)]
theorem Lc {b:UInt8} : ((b.toNat:Int)=34)<->b=34:=⟨fun h=>UInt8.toNat_inj.1 (by show b.toNat=34; omega),fun h=>by rw [h]; rfl⟩
theorem ER {sv:ByteArray->Bool} {n:Nat} {s:ByteArray} {ws:List ByteArray} {w W W4:World} {D:Nat} {v:Value} {l:List ByteArray} {ok:Bool} {tmps:Array Value} {d:List Deferred} (hd:d=[{ target := .collected D,args := #[] }])
  (hne:s.toList.isEmpty=false) (hD:w.heap.size+6<=D) (hk:KeepsOthers W W4) (hK:W.heap[D]? = some (.deferred (some []))) (b0:Boxed W4 w.heap.size 23 v) (b1:Boxed W4 (w.heap.size+1) 4 (.bool ok))
  (hrow:W4.ownsRow (w.heap.size+6) 9 1 v l.length (l.map Value.string)) (hB:Below w.heap.size w W4) (hc:col sv ws=if ok then some l else none) (hl:ok=false->l=[])
  (t2:tmps.getD 2 undef = .pointer (some ⟨w.heap.size,0,none⟩):=by rfl) (t3:tmps.getD 3 undef = .pointer (some ⟨w.heap.size+1,0,none⟩):=by rfl) :
  bodyPostM Fence.wide n Tryz.prog Tryz.f40 (Jj sv s ws w) Exit.ret { tmps:=tmps,defers:=d } W4:=by
 subst hd
 have hK4:=hk.same D _ hK rfl
 refine ⟨by simp,.inl ⟨_,_,rfl,run_takeDeferred hK4,?_⟩⟩
 have k0:=cell_kept b0.cell (grownBy_putObj' _ D (.deferred none)) (fun r e=>by cases e; exact ⟨_,hK4,rfl⟩)
 have k1:=cell_kept b1.cell (grownBy_putObj' _ D (.deferred none)) (fun r e=>by cases e; exact ⟨_,hK4,rfl⟩)
 have hs:s.toList ≠ []:=by cases h:s.toList with | nil=>rw [h] at hne; cases hne | cons a l=>simp
 refine ⟨.tuple #[v,.bool ok],?_,v,l,ok,rfl,(ownsRow_putObj hrow _ hK4 rfl).mono (by omega),hB.trans (belowK_b (w:=w) (Nat.le_refl _) W4 D _ _ (by omega) hK4 rfl rfl),by rw [if_neg hs]; exact hc,hl⟩
 have t2':tmps[2]?.getD undef = .pointer (some ⟨w.heap.size,0,none⟩):=by simpa using t2
 have QA:tmps[3]?.getD undef = .pointer (some ⟨w.heap.size+1,0,none⟩):=by simpa using t3
 simp [results,Tryz.f40,go_sem,k0,k1,t2',QA,asAddr]
theorem Oi (sv:ByteArray->Bool) {ρ:Go.Shelf.Ren} (L:Lays.n143 Tryz.prog ρ) (hf:ρ.f 143=138) (n:Nat) (hn:5<=n) (s:ByteArray) (hz:s.size<=1000000) (ws:List ByteArray) (hw:Lm s ws) (w:World)
  (hS:∀ (y:ByteArray),y.size=4->∀ (l n:Nat) (W:World),Below w.heap.size w W->CallsIn (Fence.wide.inRound l) n Tryz.prog 92 #[.string y] W fun e W'=>e = .returned (.bool (sv y))/\W.grownBy W' none) :
  CallsIn Fence.wide n Tryz.prog 40 #[.string s] w (Jj sv s ws w):=by
 obtain ⟨i0,hi,hz0,hz1,hz2⟩:=info_parts (show (Tryz.prog.info? 9).map (fun i=>(i.zero,i.size,i.bytes))=some (some (.string ByteArray.empty),1,16) by kernel_rfl)
 refine callsIn_of_wp_marks Tryz.func40 rfl trivial ?_ rfl
 simp only [Tryz.ntmps40,List.size_toArray,List.length_cons,List.length_nil,Nat.reduceAdd,Nat.reduceSub,Array.replicate_succ,Array.replicate_zero,List.push_toArray,List.append_toArray,List.nil_append,List.cons_append]
 gi_wp2_with (refine ⟨trivial,fun _=>by omega,?_⟩; gi_at_call 91; refine (Nb _ (by omega) _ _ _).mono ?_; rintro e w' ⟨rfl,rfl⟩)
 ·have he:s.toList.isEmpty=true:=by assumption
  have he':s.toList=[]:=by simpa using he
  have n0:=(Boxed.new w 23 (.slice none 0 0)).alloc (.cells #[.bool true] 4)
  have n1:=Boxed.new (w.alloc (.cells #[.slice none 0 0] 23)) 4 (.bool true)
  rw [World.size_alloc] at n1
  have k0:=n0.cell
  have k1:=n1.cell
  refine ⟨.tuple #[.slice none 0 0,.bool true],?_,.slice none 0 0,[],true,rfl,World.ownsRow_nil _ _ _ _,((Below.refl _ w).alloc (Nat.le_refl _) _).alloc (by simp) _,by rw [if_pos he']; rfl,fun h=>by cases h⟩
  simp [results,Tryz.f40,go_sem,k0,k1,asAddr]
 ·refine KY (by omega) rfl (enters_of Tryz.func179 (by kernel_rfl) rfl) (w.heap.size+1+1+1) (by simp) ws (LY w)
   (fun h k=>fun j hj=>(k j hj).trans (h j hj)) (fun W l o hl j hj=>World.putObj_heap_other (by simp at hl; omega)) ?seq
   (Nu sv w) (J4 sv w) ?own ?O7 ?setb ?start
   (fun x => { tmps := #[.string s,undef,.pointer (some ⟨w.heap.size,0,none⟩),.pointer (some ⟨w.heap.size+1,0,none⟩),.pointer (some ⟨w.heap.size+1+1,0,none⟩),.string x,.string s,.bool false,.string s,.func (.func 179) #[] #[.pointer (some ⟨w.heap.size+1+1+1+1,0,none⟩),.pointer (some ⟨w.heap.size+1+1+1,0,none⟩),.pointer (some ⟨w.heap.size+1+1+1+2,0,none⟩)],.string x,undef,undef,undef,undef,undef,undef,undef,undef,undef,undef,undef,undef,undef,undef,undef,undef,undef,undef,undef,undef,undef,undef,undef,undef,undef,undef,undef,undef,undef,undef,undef],defers:=[] }) ?assign ?body ?done ?stop
  case assign =>
   intro l x W K hK
   gi_wp2
   exact hK
  case body =>
   rintro l pre x W ⟨acc,v,hc,hP⟩ hlt
   have h4:=EL sv pre acc hc
   obtain ⟨a,cap,rfl⟩:∃ a cap,v = .slice a acc.length cap:=by
    rcases hP.row.2 with ⟨rfl,h⟩ | ⟨g,cap,cur,rfl,_⟩
    ·exact ⟨none,0,by rw [h]⟩
    ·exact ⟨_,cap,rfl⟩
   have hcv:=hP.box.cell
   have hc0:=hP.b0.cell
   have hf0:=hP.b0.frozen
   have hc1:=hP.b1.cell
   have hf1:=hP.b1.frozen
   have hko:=KeepsOthers.refl W
   have hkp:LY w W W:=fun k _=>rfl
   gi_wp2_with first
    | (gi_at_builtin; refine wpListIn_append_own _ rfl _ _ 23 rfl (w.heap.size+6) 9 i0 (.string ByteArray.empty) 1 16 Tryz.underlying23 hi hz0 hz1 hz2 rfl (by decide) _ _ _ rfl (hP.row.alloc _) _ 1 1 [_] rfl rfl (cell_one_new _ _ _) (by simp [Value.oneCell']) (by simp only [maxLen]; omega) (by omega) (by have:=hP.NF; simp; omega) ?_; intro v' w1 hown' hgrow _; obtain ⟨g',cap',rfl⟩:=ownsRow_succ hown'; obtain ⟨q1,q2,q3,q4⟩:=hP.app hown' hgrow; have hc5:=q1.cell; have hf5:=q1.frozen)
    | (refine ⟨trivial,fun _=>by omega,?_⟩; gi_at_call 92; refine (hS _ (by rw [ByteArray.size_extract]; omega) l _ _ hP.bel).mono ?_; rintro e W2 ⟨rfl,hg2⟩; have hko:=hko.trans (KeepsOthers.of_grownBy hg2 (fun j o e=>by cases e)); have hkp:LY w W W2:=fun k hk=>(hg2.block k (by have:=hP.NF; omega) (by simp)).trans (hkp k hk); have hP:=hP.kept hg2; have hcv:=hP.box.cell; have hc0:=hP.b0.cell; have hf0:=hP.b0.frozen; have hc1:=hP.b1.cell; have hf1:=hP.b1.frozen)
    | (refine ⟨trivial,?_⟩)
   ·have h:((acc.length:Int)==4)=true:=by assumption
    exact J4.mk hko hP (uD hc (.inl (by simp at h; omega)))
   ·have hst:(!x.toList==[42])=true:=by assumption
    have hsv:(!sv (x.extract 1 5))=true:=by assumption
    exact J4.mk hko hP (uD hc (.inr (vz hst (fun h=>by rw [h.2.2.2] at hsv; cases hsv))))
   ·have hn4:((acc.length:Int)==4)=false:=by assumption
    have hst:(!x.toList==[42])=true:=by assumption
    have h6:(x.size:Int)=6:=by assumption
    have h6':x.size=6:=by omega
    have h0:((x[0]'(by omega)).toNat:Int)=34:=by assumption
    have h5:((x[5]'(by omega)).toNat:Int)=34:=by assumption
    have hsv:(!sv (x.extract 1 5))=false:=by assumption
    exact Nu.mk hko hkp q3 q4 q2 (BR hc (by simp at hn4; omega) (GM hst ⟨h6',by rw [<- get_at (by omega)]; exact Lc.1 h0,by rw [<- get_at (by omega)]; exact Lc.1 h5,by simpa using hsv⟩))
   ·have hst:(!x.toList==[42])=true:=by assumption
    have h6:(x.size:Int)=6:=by assumption
    have h5:¬ ((x[5]'(by omega)).toNat:Int)=34:=by assumption
    exact J4.mk hko hP (uD hc (.inr (vz hst (fun h=>h5 (Lc.2 (by rw [get_at (by omega)]; exact h.2.2.1))))))
   ·have hst:(!x.toList==[42])=true:=by assumption
    have h6:(x.size:Int)=6:=by assumption
    have h0:¬ ((x[0]'(by omega)).toNat:Int)=34:=by assumption
    exact J4.mk hko hP (uD hc (.inr (vz hst (fun h=>h0 (Lc.2 (by rw [get_at (by omega)]; exact h.2.1))))))
   ·have hst:(!x.toList==[42])=true:=by assumption
    have h6:¬ (x.size:Int)=6:=by assumption
    exact J4.mk hko hP (uD hc (.inr (vz hst (fun h=>h6 (by have:=h.1; omega)))))
   ·have hn4:((acc.length:Int)==4)=false:=by assumption
    have hst:(!x.toList==[42])=false:=by assumption
    exact Nu.mk hko hkp q3 q4 q2 (BR hc (by simp at hn4; omega) (GN hst))
  case done =>
   rintro D W hD ⟨acc,v,hc,hP⟩ hK
   have h4:=EL sv ws acc hc
   obtain ⟨a,cap,rfl⟩:∃ a cap,v = .slice a acc.length cap:=by
    rcases hP.row.2 with ⟨rfl,h⟩ | ⟨g,cap,cur,rfl,_⟩
    ·exact ⟨none,0,by rw [h]⟩
    ·exact ⟨_,cap,rfl⟩
   have hcv:=hP.box.cell
   have hc0:=hP.b0.cell
   have hf0:=hP.b0.frozen
   have hc1:=hP.b1.cell
   have hf1:=hP.b1.frozen
   have hD6:w.heap.size+6<=D:=by simpa using hD
   have hne:s.toList.isEmpty=false:=by assumption
   gi_wp2
   refine ER rfl hne hD6 (v := .slice a acc.length cap) (ok:=true) ((KeepsOthers.setCell _ _ _).trans (KeepsOthers.setCell _ _ _)) hK ((hP.b0.set _).other (by omega) _) ((hP.b1.other (by omega) _).set _) ?_ ?_ hc (fun h=>by cases h)
   ·exact rY (rY hP.row (by omega) _) (by omega) _
   ·exact (hP.bel.setCell (p:=⟨w.heap.size,0,none⟩) (Nat.le_refl _) _).setCell (p:=⟨w.heap.size+1,0,none⟩) (by simp) _
  case stop =>
   rintro D pre W hD hpre ⟨hc,hb0,hb1,hB⟩ hK
   have hc0:=hb0.cell
   have hc1:=hb1.cell
   have hD6:w.heap.size+6<=D:=by simpa using hD
   have hne:s.toList.isEmpty=false:=by assumption
   gi_wp2
   exact ER rfl hne hD6 (v := .slice none 0 0) (l:=[]) (ok:=false) (KeepsOthers.refl _) hK hb0 hb1 (World.ownsRow_nil _ _ _ _) hB (Ib sv pre hc ws hpre) (fun _=>rfl)
  case own =>
   rintro pre A B row ⟨acc,v,hc,hP⟩ hg hr
   have hr':∀ r,row=some r->w.heap.size+6<=r:=fun r e=>by have:=(hr r e).1; simpa using this
   refine ⟨acc,v,hc,hP.box.kept hg (fun e=>by have:=hr' _ e.symm; omega),hP.row.kept hg ?_,hP.b0.kept hg (fun e=>by have:=hr' _ e.symm; omega),hP.b1.kept hg (fun e=>by have:=hr' _ e.symm; omega),hP.bel.grown hg hP.bel.size (fun k e=>by have:=hr' _ e; omega),Nat.le_trans hP.NF hg.size⟩
   rcases hP.row.2 with ⟨rfl,_⟩ | ⟨g,cap,cur,rfl,_,hgb,_⟩
   ·exact .inl rfl
   ·refine .inr fun e => ?_
    obtain ⟨_,o,ho,hcc⟩:=hr g (by simpa [Value.ownBlock] using e.symm)
    rw [hgb] at ho; cases ho; cases hcc
  case O7 =>
   rintro pre A B row ⟨hc,hb0,hb1,hB⟩ hg hr
   have hr':∀ r,row=some r->w.heap.size+6<=r:=fun r e=>by have:=(hr r e).1; simpa using this
   exact ⟨hc,hb0.kept hg (fun e=>by have:=hr' _ e.symm; omega),hb1.kept hg (fun e=>by have:=hr' _ e.symm; omega),hB.grown hg hB.size (fun k e=>by have:=hr' _ e; omega)⟩
  case setb =>
   rintro pre W u ⟨acc,v,hc,hP⟩
   exact ⟨acc,v,hc,hP.box.other (by omega) _,rY hP.row (by omega) _,hP.b0.other (by omega) _,hP.b1.other (by omega) _,hP.bel.setCell (p:=⟨w.heap.size+1+1+1,0,none⟩) (by show w.heap.size<=w.heap.size+1+1+1; omega) _,by
    have:(W.setCell ⟨w.heap.size+1+1+1,0,none⟩ u).heap.size=W.heap.size:=by simp [World.setCell]
    rw [this]; exact hP.NF⟩
  case start =>
   have n0:=Boxed.new w 23 (.slice none 0 0)
   have n1:=Boxed.new (w.alloc (.cells #[.slice none 0 0] 23)) 4 (.bool false)
   have n2:=Boxed.new ((w.alloc (.cells #[.slice none 0 0] 23)).alloc (.cells #[.bool false] 4)) 23 (.slice none 0 0)
   rw [World.size_alloc] at n1 n2
   rw [World.size_alloc] at n2
   refine ⟨[],.slice none 0 0,rfl,(((n2.alloc _).alloc _).alloc _),World.ownsRow_nil _ _ _ _,(((((n0.alloc _).alloc _).alloc _).alloc _).alloc _),((((n1.alloc _).alloc _).alloc _).alloc _),?_,by simp⟩
   exact ((((((Below.refl _ w).alloc (Nat.le_refl _) _).alloc (by simp) _).alloc (by simp; omega) _).alloc (by simp; omega) _).alloc (by simp; omega) _).alloc (by simp; omega) _
  case seq =>
   intro l J Jx W hW hJ hY h0
   have hlow:∀ k,k<w.heap.size+6->W.heap[k]? = _:=fun k hk=>hW k (by simp; omega)
   have n3:=Boxed.new (((w.alloc (.cells #[.slice none 0 0] 23)).alloc (.cells #[.bool false] 4)).alloc (.cells #[.slice none 0 0] 23)) 9 (.string s)
   have n4:=Boxed.new ((((w.alloc (.cells #[.slice none 0 0] 23)).alloc (.cells #[.bool false] 4)).alloc (.cells #[.slice none 0 0] 23)).alloc (.cells #[.string s] 9)) 9 (.string ⟨#[44]⟩)
   have n5:=Boxed.new (((((w.alloc (.cells #[.slice none 0 0] 23)).alloc (.cells #[.bool false] 4)).alloc (.cells #[.slice none 0 0] 23)).alloc (.cells #[.string s] 9)).alloc (.cells #[.string ⟨#[44]⟩] 9)) 3 (.int .i64 0)
   simp only [World.size_alloc] at n3 n4 n5
   have m3:Boxed W (w.heap.size+1+1+1) 9 (.string s):=(hlow _ (by omega)).trans ((n3.alloc _).alloc _)
   have m4:Boxed W (w.heap.size+1+1+1+1) 9 (.string ⟨#[44]⟩):=(hlow _ (by omega)).trans (n4.alloc _)
   have m5:Boxed W (w.heap.size+1+1+1+2) 3 (.int .i64 0):=(hlow _ (by omega)).trans n5
   refine Ol L (n-1) (by omega) hf l (w.heap.size+1+1+1+1) (w.heap.size+1+1+1) (w.heap.size+1+1+1+2) s ws hw hz J Jx (fun pre W v h _=>hJ pre W v h) (fun pre x W h hl => ?_) W ⟨by omega,by omega⟩ m4.cell m3.cell m3.frozen m5.cell h0
   exact hY pre x W h hl
open Go.Ab
def xg (x:aA):ByteArray:=⟨⟨x⟩⟩
theorem CO:∀ {s:aA},Lib.indexByte s 44<0->lX s=[s]
  | [],_=>rfl
  | b::s,h=>by
    unfold Lib.indexByte at h
    split at h
    · omega
    · rename_i hb
      have hb:¬ b=44:=by simpa using hb
      split at h
      · rename_i h2
        have h2:Lib.indexByte s 44 = -1:=by simpa using h2
        unfold lX
        rw [if_neg hb,CO (s:=s) (by omega)]
      · have:=Lib.indexByte_ge s 44
        rename_i h2
        have h2:¬ Lib.indexByte s 44 = -1:=by simpa using h2
        omega
theorem CP:∀ {s:aA} {i:Nat},Lib.indexByte s 44=i->lX s=s.take i::lX (s.drop (i+1))
  | [],i,h=>by simp [Lib.indexByte] at h
  | b::s,i,h=>by
    unfold Lib.indexByte at h
    split at h
    · rename_i hb
      have hb:b=44:=by simpa using hb
      have:i=0:=by omega
      subst this
      rw [lX,if_pos hb,List.take_zero,List.drop_succ_cons,List.drop_zero]
    · rename_i hb
      have hb:¬ b=44:=by simpa using hb
      split at h
      · omega
      · rename_i h2
        have h2:¬ Lib.indexByte s 44 = -1:=by simpa using h2
        have h3:=Lib.indexByte_ge s 44
        obtain ⟨j,rfl⟩:∃ j,i=j+1:=⟨i-1,by omega⟩
        rw [lX,if_neg hb,CP (s:=s) (i:=j) (by omega)]
        rfl
theorem xR (x:ByteArray) (a b:Nat):(x.extract a b).data.toList=(x.data.toList.drop a).take (b-a):=by
 rw [ByteArray.data_extract,Array.toList_extract]
theorem AZ (x:ByteArray):xg x.data.toList=x:=by cases x; rfl
theorem Ld:∀ (k:Nat) (s:ByteArray),s.size<=k->Lm s ((lX s.data.toList).map xg):=by
 intro k
 induction k using Nat.strongRecOn with | _ k ih =>
 intro s hk
 by_cases h:Lib.indexByte s.data.toList 44<0
 ·rw [CO h]
  show Lm s [xg s.data.toList]
  rw [AZ]
  exact .last s h
 ·obtain ⟨i,hi⟩:∃ i:Nat,Lib.indexByte s.data.toList 44=i:=⟨(Lib.indexByte s.data.toList 44).toNat,by omega⟩
  have hlt:=xY _ _ _ hi
  have hsz:s.data.toList.length=s.size:=rfl
  have e1:s.data.toList.drop (i+1)=(s.extract (i+1) s.size).data.toList:=by
   rw [xR,List.take_of_length_le (by rw [List.length_drop]; omega)]
  have e2:s.data.toList.take i=(s.extract 0 i).data.toList:=by rw [xR]; rfl
  rw [CP hi,e1,e2,List.map_cons,AZ]
  exact .more s i _ hi (ih (s.size-(i+1)) (by omega) _ (by rw [ByteArray.size_extract]; omega))
theorem GL (sv:aA->Bool) (x:aA):og (fun y=>sv y.data.toList) (xg x)=(wM sv x).map xg:=by
 unfold og wM
 have e0:(xg x).toList=x:=by rw [ByteArray.toList_eq]; rfl
 have e1:(xg x).size=x.length:=rfl
 have e2:((xg x).extract 1 5).data.toList=(x.drop 1).take 4:=xR _ _ _
 have e3:(xg x).extract 1 5=xg ((x.drop 1).take 4):=by rw [<- e2,AZ]
 show (if (xg x).toList=[42] then some (xg x) else if (xg x).size=6/\(xg x).toList.getD 0 0=34/\(xg x).toList.getD 5 0=34/\sv ((xg x).extract 1 5).data.toList=true then some ((xg x).extract 1 5) else none)=_
 rw [e0,e1,e2,e3]
 split
 ·rfl
 ·split<;>rfl
theorem Me (sv:aA->Bool) (ws:List aA):col (fun y=>sv y.data.toList) (ws.map xg)=(Ky sv ws).map fun l=>l.map xg:=by
  have key:∀ (ws:List aA) (a:Option (List aA)),(ws.map xg).foldl (lI fun y=>sv y.data.toList) (a.map fun l=>l.map xg)=(ws.foldl (colS sv) a).map fun l=>l.map xg:=by
    intro ws
    induction ws with
    | nil=>intro a; rfl
    | cons x ws ih =>
      intro a
      rw [List.map_cons,List.foldl_cons,List.foldl_cons,<- ih]
      congr 1
      unfold lI colS
      cases a with
      | none=>rfl
      | some l =>
        simp only [Option.map_some,Option.bind_some,List.length_map]
        split
        · rfl
        · rw [GL]
          cases wM sv x with
          | none=>rfl
          | some y=>simp
  exact key ws (some [])
theorem Gy (sv:aA->Bool) {s:aA} (hl:s.length<=1000000) {l:List ByteArray} (hc:(if (⟨⟨s⟩⟩:ByteArray).toList=[] then some [] else col (fun y=>sv y.data.toList) ((lX (⟨⟨s⟩⟩:ByteArray).data.toList).map xg))=(if true then some l else none)):∀ x,x∈l->x.size<=1000000:=by
  have cut_small:∀ (s:aA) x,x∈lX s->x.length<=s.length:=by
    intro s
    induction s with
    | nil=>intro x hx; rw [lX,List.mem_singleton] at hx; subst hx; exact Nat.le_refl _
    | cons b r ih =>
      intro x hx
      rw [lX] at hx
      split at hx
      · rcases List.mem_cons.1 hx with e | e
        · subst e; exact Nat.zero_le _
        · have:=ih x e; simp; omega
      · split at hx
        · rw [List.mem_singleton] at hx; subst hx; simp
        · rename_i y ys hy
          rcases List.mem_cons.1 hx with e | e
          · have:=ih y (by rw [hy]; simp)
            rw [e]; simp; omega
          · have:=ih x (by rw [hy]; simp [e])
            simp; omega
  have key:∀ (ws:List ByteArray) (a l:List ByteArray),(∀ x,x∈ws->x.size<=1000000)->(∀ x,x∈a->x.size<=1000000)->ws.foldl (lI fun y=>sv y.data.toList) (some a)=some l->∀ x,x∈l->x.size<=1000000:=by
    intro ws
    induction ws with
    | nil=>intro a l _ ha h; cases h; exact ha
    | cons y ws ih =>
      intro a l hw ha h
      rw [List.foldl_cons] at h
      cases hs:lI (fun y=>sv y.data.toList) (some a) y with
      | none =>
        rw [hs] at h
        have:∀ ws:List ByteArray,ws.foldl (lI fun y=>sv y.data.toList) none=none:=fun ws=>by
          induction ws with
          | nil=>rfl
          | cons y ws ih=>exact ih
        rw [this] at h; cases h
      | some b =>
        rw [hs] at h
        refine ih b l (fun x hx=>hw x (List.mem_cons_of_mem _ hx)) (fun x hx => ?_) h
        unfold lI at hs
        simp only [Option.bind_some] at hs
        split at hs
        · cases hs
        · obtain ⟨z,hz,rfl⟩:=Option.map_eq_some_iff.1 hs
          rcases List.mem_append.1 hx with e | e
          · exact ha x e
          · rw [List.mem_singleton] at e
            subst e
            have hy:=hw y (List.mem_cons_self ..)
            unfold og at hz
            split at hz
            · cases hz; exact hy
            · split at hz
              · cases hz
                rw [ByteArray.size_extract]; omega
              · cases hz
  by_cases h0:(⟨⟨s⟩⟩:ByteArray).toList=[]
  · rw [if_pos h0] at hc
    simp only [if_true,Option.some.injEq] at hc
    subst hc
    intro x hx; cases hx
  · rw [if_neg h0] at hc
    refine key _ [] l (fun x hx => ?_) (fun x h=>by cases h) hc
    obtain ⟨y,hy,rfl⟩:=List.mem_map.1 hx
    have:=cut_small s y hy
    show y.length<=_
    omega
theorem Gm {W W':World} {M:Nat->Prop} (h:Frm W W' M) (hM:∀ k,¬ M k):W.grownBy W' none:=⟨h.os,h.tape,h.output,h.size,fun k hk _=>h.block k hk (hM k)⟩
theorem Ah {ρ:Go.Shelf.Ren} (L:Lays.n143 Tryz.prog ρ) (hf:ρ.f 143=138) {sv:aA->Bool} (hs:∀ y:aA,y.length=4->APure Tryz.prog 92 [.one (.c (.str y))] (vBool (sv y))) {s:aA} {r:List aA × Bool} (hl:s.length<=1000000) (hr:r=Bd sv s) :
    APure Tryz.prog 40 [.one (.c (.str s))] (.tup [(false,[.c (.sl 1 (r.1.map cS))]),(false,[.c (.lit (.bool r.2))])]):=by
  subst hr
  intro I q w vs hT hA hB hG
  obtain ⟨a,rfl,ha⟩:=uJ hG
  have hB':∀ b,bxL [] b = .absent:=fun b=>mJ (Nat.zero_le _)
  obtain ⟨e1,_⟩:=rF (show Rd I a (.str s) from ha)
  subst e1
  have hno:∀ k,¬ ∃ b,(bxL [] b).uses ((fun _=>none:Go.Ab.Ren) b) k:=fun k ⟨b,h⟩=>by rw [hB'] at h; exact h
  have hS:∀ (y:ByteArray),y.size=4->∀ (l n:Nat) (W:World),Below w.heap.size w W->CallsIn (Fence.wide.inRound l) n Tryz.prog 92 #[.string y] W fun e W'=>e = .returned (.bool (sv y.data.toList))/\W.grownBy W' none:=fun y hy l n W hW=>by
    refine CallsIn.inRound l (callsIn_wide.2 ?_)
    have hA2:Agree I W:=hA.other fun k c hc=>hW.block k (hA.lt hc)
    have ey:y=⟨⟨y.data.toList⟩⟩:=by cases y; rfl
    have hm:y.data.toList.length<=maxLen:=by show y.size<=_; rw [hy]; decide
    refine (hs y.data.toList hy I (fun _=>none) W [.string y] hT hA2 ⟨fun b=>by rw [hB']; rfl,fun b b' k h=>(hno k ⟨b,h⟩).elim,fun b k h=>(hno k ⟨b,h⟩).elim⟩ ⟨rfl,?_⟩).mono ?_
    · intro j v x hv hx
      match j with
      | 0 =>
        simp only [List.getElem?_cons_zero,Option.some.injEq] at hv hx
        subst hv hx
        show Rd I (.string y) (.str y.data.toList)
        conv=>arg 2; rw [ey]
        exact Rd.str _ hm
      | j+1=>simp at hv
    · rintro e W' ⟨v,J,σ,r,bs,rfl,⟨rfl,rfl⟩,hg,_,_,_,hfr,_⟩
      cases hg
      exact ⟨rfl,Gm hfr hno⟩
  have key:=callsIn_wide.1 (Oi (fun y=>sv y.data.toList) L hf 5 (Nat.le_refl _) ⟨⟨s⟩⟩ hl _ (Ld _ _ (Nat.le_refl _)) w hS)
  refine key.mono ?_
  rintro e w' ⟨v,l,ok,rfl,hrow,hb,hc,hn⟩
  have hbm:∀ x,x∈l->x.size<=1000000:=fun x hx=>by
    cases hok:ok with
    | false=>rw [hn hok] at hx; cases hx
    | true =>
      rw [hok] at hc
      exact Gy sv hl hc x hx
  have hr:Bd sv s=(l.map fun x=>x.data.toList,ok):=by
    unfold Bd
    have e0:(⟨⟨s⟩⟩:ByteArray).toList=s:=by rw [ByteArray.toList_eq]
    rw [e0] at hc
    by_cases h0:s=[]
    · rw [if_pos h0] at hc ⊢
      cases ok with
      | true=>simp only [if_true,Option.some.injEq] at hc; subst hc; rfl
      | false=>cases hc
    · rw [if_neg h0] at hc ⊢
      rw [show ((⟨⟨s⟩⟩:ByteArray).data.toList)=s from rfl,Me] at hc
      cases hq:Ky sv (lX s) with
      | none =>
        rw [hq] at hc
        cases ok with
        | true=>cases hc
        | false=>rw [hn rfl]; rfl
      | some l' =>
        rw [hq] at hc
        cases ok with
        | true =>
          simp only [Option.map_some,if_true,Option.some.injEq] at hc
          subst hc
          simp [xg,Function.comp_def]
        | false=>cases hc
  rw [hr]
  have hIs:∀ k,w.heap.size<=k->I k=none:=fun k hk=>by
    cases h:I k with
    | none=>rfl
    | some c=>exact absurd (hA.lt h) (by omega)
  have fin:∀ (J:IH),I.le J->Agree J w'->Rd J v (.sl 1 ((l.map fun x=>x.data.toList).map cS))->(∀ k,k<w.heap.size->J k=I k)->∃ (v0:Value) (J:IH) (σ:Go.Ab.Ren) (r:AV) (bs:List Box),Ending.returned (.tuple #[v,.bool ok]) = .returned v0/\(r=AV.tup [(false,[.c (.sl 1 (((l.map fun x=>x.data.toList)).map cS))]),(false,[.c (.lit (.bool ok))])]/\bs=[])/\GV J σ v0 r/\Agree J w'/\BX J σ w' (bxL bs) /\
      I.le J/\Frm w w' (fun k=>∃ b,(bxL [] b).uses (q b) k)/\(∀ b k,(bxL bs b).uses (σ b) k->w.heap.size<=k\/∃ b',(bxL [] b').uses (q b') k)/\(∀ k,k<w.heap.size->(¬ ∃ b,(bxL [] b).uses (q b) k)->J k=I k)/\(∀ b,b<([]:List Box).length->σ b=q b):=fun J hle Qc hrd hk=>by
    refine ⟨_,J,q,_,_,rfl,⟨rfl,rfl⟩,⟨_,rfl,rfl,fun j x p hx hp => ?_⟩,Qc,⟨fun b => ?_,fun b b' k hu => ?_,fun b k hu => ?_⟩,hle,mV hb _,fun b k hu => ?_,fun k h _=>hk k h,fun _ _=>rfl⟩
    · match j with
      | 0 =>
        simp at hx hp
        subst hx hp
        unfold GP
        rw [if_neg (by simp)]
        exact ⟨_,rfl,(show Rd J v _ from by rw [<- List.map_map]; exact hrd)⟩
      | 1 =>
        simp at hx hp
        subst hx hp
        unfold GP
        rw [if_neg (by simp)]
        exact ⟨_,rfl,Rd.lit _ rfl⟩
      | j+2=>simp at hp
    · have:=hB.ok b; rw [hB'] at this ⊢; exact this
    all_goals (rw [hB'] at hu; exact hu.elim)
  rcases hrow.2 with ⟨rfl,h0⟩ | ⟨g,cap,cur,rfl,hg,hgb,hle,hmax,hsz,htake⟩
  · have:l=[]:=List.eq_nil_of_length_eq_zero h0
    subst this
    exact fin I (IH.le_refl I) (hA.other fun k1 c hc=>hb.block k1 (hA.lt hc)) (.sl none 0 0 1 [] (fun _ _=>undef) rfl (Nat.le_refl _) (Nat.zero_le _) (fun e h=>by cases h) (fun h=>by omega) (fun ad h=>by cases h) (fun i j c h=>by simp at h)) (fun _ _=>rfl)
  · refine fin (I.add g cur) (fun b c hc => ?_) (fun b c hc => ?_) ?_ (fun k hk => ?_)
    · unfold IH.add
      by_cases h:b=g
      · rw [h,hIs g hg] at hc; cases hc
      · rw [if_neg h]; exact hc
    · unfold IH.add at hc
      by_cases h:b=g
      · rw [if_pos h] at hc; cases hc
        subst h
        exact ⟨_,_,hgb⟩
      · rw [if_neg h] at hc
        exact (hA.other fun k1 c hc=>hb.block k1 (hA.lt hc)) b c hc
    · refine Rd.sl (some ⟨g,0,none⟩) l.length cap 1 _ (fun i _ => .string (l.getD i ByteArray.empty)) (by simp) hle hmax (fun e he => ?_) (fun _ h=>by cases h) (fun ad had i j hi hj => ?_) (fun i j c hc => ?_)
      · obtain ⟨x,_,rfl⟩:=List.mem_map.1 he
        rfl
      · cases had
        have e:(⟨g,0,none⟩:Addr).add (i*1+j)=⟨g,i,none⟩:=by
          have:i*1+j=i:=by omega
          rw [this]
          by_cases h0:i=0
          · subst h0; rfl
          · simp [Addr.add,h0]
        rw [e]
        unfold IH.cell IH.add
        rw [if_neg (by simp)]
        simp only [if_true]
        have h1:cur.toList[i]? = (l.map Value.string)[i]? := by rw [<- htake,List.getElem?_take_of_lt (by omega)]
        rw [<- Array.getElem?_toList,h1,List.getElem?_map]
        simp [List.getD,hi]
      · rw [List.map_map] at hc
        by_cases hi:i<l.length
        · have e1:((l.map (cS ∘ fun x:ByteArray=>x.data.toList)).getD i [])=cS (l[i]).data.toList:=by simp [List.getD,hi]
          rw [e1] at hc
          match j with
          | 0 =>
            simp [cS] at hc
            subst hc
            have e2:l.getD i ByteArray.empty=⟨⟨(l[i]).data.toList⟩⟩:=by simp [List.getD,hi]
            rw [e2]
            refine Rd.str _ ?_
            have:=hbm l[i] (List.getElem_mem hi)
            have h3:(l[i]).data.toList.length=(l[i]).size:=rfl
            have hml:1000000<=maxLen:=by decide
            omega
          | j+1=>simp [cS] at hc
        · have:((l.map (cS ∘ fun x:ByteArray=>x.data.toList)).getD i [])=[]:=by simp [List.getD,List.getElem?_eq_none (by simpa using hi:(l.map _).length<=i)]
          rw [this] at hc; simp at hc
    · unfold IH.add
      rw [if_neg (by omega)]
end Go.Proofs
end
section
namespace Go.Ab
open Go
set_option maxRecDepth 100000
set_option maxHeartbeats 4000000
set_option linter.unusedVariables false
set_option linter.unusedSimpArgs false
theorem F.bJ {n:Nat} : ∀ {ai r},G.bJ n ai=some r->APure pZ 210 [.one (wS ai)] (.one (.c (.lit (.bool r)))):=by
 intro ai r h
 refine aU K.bJ (jG ?_)
 unfold C.bJ
 rcases n with _ | n<;>simp only [G.bJ,reduceCtorEq] at h
 have z:=pp () <| pp () <| pp (pp (@jA (Int) _ (fun n x=>G.bJ.L1 n ai x) r (fun x=>ASt.of [eS 0 ai,eI 3 x] [])) ()) <| pp () <| pp (pp (And.intro @G.bJ.L1.eq_1 <| @G.bJ.L1.eq_2) ()) <| pp (pp (@bn [] [] []) ()) <| ()
 exact jK
theorem F.dQ {n:Nat} : ∀ {jU r},G.dQ n jU=some r->APure pZ 211 [.one (wT jU)] (.one (.c (.lit (.bool r)))):=by
 intro jU r h
 refine aU K.dQ (jG ?_)
 unfold C.dQ
 rcases n with _ | n<;>simp only [G.dQ,reduceCtorEq] at h
 have z:=pp (pp @F.bJ ()) <| pp () <| pp (pp (@jA (Int) _ (fun n x=>G.dQ.L1 n jU x) r (fun x=>ASt.of [eT 0 jU,eT 8 jU,eI 9 ((jU.length:Nat):Int),eI 10 x] [])) ()) <| pp () <| pp (pp (And.intro @G.dQ.L1.eq_1 <| @G.dQ.L1.eq_2) ()) <| pp (pp (@bn [] [] []) ()) <| ()
 exact jK
theorem F.aS {n:Nat} : ∀ {ag r},G.aS n ag=some r->APure pZ 171 [.agg (wN ag)] (.one (.c (.lit (.bool r)))):=by
 intro ag r h
 refine aU K.aS (jG ?_)
 unfold C.aS
 rcases n with _ | n<;>simp only [G.aS,reduceCtorEq] at h
 have z:=pp (pp @F.bJ <| pp @F.dQ ()) <| pp () <| pp () <| pp (pp (@lu (Unit) _ (fun n x=>G.aS.K1 n ag) r (fun x=>ASt.of [eP 1 101,(20,.v true (.one (.c (.lit (.bool false)))))] [(101,.var (wN ag))])) ()) <| pp (pp (And.intro @G.aS.K1.eq_1 <| @G.aS.K1.eq_2) ()) <| pp (pp (@bn [] [(101,10)] []) ()) <| ()
 exact jK
theorem F.tC:∀ (n:Nat),∀ {ag gq r},G.aJ n ag gq=some r->APure pZ 124 [.agg (wN ag),.one (wI gq)] (.tup [(false,[wI r.1]),(false,[wI r.2.1]),(false,[.c (.lit (.bool r.2.2))])]):=by
 intro n
 induction n using Nat.strongRecOn with | _ n ih =>
 intro ag gq r h
 refine aU K.aJ (jG ?_)
 unfold C.aJ
 rcases n with _ | n<;>simp only [G.aJ,reduceCtorEq] at h
 have z:=pp (pp ih <| pp @F.aS ()) <| pp () <| pp (pp (@jA (Int × Int × Int) _ (fun n x=>G.aJ.L1 n ag gq x.1 x.2.1 x.2.2) r (fun x=>ASt.of [eI 1 gq,eI 4 x.1,eI 5 x.2.1,(20,.v true (.one (wK ag.Kids))),eI 21 ((ag.Kids.length:Nat):Int),eI 22 x.2.2] [])) ()) <| pp () <| pp (pp (And.intro @G.aJ.L1.eq_1 <| @G.aJ.L1.eq_2) ()) <| pp (pp (@bn [] [] []) ()) <| ()
 exact jK
theorem F.aJ {n:Nat} : ∀ {ag:af} {gq:Int} {r:Int × Int × Bool},G.aJ n ag gq=some r->APure pZ 124 [.agg (wN ag),.one (wI gq)] (.tup [(false,[wI r.1]),(false,[wI r.2.1]),(false,[.c (.lit (.bool r.2.2))])]):=F.tC n
theorem F.cZ {n:Nat} : ∀ {ag:af} {r:Bool},G.cZ n ag=some r->APure pZ 72 [.agg (wN ag)] (.one (.c (.lit (.bool r)))):=by
 intro ag r h
 refine aU K.cZ (jG ?_)
 unfold C.cZ
 cases n with
 | zero=>simp only [G.cZ,reduceCtorEq] at h
 | succ n =>
 simp only [G.cZ] at h
 replace h:=Option.bind_eq_some_iff.1 h
 obtain ⟨v1,hv1,h⟩:=h
 simp -dsimp only [Nz,AOp.opds,AOp.f,AOp.rd,intBin,storeV,lvl,srcOf,reduceIte,Nat.reduceEqDiff,Nat.reduceAdd,Nat.reduceLeDiff,Nat.reduceBEq,reduceCtorEq,Int.reduceBNe,Int.reduceBEq,Int.reduceLT,Int.reduceLE,Int.reduceNeg,Nat.reduceLT,strBin,Int.reduceToNat,renC]
 repeat refine And.intro (by first | (show logOK _ _ _ _=true; kernel_rfl) | (show callOK _ _=true; kernel_rfl) | omega | assumption) ?_
 refine H8 (fun _=>F.aJ hv1) rfl rfl ?_
 try simp -dsimp only [Nz,AOp.opds,AOp.f,AOp.rd,intBin,storeV,lvl,srcOf,reduceIte,Nat.reduceEqDiff,Nat.reduceAdd,Nat.reduceLeDiff,Nat.reduceBEq,reduceCtorEq,Int.reduceBNe,Int.reduceBEq,Int.reduceLT,Int.reduceLE,Int.reduceNeg,Nat.reduceLT,strBin,Int.reduceToNat,renC]
 repeat refine And.intro (by first | (show logOK _ _ _ _=true; kernel_rfl) | (show callOK _ _=true; kernel_rfl) | omega | assumption) ?_
 replace h:=zH.1 h
 rcases h with ⟨c1,h⟩ | ⟨c1,h⟩
 ·simp -dsimp only [Nz,AOp.opds,AOp.f,AOp.rd,intBin,storeV,lvl,srcOf,reduceIte,Nat.reduceEqDiff,Nat.reduceAdd,Nat.reduceLeDiff,Nat.reduceBEq,reduceCtorEq,Int.reduceBNe,Int.reduceBEq,Int.reduceLT,Int.reduceLE,Int.reduceNeg,Nat.reduceLT,strBin,Int.reduceToNat,renC,c1]
  repeat refine And.intro (by first | (show logOK _ _ _ _=true; kernel_rfl) | (show callOK _ _=true; kernel_rfl) | omega | assumption) ?_
  cases h
  (simp -dsimp only [O8,reduceIte,Nat.reduceEqDiff,Nat.reduceAdd,Nat.reduceLeDiff,reduceCtorEq]<;>first | (simp [List.take_of_length_le]; done) | ((try simp only [List.map_take,List.map_drop,List.map_append,List.map_cons,List.map_nil])<;>(repeat' apply And.intro)<;>first | rfl | (simp; done) | (simp<;>omega; done) | (congr 1; exact (List.take_of_length_le (by simp<;>omega)).symm)))
 ·simp -dsimp only [Nz,AOp.opds,AOp.f,AOp.rd,intBin,storeV,lvl,srcOf,reduceIte,Nat.reduceEqDiff,Nat.reduceAdd,Nat.reduceLeDiff,Nat.reduceBEq,reduceCtorEq,Int.reduceBNe,Int.reduceBEq,Int.reduceLT,Int.reduceLE,Int.reduceNeg,Nat.reduceLT,strBin,Int.reduceToNat,renC,c1]
  repeat refine And.intro (by first | (show logOK _ _ _ _=true; kernel_rfl) | (show callOK _ _=true; kernel_rfl) | omega | assumption) ?_
  cases h
  (simp -dsimp only [O8,reduceIte,Nat.reduceEqDiff,Nat.reduceAdd,Nat.reduceLeDiff,reduceCtorEq]<;>first | (simp [List.take_of_length_le]; done) | ((try simp only [List.map_take,List.map_drop,List.map_append,List.map_cons,List.map_nil])<;>(repeat' apply And.intro)<;>first | rfl | (simp; done) | (simp<;>omega; done) | (congr 1; exact (List.take_of_length_le (by simp<;>omega)).symm)))
def B.ren:Go.Shelf.Ren:=⟨fun n=>match n with | 138=>137 | 143=>138 | 147=>38 | 172=>181 | 195=>175 | 197=>176 | 205=>262 | 217=>180 | 218=>177 | 219=>178 | 221=>90 | 224=>214 | 225=>213 | 244=>217 | 245=>218 | 247=>240 | 260=>212 | 266=>216 | 267=>215 | 268=>136 | 279=>241 | 280=>242 | 281=>243 | 282=>244 | 287=>260 | 314=>239 | 316=>261 | 321=>271 | 322=>272 | 99=>144 | 129=>247 | 156=>31 | 165=>76 | 166=>55 | 167=>57 | 169=>58 | 171=>103 | 206=>182 | 240=>101 | 241=>129 | 243=>153 | 246=>185 | 276=>152 | 277=>173 | 283=>221 | 284=>222 | 285=>223 | 286=>224 | 317=>246 | 318=>248 | 319=>249 | 320=>250 | 337=>263 | 338=>264 | _=>0,fun n=>match n with | 21=>21 | 85=>221 | 105=>177 | 119=>213 | 138=>215 | 139=>216 | 143=>247 | 145=>249 | 146=>218 | 167=>220 | 168=>223 | 175=>236 | 210=>239 | 0=>0 | 2=>2 | 3=>3 | 4=>4 | 5=>5 | 9=>9 | 20=>20 | 31=>23 | 37=>22 | 46=>196 | 51=>217 | 53=>200 | 70=>81 | 72=>83 | 75=>85 | 76=>86 | 80=>90 | 127=>129 | 164=>154 | 171=>199 | 173=>203 | 212=>227 | 213=>228 | 232=>250 | 233=>251 | _=>0,fun n=>match n with | 1=>0 | 3=>1 | 4=>2 | 15=>4 | 16=>5 | 17=>3 | 18=>6 | 19=>7 | _=>0⟩
theorem B.QJ:Go.Proofs.Builder.X72 pZ B.ren:=by constructor<;>kernel_rfl
theorem B.x:Go.Proofs.Builder.Extra pZ B.ren:=by constructor<;>first | exact B.QJ | kernel_rfl | (intro w; kernel_rfl) | decide
theorem B.lays167:Go.Proofs.Lays.n167 pZ B.ren:=by constructor<;>first | kernel_rfl | (intro w; kernel_rfl)
theorem F.ax {n:Nat} : ∀ {lV:dF} {o7:Int} {r:Unit × dF},G.ax n lV o7=some r->ACalls pZ 57 [.one (.ptr 0 0),.one (.c (.lit (.int .u8 o7)))] [.var [.opt 83 0,.bbuf 1 lV.buf.length],.row 5 lV.buf] (fun r1 b1=>r1 = .one (.c (.lit .nilIface))/\b1=[.var [.opt 83 0,.bbuf 2 r.2.buf.length],.dead,.row 5 r.2.buf]):=by
 intro b c r h
 rcases n with _ | n<;>simp only [G.ax,reduceCtorEq] at h
 obtain ⟨⟨hc,hl⟩,h⟩:=lF.1 h
 cases h
 exact Ai B.lays167 B.x hc hl
theorem F.bT {n:Nat} : ∀ {lV ai r},G.bT n lV ai=some r->ACalls pZ 77 [.one (.ptr 0 0),.one (wS ai)] [.var [.opt 83 0,.bbuf 1 lV.buf.length],.row 5 lV.buf] (fun r1 b1=>r1 = .tup []/\b1=[.var [.opt 83 0,.bbuf 2 r.buf.length],.dead,.row 5 r.buf]):=by
 intro lV ai r h
 refine eH K.bT (jG ?_)
 unfold C.bT
 rcases n with _ | n<;>simp only [G.bT,reduceCtorEq] at h
 have z:=pp () <| pp (pp (pp @F.ax (@cG [0,1] [101])) <| pp (pp @F.ax (@cG [0,116] [121])) <| pp (pp @F.ax (@cG [0,116] [122])) <| pp (pp @F.ax (@cG [0,119] [120])) <| pp (pp @F.ax (@cG [0,116] [123])) ()) <| pp (pp (@jA (Int × aA) _ (fun n x=>G.bT.L3 n ai x.1 x.2) r (fun x=>ASt.of [eP 0 0,eS 1 ai,eI 4 x.1] [(0,.var [.opt 83 0,.bbuf 116 x.2.length]),(1,.dead),(116,.row 5 x.2)])) ()) <| pp (pp (@lu (Int × aA) _ (fun n x=>G.bT.K4 n ai x.1 x.2) r (fun x=>ASt.of [eP 0 0,eS 1 ai,eI 4 x.1] [(0,.var [.opt 83 0,.bbuf 119 x.2.length]),(1,.dead),(119,.row 5 x.2)])) ()) <| pp (pp (And.intro @G.bT.L3.eq_1 <| And.intro @G.bT.L3.eq_2 <| And.intro @G.bT.K4.eq_1 <| @G.bT.K4.eq_2) ()) <| pp (pp (@bn [] [(0,0),(1,1),(116,101)] []) <| pp (@bn [] [(0,0),(1,1),(119,121)] []) <| pp (@bn [] [(0,0),(1,1),(119,122)] []) <| pp (@bn [] [(0,0),(1,1),(119,116)] []) <| pp (@bn [] [(0,0),(1,1),(116,120)] []) ()) <| (pp (@jR [] [(0,0),(1,1),(2,123)] []) <| pp (@jR [] [(0,0),(1,1),(2,121)] []) ())
 exact jK
theorem B.lays171:Go.Proofs.Lays.n171 pZ B.ren:=by constructor<;>first | kernel_rfl | (intro w; kernel_rfl)
theorem B.laysM171:Go.Proofs.LaysM.n171 pZ B.ren:=by constructor<;>first | exact B.lays171 | kernel_rfl | (intro w; kernel_rfl)
theorem F.strconv_Itoa {n:Nat} : ∀ {NJ:Int} {r:aA},G.strconv_Itoa n NJ=some r->APure pZ 103 [.one (wI NJ)] (.one (wS r)):=by
 intro i r h
 rcases n with _ | n<;>simp only [G.strconv_Itoa,reduceCtorEq] at h
 obtain ⟨⟨h0,hl⟩,h⟩:=lF.1 h
 exact Kt B.laysM171 h0 (Nat.le_trans hl (by decide)) (by cases h; rfl)
theorem B.lays166:Go.Proofs.Lays.n166 pZ B.ren:=by constructor<;>first | kernel_rfl | (intro w; kernel_rfl)
theorem F.eX {n:Nat} : ∀ {lV:dF} {ai:aA} {r:Int × Unit × dF},G.eX n lV ai=some r->ACalls pZ 55 [.one (.ptr 0 0),.one (wS ai)] [.var [.opt 83 0,.bbuf 1 lV.buf.length],.row 5 lV.buf] (fun r1 b1=>r1 = .tup [(false,[wI r.1]),(false,[.c (.lit .nilIface)])]/\b1=[.var [.opt 83 0,.bbuf 2 r.2.2.buf.length],.dead,.row 5 r.2.2.buf]):=by
 intro b s r h
 rcases n with _ | n<;>simp only [G.eX,reduceCtorEq] at h
 obtain ⟨hl,h⟩:=lF.1 h
 cases h
 exact xC B.lays166 B.x hl
theorem F.vT:∀ (n:Nat),∀ {lV ag r},G.aN n lV ag=some r->ACalls pZ 74 [.one (.ptr 0 0),.agg (wN ag)] [.var [.opt 83 0,.bbuf 1 lV.buf.length],.row 5 lV.buf] (fun r1 b1=>r1 = .tup []/\b1=[.var [.opt 83 0,.bbuf 2 r.buf.length],.dead,.row 5 r.buf]):=by
 intro n
 induction n using Nat.strongRecOn with | _ n ih =>
 intro lV ag r h
 refine eH K.aN (jG ?_)
 unfold C.aN
 rcases n with _ | n<;>simp only [G.aN,reduceCtorEq] at h
 have:=Mk.mk 1; have:=Mk.mk 2
 have z:=pp (pp @F.strconv_Itoa ()) <| pp (pp (pp ih (@cG [0,118] [119])) <| pp (pp ih (@cG [0,148] [149])) <| pp (pp @F.eX (@cG [0,1] [101])) <| pp (pp @F.eX (@cG [0,1] [102])) <| pp (pp @F.bT (@cG [0,1] [103])) <| pp (pp @F.ax (@cG [0,1] [104])) <| pp (pp @F.ax (@cG [0,115] [120])) <| pp (pp @F.ax (@cG [0,115] [121])) <| pp (pp @F.ax (@cG [0,1] [122])) <| pp (pp @F.ax (@cG [0,142] [150])) <| pp (pp @F.bT (@cG [0,146] [147])) <| pp (pp @F.ax (@cG [0,147] [148])) <| pp (pp @F.ax (@cG [0,142] [151])) ()) <| pp (pp (@jA (Int × aA) _ (fun n x=>G.aN.L3 n ag x.1 x.2) r (fun x=>ASt.of [eP 0 0,(32,.v true (.one (wK ag.Kids))),eI 33 ((ag.Kids.length:Nat):Int),eI 34 x.1] [(0,.var [.opt 83 0,.bbuf 115 x.2.length]),(1,.dead),(115,.row 5 x.2)])) <| pp (@jA (Int × aA) _ (fun n x=>G.aN.L7 n ag x.1 x.2) r (fun x=>ASt.of [eP 0 0,eP 3 141,(54,.v true (.one (wK ag.Kids))),eI 55 ((ag.Kids.length:Nat):Int),eI 56 x.1] [(0,.var [.opt 83 0,.bbuf 142 x.2.length]),(1,.dead),(141,.var (wN ag)),(142,.row 5 x.2)])) ()) <| pp (pp (@lu (Int × aA) _ (fun n x=>G.aN.K4 n ag x.1 x.2) r (fun x=>ASt.of [eP 0 0,eP 5 117,(32,.v true (.one (wK ag.Kids))),eI 33 ((ag.Kids.length:Nat):Int),eI 34 x.1] [(0,.var [.opt 83 0,.bbuf 118 x.2.length]),(1,.dead),(117,.var [wI ((ag.Kids.getD x.1.toNat default).Kind),wI ((ag.Kids.getD x.1.toNat default).Num),wS ((ag.Kids.getD x.1.toNat default).Text),wT ((ag.Kids.getD x.1.toNat default).Names),wK ((ag.Kids.getD x.1.toNat default).Kids)]),(118,.row 5 x.2)])) <| pp (@lu (Int × aA) _ (fun n x=>G.aN.K8 n ag x.1 x.2) r (fun x=>ASt.of [eP 0 0,eP 3 144,eI 6 x.1,eP 7 145,(54,.v true (.one (wK ag.Kids))),eI 55 ((ag.Kids.length:Nat):Int),eI 56 x.1] [(0,.var [.opt 83 0,.bbuf 146 x.2.length]),(1,.dead),(144,.var (wN ag)),(145,.var [wI ((ag.Kids.getD x.1.toNat default).Kind),wI ((ag.Kids.getD x.1.toNat default).Num),wS ((ag.Kids.getD x.1.toNat default).Text),wT ((ag.Kids.getD x.1.toNat default).Names),wK ((ag.Kids.getD x.1.toNat default).Kids)]),(146,.row 5 x.2)])) ()) <| pp (pp (And.intro @G.aN.L3.eq_1 <| And.intro @G.aN.L3.eq_2 <| And.intro @G.aN.K4.eq_1 <| And.intro @G.aN.K4.eq_2 <| And.intro @G.aN.L7.eq_1 <| And.intro @G.aN.L7.eq_2 <| And.intro @G.aN.K8.eq_1 <| @G.aN.K8.eq_2) ()) <| pp (pp (@bn [] [(0,0),(1,1),(115,104)] []) <| pp (@bn [] [(0,0),(1,1),(117,11),(118,120)] []) <| pp (@bn [] [(0,0),(1,1),(117,11),(118,115)] []) <| pp (@bn [] [(0,0),(1,1),(115,119)] []) <| pp (@bn [] [(0,0),(1,1),(141,10),(142,122)] []) <| pp (@bn [] [(0,0),(1,1),(144,141),(145,12),(146,150)] []) <| pp (@bn [] [(0,0),(1,1),(144,141),(145,12),(146,142)] []) <| pp (@bn [] [(0,0),(1,1),(141,144),(142,149)] []) <| pp (@bn [] [(0,0),(1,1),(141,10),(142,104)] []) ()) <| pp (pp (@jR [] [(0,0),(1,1),(2,101)] []) <| pp (@jR [] [(0,0),(1,1),(2,102)] []) <| pp (@jR [] [(0,0),(1,1),(2,103)] []) <| pp (@jR [] [(0,0),(1,1),(2,121)] []) <| pp (@jR [] [(0,0),(1,1),(2,151)] []) <| pp (@jR [] [(0,0),(1,1),(2,1)] []) <| pp (@jR [] [(0,0),(1,1),(2,120)] []) <| pp (@jR [] [(0,0),(1,1),(2,150)] []) ()) <| (pp (pp (rfl : @G.aN.K4=_) <| pp (rfl : @G.aN.L3=_) ()) <| pp (pp (rfl : @G.aN.K8=_) <| pp (rfl : @G.aN.L7=_) ()) ())
 exact Gg
theorem F.aN {n:Nat} : ∀ {lV:dF} {ag:af} {r:dF},G.aN n lV ag=some r->ACalls pZ 74 [.one (.ptr 0 0),.agg (wN ag)] [.var [.opt 83 0,.bbuf 1 lV.buf.length],.row 5 lV.buf] (fun r1 b1=>r1 = .tup []/\b1=[.var [.opt 83 0,.bbuf 2 r.buf.length],.dead,.row 5 r.buf]):=F.vT n
theorem B.lays169:Go.Proofs.Lays.n169 pZ B.ren:=by constructor<;>first | kernel_rfl | (intro w; kernel_rfl)
theorem F.fF {n:Nat} : ∀ {lV:dF} {r:aA},G.fF n lV=some r->ACalls pZ 58 [.one (.ptr 0 0)] [.var [.opt 83 0,.bbuf 1 lV.buf.length],.row 5 lV.buf] (fun r1 b1=>r1 = .one (wS r)/\b1=[.dead,.dead]):=by
 intro b r h
 rcases n with _ | n<;>simp only [G.fF,reduceCtorEq] at h
 obtain ⟨hl,h⟩:=lF.1 h
 cases h
 exact FU B.lays169 B.x (Nat.le_trans hl (by decide))
theorem F.iE {n:Nat} : ∀ {ag r},G.iE n ag=some r->APure pZ 29 [.agg (wN ag)] (.one (wS r)):=by
 intro ag r h
 refine aU K.iE (jG ?_)
 unfold C.iE
 rcases n with _ | n<;>simp only [G.iE,reduceCtorEq] at h
 have z:=pp (pp @F.cZ ()) <| pp (pp (pp @F.aN (@cG [12,11] [101])) <| pp (pp @F.fF (@cG [12,101] [])) ()) <| pp () <| pp () <| pp () <| pp () <| ()
 exact jK
theorem F.dS {n:Nat} : ∀ {ai o7 r},G.dS n ai o7=some r->APure pZ 180 [.one (wS ai),.one (.c (.lit (.int .u8 o7)))] (.one (wI r)):=by
 intro ai o7 r h
 refine aU K.dS (jG ?_)
 unfold C.dS
 rcases n with _ | n<;>simp only [G.dS,reduceCtorEq] at h
 have z:=pp () <| pp () <| pp () <| pp () <| pp () <| pp () <| ()
 exact jK
theorem F.strings_IndexByte {n:Nat} : ∀ {ai o7 r},G.strings_IndexByte n ai o7=some r->APure pZ 140 [.one (wS ai),.one (.c (.lit (.int .u8 o7)))] (.one (wI r)):=by
 intro ai o7 r h
 refine aU K.strings_IndexByte (jG ?_)
 unfold C.strings_IndexByte
 rcases n with _ | n<;>simp only [G.strings_IndexByte,reduceCtorEq] at h
 have z:=pp (pp @F.dS ()) <| pp () <| pp () <| pp () <| pp () <| pp () <| ()
 exact jK
theorem F.iF {n:Nat} : ∀ {ai r},G.iF n ai=some r->APure pZ 92 [.one (wS ai)] (.one (.c (.lit (.bool r)))):=by
 intro ai r h
 refine aU K.iF (jG ?_)
 unfold C.iF
 rcases n with _ | n<;>simp only [G.iF,reduceCtorEq] at h
 have z:=pp (pp @F.strings_IndexByte ()) <| pp () <| pp (pp (@jA (Int) _ (fun n x=>G.iF.L1 n ai x) r (fun x=>ASt.of [eS 0 ai,eI 3 x] [])) ()) <| pp () <| pp (pp (And.intro @G.iF.L1.eq_1 <| @G.iF.L1.eq_2) ()) <| pp (pp (@bn [] [] []) ()) <| ()
 exact jK
theorem F.dX {n:Nat} : ∀ {aB r},G.dX n aB=some r->APure pZ 71 [.one (wT aB)] (.one (.c (.lit (.bool r)))):=by
 intro aB r h
 refine aU K.dX (jG ?_)
 unfold C.dX
 rcases n with _ | n<;>simp only [G.dX,reduceCtorEq] at h
 have z:=pp (pp @F.iF ()) <| pp () <| pp (pp (@jA (Int) _ (fun n x=>G.dX.L1 n aB x) r (fun x=>ASt.of [eT 8 aB,eI 9 ((aB.length:Nat):Int),eI 10 x] [])) ()) <| pp () <| pp (pp (And.intro @G.dX.L1.eq_1 <| @G.dX.L1.eq_2) ()) <| pp (pp (@bn [] [] []) ()) <| ()
 exact jK
theorem F.bQ {n:Nat} : ∀ {aB r},G.bQ n aB=some r->APure pZ 33 [.one (wT aB)] (.one (wS r)):=by
 intro aB r h
 refine aU K.bQ (jG ?_)
 unfold C.bQ
 rcases n with _ | n<;>simp only [G.bQ,reduceCtorEq] at h
 have z:=pp (pp @F.dX ()) <| pp (pp (pp @F.ax (@cG [115,116] [122])) <| pp (pp @F.eX (@cG [118,119] [120])) <| pp (pp @F.bT (@cG [118,119] [121])) <| pp (pp @F.fF (@cG [115,116] [])) ()) <| pp (pp (@jA (Int × aA) _ (fun n x=>G.bQ.L3 n aB x.1 x.2) r (fun x=>ASt.of [eP 3 115,eT 9 aB,eI 10 ((aB.length:Nat):Int),eI 11 x.1] [(115,.var [.opt 83 115,.bbuf 116 x.2.length]),(116,.row 5 x.2)])) ()) <| pp (pp (@lu (Int × aA) _ (fun n x=>G.bQ.K4 n aB x.1 x.2) r (fun x=>ASt.of [eP 3 118,eS 5 (aB.getD x.1.toNat default),eT 9 aB,eI 10 ((aB.length:Nat):Int),eI 11 x.1] [(118,.var [.opt 83 118,.bbuf 119 x.2.length]),(119,.row 5 x.2)])) ()) <| pp (pp (And.intro @G.bQ.L3.eq_1 <| And.intro @G.bQ.L3.eq_2 <| And.intro @G.bQ.K4.eq_1 <| @G.bQ.K4.eq_2) ()) <| pp (pp (@bn [] [(115,11),(116,10)] []) <| pp (@bn [] [(118,115),(119,122)] []) <| pp (@bn [] [(118,115),(119,116)] []) <| pp (@bn [] [(115,118),(116,120)] []) <| pp (@bn [] [(115,118),(116,121)] []) ()) <| ()
 exact jK
theorem F.jy {n:Nat} : ∀ {ag BI r},G.jy n ag BI=some r->APure pZ 126 [.agg (wN ag),.one (.c (.lit (.bool BI)))] (.tup [(true,(wN r.1)),(false,[.c (.lit (.bool r.2))])]):=by
 intro ag BI r h
 refine aU K.jy (jG ?_)
 unfold C.jy
 rcases n with _ | n<;>simp only [G.jy,reduceCtorEq] at h
 have z:=pp (pp @F.cZ ()) <| pp () <| pp () <| pp () <| pp () <| pp () <| ()
 exact jK
theorem F.wR:∀ (n:Nat),∀ {ag r},G.aX n ag=some r->APure pZ 96 [.agg (wN ag)] (.agg (wN r)):=by
 intro n
 induction n using Nat.strongRecOn with | _ n ih =>
 intro ag r h
 refine aU K.aX (jG ?_)
 unfold C.aX
 rcases n with _ | n<;>simp only [G.aX,reduceCtorEq] at h
 have z:=pp (pp ih ()) <| pp () <| pp (pp (@jA (List aA × Int × List af) _ (fun n x=>G.aX.L2 n ag x.1 x.2.1 x.2.2) r (fun x=>ASt.of [eP 2 113,eP 3 114,(37,.v true (.one (wK ag.Kids))),eI 38 ((ag.Kids.length:Nat):Int),eI 39 x.2.1] [(113,.var zN),(114,.var [wI ag.Kind,wI ag.Num,wS ag.Text,.own 115 x.1.length 1,.own 116 x.2.2.length 5]),(115,.dat 1 (List.map cS x.1)),(116,.dat 5 (List.map af.cells x.2.2))])) ()) <| pp (pp (@lu (List aA) _ (fun n x=>G.aX.K1 n ag x) r (fun x=>ASt.of [eP 1 101,eP 2 102,eP 3 103] [(101,.var (wN ag)),(102,.var zN),(103,.var [wI ag.Kind,wI ag.Num,wS ag.Text,.own 104 x.length 1,.nsl 5]),(104,.dat 1 (List.map cS x))])) ()) <| pp (pp (And.intro @G.aX.K1.eq_1 <| And.intro @G.aX.K1.eq_2 <| And.intro @G.aX.L2.eq_1 <| @G.aX.L2.eq_2) ()) <| pp (pp (@bn [] [(101,10),(102,11),(103,12),(104,13)] []) <| pp (@bn [] [(101,10),(102,11),(103,12)] [104]) <| pp (@bn [] [(113,102),(114,103),(115,104),(116,14)] []) <| pp (@bn [] [(113,113),(114,114),(115,115),(116,116)] []) ()) <| ()
 exact jK
theorem F.aX {n:Nat} : ∀ {ag:af} {r:af},G.aX n ag=some r->APure pZ 96 [.agg (wN ag)] (.agg (wN r)):=F.wR n
theorem F.fA {n:Nat} : ∀ {aQ r},G.fA n aQ=some r->APure pZ 172 [.one (wT aQ)] (.one (.c (.lit (.bool r)))):=by
 intro aQ r h
 refine aU K.fA (jG ?_)
 unfold C.fA
 rcases n with _ | n<;>simp only [G.fA,reduceCtorEq] at h
 have z:=pp (pp @F.bJ ()) <| pp () <| pp (pp (@jA (Int) _ (fun n x=>G.fA.L1 n aQ x) r (fun x=>ASt.of [eT 8 aQ,eI 9 ((aQ.length:Nat):Int),eI 10 x] [])) ()) <| pp () <| pp (pp (And.intro @G.fA.L1.eq_1 <| @G.fA.L1.eq_2) ()) <| pp (pp (@bn [] [] []) ()) <| ()
 exact jK
theorem F.jo {n:Nat} : ∀ {jJ r},G.jo n jJ=some r->APure pZ 125 [.agg [wI jJ.Kind,wT jJ.Path,wT jJ.From,wI jJ.Value.Kind,wI jJ.Value.Num,wS jJ.Value.Text,wT jJ.Value.Names,wK jJ.Value.Kids]] (.one (.c (.lit (.bool r)))):=by
 intro jJ r h
 refine aU K.jo (jG ?_)
 unfold C.jo
 rcases n with _ | n<;>simp only [G.jo,reduceCtorEq] at h
 have z:=pp (pp @F.fA <| pp @F.cZ ()) <| pp () <| pp () <| pp () <| pp () <| pp () <| ()
 exact jK
theorem F.jv {n:Nat} : ∀ {jl r},G.jv n jl=some r->APure pZ 128 [.one (wI jl)] (.one (wS r)):=by
 intro jl r h
 refine aU K.jv (jG ?_)
 unfold C.jv
 rcases n with _ | n<;>simp only [G.jv,reduceCtorEq] at h
 have z:=pp () <| pp () <| pp () <| pp () <| pp () <| pp () <| ()
 exact jK
theorem F.eY {n:Nat} : ∀ {aQ r},G.eY n aQ=some r->APure pZ 127 [.one (wT aQ)] (.agg (wN r)):=by
 intro aQ r h
 refine aU K.eY (jG ?_)
 unfold C.eY
 rcases n with _ | n<;>simp only [G.eY,reduceCtorEq] at h
 have z:=pp () <| pp () <| pp (pp (@jA (Int × List af) _ (fun n x=>G.eY.L1 n aQ x.1 x.2) r (fun x=>ASt.of [eP 2 106,eP 3 107,eT 7 aQ,eI 8 ((aQ.length:Nat):Int),eI 9 x.1] [(106,.var zN),(107,.var [wI 3,wI 0,.c (.str []),.nsl 1,.own 108 x.2.length 5]),(108,.dat 5 (List.map af.cells x.2))])) ()) <| pp () <| pp (pp (And.intro @G.eY.L1.eq_1 <| @G.eY.L1.eq_2) ()) <| pp (pp (@bn [] [(106,10),(107,11)] [108]) <| pp (@bn [] [(106,106),(107,107),(108,13)] []) ()) <| ()
 exact jK
theorem F.jf {n:Nat} : ∀ {jJ r},G.jf n jJ=some r->APure pZ 75 [.agg [wI jJ.Kind,wT jJ.Path,wT jJ.From,wI jJ.Value.Kind,wI jJ.Value.Num,wS jJ.Value.Text,wT jJ.Value.Names,wK jJ.Value.Kids]] (.tup [(true,(wN r.1)),(false,[.c (.lit (.bool r.2))])]):=by
 intro jJ r h
 refine aU K.jf (jG ?_)
 unfold C.jf
 rcases n with _ | n<;>simp only [G.jf,reduceCtorEq] at h
 have z:=pp (pp @F.jo <| pp @F.eY <| pp @F.jv <| pp @F.aX <| pp @F.jy ()) <| pp () <| pp () <| pp () <| pp () <| pp () <| ()
 exact jK
theorem F.eU {n:Nat} : ∀ {aB r},G.eU n aB=some r->APure pZ 30 [.one (.c (.sl 8 (List.map iI.cells aB)))] (.tup [(false,[wS r.1]),(false,[.c (.lit (.bool r.2))])]):=by
 intro aB r h
 refine aU K.eU (jG ?_)
 unfold C.eU
 rcases n with _ | n<;>simp only [G.eU,reduceCtorEq] at h
 have z:=pp (pp @F.jf ()) <| pp (pp (pp @F.aN (@cG [109,110] [111])) <| pp (pp @F.ax (@cG [109,111] [112])) <| pp (pp @F.fF (@cG [109,110] [])) ()) <| pp (pp (@jA (Int × aA) _ (fun n x=>G.eU.L1 n aB x.1 x.2) r (fun x=>ASt.of [eP 4 109,(9,.v true (.one (.c (.sl 8 (List.map iI.cells aB))))),eI 10 ((aB.length:Nat):Int),eI 11 x.1] [(109,.var [.opt 83 109,.bbuf 110 x.2.length]),(110,.row 5 x.2)])) ()) <| pp () <| pp (pp (And.intro @G.eU.L1.eq_1 <| @G.eU.L1.eq_2) ()) <| pp (pp (@bn [] [(109,11),(110,10)] []) <| pp (@bn [] [(109,109),(110,112)] []) ()) <| ()
 exact jK
theorem F.bP {n:Nat} : ∀ {aB r},G.bP n aB=some r->APure pZ 73 [.one (.c (.sl 8 (List.map iI.cells aB)))] (.one (.c (.lit (.bool r)))):=by
 intro aB r h
 refine aU K.bP (jG ?_)
 unfold C.bP
 rcases n with _ | n<;>simp only [G.bP,reduceCtorEq] at h
 have z:=pp (pp @F.jo ()) <| pp () <| pp (pp (@jA (Int) _ (fun n x=>G.bP.L1 n aB x) r (fun x=>ASt.of [(8,.v true (.one (.c (.sl 8 (List.map iI.cells aB))))),eI 9 ((aB.length:Nat):Int),eI 10 x] [])) ()) <| pp () <| pp (pp (And.intro @G.bP.L1.eq_1 <| @G.bP.L1.eq_2) ()) <| pp (pp (@bn [] [] []) ()) <| ()
 exact jK
theorem F.fM {n:Nat} : ∀ {ai r},G.fM n ai=some r->APure pZ 70 [.one (wS ai)] (.one (.c (.lit (.bool r)))):=by
 intro ai r h
 refine aU K.fM (jG ?_)
 unfold C.fM
 rcases n with _ | n<;>simp only [G.fM,reduceCtorEq] at h
 have z:=pp () <| pp () <| pp (pp (@jA (Int) _ (fun n x=>G.fM.L1 n ai x) r (fun x=>ASt.of [eS 0 ai,eI 3 x] [])) ()) <| pp () <| pp (pp (And.intro @G.fM.L1.eq_1 <| @G.fM.L1.eq_2) ()) <| pp (pp (@bn [] [] []) ()) <| ()
 exact jK
theorem F.gV {n:Nat} : ∀ {bH r},G.gV n bH=some r->APure pZ 28 [.agg [wI bH.Method,wS bH.Name,wT bH.Want,wT bH.jk,wI bH.Body.Kind,wI bH.Body.Num,wS bH.Body.Text,wT bH.Body.Names,wK bH.Body.Kids,.c (.sl 8 (List.map iI.cells bH.Ops))]] (.one (.c (.lit (.bool r)))):=by
 intro bH r h
 refine aU K.gV (jG ?_)
 unfold C.gV
 rcases n with _ | n<;>simp only [G.gV,reduceCtorEq] at h
 have z:=pp (pp @F.fM <| pp @F.dX <| pp @F.cZ <| pp @F.bP ()) <| pp () <| pp () <| pp () <| pp () <| pp () <| ()
 exact jK
theorem F.gI {n:Nat} : ∀ {lU r},G.gI n lU=some r->APure pZ 32 [.one (wI lU)] (.one (wS r)):=by
 intro lU r h
 refine aU K.gI (jG ?_)
 unfold C.gI
 rcases n with _ | n<;>simp only [G.gI,reduceCtorEq] at h
 have z:=pp () <| pp () <| pp () <| pp () <| pp () <| pp () <| ()
 exact jK
theorem B.lays156:Go.Proofs.Lays.n156 pZ B.ren:=by constructor<;>first | kernel_rfl | (intro w; kernel_rfl)
theorem F.strings_Join {n:Nat} : ∀ {BH:List aA} {xB:aA} {r:aA},G.strings_Join n BH xB=some r->APure pZ 31 [.one (wT BH),.one (wS xB)] (.one (wS r)):=by
 intro l s r h
 rcases n with _ | n<;>simp only [G.strings_Join,reduceCtorEq] at h
 obtain ⟨⟨h0,hl⟩,h⟩:=lF.1 h
 exact Ku B.lays156 B.x h0 hl (by cases h; rfl)
theorem F.ah {n:Nat} : ∀ {bH r},G.ah n bH=some r->APure pZ 11 [.agg [wI bH.Method,wS bH.Name,wT bH.Want,wT bH.jk,wI bH.Body.Kind,wI bH.Body.Num,wS bH.Body.Text,wT bH.Body.Names,wK bH.Body.Kids,.c (.sl 8 (List.map iI.cells bH.Ops))]] (.one (wS r)):=by
 intro bH r h
 refine aU K.ah (jG ?_)
 unfold C.ah
 rcases n with _ | n<;>simp only [G.ah,reduceCtorEq] at h
 have:=Mk.mk 1; have:=Mk.mk 2; have:=Mk.mk 3; have:=Mk.mk 4
 have z:=pp (pp @F.gV <| pp @F.iE <| pp @F.eU <| pp @F.gI <| pp @F.bQ <| pp @F.strings_Join ()) <| pp () <| pp () <| pp (pp (@lu (Unit) _ (fun n x=>G.ah.K1 n bH) r (fun x=>ASt.of [eP 1 101,(36,.v true (.one (.c (.lit (.bool false)))))] [(101,.var [wI bH.Method,wS bH.Name,wT bH.Want,wT bH.jk,wI bH.Body.Kind,wI bH.Body.Num,wS bH.Body.Text,wT bH.Body.Names,wK bH.Body.Kids,.c (.sl 8 (List.map iI.cells bH.Ops))])])) <| pp (@lu (aA) _ (fun n x=>G.ah.K2 n bH x) r (fun x=>ASt.of [eP 1 102,eS 4 x] [(102,.var [wI bH.Method,wS bH.Name,wT bH.Want,wT bH.jk,wI bH.Body.Kind,wI bH.Body.Num,wS bH.Body.Text,wT bH.Body.Names,wK bH.Body.Kids,.c (.sl 8 (List.map iI.cells bH.Ops))])])) <| pp (@lu (Unit) _ (fun n x=>G.ah.K3 n bH) r (fun x=>ASt.of [eP 1 103,(36,.v true (.one (.c (.lit (.bool false)))))] [(103,.var [wI bH.Method,wS bH.Name,wT bH.Want,wT bH.jk,wI bH.Body.Kind,wI bH.Body.Num,wS bH.Body.Text,wT bH.Body.Names,wK bH.Body.Kids,.c (.sl 8 (List.map iI.cells bH.Ops))])])) <| pp (@lu (aA) _ (fun n x=>G.ah.K4 n bH x) r (fun x=>ASt.of [eP 1 104,eS 4 x] [(104,.var [wI bH.Method,wS bH.Name,wT bH.Want,wT bH.jk,wI bH.Body.Kind,wI bH.Body.Num,wS bH.Body.Text,wT bH.Body.Names,wK bH.Body.Kids,.c (.sl 8 (List.map iI.cells bH.Ops))])])) ()) <| pp (pp (And.intro @G.ah.K1.eq_1 <| And.intro @G.ah.K1.eq_2 <| And.intro @G.ah.K2.eq_1 <| And.intro @G.ah.K2.eq_2 <| And.intro @G.ah.K3.eq_1 <| And.intro @G.ah.K3.eq_2 <| And.intro @G.ah.K4.eq_1 <| @G.ah.K4.eq_2) ()) <| pp (pp (@bn [] [(101,10)] []) <| pp (@bn [] [(102,101)] []) <| pp (@bn [] [(103,10)] []) <| pp (@bn [] [(104,103)] []) ()) <| pp () <| (pp (pp (rfl : @G.ah.K1=_) ()) <| pp (pp (rfl : @G.ah.K2=_) <| pp (rfl : @G.ah.K1=_) ()) <| pp (pp (rfl : @G.ah.K3=_) ()) <| pp (pp (rfl : @G.ah.K4=_) <| pp (rfl : @G.ah.K3=_) ()) ())
 exact Gg
theorem F.dR {n:Nat} : ∀ {ag r},G.dR n ag=some r->APure pZ 146 [.agg (wN ag)] (.tup [(false,[wT r.1]),(false,[.c (.lit (.bool r.2))])]):=by
 intro ag r h
 refine aU K.dR (jG ?_)
 unfold C.dR
 rcases n with _ | n<;>simp only [G.dR,reduceCtorEq] at h
 have z:=pp (pp @F.fA ()) <| pp () <| pp (pp (@jA (Int × List aA) _ (fun n x=>G.dR.L1 n ag x.1 x.2) r (fun x=>ASt.of [(4,.v true (.one (.own 102 x.2.length 1))),(11,.v true (.one (wK ag.Kids))),eI 12 ((ag.Kids.length:Nat):Int),eI 13 x.1] [(102,.dat 1 (List.map cS x.2))])) ()) <| pp () <| pp (pp (And.intro @G.dR.L1.eq_1 <| @G.dR.L1.eq_2) ()) <| pp (pp (@bn [] [] [102]) <| pp (@bn [] [(102,13)] []) ()) <| ()
 exact jK
theorem F.bV {n:Nat} : ∀ {kH lK kG r},G.bV n kH lK kG=some r->APure pZ 39 [.one (wS kH),.one (wI lK),.one (wI kG),.one (.fn 128 [])] (.tup [(false,[wI r.1]),(false,[.c (.lit (.bool r.2))])]):=by
 intro kH lK kG r h
 refine aU K.bV (jG ?_)
 unfold C.nO
 rcases n with _ | n<;>simp only [G.bV,reduceCtorEq] at h
 have z:=pp (pp @F.jv ()) <| pp () <| pp (pp (@jA (Int) _ (fun n x=>G.bV.L1 n kH kG x) r (fun x=>ASt.of [eS 0 kH,eI 2 kG,(3,.v true (.one (.fn 128 []))),eI 10 x] [])) ()) <| pp () <| pp (pp (And.intro @G.bV.L1.eq_1 <| @G.bV.L1.eq_2) ()) <| pp (pp (@bn [] [] []) ()) <| ()
 exact jK
theorem F.slices_Equal_string {n:Nat} : ∀ {oV qw r},G.slices_Equal_string n oV qw=some r->APure pZ 145 [.one (wT oV),.one (wT qw)] (.one (.c (.lit (.bool r)))):=by
 intro oV qw r h
 refine aU K.slices_Equal_string (jG ?_)
 unfold C.slices_Equal_string
 rcases n with _ | n<;>simp only [G.slices_Equal_string,reduceCtorEq] at h
 have z:=pp () <| pp () <| pp (pp (@jA (Int) _ (fun n x=>G.slices_Equal_string.L1 n oV qw x) r (fun x=>ASt.of [eT 0 oV,eT 1 qw,eI 12 ((oV.length:Nat):Int),eI 13 x] [])) ()) <| pp () <| pp (pp (And.intro @G.slices_Equal_string.L1.eq_1 <| @G.slices_Equal_string.L1.eq_2) ()) <| pp (pp (@bn [] [] []) ()) <| ()
 exact jK
theorem F.je {n:Nat} : ∀ {ag r},G.je n ag=some r->APure pZ 95 [.agg (wN ag)] (.tup [(true,[wI r.1.Kind,wT r.1.Path,wT r.1.From,wI r.1.Value.Kind,wI r.1.Value.Num,wS r.1.Value.Text,wT r.1.Value.Names,wK r.1.Value.Kids]),(false,[.c (.lit (.bool r.2))])]):=by
 intro ag r h
 refine aU K.je (jG ?_)
 unfold C.je
 rcases n with _ | n<;>simp only [G.je,reduceCtorEq] at h
 have z:=pp (pp @F.cZ <| pp @F.slices_Equal_string <| pp @F.dR <| pp @F.aX ()) <| pp (pp (pp @F.bV (@cG [] [])) ()) <| pp () <| pp () <| pp () <| pp () <| ()
 exact jK
theorem B.lays172:Go.Proofs.Lays.n172 pZ B.ren:=by constructor<;>first | kernel_rfl | (intro w; kernel_rfl)
theorem B.IP:Go.Proofs.LaysM.n172 pZ B.ren:=by constructor<;>first | exact B.lays172 | kernel_rfl | (intro w; kernel_rfl)
theorem B.laysC172:Go.Proofs.LaysC.n172 pZ B.ren:=by constructor<;>first | exact B.IP | kernel_rfl | (intro w; kernel_rfl)
theorem F.strconv_Atoi {n:Nat} : ∀ {ai:aA} {r:Int × Bool},G.strconv_Atoi n ai=some r->APure pZ 181 [.one (wS ai)] (.tup [(false,[wI r.1]),(false,[.err r.2])]):=by
 intro s r h
 rcases n with _ | n<;>simp only [G.strconv_Atoi,reduceCtorEq] at h
 obtain ⟨hl,h⟩:=lF.1 h
 exact Kr B.laysC172 hl (by cases h; rfl)
theorem F.aW {n:Nat} : ∀ {aC r},G.aW n aC=some r->ACalls pZ 143 [.one (.ptr 0 0)] [.var [wS aC.text,wI aC.at_]] (fun r1 b1=>r1 = .tup [(true,(wN r.1)),(false,[.c (.lit (.bool r.2.1))])]/\b1=[.var [wS r.2.2.text,wI r.2.2.at_]]):=by
 intro aC r h
 refine eH K.aW (jG ?_)
 unfold C.aW
 rcases n with _ | n<;>simp only [G.aW,reduceCtorEq] at h
 have z:=pp (pp @F.strconv_Atoi <| pp @F.strconv_Itoa ()) <| pp () <| pp (pp (@jA (Int) _ (fun n x=>G.aW.L1 n aC x) r (fun x=>ASt.of [eP 0 0,eP 2 103,eI 4 x] [(0,.var [wS aC.text,wI aC.at_]),(103,.var zN)])) ()) <| pp () <| pp (pp (And.intro @G.aW.L1.eq_1 <| @G.aW.L1.eq_2) ()) <| pp (pp (@bn [] [(0,0),(103,10)] []) <| pp (@bn [] [(0,0),(103,103)] []) ()) <| (pp (@jR [] [(0,0)] []) ())
 exact jK
theorem B.lays99:Go.Proofs.Lays.n99 pZ B.ren:=by constructor<;>first | kernel_rfl | (intro w; kernel_rfl)
theorem F.strings_HasPrefix {n:Nat} : ∀ {ai:aA} {zx:aA} {r:Bool},G.strings_HasPrefix n ai zx=some r->APure pZ 144 [.one (wS ai),.one (wS zx)] (.one (.c (.lit (.bool r)))):=by
 intro s p r h
 rcases n with _ | n<;>simp only [G.strings_HasPrefix,reduceCtorEq] at h
 exact Ag B.lays99 (by cases h; rfl)
theorem F.dm {n:Nat} : ∀ {aC ai r},G.dm n aC ai=some r->ACalls pZ 94 [.one (.ptr 0 0),.one (wS ai)] [.var [wS aC.text,wI aC.at_]] (fun r1 b1=>r1 = .one (.c (.lit (.bool r.1)))/\b1=[.var [wS r.2.text,wI r.2.at_]]):=by
 intro aC ai r h
 refine eH K.dm (jG ?_)
 unfold C.dm
 rcases n with _ | n<;>simp only [G.dm,reduceCtorEq] at h
 have z:=pp (pp @F.strings_HasPrefix ()) <| pp () <| pp () <| pp () <| pp () <| pp () <| (pp (@jR [] [(0,0)] []) ())
 exact jK
theorem F.aH {n:Nat} : ∀ {aC r},G.aH n aC=some r->ACalls pZ 141 [.one (.ptr 0 0)] [.var [wS aC.text,wI aC.at_]] (fun r1 b1=>r1 = .tup [(false,[wS r.1]),(false,[.c (.lit (.bool r.2.1))])]/\b1=[.var [wS r.2.2.text,wI r.2.2.at_]]):=by
 intro aC r h
 refine eH K.aH (jG ?_)
 unfold C.aH
 rcases n with _ | n<;>simp only [G.aH,reduceCtorEq] at h
 have z:=pp () <| pp (pp (pp @F.dm (@cG [0] [])) <| pp (pp @F.fF (@cG [111,112] [])) <| pp (pp @F.ax (@cG [113,114] [115])) ()) <| pp (pp (@jA ((Bool × au) × Int × aA) _ (fun n x=>G.aH.L3 n x.1 x.2.1 x.2.2) r (fun x=>ASt.of [eP 0 0,eP 4 111] [(0,.var [wS x.1.2.text,wI x.2.1]),(111,.var [.opt 83 111,.bbuf 112 x.2.2.length]),(112,.row 5 x.2.2)])) ()) <| pp (pp (@lu ((Bool × au) × aA × Int × Int) _ (fun n x=>G.aH.K4 n x.1 x.2.1 x.2.2.1 x.2.2.2) r (fun x=>ASt.of [eP 0 0,eP 4 113,(5,.v true (.one (.c (.lit (.int .u8 x.2.2.1)))))] [(0,.var [wS x.1.2.text,wI x.2.2.2]),(113,.var [.opt 83 113,.bbuf 114 x.2.1.length]),(114,.row 5 x.2.1)])) ()) <| pp (pp (And.intro @G.aH.L3.eq_1 <| And.intro @G.aH.L3.eq_2 <| And.intro @G.aH.K4.eq_1 <| @G.aH.K4.eq_2) ()) <| pp (pp (@bn [] [(0,0),(111,11),(112,10)] []) <| pp (@bn [] [(0,0),(113,111),(114,112)] []) <| pp (@bn [] [(0,0),(111,113),(112,115)] []) ()) <| (pp (@jR [] [(0,0)] []) ())
 exact jK
theorem F.nU:∀ (n:Nat),(∀ {aC gq r},G.cu n aC gq=some r->ACalls pZ 93 [.one (.ptr 0 0),.one (wI gq)] [.var [wS aC.text,wI aC.at_]] (fun r1 b1=>r1 = .tup [(true,(wN r.1)),(false,[.c (.lit (.bool r.2.1))])]/\b1=[.var [wS r.2.2.text,wI r.2.2.at_]]))/\(∀ {aC jl gq jI r},G.aP n aC jl gq jI=some r->ACalls pZ 142 [.one (.ptr 0 0),.one (wI jl),.one (wI gq),.one (wS jI)] [.var [wS aC.text,wI aC.at_]] (fun r1 b1=>r1 = .tup [(true,(wN r.1)),(false,[.c (.lit (.bool r.2.1))])]/\b1=[.var [wS r.2.2.text,wI r.2.2.at_]])):=by
 intro n
 induction n using Nat.strongRecOn with | _ n ih =>
 refine ⟨?_,?_⟩
 ·intro aC gq r h
  refine eH K.cu (jG ?_)
  unfold C.cu
  rcases n with _ | n<;>simp only [G.cu,reduceCtorEq] at h
  have z:=pp () <| pp (pp (pp (ihR ih) (@cG [0] [])) <| pp (pp @F.dm (@cG [0] [])) <| pp (pp @F.aH (@cG [0] [])) <| pp (pp @F.aW (@cG [0] [])) ()) <| pp () <| pp () <| pp () <| pp () <| (pp (@jR [] [(0,0)] []) ())
  exact jK
 ·intro aC jl gq jI r h
  refine eH K.aP (jG ?_)
  unfold C.aP
  rcases n with _ | n<;>simp only [G.aP,reduceCtorEq] at h
  have z:=pp () <| pp (pp (pp (ihL ih) (@cG [0] [])) <| pp (pp @F.dm (@cG [0] [])) <| pp (pp @F.aH (@cG [0] [])) ()) <| pp (pp (@jA (aA × Int × List aA × List af) _ (fun n x=>G.aP.L3 n jl gq jI x.1 x.2.1 x.2.2.1 x.2.2.2) r (fun x=>ASt.of [eP 0 0,eI 1 jl,eI 2 gq,eS 3 jI,eP 8 114,eP 10 115] [(0,.var [wS x.1,wI x.2.1]),(114,.var zN),(115,.var [wI jl,wI 0,.c (.str []),.own 116 x.2.2.1.length 1,.own 117 x.2.2.2.length 5]),(116,.dat 1 (List.map cS x.2.2.1)),(117,.dat 5 (List.map af.cells x.2.2.2))])) ()) <| pp (pp (@lu (List af × aA × Int × List aA) _ (fun n x=>G.aP.K4 n jl gq jI x.1 x.2.1 x.2.2.1 x.2.2.2) r (fun x=>ASt.of [eP 0 0,eI 1 jl,eI 2 gq,eS 3 jI,eP 8 118,eP 10 119] [(0,.var [wS x.2.1,wI x.2.2.1]),(118,.var zN),(119,.var [wI jl,wI 0,.c (.str []),.own 120 x.2.2.2.length 1,.own 121 x.1.length 5]),(120,.dat 1 (List.map cS x.2.2.2)),(121,.dat 5 (List.map af.cells x.1))])) ()) <| pp (pp (And.intro @G.aP.L3.eq_1 <| And.intro @G.aP.L3.eq_2 <| And.intro @G.aP.K4.eq_1 <| @G.aP.K4.eq_2) ()) <| pp (pp (@bn [] [(0,0),(114,10),(115,11)] [116,117]) <| pp (@bn [] [(0,0),(118,114),(119,115),(120,13),(121,117)] []) <| pp (@bn [] [(0,0),(118,114),(119,115),(120,116),(121,117)] []) <| pp (@bn [] [(0,0),(114,118),(115,119),(116,120),(117,16)] []) ()) <| (pp (@jR [] [(0,0)] []) <| pp (@jR [16,120] [(0,0)] []) ())
  exact jK
theorem F.cu {n:Nat} : ∀ {aC:au} {gq:Int} {r:af × Bool × au},G.cu n aC gq=some r->ACalls pZ 93 [.one (.ptr 0 0),.one (wI gq)] [.var [wS aC.text,wI aC.at_]] (fun r1 b1=>r1 = .tup [(true,(wN r.1)),(false,[.c (.lit (.bool r.2.1))])]/\b1=[.var [wS r.2.2.text,wI r.2.2.at_]]):=(F.nU n).1
theorem F.iR {n:Nat} : ∀ {ai r},G.iR n ai=some r->APure pZ 42 [.one (wS ai)] (.tup [(true,(wN r.1)),(false,[.c (.lit (.bool r.2))])]):=by
 intro ai r h
 refine aU K.iR (jG ?_)
 unfold C.iR
 rcases n with _ | n<;>simp only [G.iR,reduceCtorEq] at h
 have z:=pp (pp @F.cZ <| pp @F.aX ()) <| pp (pp (pp @F.cu (@cG [11] [])) ()) <| pp () <| pp () <| pp () <| pp () <| ()
 exact jK
theorem B.lays143:Go.Proofs.Lays.n143 pZ B.ren:=by constructor<;>first | kernel_rfl | (intro w; kernel_rfl)
theorem F.jF {n:Nat} : ∀ {ai:aA} {r:List aA × Bool},G.jF n ai=some r->APure pZ 40 [.one (wS ai)] (.tup [(false,[wT r.1]),(false,[.c (.lit (.bool r.2))])]):=by
 intro s r h
 rcases n with _ | n<;>simp only [G.jF,reduceCtorEq] at h
 obtain ⟨hl,h⟩:=lF.1 h
 exact Go.Proofs.Ah B.lays143 (by kernel_rfl) (fun y hy=>(T.iF y (by unfold big; omega)).val.elim fun m hm=>F.iF hm) hl (by cases h; rfl)
theorem F.bC {n:Nat} : ∀ {kH lK kG r},G.bC n kH lK kG=some r->APure pZ 39 [.one (wS kH),.one (wI lK),.one (wI kG),.one (.fn 32 [])] (.tup [(false,[wI r.1]),(false,[.c (.lit (.bool r.2))])]):=by
 intro kH lK kG r h
 refine aU K.bC (jG ?_)
 unfold C.nO
 rcases n with _ | n<;>simp only [G.bC,reduceCtorEq] at h
 have z:=pp (pp @F.gI ()) <| pp () <| pp (pp (@jA (Int) _ (fun n x=>G.bC.L1 n kH kG x) r (fun x=>ASt.of [eS 0 kH,eI 2 kG,(3,.v true (.one (.fn 32 []))),eI 10 x] [])) ()) <| pp () <| pp (pp (And.intro @G.bC.L1.eq_1 <| @G.bC.L1.eq_2) ()) <| pp (pp (@bn [] [] []) ()) <| ()
 exact jK
theorem F.gm {n:Nat} : ∀ {ai r},G.gm n ai=some r->APure pZ 41 [.one (wS ai)] (.tup [(false,[.c (.sl 8 (List.map iI.cells r.1))]),(false,[.c (.lit (.bool r.2))])]):=by
 intro ai r h
 refine aU K.gm (jG ?_)
 unfold C.gm
 rcases n with _ | n<;>simp only [G.gm,reduceCtorEq] at h
 have z:=pp (pp @F.je ()) <| pp (pp (pp @F.cu (@cG [105] [])) <| pp (pp @F.dm (@cG [105] [])) ()) <| pp (pp (@jA (List iI × aA × Int) _ (fun n x=>G.gm.L1 n ai x.1 x.2.1 x.2.2) r (fun x=>ASt.of [eS 0 ai,(4,.v true (.one (.own 104 x.1.length 8))),eP 5 105] [(104,.dat 8 (List.map iI.cells x.1)),(105,.var [wS x.2.1,wI x.2.2])])) ()) <| pp () <| pp (pp (And.intro @G.gm.L1.eq_1 <| @G.gm.L1.eq_2) ()) <| pp (pp (@bn [] [(105,10)] [104]) <| pp (@bn [] [(104,14),(105,105)] []) ()) <| ()
 exact jK
theorem B.lays147:Go.Proofs.Lays.n147 pZ B.ren:=by constructor<;>first | kernel_rfl | (intro w; kernel_rfl)
theorem F.strings_SplitN {n:Nat} : ∀ {ai xB:aA} {ag:Int} {r:List aA},G.strings_SplitN n ai xB ag=some r->APure pZ 38 [.one (wS ai),.one (wS xB),.one (wI ag)] (.one (wT r)):=by
 intro s sep k r h
 rcases n with _ | n<;>simp only [G.strings_SplitN,reduceCtorEq] at h
 obtain ⟨⟨h1,h2,h3,h4⟩,h⟩:=lF.1 h
 exact FT B.lays147 (by kernel_rfl) h1 h2 h3 h4 (by kernel_rfl) (by cases h; rfl)
theorem F.dG {n:Nat} : ∀ {ai r},G.dG n ai=some r->APure pZ 13 [.one (wS ai)] (.tup [(true,[wI r.1.Method,wS r.1.Name,wT r.1.Want,wT r.1.jk,wI r.1.Body.Kind,wI r.1.Body.Num,wS r.1.Body.Text,wT r.1.Body.Names,wK r.1.Body.Kids,.c (.sl 8 (List.map iI.cells r.1.Ops))]),(false,[.c (.lit (.bool r.2))])]):=by
 intro ai r h
 refine aU K.dG (jG ?_)
 unfold C.dG
 rcases n with _ | n<;>simp only [G.dG,reduceCtorEq] at h
 have z:=pp (pp @F.strings_SplitN <| pp @F.jF <| pp @F.gm <| pp @F.iR <| pp @F.ah ()) <| pp (pp (pp @F.bC (@cG [] [])) ()) <| pp () <| pp (pp (@lu (List aA × (Int × Bool) × (List aA × Bool) × (List aA × Bool) × Bool × Int × Int × aA × List aA × List af × List iI) _ (fun n x=>G.dG.K1 n ai x.1 x.2.1 x.2.2.1 x.2.2.2.1 x.2.2.2.2.1 x.2.2.2.2.2.1 x.2.2.2.2.2.2.1 x.2.2.2.2.2.2.2.1 x.2.2.2.2.2.2.2.2.1 x.2.2.2.2.2.2.2.2.2.1 x.2.2.2.2.2.2.2.2.2.2) r (fun x=>ASt.of [eS 0 ai,eP 2 101,eP 11 102,(12,.v true (.one (.c (.lit (.bool x.2.2.2.2.1)))))] [(101,.var [wI 0,.c (.str []),.nsl 1,.nsl 1,wI 0,wI 0,.c (.str []),.nsl 1,.nsl 5,.nsl 8]),(102,.var [wI x.2.1.1,wS (x.1.getD 1 default),wT x.2.2.1.1,wT x.2.2.2.1.1,wI x.2.2.2.2.2.1,wI x.2.2.2.2.2.2.1,wS x.2.2.2.2.2.2.2.1,wT x.2.2.2.2.2.2.2.2.1,wK x.2.2.2.2.2.2.2.2.2.1,.c (.sl 8 (List.map iI.cells x.2.2.2.2.2.2.2.2.2.2))])])) ()) <| pp (pp (And.intro @G.dG.K1.eq_1 <| @G.dG.K1.eq_2) ()) <| pp (pp (@bn [] [(101,10),(102,11)] []) ()) <| ()
 exact jK
theorem F.bU {n:Nat} : ∀ {fO fK r},G.bU n fO fK=some r->APure pZ 43 [.one (wT fO),.one (wT fK)] (.one (.c (.lit (.bool r)))):=by
 intro fO fK r h
 refine aU K.bU (jG ?_)
 unfold C.bU
 rcases n with _ | n<;>simp only [G.bU,reduceCtorEq] at h
 have z:=pp () <| pp () <| pp (pp (@jA (Int) _ (fun n x=>G.bU.L1 n fO fK x) r (fun x=>ASt.of [eT 0 fO,eT 1 fK,eI 5 x] [])) ()) <| pp () <| pp (pp (And.intro @G.bU.L1.eq_1 <| @G.bU.L1.eq_2) ()) <| pp (pp (@bn [] [] []) ()) <| ()
 exact jK
theorem F.tY:∀ (n:Nat),(∀ {fO fK r},G.fG n fO fK=some r->APure pZ 44 [.agg (wN fO),.agg (wN fK)] (.one (.c (.lit (.bool r)))))/\(∀ {fO fK r},G.eu n fO fK=some r->APure pZ 97 [.one (wK fO),.one (wK fK)] (.one (.c (.lit (.bool r))))):=by
 intro n
 induction n using Nat.strongRecOn with | _ n ih =>
 refine ⟨?_,?_⟩
 ·intro fO fK r h
  refine aU K.fG (jG ?_)
  unfold C.fG
  rcases n with _ | n<;>simp only [G.fG,reduceCtorEq] at h
  have z:=pp (pp ((ihR ih)) <| pp @F.bU ()) <| pp () <| pp () <| pp () <| pp () <| pp () <| ()
  exact jK
 ·intro fO fK r h
  refine aU K.eu (jG ?_)
  unfold C.eu
  rcases n with _ | n<;>simp only [G.eu,reduceCtorEq] at h
  have z:=pp (pp ((ihL ih)) ()) <| pp () <| pp (pp (@jA (Int) _ (fun n x=>G.eu.L1 n fO fK x) r (fun x=>ASt.of [(0,.v true (.one (wK fO))),(1,.v true (.one (wK fK))),eI 5 x] [])) ()) <| pp () <| pp (pp (And.intro @G.eu.L1.eq_1 <| @G.eu.L1.eq_2) ()) <| pp (pp (@bn [] [] []) ()) <| ()
  exact jK
theorem F.fG {n:Nat} : ∀ {fO:af} {fK:af} {r:Bool},G.fG n fO fK=some r->APure pZ 44 [.agg (wN fO),.agg (wN fK)] (.one (.c (.lit (.bool r)))):=(F.tY n).1
theorem F.fB {n:Nat} : ∀ {fO fK r},G.fB n fO fK=some r->APure pZ 45 [.one (.c (.sl 8 (List.map iI.cells fO))),.one (.c (.sl 8 (List.map iI.cells fK)))] (.one (.c (.lit (.bool r)))):=by
 intro fO fK r h
 refine aU K.fB (jG ?_)
 unfold C.fB
 rcases n with _ | n<;>simp only [G.fB,reduceCtorEq] at h
 have z:=pp (pp @F.bU <| pp @F.fG ()) <| pp () <| pp (pp (@jA (Int) _ (fun n x=>G.fB.L1 n fO fK x) r (fun x=>ASt.of [(0,.v true (.one (.c (.sl 8 (List.map iI.cells fO))))),(1,.v true (.one (.c (.sl 8 (List.map iI.cells fK))))),eI 5 x] [])) ()) <| pp () <| pp (pp (And.intro @G.fB.L1.eq_1 <| @G.fB.L1.eq_2) ()) <| pp (pp (@bn [] [] []) ()) <| ()
 exact jK
theorem F.gW {n:Nat} : ∀ {fO fK r},G.gW n fO fK=some r->APure pZ 14 [.agg [wI fO.Method,wS fO.Name,wT fO.Want,wT fO.jk,wI fO.Body.Kind,wI fO.Body.Num,wS fO.Body.Text,wT fO.Body.Names,wK fO.Body.Kids,.c (.sl 8 (List.map iI.cells fO.Ops))],.agg [wI fK.Method,wS fK.Name,wT fK.Want,wT fK.jk,wI fK.Body.Kind,wI fK.Body.Num,wS fK.Body.Text,wT fK.Body.Names,wK fK.Body.Kids,.c (.sl 8 (List.map iI.cells fK.Ops))]] (.one (.c (.lit (.bool r)))):=by
 intro fO fK r h
 refine aU K.gW (jG ?_)
 unfold C.gW
 rcases n with _ | n<;>simp only [G.gW,reduceCtorEq] at h
 have z:=pp (pp @F.bU <| pp @F.fG <| pp @F.fB ()) <| pp () <| pp () <| pp () <| pp () <| pp () <| ()
 exact jK
theorem F.bG {n:Nat} : ∀ {ag xA uA r},G.bG n ag xA uA=some r->APure pZ 78 [.one (wI ag),.one (wI xA),.one (wI uA)] (.one (.c (.lit (.bool r)))):=by
 intro ag xA uA r h
 refine aU K.bG (jG ?_)
 unfold C.bG
 rcases n with _ | n<;>simp only [G.bG,reduceCtorEq] at h
 have z:=pp () <| pp () <| pp () <| pp () <| pp () <| pp () <| ()
 exact jK
theorem F.fJ {n:Nat} : ∀ {ai r},G.fJ n ai=some r->APure pZ 130 [.one (wS ai)] (.one (.c (.lit (.bool r)))):=by
 intro ai r h
 refine aU K.fJ (jG ?_)
 unfold C.fJ
 rcases n with _ | n<;>simp only [G.fJ,reduceCtorEq] at h
 have z:=pp (pp @F.bG ()) <| pp () <| pp (pp (@jA (Int) _ (fun n x=>G.fJ.L1 n ai x) r (fun x=>ASt.of [eS 0 ai,eI 3 x] [])) ()) <| pp () <| pp (pp (And.intro @G.fJ.L1.eq_1 <| @G.fJ.L1.eq_2) ()) <| pp (pp (@bn [] [] []) ()) <| ()
 exact jK
theorem F.bZ {n:Nat} : ∀ {aB r},G.bZ n aB=some r->APure pZ 80 [.one (wT aB)] (.one (.c (.lit (.bool r)))):=by
 intro aB r h
 refine aU K.bZ (jG ?_)
 unfold C.bZ
 rcases n with _ | n<;>simp only [G.bZ,reduceCtorEq] at h
 have z:=pp (pp @F.fJ ()) <| pp () <| pp (pp (@jA (Int) _ (fun n x=>G.bZ.L1 n aB x) r (fun x=>ASt.of [eT 0 aB,eI 3 x] [])) ()) <| pp () <| pp (pp (And.intro @G.bZ.L1.eq_1 <| @G.bZ.L1.eq_2) ()) <| pp (pp (@bn [] [] []) ()) <| ()
 exact jK
theorem F.bF {n:Nat} : ∀ {aB r},G.bF n aB=some r->APure pZ 88 [.one (wT aB)] (.one (wS r)):=by
 intro aB r h
 refine aU K.bF (jG ?_)
 unfold C.bF
 rcases n with _ | n<;>simp only [G.bF,reduceCtorEq] at h
 have z:=pp (pp @F.bZ ()) <| pp () <| pp (pp (@jA (aA × Int) _ (fun n x=>G.bF.L3 n aB x.1 x.2) r (fun x=>ASt.of [eT 0 aB,eS 3 x.1,eI 4 x.2] [])) ()) <| pp (pp (@lu (Int × aA) _ (fun n x=>G.bF.K4 n aB x.1 x.2) r (fun x=>ASt.of [eT 0 aB,eS 3 x.2,eI 4 x.1] [])) ()) <| pp (pp (And.intro @G.bF.L3.eq_1 <| And.intro @G.bF.L3.eq_2 <| And.intro @G.bF.K4.eq_1 <| @G.bF.K4.eq_2) ()) <| pp (pp (@bn [] [] []) ()) <| ()
 exact jK
theorem F.yB:∀ (n:Nat),∀ {ag r},G.fC n ag=some r->APure pZ 108 [.one (wI ag)] (.one (wS r)):=by
 intro n
 induction n using Nat.strongRecOn with | _ n ih =>
 intro ag r h
 refine aU K.fC (jG ?_)
 unfold C.fC
 rcases n with _ | n<;>simp only [G.fC,reduceCtorEq] at h
 have z:=pp (pp ih ()) <| pp () <| pp () <| pp () <| pp () <| pp () <| ()
 exact jK
theorem F.fC {n:Nat} : ∀ {ag:Int} {r:aA},G.fC n ag=some r->APure pZ 108 [.one (wI ag)] (.one (wS r)):=F.yB n
theorem F.gK {n:Nat} : ∀ {ai r},G.gK n ai=some r->APure pZ 135 [.one (wS ai)] (.one (wS r)):=by
 intro ai r h
 refine aU K.gK (jG ?_)
 unfold C.gK
 rcases n with _ | n<;>simp only [G.gK,reduceCtorEq] at h
 have z:=pp () <| pp () <| pp (pp (@jA (aA × Int) _ (fun n x=>G.gK.L1 n ai x.1 x.2) r (fun x=>ASt.of [eS 0 ai,eS 3 x.1,eI 4 x.2] [])) ()) <| pp () <| pp (pp (And.intro @G.gK.L1.eq_1 <| @G.gK.L1.eq_2) ()) <| pp (pp (@bn [] [] []) ()) <| ()
 exact jK
theorem F.yZ:∀ (n:Nat),∀ {ag r},G.bI n ag=some r->APure pZ 89 [.agg (wN ag)] (.one (wS r)):=by
 intro n
 induction n using Nat.strongRecOn with | _ n ih =>
 intro ag r h
 refine aU K.bI (jG ?_)
 unfold C.bI
 rcases n with _ | n<;>simp only [G.bI,reduceCtorEq] at h
 have:=Mk.mk 1; have:=Mk.mk 2
 have z:=pp (pp ih <| pp @F.fC <| pp @F.gK ()) <| pp () <| pp (pp (@jA (aA × Int) _ (fun n x=>G.bI.L5 n ag x.1 x.2) r (fun x=>ASt.of [eP 1 107,eS 3 x.1,eI 4 x.2] [(107,.var (wN ag))])) ()) <| pp (pp (@lu (Int × aA) _ (fun n x=>G.bI.K6 n ag x.1 x.2) r (fun x=>ASt.of [eP 1 108,eS 3 x.2,eI 4 x.1] [(108,.var (wN ag))])) <| pp (@lu (Int × aA) _ (fun n x=>G.bI.K7 n ag x.1 x.2) r (fun x=>ASt.of [eP 1 109,eS 3 x.2,eI 4 x.1] [(109,.var (wN ag))])) ()) <| pp (pp (And.intro @G.bI.L5.eq_1 <| And.intro @G.bI.L5.eq_2 <| And.intro @G.bI.K6.eq_1 <| And.intro @G.bI.K6.eq_2 <| And.intro @G.bI.K7.eq_1 <| @G.bI.K7.eq_2) ()) <| pp (pp (@bn [] [(107,10)] []) <| pp (@bn [] [(108,107)] []) <| pp (@bn [] [(109,108)] []) <| pp (@bn [] [(107,109)] []) ()) <| pp () <| (pp (pp (rfl : @G.bI.K6=_) <| pp (rfl : @G.bI.L5=_) <| pp (rfl : @G.bI.K7=_) ()) <| pp (pp (rfl : @G.bI.K7=_) <| pp (rfl : @G.bI.K6=_) <| pp (rfl : @G.bI.L5=_) ()) ())
 exact Gg
theorem F.bI {n:Nat} : ∀ {ag:af} {r:aA},G.bI n ag=some r->APure pZ 89 [.agg (wN ag)] (.one (wS r)):=F.yZ n
theorem F.wU:∀ (n:Nat),∀ {ag r},G.ay n ag=some r->APure pZ 87 [.agg (wN ag)] (.agg (wN r)):=by
 intro n
 induction n using Nat.strongRecOn with | _ n ih =>
 intro ag r h
 refine aU K.ay (jG ?_)
 unfold C.ay
 rcases n with _ | n<;>simp only [G.ay,reduceCtorEq] at h
 have z:=pp (pp ih ()) <| pp () <| pp (pp (@jA (Int × List af) _ (fun n x=>G.ay.L1 n ag x.1 x.2) r (fun x=>ASt.of [eP 1 107,eP 2 108,(3,.v true (.one (.own 109 x.2.length 5))),eI 4 x.1] [(107,.var (wN ag)),(108,.var zN),(109,.dat 5 (List.map af.cells x.2))])) ()) <| pp () <| pp (pp (And.intro @G.ay.L1.eq_1 <| @G.ay.L1.eq_2) ()) <| pp (pp (@bn [] [(107,10),(108,11),(109,12)] []) <| pp (@bn [] [(107,107),(108,108),(109,14)] []) ()) <| ()
 exact jK
theorem F.ay {n:Nat} : ∀ {ag:af} {r:af},G.ay n ag=some r->APure pZ 87 [.agg (wN ag)] (.agg (wN r)):=F.wU n
theorem F.mF {n:Nat} : ∀ {ag r},G.ay n ag=some r->ACalls pZ 87 [.agg (wN ag)] [] (fun r1 b1=>r1 = .agg [wI r.Kind,wI r.Num,wS r.Text,.own 0 r.Names.length 1,.own 1 r.Kids.length 5]/\b1=[.dat 1 (List.map cS r.Names),.dat 5 (List.map af.cells r.Kids)]):=by
 intro ag r h
 refine eH K.ay (jG ?_)
 unfold C.ay
 rcases n with _ | n<;>simp only [G.ay,reduceCtorEq] at h
 have z:=pp (pp @F.ay ()) <| pp () <| pp (pp (@jA (Int × List af) _ (fun n x=>G.ay.L1 n ag x.1 x.2) r (fun x=>ASt.of [eP 1 107,eP 2 108,(3,.v true (.one (.own 109 x.2.length 5))),eI 4 x.1] [(107,.var (wN ag)),(108,.var zN),(109,.dat 5 (List.map af.cells x.2))])) ()) <| pp () <| pp (pp (And.intro @G.ay.L1.eq_1 <| @G.ay.L1.eq_2) ()) <| pp (pp (@bn [] [(107,10),(108,11),(109,12)] []) <| pp (@bn [] [(107,107),(108,108),(109,14)] []) ()) <| (pp (@jR [] [(0,16),(1,109)] []) ())
 exact jK
theorem F.jE {n:Nat} : ∀ {r},G.jE n=some r->APure pZ 86 [] (.one (wT r)):=by
 intro r h
 refine aU K.jE (jG ?_)
 unfold C.jE
 rcases n with _ | n<;>simp only [G.jE,reduceCtorEq] at h
 have z:=pp () <| pp () <| pp () <| pp () <| pp () <| pp () <| ()
 exact jK
theorem F.kE {n:Nat} : ∀ {ai r},G.kE n ai=some r->APure pZ 85 [.one (wS ai)] (.agg (wN r)):=by
 intro ai r h
 refine aU K.kE (jG ?_)
 unfold C.kE
 rcases n with _ | n<;>simp only [G.kE,reduceCtorEq] at h
 have z:=pp () <| pp () <| pp () <| pp () <| pp () <| pp () <| ()
 exact jK
theorem F.iQ {n:Nat} : ∀ {aQ r},G.iQ n aQ=some r->APure pZ 84 [.one (wT aQ)] (.agg (wN r)):=by
 intro aQ r h
 refine aU K.iQ (jG ?_)
 unfold C.iQ
 rcases n with _ | n<;>simp only [G.iQ,reduceCtorEq] at h
 have z:=pp (pp @F.kE ()) <| pp () <| pp (pp (@jA (Int × List af) _ (fun n x=>G.iQ.L1 n aQ x.1 x.2) r (fun x=>ASt.of [eT 0 aQ,eP 2 105,(3,.v true (.one (.own 106 x.2.length 5))),eI 4 x.1] [(105,.var zN),(106,.dat 5 (List.map af.cells x.2))])) ()) <| pp () <| pp (pp (And.intro @G.iQ.L1.eq_1 <| @G.iQ.L1.eq_2) ()) <| pp (pp (@bn [] [(105,10),(106,11)] []) <| pp (@bn [] [(105,105),(106,13)] []) ()) <| ()
 exact jK
theorem F.iM {n:Nat} : ∀ {jJ r},G.iM n jJ=some r->APure pZ 36 [.agg [wI jJ.Kind,wT jJ.Path,wT jJ.From,wI jJ.Value.Kind,wI jJ.Value.Num,wS jJ.Value.Text,wT jJ.Value.Names,wK jJ.Value.Kids]] (.agg (wN r)):=by
 intro jJ r h
 refine aU K.iM (jG ?_)
 unfold C.iM
 rcases n with _ | n<;>simp only [G.iM,reduceCtorEq] at h
 have z:=pp (pp @F.iQ <| pp @F.jE <| pp @F.kE <| pp @F.ay ()) <| pp () <| pp () <| pp () <| pp () <| pp () <| ()
 exact jK
theorem F.jV {n:Nat} : ∀ {r},G.jV n=some r->APure pZ 49 [] (.one (wT r)):=by
 intro r h
 refine aU K.jV (jG ?_)
 unfold C.jV
 rcases n with _ | n<;>simp only [G.jV,reduceCtorEq] at h
 have z:=pp () <| pp () <| pp () <| pp () <| pp () <| pp () <| ()
 exact jK
theorem F.dO {n:Nat} : ∀ {bH r},G.dO n bH=some r->APure pZ 37 [.agg [wI bH.Method,wS bH.Name,wT bH.Want,wT bH.jk,wI bH.Body.Kind,wI bH.Body.Num,wS bH.Body.Text,wT bH.Body.Names,wK bH.Body.Kids,.c (.sl 8 (List.map iI.cells bH.Ops))]] (.one (wS r)):=by
 intro bH r h
 refine aU K.dO (jG ?_)
 unfold C.dO
 rcases n with _ | n<;>simp only [G.dO,reduceCtorEq] at h
 have z:=pp (pp @F.jV <| pp @F.bF <| pp @F.iM <| pp @F.bI ()) <| pp () <| pp (pp (@jA (aA × Int) _ (fun n x=>G.dO.L1 n bH x.1 x.2) r (fun x=>ASt.of [eP 1 103,eS 3 x.1,eI 4 x.2] [(103,.var [wI bH.Method,wS bH.Name,wT bH.Want,wT bH.jk,wI bH.Body.Kind,wI bH.Body.Num,wS bH.Body.Text,wT bH.Body.Names,wK bH.Body.Kids,.c (.sl 8 (List.map iI.cells bH.Ops))])])) ()) <| pp () <| pp (pp (And.intro @G.dO.L1.eq_1 <| @G.dO.L1.eq_2) ()) <| pp (pp (@bn [] [(103,10)] []) <| pp (@bn [] [(103,103)] []) ()) <| ()
 exact jK
theorem F.Bi:∀ (n:Nat),∀ {ag r},G.eG n ag=some r->APure pZ 83 [.agg (wN ag)] (.one (wI r)):=by
 intro n
 induction n using Nat.strongRecOn with | _ n ih =>
 intro ag r h
 refine aU K.eG (jG ?_)
 unfold C.eG
 rcases n with _ | n<;>simp only [G.eG,reduceCtorEq] at h
 have z:=pp (pp ih ()) <| pp () <| pp (pp (@jA (Int × Int) _ (fun n x=>G.eG.L1 n ag x.1 x.2) r (fun x=>ASt.of [eP 1 103,eI 3 x.1,eI 4 x.2] [(103,.var (wN ag))])) ()) <| pp () <| pp (pp (And.intro @G.eG.L1.eq_1 <| @G.eG.L1.eq_2) ()) <| pp (pp (@bn [] [(103,10)] []) <| pp (@bn [] [(103,103)] []) ()) <| ()
 exact jK
theorem F.eG {n:Nat} : ∀ {ag:af} {r:Int},G.eG n ag=some r->APure pZ 83 [.agg (wN ag)] (.one (wI r)):=F.Bi n
theorem F.dD {n:Nat} : ∀ {ai r},G.dD n ai=some r->APure pZ 132 [.one (wS ai)] (.one (.c (.lit (.bool r)))):=by
 intro ai r h
 refine aU K.dD (jG ?_)
 unfold C.dD
 rcases n with _ | n<;>simp only [G.dD,reduceCtorEq] at h
 have z:=pp (pp @F.bG ()) <| pp () <| pp (pp (@jA (Int) _ (fun n x=>G.dD.L1 n ai x) r (fun x=>ASt.of [eS 0 ai,eI 3 x] [])) ()) <| pp () <| pp (pp (And.intro @G.dD.L1.eq_1 <| @G.dD.L1.eq_2) ()) <| pp (pp (@bn [] [] []) ()) <| ()
 exact jK
theorem F.gX {n:Nat} : ∀ {aB r},G.gX n aB=some r->APure pZ 134 [.one (wT aB)] (.one (.c (.lit (.bool r)))):=by
 intro aB r h
 refine aU K.gX (jG ?_)
 unfold C.gX
 rcases n with _ | n<;>simp only [G.gX,reduceCtorEq] at h
 have z:=pp (pp @F.dD ()) <| pp () <| pp (pp (@jA (Int) _ (fun n x=>G.gX.L1 n aB x) r (fun x=>ASt.of [eT 0 aB,eI 3 x] [])) ()) <| pp () <| pp (pp (And.intro @G.gX.L1.eq_1 <| @G.gX.L1.eq_2) ()) <| pp (pp (@bn [] [] []) ()) <| ()
 exact jK
theorem F.yX:∀ (n:Nat),(∀ {ag aK r},G.gB n ag aK=some r->APure pZ 133 [.agg (wN ag),.one (wI aK)] (.one (.c (.lit (.bool r)))))/\(∀ {ag aK r},G.bW n ag aK=some r->APure pZ 82 [.agg (wN ag),.one (wI aK)] (.one (.c (.lit (.bool r))))):=by
 intro n
 induction n using Nat.strongRecOn with | _ n ih =>
 refine ⟨?_,?_⟩
 ·intro ag aK r h
  refine aU K.gB (jG ?_)
  unfold C.gB
  rcases n with _ | n<;>simp only [G.gB,reduceCtorEq] at h
  have z:=pp (pp ((ihR ih)) ()) <| pp () <| pp (pp (@jA (Int) _ (fun n x=>G.gB.L1 n ag aK x) r (fun x=>ASt.of [eI 1 aK,eP 2 103,eI 5 x] [(103,.var (wN ag))])) ()) <| pp () <| pp (pp (And.intro @G.gB.L1.eq_1 <| @G.gB.L1.eq_2) ()) <| pp (pp (@bn [] [(103,10)] []) <| pp (@bn [] [(103,103)] []) ()) <| ()
  exact jK
 ·intro ag aK r h
  refine aU K.bW (jG ?_)
  unfold C.bW
  rcases n with _ | n<;>simp only [G.bW,reduceCtorEq] at h
  have z:=pp (pp ((ihL ih)) <| pp @F.bG <| pp @F.dD <| pp @F.gX ()) <| pp () <| pp () <| pp (pp (@lu (Unit) _ (fun n x=>G.bW.K1 n ag aK) r (fun x=>ASt.of [eI 1 aK,eP 2 101,(54,.v true (.one (.c (.lit (.bool false)))))] [(101,.var (wN ag))])) ()) <| pp (pp (And.intro @G.bW.K1.eq_1 <| @G.bW.K1.eq_2) ()) <| pp (pp (@bn [] [(101,10)] []) ()) <| ()
  exact jK
theorem F.bW {n:Nat} : ∀ {ag:af} {aK:Int} {r:Bool},G.bW n ag aK=some r->APure pZ 82 [.agg (wN ag),.one (wI aK)] (.one (.c (.lit (.bool r)))):=(F.yX n).2
theorem F.aT {n:Nat} : ∀ {ag r},G.aT n ag=some r->APure pZ 35 [.agg (wN ag)] (.one (.c (.lit (.bool r)))):=by
 intro ag r h
 refine aU K.aT (jG ?_)
 unfold C.aT
 rcases n with _ | n<;>simp only [G.aT,reduceCtorEq] at h
 have z:=pp (pp @F.bW <| pp @F.eG ()) <| pp () <| pp () <| pp () <| pp () <| pp () <| ()
 exact jK
theorem F.di {n:Nat} : ∀ {ai r},G.di n ai=some r->APure pZ 79 [.one (wS ai)] (.one (.c (.lit (.bool r)))):=by
 intro ai r h
 refine aU K.di (jG ?_)
 unfold C.di
 rcases n with _ | n<;>simp only [G.di,reduceCtorEq] at h
 have z:=pp (pp @F.bG ()) <| pp () <| pp (pp (@jA (Int) _ (fun n x=>G.di.L1 n ai x) r (fun x=>ASt.of [eS 0 ai,eI 3 x] [])) ()) <| pp () <| pp (pp (And.intro @G.di.L1.eq_1 <| @G.di.L1.eq_2) ()) <| pp (pp (@bn [] [] []) ()) <| ()
 exact jK
theorem F.dM {n:Nat} : ∀ {aQ r},G.dM n aQ=some r->APure pZ 174 [.one (wT aQ)] (.one (.c (.lit (.bool r)))):=by
 intro aQ r h
 refine aU K.dM (jG ?_)
 unfold C.dM
 rcases n with _ | n<;>simp only [G.dM,reduceCtorEq] at h
 have z:=pp (pp @F.dD ()) <| pp () <| pp (pp (@jA (Int) _ (fun n x=>G.dM.L1 n aQ x) r (fun x=>ASt.of [eT 0 aQ,eI 3 x] [])) ()) <| pp () <| pp (pp (And.intro @G.dM.L1.eq_1 <| @G.dM.L1.eq_2) ()) <| pp (pp (@bn [] [] []) ()) <| ()
 exact jK
theorem F.ig {n:Nat} : ∀ {jJ r},G.ig n jJ=some r->APure pZ 131 [.agg [wI jJ.Kind,wT jJ.Path,wT jJ.From,wI jJ.Value.Kind,wI jJ.Value.Num,wS jJ.Value.Text,wT jJ.Value.Names,wK jJ.Value.Kids]] (.one (.c (.lit (.bool r)))):=by
 intro jJ r h
 refine aU K.ig (jG ?_)
 unfold C.ig
 rcases n with _ | n<;>simp only [G.ig,reduceCtorEq] at h
 have z:=pp (pp @F.bG <| pp @F.dM <| pp @F.aT ()) <| pp () <| pp () <| pp () <| pp () <| pp () <| ()
 exact jK
theorem F.bY {n:Nat} : ∀ {aB r},G.bY n aB=some r->APure pZ 81 [.one (.c (.sl 8 (List.map iI.cells aB)))] (.one (.c (.lit (.bool r)))):=by
 intro aB r h
 refine aU K.bY (jG ?_)
 unfold C.bY
 rcases n with _ | n<;>simp only [G.bY,reduceCtorEq] at h
 have z:=pp (pp @F.ig ()) <| pp () <| pp (pp (@jA (Int) _ (fun n x=>G.bY.L1 n aB x) r (fun x=>ASt.of [(0,.v true (.one (.c (.sl 8 (List.map iI.cells aB))))),eI 3 x] [])) ()) <| pp () <| pp (pp (And.intro @G.bY.L1.eq_1 <| @G.bY.L1.eq_2) ()) <| pp (pp (@bn [] [] []) ()) <| ()
 exact jK
theorem F.fD {n:Nat} : ∀ {bH r},G.fD n bH=some r->APure pZ 34 [.agg [wI bH.Method,wS bH.Name,wT bH.Want,wT bH.jk,wI bH.Body.Kind,wI bH.Body.Num,wS bH.Body.Text,wT bH.Body.Names,wK bH.Body.Kids,.c (.sl 8 (List.map iI.cells bH.Ops))]] (.one (.c (.lit (.bool r)))):=by
 intro bH r h
 refine aU K.fD (jG ?_)
 unfold C.fD
 rcases n with _ | n<;>simp only [G.fD,reduceCtorEq] at h
 have z:=pp (pp @F.bG <| pp @F.di <| pp @F.bZ <| pp @F.aT <| pp @F.bY ()) <| pp () <| pp () <| pp () <| pp () <| pp () <| ()
 exact jK
theorem F.aF {n:Nat} : ∀ {bH r},G.aF n bH=some r->APure pZ 12 [.agg [wI bH.Method,wS bH.Name,wT bH.Want,wT bH.jk,wI bH.Body.Kind,wI bH.Body.Num,wS bH.Body.Text,wT bH.Body.Names,wK bH.Body.Kids,.c (.sl 8 (List.map iI.cells bH.Ops))]] (.one (wS r)):=by
 intro bH r h
 refine aU K.aF (jG ?_)
 unfold C.aF
 rcases n with _ | n<;>simp only [G.aF,reduceCtorEq] at h
 have z:=pp (pp @F.fD <| pp @F.iM <| pp @F.aT <| pp @F.dO ()) <| pp () <| pp (pp (@jA (Int) _ (fun n x=>G.aF.L2 n bH x) r (fun x=>ASt.of [eP 1 104,eI 3 x] [(104,.var [wI bH.Method,wS bH.Name,wT bH.Want,wT bH.jk,wI bH.Body.Kind,wI bH.Body.Num,wS bH.Body.Text,wT bH.Body.Names,wK bH.Body.Kids,.c (.sl 8 (List.map iI.cells bH.Ops))])])) ()) <| pp (pp (@lu (Unit) _ (fun n x=>G.aF.K1 n bH) r (fun x=>ASt.of [eP 1 101,(33,.v true (.one (.c (.lit (.bool false)))))] [(101,.var [wI bH.Method,wS bH.Name,wT bH.Want,wT bH.jk,wI bH.Body.Kind,wI bH.Body.Num,wS bH.Body.Text,wT bH.Body.Names,wK bH.Body.Kids,.c (.sl 8 (List.map iI.cells bH.Ops))])])) ()) <| pp (pp (And.intro @G.aF.K1.eq_1 <| And.intro @G.aF.K1.eq_2 <| And.intro @G.aF.L2.eq_1 <| @G.aF.L2.eq_2) ()) <| pp (pp (@bn [] [(101,10)] []) <| pp (@bn [] [(104,101)] []) <| pp (@bn [] [(104,104)] []) ()) <| ()
 exact jK
theorem F.aj {n:Nat} : ∀ {aC ag r},G.aj n aC ag=some r->ACalls pZ 46 [.one (.ptr 0 0),.one (wI ag)] [.var [.c (.sl 1 (List.map cU aC.b)),wI aC.p]] (fun r1 b1=>r1 = .one (wI r.1)/\b1=[.var [.c (.sl 1 (List.map cU r.2.b)),wI r.2.p]]):=by
 intro aC ag r h
 refine eH K.aj (jG ?_)
 unfold C.aj
 rcases n with _ | n<;>simp only [G.aj,reduceCtorEq] at h
 have z:=pp () <| pp () <| pp () <| pp () <| pp () <| pp () <| (pp (@jR [] [(0,0)] []) ())
 exact jK
theorem F.dA {n:Nat} : ∀ {aC aB r},G.dA n aC aB=some r->ACalls pZ 53 [.one (.ptr 0 0),.one (wT aB)] [.var [.c (.sl 1 (List.map cU aC.b)),wI aC.p]] (fun r1 b1=>r1 = .one (wS r.1)/\b1=[.var [.c (.sl 1 (List.map cU r.2.b)),wI r.2.p]]):=by
 intro aC aB r h
 refine eH K.dA (jG ?_)
 unfold C.dA
 rcases n with _ | n<;>simp only [G.dA,reduceCtorEq] at h
 have z:=pp () <| pp (pp (pp @F.aj (@cG [0] [])) ()) <| pp () <| pp () <| pp () <| pp () <| (pp (@jR [] [(0,0)] []) ())
 exact jK
theorem F.iV {n:Nat} : ∀ {iW r},G.iV n iW=some r->ACalls pZ 27 [.one (.c (.sl 1 (List.map cU iW)))] [] (fun r1 b1=>r1 = .one (.ptr 0 0)/\b1=[.var [.c (.sl 1 (List.map cU r.b)),wI r.p]]):=by
 intro iW r h
 refine eH K.iV (jG ?_)
 unfold C.iV
 rcases n with _ | n<;>simp only [G.iV,reduceCtorEq] at h
 have z:=pp () <| pp () <| pp () <| pp () <| pp () <| pp () <| (pp (@jR [] [(0,10)] []) ())
 exact jK
theorem F.dH {n:Nat} : ∀ {aC aB r},G.dH n aC aB=some r->ACalls pZ 54 [.one (.ptr 0 0),.one (.c (.sl 1 (List.map cI aB)))] [.var [.c (.sl 1 (List.map cU aC.b)),wI aC.p]] (fun r1 b1=>r1 = .one (wI r.1)/\b1=[.var [.c (.sl 1 (List.map cU r.2.b)),wI r.2.p]]):=by
 intro aC aB r h
 refine eH K.dH (jG ?_)
 unfold C.dH
 rcases n with _ | n<;>simp only [G.dH,reduceCtorEq] at h
 have z:=pp () <| pp (pp (pp @F.aj (@cG [0] [])) ()) <| pp () <| pp () <| pp () <| pp () <| (pp (@jR [] [(0,0)] []) ())
 exact jK
theorem F.dU {n:Nat} : ∀ {ag gG r},G.dU n ag gG=some r->APure pZ 208 [.agg (wN ag),.one (wS gG)] (.one (wI r)):=by
 intro ag gG r h
 refine aU K.dU (jG ?_)
 unfold C.dU
 rcases n with _ | n<;>simp only [G.dU,reduceCtorEq] at h
 have z:=pp (pp @F.fC ()) <| pp () <| pp (pp (@jA (Int) _ (fun n x=>G.dU.L1 n ag gG x) r (fun x=>ASt.of [eS 1 gG,eP 2 103,eI 5 x] [(103,.var (wN ag))])) ()) <| pp () <| pp (pp (And.intro @G.dU.L1.eq_1 <| @G.dU.L1.eq_2) ()) <| pp (pp (@bn [] [(103,10)] []) <| pp (@bn [] [(103,103)] []) ()) <| ()
 exact jK
theorem F.fP {n:Nat} : ∀ {ag gG r},G.fP n ag gG=some r->APure pZ 238 [.agg (wN ag),.one (wS gG)] (.tup [(false,[wI r.1]),(false,[.c (.lit (.bool r.2))])]):=by
 intro ag gG r h
 refine aU K.fP (jG ?_)
 unfold C.fP
 rcases n with _ | n<;>simp only [G.fP,reduceCtorEq] at h
 have z:=pp (pp @F.dU <| pp @F.fC ()) <| pp () <| pp (pp (@jA (Int) _ (fun n x=>G.fP.L1 n ag gG x) r (fun x=>ASt.of [eS 1 gG,eP 2 103,eI 7 x] [(103,.var (wN ag))])) <| pp (@jA (Int) _ (fun n x=>G.fP.L2 n ag gG x) r (fun x=>ASt.of [eS 1 gG,eP 2 106,eI 7 x] [(106,.var (wN ag))])) ()) <| pp () <| pp (pp (And.intro @G.fP.L1.eq_1 <| And.intro @G.fP.L1.eq_2 <| And.intro @G.fP.L2.eq_1 <| @G.fP.L2.eq_2) ()) <| pp (pp (@bn [] [(103,10)] []) <| pp (@bn [] [(103,103)] []) <| pp (@bn [] [(106,10)] []) <| pp (@bn [] [(106,106)] []) ()) <| ()
 exact jK
theorem F.iC {n:Nat} : ∀ {ag xy pV r},G.iC n ag xy pV=some r->APure pZ 235 [.agg (wN ag),.one (wI xy),.agg (wN pV)] (.agg (wN r)):=by
 intro ag xy pV r h
 refine aU K.iC (jG ?_)
 unfold C.iC
 rcases n with _ | n<;>simp only [G.iC,reduceCtorEq] at h
 have z:=pp () <| pp (pp (pp @F.mF (@cG [] [101,102])) <| pp (pp @F.mF (@cG [] [103,104])) ()) <| pp () <| pp () <| pp () <| pp () <| ()
 exact jK
theorem F.yC {n:Nat} : ∀ {ag xy pV r},G.iC n ag xy pV=some r->ACalls pZ 235 [.agg (wN ag),.one (wI xy),.agg (wN pV)] [] (fun r1 b1=>r1 = .agg [wI r.Kind,wI r.Num,wS r.Text,.own 0 r.Names.length 1,.own 1 r.Kids.length 5]/\b1=[.dat 1 (List.map cS r.Names),.dat 5 (List.map af.cells r.Kids)]):=by
 intro ag xy pV r h
 refine eH K.iC (jG ?_)
 unfold C.iC
 rcases n with _ | n<;>simp only [G.iC,reduceCtorEq] at h
 have z:=pp () <| pp (pp (pp @F.mF (@cG [] [101,102])) <| pp (pp @F.mF (@cG [] [103,104])) ()) <| pp () <| pp () <| pp () <| pp () <| (pp (@jR [] [(0,101),(1,102)] []) ())
 exact jK
theorem F.gY {n:Nat} : ∀ {ag gG jb r},G.gY n ag gG jb=some r->APure pZ 209 [.agg (wN ag),.one (wS gG),.agg (wN jb)] (.tup [(true,(wN r.1)),(false,[.c (.lit (.bool r.2))])]):=by
 intro ag gG jb r h
 refine aU K.gY (jG ?_)
 unfold C.gY
 rcases n with _ | n<;>simp only [G.gY,reduceCtorEq] at h
 have z:=pp (pp @F.fP <| pp @F.iC <| pp @F.ay ()) <| pp () <| pp () <| pp () <| pp () <| pp () <| ()
 exact jK
theorem F.yz {n:Nat} : ∀ {ag gG jb r},G.gY n ag gG jb=some r->ACalls pZ 209 [.agg (wN ag),.one (wS gG),.agg (wN jb)] [] (fun r1 b1=>r1 = .tup [(true,[wI r.1.Kind,wI r.1.Num,wS r.1.Text,.own 0 r.1.Names.length 1,.own 1 r.1.Kids.length 5]),(false,[.c (.lit (.bool r.2))])]/\b1=[.dat 1 (List.map cS r.1.Names),.dat 5 (List.map af.cells r.1.Kids)]):=by
 intro ag gG jb r h
 refine eH K.gY (jG ?_)
 unfold C.gY
 rcases n with _ | n<;>simp only [G.gY,reduceCtorEq] at h
 have z:=pp (pp @F.fP <| pp @F.ay ()) <| pp (pp (pp @F.yC (@cG [] [101,102])) ()) <| pp () <| pp () <| pp () <| pp () <| (pp (@jR [] [] [0,1]) <| pp (@jR [] [(0,101),(1,102)] []) <| pp (@jR [] [(0,19),(1,18)] []) <| pp (@jR [] [(0,24),(1,18)] []) ())
 exact jK
theorem F.jr {n:Nat} : ∀ {aC r},G.jr n aC=some r->ACalls pZ 206 [.one (.ptr 0 0)] [.var [.c (.sl 1 (List.map cU aC.b)),wI aC.p]] (fun r1 b1=>r1 = .one (wS r.1)/\b1=[.var [.c (.sl 1 (List.map cU r.2.b)),wI r.2.p]]):=by
 intro aC r h
 refine eH K.jr (jG ?_)
 unfold C.jr
 rcases n with _ | n<;>simp only [G.jr,reduceCtorEq] at h
 have z:=pp () <| pp (pp (pp @F.dA (@cH [0] [])) ()) <| pp () <| pp () <| pp () <| pp () <| (pp (@jR [] [(0,0)] []) ())
 exact jK
theorem F.jq {n:Nat} : ∀ {aC r},G.jq n aC=some r->ACalls pZ 207 [.one (.ptr 0 0)] [.var [.c (.sl 1 (List.map cU aC.b)),wI aC.p]] (fun r1 b1=>r1 = .one (wS r.1)/\b1=[.var [.c (.sl 1 (List.map cU r.2.b)),wI r.2.p]]):=by
 intro aC r h
 refine eH K.jq (jG ?_)
 unfold C.jq
 rcases n with _ | n<;>simp only [G.jq,reduceCtorEq] at h
 have z:=pp () <| pp (pp (pp @F.dA (@cH [0] [])) ()) <| pp () <| pp () <| pp () <| pp () <| (pp (@jR [] [(0,0)] []) ())
 exact jK
theorem F.oQ:∀ (n:Nat),(∀ {aC aK r},G.dh n aC aK=some r->ACalls pZ 168 [.one (.ptr 0 0),.one (wI aK)] [.var [.c (.sl 1 (List.map cU aC.b)),wI aC.p]] (fun r1 b1=>r1 = .agg (wN r.1)/\b1=[.var [.c (.sl 1 (List.map cU r.2.b)),wI r.2.p]]))/\(∀ {aC aK r},G.aO n aC aK=some r->ACalls pZ 167 [.one (.ptr 0 0),.one (wI aK)] [.var [.c (.sl 1 (List.map cU aC.b)),wI aC.p]] (fun r1 b1=>r1 = .agg (wN r.1)/\b1=[.var [.c (.sl 1 (List.map cU r.2.b)),wI r.2.p]])):=by
 intro n
 induction n using Nat.strongRecOn with | _ n ih =>
 refine ⟨?_,?_⟩
 ·intro aC aK r h
  refine eH K.dh (jG ?_)
  unfold C.dh
  rcases n with _ | n<;>simp only [G.dh,reduceCtorEq] at h
  have z:=pp (pp @F.dU <| pp @F.gY ()) <| pp (pp (pp (ihR ih) (@cG [0] [])) <| pp (pp @F.dH (@cH [0] [])) <| pp (pp @F.jq (@cG [0] [])) ()) <| pp (pp (@jA (Int × List Int × Int × Int × Int × aA × List aA × List af) _ (fun n x=>G.dh.L1 n aK x.1 x.2.1 x.2.2.1 x.2.2.2.1 x.2.2.2.2.1 x.2.2.2.2.2.1 x.2.2.2.2.2.2.1 x.2.2.2.2.2.2.2) r (fun x=>ASt.of [eP 0 0,eI 1 aK,eP 4 107,eP 5 108,eI 6 x.1] [(0,.var [.c (.sl 1 (List.map cU x.2.1)),wI x.2.2.1]),(107,.var zN),(108,.var [wI x.2.2.2.1,wI x.2.2.2.2.1,wS x.2.2.2.2.2.1,wT x.2.2.2.2.2.2.1,wK x.2.2.2.2.2.2.2])])) ()) <| pp () <| pp (pp (And.intro @G.dh.L1.eq_1 <| @G.dh.L1.eq_2) ()) <| pp (pp (@bn [11,12] [(0,0),(107,10),(108,13)] []) <| pp (@bn [] [(0,0),(107,107),(108,108)] []) ()) <| (pp (@jR [] [(0,0)] []) ())
  exact jK
 ·intro aC aK r h
  refine eH K.aO (jG ?_)
  unfold C.aO
  rcases n with _ | n<;>simp only [G.aO,reduceCtorEq] at h
  have z:=pp () <| pp (pp (pp (ihR ih) (@cG [0] [])) <| pp (pp (ihL ih) (@cG [0] [])) <| pp (pp @F.aj (@cG [0] [])) <| pp (pp @F.dH (@cH [0] [])) <| pp (pp @F.jr (@cG [0] [])) ()) <| pp (pp (@jA (Int × Int × List Int × Int × List af) _ (fun n x=>G.aO.L2 n aK x.1 x.2.1 x.2.2.1 x.2.2.2.1 x.2.2.2.2) r (fun x=>ASt.of [eP 0 0,eI 1 aK,eP 4 106,eI 5 x.1,(6,.v true (.one (.own 107 x.2.2.2.2.length 5))),eI 7 x.2.1] [(0,.var [.c (.sl 1 (List.map cU x.2.2.1)),wI x.2.2.2.1]),(106,.var zN),(107,.dat 5 (List.map af.cells x.2.2.2.2))])) ()) <| pp (pp (@lu (Int × List Int × Int) _ (fun n x=>G.aO.K1 n aK x.1 x.2.1 x.2.2) r (fun x=>ASt.of [eP 0 0,eI 1 aK,eP 4 101,eI 5 x.1] [(0,.var [.c (.sl 1 (List.map cU x.2.1)),wI x.2.2]),(101,.var zN)])) ()) <| pp (pp (And.intro @G.aO.K1.eq_1 <| And.intro @G.aO.K1.eq_2 <| And.intro @G.aO.L2.eq_1 <| @G.aO.L2.eq_2) ()) <| pp (pp (@bn [] [(0,0),(101,10)] []) <| pp (@bn [] [(0,0),(106,101),(107,12)] []) <| pp (@bn [] [(0,0),(106,106),(107,14)] []) ()) <| (pp (@jR [] [(0,0)] []) <| pp (@jR [15,107] [(0,0)] []) ())
  exact jK
theorem F.dh {n:Nat} : ∀ {aC:ReaderT} {aK:Int} {r:af × ReaderT},G.dh n aC aK=some r->ACalls pZ 168 [.one (.ptr 0 0),.one (wI aK)] [.var [.c (.sl 1 (List.map cU aC.b)),wI aC.p]] (fun r1 b1=>r1 = .agg (wN r.1)/\b1=[.var [.c (.sl 1 (List.map cU r.2.b)),wI r.2.p]]):=(F.oQ n).1
theorem F.aO {n:Nat} : ∀ {aC:ReaderT} {aK:Int} {r:af × ReaderT},G.aO n aC aK=some r->ACalls pZ 167 [.one (.ptr 0 0),.one (wI aK)] [.var [.c (.sl 1 (List.map cU aC.b)),wI aC.p]] (fun r1 b1=>r1 = .agg (wN r.1)/\b1=[.var [.c (.sl 1 (List.map cU r.2.b)),wI r.2.p]]):=(F.oQ n).2
theorem F.pG {n:Nat} : ∀ {aC aK r},G.dh n aC aK=some r->ACalls pZ 168 [.one (.ptr 0 0),.one (wI aK)] [.var [.c (.sl 1 (List.map cU aC.b)),wI aC.p]] (fun r1 b1=>r1 = .agg [wI r.1.Kind,wI r.1.Num,wS r.1.Text,.own 1 r.1.Names.length 1,.own 2 r.1.Kids.length 5]/\b1=[.var [.c (.sl 1 (List.map cU r.2.b)),wI r.2.p],.dat 1 (List.map cS r.1.Names),.dat 5 (List.map af.cells r.1.Kids)]):=by
 intro aC aK r h
 refine eH K.dh (jG ?_)
 unfold C.dh
 rcases n with _ | n<;>simp only [G.dh,reduceCtorEq] at h
 have z:=pp (pp @F.dU ()) <| pp (pp (pp @F.dH (@cH [0] [])) <| pp (pp @F.jq (@cG [0] [])) <| pp (pp @F.aO (@cG [0] [])) <| pp (pp @F.yz (@cH [] [117,118])) ()) <| pp (pp (@jA (Int × List Int × Int × Int × Int × aA × List aA × List af) _ (fun n x=>G.dh.L1 n aK x.1 x.2.1 x.2.2.1 x.2.2.2.1 x.2.2.2.2.1 x.2.2.2.2.2.1 x.2.2.2.2.2.2.1 x.2.2.2.2.2.2.2) r (fun x=>ASt.of [eP 0 0,eI 1 aK,eP 4 113,eP 5 114,eI 6 x.1] [(0,.var [.c (.sl 1 (List.map cU x.2.1)),wI x.2.2.1]),(113,.var zN),(114,.var [wI x.2.2.2.1,wI x.2.2.2.2.1,wS x.2.2.2.2.2.1,.own 115 x.2.2.2.2.2.2.1.length 1,.own 116 x.2.2.2.2.2.2.2.length 5]),(115,.dat 1 (List.map cS x.2.2.2.2.2.2.1)),(116,.dat 5 (List.map af.cells x.2.2.2.2.2.2.2))])) ()) <| pp () <| pp (pp (And.intro @G.dh.L1.eq_1 <| @G.dh.L1.eq_2) ()) <| pp (pp (@bn [] [(0,0),(113,10),(114,13),(115,11),(116,12)] []) <| pp (@bn [] [(0,0),(113,113),(114,114),(115,117),(116,118)] []) <| pp (@bn [] [(0,0),(113,113),(114,114),(115,115),(116,116)] []) ()) <| (pp (@jR [] [(0,0),(1,115),(2,116)] []) ())
 exact jK
theorem F.ve {n:Nat} : ∀ {aC aK r},G.aO n aC aK=some r->ACalls pZ 167 [.one (.ptr 0 0),.one (wI aK)] [.var [.c (.sl 1 (List.map cU aC.b)),wI aC.p]] (fun r1 b1=>r1 = .agg [wI r.1.Kind,wI r.1.Num,wS r.1.Text,.own 1 r.1.Names.length 1,.own 2 r.1.Kids.length 5]/\b1=[.var [.c (.sl 1 (List.map cU r.2.b)),wI r.2.p],.dat 1 (List.map cS r.1.Names),.dat 5 (List.map af.cells r.1.Kids)]):=by
 intro aC aK r h
 refine eH K.aO (jG ?_)
 unfold C.aO
 rcases n with _ | n<;>simp only [G.aO,reduceCtorEq] at h
 have z:=pp () <| pp (pp (pp @F.aj (@cG [0] [])) <| pp (pp @F.dH (@cH [0] [])) <| pp (pp @F.jr (@cG [0] [])) <| pp (pp @F.aO (@cG [0] [])) <| pp (pp @F.pG (@cG [0] [108,109])) ()) <| pp (pp (@jA (Int × Int × List Int × Int × List af) _ (fun n x=>G.aO.L2 n aK x.1 x.2.1 x.2.2.1 x.2.2.2.1 x.2.2.2.2) r (fun x=>ASt.of [eP 0 0,eI 1 aK,eP 4 106,eI 5 x.1,(6,.v true (.one (.own 107 x.2.2.2.2.length 5))),eI 7 x.2.1] [(0,.var [.c (.sl 1 (List.map cU x.2.2.1)),wI x.2.2.2.1]),(106,.var zN),(107,.dat 5 (List.map af.cells x.2.2.2.2))])) ()) <| pp (pp (@lu (Int × List Int × Int) _ (fun n x=>G.aO.K1 n aK x.1 x.2.1 x.2.2) r (fun x=>ASt.of [eP 0 0,eI 1 aK,eP 4 101,eI 5 x.1] [(0,.var [.c (.sl 1 (List.map cU x.2.1)),wI x.2.2]),(101,.var zN)])) ()) <| pp (pp (And.intro @G.aO.K1.eq_1 <| And.intro @G.aO.K1.eq_2 <| And.intro @G.aO.L2.eq_1 <| @G.aO.L2.eq_2) ()) <| pp (pp (@bn [] [(0,0),(101,10)] []) <| pp (@bn [] [(0,0),(106,101),(107,12)] []) <| pp (@bn [] [(0,0),(106,106),(107,14)] []) ()) <| (pp (@jR [] [(0,0)] [1,2]) <| pp (@jR [] [(0,0),(1,15),(2,107)] []) <| pp (@jR [] [(0,0),(1,108),(2,109)] []) ())
 exact jK
theorem F.dK {n:Nat} : ∀ {aC r},G.dK n aC=some r->ACalls pZ 122 [.one (.ptr 0 0)] [.var [.c (.sl 1 (List.map cU aC.b)),wI aC.p]] (fun r1 b1=>r1 = .agg (wN r.1)/\b1=[.var [.c (.sl 1 (List.map cU r.2.b)),wI r.2.p]]):=by
 intro aC r h
 refine eH K.dK (jG ?_)
 unfold C.dK
 rcases n with _ | n<;>simp only [G.dK,reduceCtorEq] at h
 have z:=pp (pp @F.aT ()) <| pp (pp (pp @F.aO (@cG [0] [])) <| pp (pp @F.aj (@cG [0] [])) <| pp (pp @F.dh (@cG [0] [])) ()) <| pp () <| pp (pp (@lu (List Int × Int × Int × Int × aA × List aA × List af) _ (fun n x=>G.dK.K1 n x.1 x.2.1 x.2.2.1 x.2.2.2.1 x.2.2.2.2.1 x.2.2.2.2.2.1 x.2.2.2.2.2.2) r (fun x=>ASt.of [eP 2 101,eP 3 102] [(0,.var [.c (.sl 1 (List.map cU x.1)),wI x.2.1]),(101,.var zN),(102,.var [wI x.2.2.1,wI x.2.2.2.1,wS x.2.2.2.2.1,wT x.2.2.2.2.2.1,wK x.2.2.2.2.2.2])])) ()) <| pp (pp (And.intro @G.dK.K1.eq_1 <| @G.dK.K1.eq_2) ()) <| pp (pp (@bn [] [(0,0),(101,10),(102,11)] []) ()) <| (pp (@jR [] [(0,0)] []) ())
 exact jK
theorem F.wV {n:Nat} : ∀ {aC r},G.dK n aC=some r->ACalls pZ 122 [.one (.ptr 0 0)] [.var [.c (.sl 1 (List.map cU aC.b)),wI aC.p]] (fun r1 b1=>r1 = .agg [wI r.1.Kind,wI r.1.Num,wS r.1.Text,.own 1 r.1.Names.length 1,.own 2 r.1.Kids.length 5]/\b1=[.var [.c (.sl 1 (List.map cU r.2.b)),wI r.2.p],.dat 1 (List.map cS r.1.Names),.dat 5 (List.map af.cells r.1.Kids)]):=by
 intro aC r h
 refine eH K.dK (jG ?_)
 unfold C.dK
 rcases n with _ | n<;>simp only [G.dK,reduceCtorEq] at h
 have z:=pp (pp @F.aT ()) <| pp (pp (pp @F.ve (@cG [0] [101,102])) <| pp (pp @F.aj (@cG [0] [])) <| pp (pp @F.pG (@cG [0] [109,110])) ()) <| pp () <| pp (pp (@lu (List Int × Int × Int × Int × aA × List aA × List af) _ (fun n x=>G.dK.K1 n x.1 x.2.1 x.2.2.1 x.2.2.2.1 x.2.2.2.2.1 x.2.2.2.2.2.1 x.2.2.2.2.2.2) r (fun x=>ASt.of [eP 2 105,eP 3 106] [(0,.var [.c (.sl 1 (List.map cU x.1)),wI x.2.1]),(105,.var zN),(106,.var [wI x.2.2.1,wI x.2.2.2.1,wS x.2.2.2.2.1,.own 107 x.2.2.2.2.2.1.length 1,.own 108 x.2.2.2.2.2.2.length 5]),(107,.dat 1 (List.map cS x.2.2.2.2.2.1)),(108,.dat 5 (List.map af.cells x.2.2.2.2.2.2))])) ()) <| pp (pp (And.intro @G.dK.K1.eq_1 <| @G.dK.K1.eq_2) ()) <| pp (pp (@bn [] [(0,0),(105,10),(106,11),(107,109),(108,110)] []) <| pp (@bn [] [(0,0),(105,10),(106,11),(107,101),(108,102)] []) ()) <| (pp (@jR [] [(0,0),(1,107),(2,108)] []) <| pp (@jR [] [(0,0)] [1,2]) ())
 exact jK
theorem F.gZ {n:Nat} : ∀ {aC r},G.gZ n aC=some r->ACalls pZ 119 [.one (.ptr 0 0)] [.var [.c (.sl 1 (List.map cU aC.b)),wI aC.p]] (fun r1 b1=>r1 = .agg (wN r.1)/\b1=[.var [.c (.sl 1 (List.map cU r.2.b)),wI r.2.p]]):=by
 intro aC r h
 refine eH K.gZ (jG ?_)
 unfold C.gZ
 rcases n with _ | n<;>simp only [G.gZ,reduceCtorEq] at h
 have z:=pp (pp @F.ay ()) <| pp (pp (pp @F.wV (@cG [0] [101,102])) <| pp (pp @F.aj (@cG [0] [])) <| pp (pp @F.dH (@cH [0] [])) ()) <| pp (pp (@jA ((af × ReaderT) × Int × List Int × Int × List af) _ (fun n x=>G.gZ.L1 n x.1 x.2.1 x.2.2.1 x.2.2.2.1 x.2.2.2.2) r (fun x=>ASt.of [eP 0 0,eP 2 113,eP 3 114,(4,.v true (.one (.own 115 x.2.2.2.2.length 5))),eI 5 x.2.1] [(0,.var [.c (.sl 1 (List.map cU x.2.2.1)),wI x.2.2.2.1]),(113,.var zN),(114,.var [wI x.1.1.Kind,wI x.1.1.Num,wS x.1.1.Text,.own 116 x.1.1.Names.length 1,.own 117 x.1.1.Kids.length 5]),(115,.dat 5 (List.map af.cells x.2.2.2.2)),(116,.frz 1 (List.map cS x.1.1.Names)),(117,.frz 5 (List.map af.cells x.1.1.Kids))])) ()) <| pp () <| pp (pp (And.intro @G.gZ.L1.eq_1 <| @G.gZ.L1.eq_2) ()) <| pp (pp (@bn [101,102] [(0,0),(113,10),(114,11),(115,20),(116,101),(117,102)] []) <| pp (@bn [] [(0,0),(113,113),(114,114),(115,22),(116,116),(117,117)] []) ()) <| (pp (@jR [101,102] [(0,0)] []) <| pp (@jR [15,102] [(0,0)] []) <| pp (@jR [19] [(0,0)] []) <| pp (@jR [115] [(0,0)] []) ())
 exact jK
theorem F.iZ {n:Nat} : ∀ {aC r},G.iZ n aC=some r->ACalls pZ 118 [.one (.ptr 0 0)] [.var [.c (.sl 1 (List.map cU aC.b)),wI aC.p]] (fun r1 b1=>r1 = .one (wS r.1)/\b1=[.var [.c (.sl 1 (List.map cU r.2.b)),wI r.2.p]]):=by
 intro aC r h
 refine eH K.iZ (jG ?_)
 unfold C.iZ
 rcases n with _ | n<;>simp only [G.iZ,reduceCtorEq] at h
 have z:=pp () <| pp (pp (pp @F.dA (@cH [0] [])) ()) <| pp () <| pp () <| pp () <| pp () <| (pp (@jR [] [(0,0)] []) ())
 exact jK
theorem F.dL {n:Nat} : ∀ {ai r},G.dL n ai=some r->APure pZ 110 [.agg [.c (.sl 7 (List.map dN.cells ai.Items)),wI ai.Clock]] (.agg [.c (.sl 7 (List.map dN.cells r.Items)),wI r.Clock]):=by
 intro ai r h
 refine aU K.dL (jG ?_)
 unfold C.dL
 rcases n with _ | n<;>simp only [G.dL,reduceCtorEq] at h
 have z:=pp (pp @F.ay ()) <| pp () <| pp (pp (@jA (Int × List dN) _ (fun n x=>G.dL.L1 n ai x.1 x.2) r (fun x=>ASt.of [eP 1 107,eP 2 108,(3,.v true (.one (.own 109 x.2.length 7))),eI 4 x.1] [(107,.var [.c (.sl 7 (List.map dN.cells ai.Items)),wI ai.Clock]),(108,.var [.nsl 7,wI 0]),(109,.dat 7 (List.map dN.cells x.2))])) ()) <| pp () <| pp (pp (And.intro @G.dL.L1.eq_1 <| @G.dL.L1.eq_2) ()) <| pp (pp (@bn [] [(107,10),(108,11),(109,12)] []) <| pp (@bn [] [(107,107),(108,108),(109,14)] []) ()) <| ()
 exact jK
theorem F.iK {n:Nat} : ∀ {ai dW r},G.iK n ai dW=some r->APure pZ 169 [.agg [.c (.sl 7 (List.map dN.cells ai.Items)),wI ai.Clock],.one (wS dW)] (.one (wI r)):=by
 intro ai dW r h
 refine aU K.iK (jG ?_)
 unfold C.iK
 rcases n with _ | n<;>simp only [G.iK,reduceCtorEq] at h
 have z:=pp () <| pp () <| pp (pp (@jA (Int) _ (fun n x=>G.iK.L1 n ai dW x) r (fun x=>ASt.of [eS 1 dW,eP 2 103,eI 5 x] [(103,.var [.c (.sl 7 (List.map dN.cells ai.Items)),wI ai.Clock])])) ()) <| pp () <| pp (pp (And.intro @G.iK.L1.eq_1 <| @G.iK.L1.eq_2) ()) <| pp (pp (@bn [] [(103,10)] []) <| pp (@bn [] [(103,103)] []) ()) <| ()
 exact jK
theorem F.bg {n:Nat} : ∀ {ai r},G.bg n ai=some r->APure pZ 165 [.agg [.c (.sl 7 (List.map dN.cells ai.Items)),wI ai.Clock]] (.one (.c (.lit (.bool r)))):=by
 intro ai r h
 refine aU K.bg (jG ?_)
 unfold C.bg
 rcases n with _ | n<;>simp only [G.bg,reduceCtorEq] at h
 have z:=pp (pp @F.di <| pp @F.aT <| pp @F.bG ()) <| pp () <| pp (pp (@jA (Int) _ (fun n x=>G.bg.L1 n ai x) r (fun x=>ASt.of [eP 1 103,eI 3 x] [(103,.var [.c (.sl 7 (List.map dN.cells ai.Items)),wI ai.Clock])])) ()) <| pp () <| pp (pp (And.intro @G.bg.L1.eq_1 <| @G.bg.L1.eq_2) ()) <| pp (pp (@bn [] [(103,10)] []) <| pp (@bn [] [(103,103)] []) ()) <| ()
 exact jK
theorem F.jB {n:Nat} : ∀ {ai dW r},G.jB n ai dW=some r->APure pZ 160 [.agg [.c (.sl 7 (List.map dN.cells ai.Items)),wI ai.Clock],.one (wS dW)] (.tup [(true,[wS r.1.Name,wI r.1.Version,wI r.1.Node.Kind,wI r.1.Node.Num,wS r.1.Node.Text,wT r.1.Node.Names,wK r.1.Node.Kids]),(false,[.c (.lit (.bool r.2))])]):=by
 intro ai dW r h
 refine aU K.jB (jG ?_)
 unfold C.jB
 rcases n with _ | n<;>simp only [G.jB,reduceCtorEq] at h
 have z:=pp (pp @F.bg <| pp @F.iK <| pp @F.dL ()) <| pp () <| pp () <| pp () <| pp () <| pp () <| ()
 exact jK
theorem F.kU {n:Nat} : ∀ {ag r},G.kU n ag=some r->APure pZ 198 [.one (wI ag)] (.one (wS r)):=by
 intro ag r h
 refine aU K.kU (jG ?_)
 unfold C.kU
 rcases n with _ | n<;>simp only [G.kU,reduceCtorEq] at h
 have z:=pp () <| pp () <| pp () <| pp () <| pp () <| pp () <| ()
 exact jK
theorem F.iL {n:Nat} : ∀ {ai r},G.iL n ai=some r->APure pZ 199 [.one (wS ai)] (.one (wI r)):=by
 intro ai r h
 refine aU K.iL (jG ?_)
 unfold C.iL
 rcases n with _ | n<;>simp only [G.iL,reduceCtorEq] at h
 have z:=pp () <| pp () <| pp (pp (@jA (Int × Int) _ (fun n x=>G.iL.L1 n ai x.1 x.2) r (fun x=>ASt.of [eS 0 ai,eI 3 x.1,eI 4 x.2] [])) ()) <| pp () <| pp (pp (And.intro @G.iL.L1.eq_1 <| @G.iL.L1.eq_2) ()) <| pp (pp (@bn [] [] []) ()) <| ()
 exact jK
theorem F.jL {n:Nat} : ∀ {ag r},G.jL n ag=some r->APure pZ 162 [.agg (wN ag)] (.one (wS r)):=by
 intro ag r h
 refine aU K.jL (jG ?_)
 unfold C.jL
 rcases n with _ | n<;>simp only [G.jL,reduceCtorEq] at h
 have z:=pp (pp @F.aT <| pp @F.bI <| pp @F.iL <| pp @F.kU ()) <| pp () <| pp () <| pp () <| pp () <| pp () <| ()
 exact jK
theorem F.gU {n:Nat} : ∀ {aC oM r},G.gU n aC oM=some r->ACalls pZ 161 [.one (.ptr 0 0),.one (wS oM)] [.var [.c (.sl 1 (List.map cU aC.b)),wI aC.p]] (fun r1 b1=>r1 = .one (wT r.1)/\b1=[.var [.c (.sl 1 (List.map cU r.2.b)),wI r.2.p]]):=by
 intro aC oM r h
 refine eH K.gU (jG ?_)
 unfold C.gU
 rcases n with _ | n<;>simp only [G.gU,reduceCtorEq] at h
 have z:=pp () <| pp (pp (pp @F.dH (@cH [0] [])) <| pp (pp @F.dA (@cH [0] [])) <| pp (pp @F.aj (@cG [0] [])) ()) <| pp (pp (@jA (Int × List Int × Int × List aA) _ (fun n x=>G.gU.L1 n oM x.1 x.2.1 x.2.2.1 x.2.2.2) r (fun x=>ASt.of [eP 0 0,eS 1 oM,(5,.v true (.one (.own 103 x.2.2.2.length 1))),eI 6 x.1] [(0,.var [.c (.sl 1 (List.map cU x.2.1)),wI x.2.2.1]),(103,.dat 1 (List.map cS x.2.2.2))])) ()) <| pp () <| pp (pp (And.intro @G.gU.L1.eq_1 <| @G.gU.L1.eq_2) ()) <| pp (pp (@bn [] [(0,0),(103,10)] []) <| pp (@bn [] [(0,0),(103,14)] []) ()) <| (pp (@jR [103] [(0,0)] []) ())
 exact jK
theorem F.iJ {n:Nat} : ∀ {aC r},G.iJ n aC=some r->ACalls pZ 121 [.one (.ptr 0 0)] [.var [.c (.sl 1 (List.map cU aC.b)),wI aC.p]] (fun r1 b1=>r1 = .one (wS r.1)/\b1=[.var [.c (.sl 1 (List.map cU r.2.b)),wI r.2.p]]):=by
 intro aC r h
 refine eH K.iJ (jG ?_)
 unfold C.iJ
 rcases n with _ | n<;>simp only [G.iJ,reduceCtorEq] at h
 have z:=pp () <| pp (pp (pp @F.dA (@cH [0] [])) ()) <| pp () <| pp () <| pp () <| pp () <| (pp (@jR [] [(0,0)] []) ())
 exact jK
theorem F.jY {n:Nat} : ∀ {aC ai r},G.jY n aC ai=some r->ACalls pZ 159 [.one (.ptr 0 0),.agg [.c (.sl 7 (List.map dN.cells ai.Items)),wI ai.Clock]] [.var [.c (.sl 1 (List.map cU aC.b)),wI aC.p]] (fun r1 b1=>r1 = .one (wS r.1)/\b1=[.var [.c (.sl 1 (List.map cU r.2.b)),wI r.2.p]]):=by
 intro aC ai r h
 refine eH K.jY (jG ?_)
 unfold C.jY
 rcases n with _ | n<;>simp only [G.jY,reduceCtorEq] at h
 have z:=pp () <| pp (pp (pp @F.aj (@cG [0] [])) <| pp (pp @F.iZ (@cG [0] [])) <| pp (pp @F.iJ (@cG [0] [])) ()) <| pp () <| pp () <| pp () <| pp () <| (pp (@jR [] [(0,0)] []) ())
 exact jK
theorem F.jD {n:Nat} : ∀ {ag aQ r},G.jD n ag aQ=some r->APure pZ 205 [.agg (wN ag),.one (wT aQ)] (.tup [(true,(wN r.1)),(false,[.c (.lit (.bool r.2))])]):=by
 intro ag aQ r h
 refine aU K.jD (jG ?_)
 unfold C.jD
 rcases n with _ | n<;>simp only [G.jD,reduceCtorEq] at h
 have z:=pp (pp @F.dU <| pp @F.ay ()) <| pp () <| pp (pp (@jA (Int × Int × Int × aA × List aA × List af) _ (fun n x=>G.jD.L1 n aQ x.1 x.2.1 x.2.2.1 x.2.2.2.1 x.2.2.2.2.1 x.2.2.2.2.2) r (fun x=>ASt.of [eT 1 aQ,eP 2 105,eP 4 106,eI 6 x.1] [(105,.var [wI x.2.1,wI x.2.2.1,wS x.2.2.2.1,wT x.2.2.2.2.1,wK x.2.2.2.2.2]),(106,.var zN)])) ()) <| pp () <| pp (pp (And.intro @G.jD.L1.eq_1 <| @G.jD.L1.eq_2) ()) <| pp (pp (@bn [] [(105,10),(106,11)] []) <| pp (@bn [] [(105,105),(106,106)] []) ()) <| ()
 exact jK
theorem F.Bj:∀ (n:Nat),∀ {ag aQ jb r},G.jM n ag aQ jb=some r->APure pZ 203 [.agg (wN ag),.one (wT aQ),.agg (wN jb)] (.tup [(true,(wN r.1)),(false,[.c (.lit (.bool r.2))])]):=by
 intro n
 induction n using Nat.strongRecOn with | _ n ih =>
 intro ag aQ jb r h
 refine aU K.jM (jG ?_)
 unfold C.jM
 rcases n with _ | n<;>simp only [G.jM,reduceCtorEq] at h
 have z:=pp (pp ih <| pp @F.ay <| pp @F.dU <| pp @F.iC ()) <| pp () <| pp () <| pp () <| pp () <| pp () <| ()
 exact jK
theorem F.jM {n:Nat} : ∀ {ag:af} {aQ:List aA} {jb:af} {r:af × Bool},G.jM n ag aQ jb=some r->APure pZ 203 [.agg (wN ag),.one (wT aQ),.agg (wN jb)] (.tup [(true,(wN r.1)),(false,[.c (.lit (.bool r.2))])]):=F.Bj n
theorem F.kX {n:Nat} : ∀ {ag aQ jb r},G.kX n ag aQ jb=some r->APure pZ 202 [.agg (wN ag),.one (wT aQ),.agg (wN jb)] (.tup [(true,(wN r.1)),(false,[.c (.lit (.bool r.2))])]):=by
 intro ag aQ jb r h
 refine aU K.kX (jG ?_)
 unfold C.kX
 rcases n with _ | n<;>simp only [G.kX,reduceCtorEq] at h
 have z:=pp (pp @F.ay <| pp @F.jD <| pp @F.gY <| pp @F.jM ()) <| pp () <| pp () <| pp () <| pp () <| pp () <| ()
 exact jK
theorem F.Ep:∀ (n:Nat),∀ {ag r},G.fQ n ag=some r->APure pZ 200 [.agg (wN ag)] (.one (.c (.sl 1 (List.map (cL 1 cS) r)))):=by
 intro n
 induction n using Nat.strongRecOn with | _ n ih =>
 intro ag r h
 refine aU K.fQ (jG ?_)
 unfold C.fQ
 rcases n with _ | n<;>simp only [G.fQ,reduceCtorEq] at h
 have z:=pp (pp ih <| pp @F.fC ()) <| pp () <| pp (pp (@jA (Int × List (List aA)) _ (fun n x=>G.fQ.L5 n ag x.1 x.2) r (fun x=>ASt.of [eP 1 121,(3,.v true (.one (.own 122 x.2.length 1))),eI 4 x.1] [(121,.var (wN ag)),(122,.dat 1 (List.map (cL 1 cS) x.2))])) <| pp (@jA (Int × aA × List (List aA) × Int × List (List aA)) _ (fun n x=>G.fQ.L7 n ag x.1 x.2.1 x.2.2.1 x.2.2.2.1 x.2.2.2.2) r (fun x=>ASt.of [eP 1 129,(3,.v true (.one (.own 130 x.2.2.2.2.length 1))),eI 4 x.1,eS 5 x.2.1,(6,.v true (.one (.c (.sl 1 (List.map (cL 1 cS) x.2.2.1))))),eI 7 x.2.2.2.1] [(129,.var (wN ag)),(130,.dat 1 (List.map (cL 1 cS) x.2.2.2.2))])) ()) <| pp (pp (@lu (Int × List (List aA) × aA) _ (fun n x=>G.fQ.K6 n ag x.1 x.2.1 x.2.2) r (fun x=>ASt.of [eP 1 123,(3,.v true (.one (.own 124 x.2.1.length 1))),eI 4 x.1,eS 5 x.2.2] [(123,.var (wN ag)),(124,.dat 1 (List.map (cL 1 cS) x.2.1))])) ()) <| pp (pp (And.intro @G.fQ.L5.eq_1 <| And.intro @G.fQ.L5.eq_2 <| And.intro @G.fQ.K6.eq_1 <| And.intro @G.fQ.K6.eq_2 <| And.intro @G.fQ.L7.eq_1 <| @G.fQ.L7.eq_2) ()) <| pp (pp (@bn [] [(121,10),(122,12)] []) <| pp (@bn [] [(123,121),(124,122)] []) <| pp (@bn [] [(129,123),(130,124)] []) <| pp (@bn [] [(129,129),(130,16)] []) <| pp (@bn [] [(121,129),(122,130)] []) ()) <| ()
 exact jK
theorem F.fQ {n:Nat} : ∀ {ag:af} {r:List (List aA)},G.fQ n ag=some r->APure pZ 200 [.agg (wN ag)] (.one (.c (.sl 1 (List.map (cL 1 cS) r)))):=F.Ep n
theorem F.iO {n:Nat} : ∀ {ag aQ r},G.iO n ag aQ=some r->APure pZ 201 [.agg (wN ag),.one (wT aQ)] (.tup [(true,(wN r.1)),(false,[.c (.lit (.bool r.2))])]):=by
 intro ag aQ r h
 refine aU K.iO (jG ?_)
 unfold C.iO
 rcases n with _ | n<;>simp only [G.iO,reduceCtorEq] at h
 have z:=pp (pp @F.jD <| pp @F.dU <| pp @F.jM ()) <| pp () <| pp () <| pp (pp (@lu ((af × Bool) × List af × List aA) _ (fun n x=>G.iO.K1 n ag aQ x.1 x.2.1 x.2.2) r (fun x=>ASt.of [eT 1 aQ,eP 2 101,eP 4 102,eI 6 (IntKind.wrap .i64 (((aQ.length:Nat):Int)-1)),eP 7 103,(10,.v true (.one (.own 104 x.2.1.length 5))),(11,.v true (.one (.own 105 x.2.2.length 1)))] [(101,.var (wN ag)),(102,.var zN),(103,.var (wN x.1.1)),(104,.dat 5 (List.map af.cells x.2.1)),(105,.dat 1 (List.map cS x.2.2))])) ()) <| pp (pp (And.intro @G.iO.K1.eq_1 <| @G.iO.K1.eq_2) ()) <| pp (pp (@bn [] [(101,10),(102,11),(103,12),(104,15),(105,19)] []) <| pp (@bn [] [(101,10),(102,11),(103,12),(104,15),(105,16)] []) ()) <| ()
 exact jK
theorem F.iD {n:Nat} : ∀ {aC ag r},G.iD n aC ag=some r->ACalls pZ 163 [.one (.ptr 0 0),.agg (wN ag)] [.var [.c (.sl 1 (List.map cU aC.b)),wI aC.p]] (fun r1 b1=>r1 = .agg (wN r.1)/\b1=[.var [.c (.sl 1 (List.map cU r.2.b)),wI r.2.p]]):=by
 intro aC ag r h
 refine eH K.iD (jG ?_)
 unfold C.iD
 rcases n with _ | n<;>simp only [G.iD,reduceCtorEq] at h
 have z:=pp (pp @F.fQ <| pp @F.ay <| pp @F.iO <| pp @F.kX <| pp @F.jM <| pp @F.aT ()) <| pp (pp (pp @F.aj (@cG [0] [])) <| pp (pp @F.dA (@cH [0] [])) <| pp (pp @F.aO (@cG [0] [])) <| pp (pp @F.dK (@cG [0] [])) ()) <| pp () <| pp (pp (@lu (Bool × List Int × Int × Int × Int × aA × List aA × List af) _ (fun n x=>G.iD.K1 n ag x.1 x.2.1 x.2.2.1 x.2.2.2.1 x.2.2.2.2.1 x.2.2.2.2.2.1 x.2.2.2.2.2.2.1 x.2.2.2.2.2.2.2) r (fun x=>ASt.of [eP 3 101,eP 4 102,eP 7 103,(8,.v true (.one (.c (.lit (.bool x.1)))))] [(0,.var [.c (.sl 1 (List.map cU x.2.1)),wI x.2.2.1]),(101,.var (wN ag)),(102,.var zN),(103,.var [wI x.2.2.2.1,wI x.2.2.2.2.1,wS x.2.2.2.2.2.1,wT x.2.2.2.2.2.2.1,wK x.2.2.2.2.2.2.2])])) ()) <| pp (pp (And.intro @G.iD.K1.eq_1 <| @G.iD.K1.eq_2) ()) <| pp (pp (@bn [] [(0,0),(101,10),(102,11),(103,12)] []) ()) <| (pp (@jR [] [(0,0)] []) ())
 exact jK
theorem F.jH {n:Nat} : ∀ {ag r},G.jH n ag=some r->APure pZ 236 [.agg (wN ag)] (.one (.c (.sl 1 (List.map (cL 1 cS) r)))):=by
 intro ag r h
 refine aU K.jH (jG ?_)
 unfold C.jH
 rcases n with _ | n<;>simp only [G.jH,reduceCtorEq] at h
 have z:=pp (pp @F.aT <| pp @F.fQ ()) <| pp () <| pp () <| pp () <| pp () <| pp () <| ()
 exact jK
theorem F.gQ {n:Nat} : ∀ {aC r},G.gQ n aC=some r->ACalls pZ 237 [.one (.ptr 0 0)] [.var [.c (.sl 1 (List.map cU aC.b)),wI aC.p]] (fun r1 b1=>r1 = .one (wT r.1)/\b1=[.var [.c (.sl 1 (List.map cU r.2.b)),wI r.2.p]]):=by
 intro aC r h
 refine eH K.gQ (jG ?_)
 unfold C.gQ
 rcases n with _ | n<;>simp only [G.gQ,reduceCtorEq] at h
 have z:=pp () <| pp (pp (pp @F.dH (@cH [0] [])) <| pp (pp @F.dA (@cH [0] [])) <| pp (pp @F.aj (@cG [0] [])) ()) <| pp (pp (@jA (Int × List Int × Int × List aA) _ (fun n x=>G.gQ.L1 n x.1 x.2.1 x.2.2.1 x.2.2.2) r (fun x=>ASt.of [eP 0 0,(3,.v true (.one (.own 103 x.2.2.2.length 1))),eI 4 x.1] [(0,.var [.c (.sl 1 (List.map cU x.2.1)),wI x.2.2.1]),(103,.dat 1 (List.map cS x.2.2.2))])) ()) <| pp () <| pp (pp (And.intro @G.gQ.L1.eq_1 <| @G.gQ.L1.eq_2) ()) <| pp (pp (@bn [] [(0,0),(103,10)] []) <| pp (@bn [] [(0,0),(103,14)] []) ()) <| (pp (@jR [103] [(0,0)] []) ())
 exact jK
theorem F.jS {n:Nat} : ∀ {aC ag r},G.jS n aC ag=some r->ACalls pZ 204 [.one (.ptr 0 0),.agg (wN ag)] [.var [.c (.sl 1 (List.map cU aC.b)),wI aC.p]] (fun r1 b1=>r1 = .one (wT r.1)/\b1=[.var [.c (.sl 1 (List.map cU r.2.b)),wI r.2.p]]):=by
 intro aC ag r h
 refine eH K.jS (jG ?_)
 unfold C.jS
 rcases n with _ | n<;>simp only [G.jS,reduceCtorEq] at h
 have z:=pp (pp @F.jH ()) <| pp (pp (pp @F.aj (@cG [0] [])) <| pp (pp @F.gQ (@cG [0] [])) ()) <| pp () <| pp () <| pp () <| pp () <| (pp (@jR [] [(0,0)] []) ())
 exact jK
theorem F.aZ {n:Nat} : ∀ {aC ag r},G.aZ n aC ag=some r->ACalls pZ 164 [.one (.ptr 0 0),.agg (wN ag)] [.var [.c (.sl 1 (List.map cU aC.b)),wI aC.p]] (fun r1 b1=>r1 = .agg [wI r.1.Kind,wT r.1.Path,wT r.1.From,wI r.1.Value.Kind,wI r.1.Value.Num,wS r.1.Value.Text,wT r.1.Value.Names,wK r.1.Value.Kids]/\b1=[.var [.c (.sl 1 (List.map cU r.2.b)),wI r.2.p]]):=by
 intro aC ag r h
 refine eH K.aZ (jG ?_)
 unfold C.aZ
 rcases n with _ | n<;>simp only [G.aZ,reduceCtorEq] at h
 have:=Mk.mk 1; have:=Mk.mk 2; have:=Mk.mk 3; have:=Mk.mk 4
 have z:=pp (pp @F.jD ()) <| pp (pp (pp @F.aj (@cG [0] [])) <| pp (pp @F.jS (@cG [0] [])) <| pp (pp @F.aO (@cG [0] [])) <| pp (pp @F.dA (@cH [0] [])) ()) <| pp () <| pp (pp (@lu ((Int × ReaderT) × (List aA × ReaderT) × List Int × Int × List aA × Int × Int × aA × List aA × List af) _ (fun n x=>G.aZ.K3 n x.1 x.2.1 x.2.2.1 x.2.2.2.1 x.2.2.2.2.1 x.2.2.2.2.2.1 x.2.2.2.2.2.2.1 x.2.2.2.2.2.2.2.1 x.2.2.2.2.2.2.2.2.1 x.2.2.2.2.2.2.2.2.2) r (fun x=>ASt.of [eP 0 0,eP 4 109,eP 5 110] [(0,.var [.c (.sl 1 (List.map cU x.2.2.1)),wI x.2.2.2.1]),(109,.var [wI 0,.nsl 1,.nsl 1,wI 0,wI 0,.c (.str []),.nsl 1,.nsl 5]),(110,.var [wI (IntKind.wrap .i64 (1+x.1.1)),wT x.2.1.1,wT x.2.2.2.2.1,wI x.2.2.2.2.2.1,wI x.2.2.2.2.2.2.1,wS x.2.2.2.2.2.2.2.1,wT x.2.2.2.2.2.2.2.2.1,wK x.2.2.2.2.2.2.2.2.2])])) <| pp (@lu ((Int × ReaderT) × (List aA × ReaderT) × Bool) _ (fun n x=>G.aZ.K5 n ag x.1 x.2.1 x.2.2) r (fun x=>ASt.of [eP 0 0,eP 3 113,eP 4 114,eP 5 115,eI 18 (IntKind.wrap .i64 (1+x.1.1)),(19,.v true (.one (.c (.lit (.bool x.2.2)))))] [(0,.var [.c (.sl 1 (List.map cU x.2.1.2.b)),wI x.2.1.2.p]),(113,.var (wN ag)),(114,.var [wI 0,.nsl 1,.nsl 1,wI 0,wI 0,.c (.str []),.nsl 1,.nsl 5]),(115,.var [wI (IntKind.wrap .i64 (1+x.1.1)),wT x.2.1.1,.own 116 0 1,wI 0,wI 0,.c (.str []),.nsl 1,.nsl 5]),(116,.dat 1 (List.map cS []))])) <| pp (@lu ((Int × ReaderT) × (List aA × ReaderT) × Bool) _ (fun n x=>G.aZ.K6 n ag x.1 x.2.1 x.2.2) r (fun x=>ASt.of [eP 0 0,eP 3 117,eP 4 118,eP 5 119,(42,.v true (.one (.c (.lit (.bool x.2.2)))))] [(0,.var [.c (.sl 1 (List.map cU x.2.1.2.b)),wI x.2.1.2.p]),(117,.var (wN ag)),(118,.var [wI 0,.nsl 1,.nsl 1,wI 0,wI 0,.c (.str []),.nsl 1,.nsl 5]),(119,.var [wI (IntKind.wrap .i64 (1+x.1.1)),wT x.2.1.1,.own 120 0 1,wI 0,wI 0,.c (.str []),.nsl 1,.nsl 5]),(120,.dat 1 (List.map cS []))])) <| pp (@lu ((Int × ReaderT) × (List aA × ReaderT) × List aA × Int × Int × aA × List aA × List af × Bool × List Int × Int) _ (fun n x=>G.aZ.K4 n x.1 x.2.1 x.2.2.1 x.2.2.2.1 x.2.2.2.2.1 x.2.2.2.2.2.1 x.2.2.2.2.2.2.1 x.2.2.2.2.2.2.2.1 x.2.2.2.2.2.2.2.2.1 x.2.2.2.2.2.2.2.2.2.1 x.2.2.2.2.2.2.2.2.2.2) r (fun x=>ASt.of [eP 0 0,eP 4 111,eP 5 112,(72,.v true (.one (.c (.lit (.bool x.2.2.2.2.2.2.2.2.1)))))] [(0,.var [.c (.sl 1 (List.map cU x.2.2.2.2.2.2.2.2.2.1)),wI x.2.2.2.2.2.2.2.2.2.2]),(111,.var [wI 0,.nsl 1,.nsl 1,wI 0,wI 0,.c (.str []),.nsl 1,.nsl 5]),(112,.var [wI (IntKind.wrap .i64 (1+x.1.1)),wT x.2.1.1,wT x.2.2.1,wI x.2.2.2.1,wI x.2.2.2.2.1,wS x.2.2.2.2.2.1,wT x.2.2.2.2.2.2.1,wK x.2.2.2.2.2.2.2.1])])) ()) <| pp (pp (And.intro @G.aZ.K3.eq_1 <| And.intro @G.aZ.K3.eq_2 <| And.intro @G.aZ.K5.eq_1 <| And.intro @G.aZ.K5.eq_2 <| And.intro @G.aZ.K6.eq_1 <| And.intro @G.aZ.K6.eq_2 <| And.intro @G.aZ.K4.eq_1 <| @G.aZ.K4.eq_2) ()) <| pp (pp (@bn [] [(0,0),(113,10),(114,11),(115,13),(116,12)] []) <| pp (@bn [116] [(0,0),(109,114),(110,115)] []) <| pp (@bn [] [(0,0),(117,113),(118,114),(119,115),(120,116)] []) <| pp (@bn [] [(0,0),(109,118),(110,119)] []) <| pp (@bn [120] [(0,0),(109,118),(110,119)] []) <| pp (@bn [] [(0,0),(111,109),(112,110)] []) ()) <| pp (pp (@jR [19] [(0,0)] []) <| pp (@jR [] [(0,0)] []) ()) <| (pp (pp (rfl : @G.aZ.K3=_) <| pp (rfl : @G.aZ.K6=_) <| pp (rfl : @G.aZ.K5=_) ()) <| pp (pp (rfl : @G.aZ.K5=_) ()) <| pp (pp (rfl : @G.aZ.K6=_) <| pp (rfl : @G.aZ.K5=_) ()) <| pp (pp (rfl : @G.aZ.K4=_) <| pp (rfl : @G.aZ.K3=_) <| pp (rfl : @G.aZ.K6=_) <| pp (rfl : @G.aZ.K5=_) ()) ())
 exact Gg
theorem F.aG {n:Nat} : ∀ {aC ai r},G.aG n aC ai=some r->ACalls pZ 117 [.one (.ptr 0 0),.agg [.c (.sl 7 (List.map dN.cells ai.Items)),wI ai.Clock]] [.var [.c (.sl 1 (List.map cU aC.b)),wI aC.p]] (fun r1 b1=>r1 = .agg [wI r.1.Method,wS r.1.Name,wT r.1.Want,wT r.1.jk,wI r.1.Body.Kind,wI r.1.Body.Num,wS r.1.Body.Text,wT r.1.Body.Names,wK r.1.Body.Kids,.c (.sl 8 (List.map iI.cells r.1.Ops))]/\b1=[.var [.c (.sl 1 (List.map cU r.2.b)),wI r.2.p]]):=by
 intro aC ai r h
 refine eH K.aG (jG ?_)
 unfold C.aG
 rcases n with _ | n<;>simp only [G.aG,reduceCtorEq] at h
 have:=Mk.mk 1; have:=Mk.mk 2; have:=Mk.mk 3
 have z:=pp (pp @F.jB <| pp @F.jL ()) <| pp (pp (pp @F.jY (@cG [0] [])) <| pp (pp @F.aj (@cG [0] [])) <| pp (pp @F.gU (@cG [0] [])) <| pp (pp @F.dK (@cG [0] [])) <| pp (pp @F.iD (@cG [0] [])) <| pp (pp @F.aZ (@cG [0] [])) ()) <| pp (pp (@jA ((aA × ReaderT) × (dN × Bool) × (Int × ReaderT) × List aA × List aA × Int × List Int × Int × List iI) _ (fun n x=>G.aG.L5 n x.1 x.2.1 x.2.2.1 x.2.2.2.1 x.2.2.2.2.1 x.2.2.2.2.2.1 x.2.2.2.2.2.2.1 x.2.2.2.2.2.2.2.1 x.2.2.2.2.2.2.2.2) r (fun x=>ASt.of [eP 0 0,eP 4 133,eP 6 134,(7,.v true (.one (.c (.lit (.bool x.2.1.2))))),eP 8 135,eI 9 x.2.2.2.2.2.1] [(0,.var [.c (.sl 1 (List.map cU x.2.2.2.2.2.2.1)),wI x.2.2.2.2.2.2.2.1]),(133,.var [wI 0,.c (.str []),.nsl 1,.nsl 1,wI 0,wI 0,.c (.str []),.nsl 1,.nsl 5,.nsl 8]),(134,.var [wS x.2.1.1.Name,wI x.2.1.1.Version,wI x.2.1.1.Node.Kind,wI x.2.1.1.Node.Num,wS x.2.1.1.Node.Text,wT x.2.1.1.Node.Names,wK x.2.1.1.Node.Kids]),(135,.var [wI (IntKind.wrap .i64 (1+x.2.2.1.1)),wS x.1.1,wT x.2.2.2.1,wT x.2.2.2.2.1,wI 0,wI 0,.c (.str []),.nsl 1,.nsl 5,.own 136 x.2.2.2.2.2.2.2.2.length 8]),(136,.dat 8 (List.map iI.cells x.2.2.2.2.2.2.2.2))])) ()) <| pp (pp (@lu ((aA × ReaderT) × (dN × Bool) × (Int × ReaderT) × List Int × Int × List aA) _ (fun n x=>G.aG.K1 n x.1 x.2.1 x.2.2.1 x.2.2.2.1 x.2.2.2.2.1 x.2.2.2.2.2) r (fun x=>ASt.of [eP 0 0,eP 4 101,eP 6 102,(7,.v true (.one (.c (.lit (.bool x.2.1.2))))),eP 8 103] [(0,.var [.c (.sl 1 (List.map cU x.2.2.2.1)),wI x.2.2.2.2.1]),(101,.var [wI 0,.c (.str []),.nsl 1,.nsl 1,wI 0,wI 0,.c (.str []),.nsl 1,.nsl 5,.nsl 8]),(102,.var [wS x.2.1.1.Name,wI x.2.1.1.Version,wI x.2.1.1.Node.Kind,wI x.2.1.1.Node.Num,wS x.2.1.1.Node.Text,wT x.2.1.1.Node.Names,wK x.2.1.1.Node.Kids]),(103,.var [wI (IntKind.wrap .i64 (1+x.2.2.1.1)),wS x.1.1,wT x.2.2.2.2.2,.own 104 0 1,wI 0,wI 0,.c (.str []),.nsl 1,.nsl 5,.own 105 0 8]),(104,.dat 1 (List.map cS [])),(105,.dat 8 (List.map iI.cells []))])) <| pp (@lu ((aA × ReaderT) × (dN × Bool) × (Int × ReaderT) × List aA × List Int × Int × List aA) _ (fun n x=>G.aG.K2 n x.1 x.2.1 x.2.2.1 x.2.2.2.1 x.2.2.2.2.1 x.2.2.2.2.2.1 x.2.2.2.2.2.2) r (fun x=>ASt.of [eP 0 0,eP 4 106,eP 6 107,(7,.v true (.one (.c (.lit (.bool x.2.1.2))))),eP 8 108] [(0,.var [.c (.sl 1 (List.map cU x.2.2.2.2.1)),wI x.2.2.2.2.2.1]),(106,.var [wI 0,.c (.str []),.nsl 1,.nsl 1,wI 0,wI 0,.c (.str []),.nsl 1,.nsl 5,.nsl 8]),(107,.var [wS x.2.1.1.Name,wI x.2.1.1.Version,wI x.2.1.1.Node.Kind,wI x.2.1.1.Node.Num,wS x.2.1.1.Node.Text,wT x.2.1.1.Node.Names,wK x.2.1.1.Node.Kids]),(108,.var [wI (IntKind.wrap .i64 (1+x.2.2.1.1)),wS x.1.1,wT x.2.2.2.1,wT x.2.2.2.2.2.2,wI 0,wI 0,.c (.str []),.nsl 1,.nsl 5,.own 109 0 8]),(109,.dat 8 (List.map iI.cells []))])) <| pp (@lu ((aA × ReaderT) × (dN × Bool) × (Int × ReaderT) × List aA × List aA × List Int × Int × Int × Int × aA × List aA × List af × List iI) _ (fun n x=>G.aG.K4 n x.1 x.2.1 x.2.2.1 x.2.2.2.1 x.2.2.2.2.1 x.2.2.2.2.2.1 x.2.2.2.2.2.2.1 x.2.2.2.2.2.2.2.1 x.2.2.2.2.2.2.2.2.1 x.2.2.2.2.2.2.2.2.2.1 x.2.2.2.2.2.2.2.2.2.2.1 x.2.2.2.2.2.2.2.2.2.2.2.1 x.2.2.2.2.2.2.2.2.2.2.2.2) r (fun x=>ASt.of [eP 0 0,eP 4 122,(7,.v true (.one (.c (.lit (.bool x.2.1.2))))),eP 8 123] [(0,.var [.c (.sl 1 (List.map cU x.2.2.2.2.2.1)),wI x.2.2.2.2.2.2.1]),(122,.var [wI 0,.c (.str []),.nsl 1,.nsl 1,wI 0,wI 0,.c (.str []),.nsl 1,.nsl 5,.nsl 8]),(123,.var [wI (IntKind.wrap .i64 (1+x.2.2.1.1)),wS x.1.1,wT x.2.2.2.1,wT x.2.2.2.2.1,wI x.2.2.2.2.2.2.2.1,wI x.2.2.2.2.2.2.2.2.1,wS x.2.2.2.2.2.2.2.2.2.1,wT x.2.2.2.2.2.2.2.2.2.2.1,wK x.2.2.2.2.2.2.2.2.2.2.2.1,.own 124 x.2.2.2.2.2.2.2.2.2.2.2.2.length 8]),(124,.dat 8 (List.map iI.cells x.2.2.2.2.2.2.2.2.2.2.2.2))])) ()) <| pp (pp (And.intro @G.aG.K1.eq_1 <| And.intro @G.aG.K1.eq_2 <| And.intro @G.aG.K2.eq_1 <| And.intro @G.aG.K2.eq_2 <| And.intro @G.aG.K4.eq_1 <| And.intro @G.aG.K4.eq_2 <| And.intro @G.aG.L5.eq_1 <| @G.aG.L5.eq_2) ()) <| pp (pp (@bn [] [(0,0),(101,11),(102,12),(103,16),(104,14),(105,15)] []) <| pp (@bn [13] [(0,0),(101,11),(102,12),(103,16),(104,14),(105,15)] []) <| pp (@bn [] [(0,0),(106,101),(107,102),(108,103),(109,105)] []) <| pp (@bn [104] [(0,0),(106,101),(107,102),(108,103),(109,105)] []) <| pp (@bn [] [(0,0),(122,106),(123,108),(124,109)] []) <| pp (@bn [] [(0,0),(133,106),(134,107),(135,108),(136,109)] []) <| pp (@bn [] [(0,0),(133,133),(134,134),(135,135),(136,18)] []) <| pp (@bn [] [(0,0),(122,133),(123,135),(124,136)] []) ()) <| pp (pp (@jR [124] [(0,0)] []) ()) <| (pp (pp (rfl : @G.aG.K1=_) ()) <| pp (pp (rfl : @G.aG.K2=_) <| pp (rfl : @G.aG.K1=_) ()) <| pp (pp (rfl : @G.aG.K4=_) <| pp (rfl : @G.aG.L5=_) <| pp (rfl : @G.aG.K2=_) <| pp (rfl : @G.aG.K1=_) ()) ())
 exact Gg
theorem F.ja {n:Nat} : ∀ {aC ai r},G.ja n aC ai=some r->ACalls pZ 68 [.one (.ptr 0 0),.agg [.c (.sl 7 (List.map dN.cells ai.Items)),wI ai.Clock]] [.var [.c (.sl 1 (List.map cU aC.b)),wI aC.p]] (fun r1 b1=>r1 = .agg [wI r.1.Method,wS r.1.Name,wT r.1.Want,wT r.1.jk,wI r.1.Body.Kind,wI r.1.Body.Num,wS r.1.Body.Text,wT r.1.Body.Names,wK r.1.Body.Kids,.c (.sl 8 (List.map iI.cells r.1.Ops))]/\b1=[.var [.c (.sl 1 (List.map cU r.2.b)),wI r.2.p]]):=by
 intro aC ai r h
 refine eH K.ja (jG ?_)
 unfold C.ja
 rcases n with _ | n<;>simp only [G.ja,reduceCtorEq] at h
 have z:=pp () <| pp (pp (pp @F.aG (@cG [0] [])) <| pp (pp @F.aj (@cG [0] [])) <| pp (pp @F.dH (@cH [0] [])) <| pp (pp @F.iZ (@cG [0] [])) <| pp (pp @F.gZ (@cG [0] [])) ()) <| pp () <| pp () <| pp () <| pp () <| (pp (@jR [] [(0,0)] []) ())
 exact jK
theorem F.iY {n:Nat} : ∀ {ai dW r},G.iY n ai dW=some r->APure pZ 170 [.agg [.c (.sl 7 (List.map dN.cells ai.Items)),wI ai.Clock],.one (wS dW)] (.agg [.c (.sl 7 (List.map dN.cells r.Items)),wI r.Clock]):=by
 intro ai dW r h
 refine aU K.iY (jG ?_)
 unfold C.iY
 rcases n with _ | n<;>simp only [G.iY,reduceCtorEq] at h
 have z:=pp (pp @F.dL ()) <| pp () <| pp (pp (@jA (StoreT × Int × List dN) _ (fun n x=>G.iY.L1 n ai dW x.1 x.2.1 x.2.2) r (fun x=>ASt.of [eS 1 dW,eP 2 107,eP 4 108,(5,.v true (.one (.own 109 x.2.2.length 7))),(6,.v true (.one (.c (.sl 7 (List.map dN.cells x.1.Items))))),eI 7 x.2.1] [(107,.var [.c (.sl 7 (List.map dN.cells ai.Items)),wI ai.Clock]),(108,.var [.nsl 7,wI 0]),(109,.dat 7 (List.map dN.cells x.2.2))])) ()) <| pp () <| pp (pp (And.intro @G.iY.L1.eq_1 <| @G.iY.L1.eq_2) ()) <| pp (pp (@bn [] [(107,10),(108,11),(109,12)] []) <| pp (@bn [] [(107,107),(108,108),(109,109)] []) <| pp (@bn [] [(107,107),(108,108),(109,14)] []) ()) <| ()
 exact jK
theorem F.jh {n:Nat} : ∀ {ai dW r},G.jh n ai dW=some r->APure pZ 123 [.agg [.c (.sl 7 (List.map dN.cells ai.Items)),wI ai.Clock],.one (wS dW)] (.tup [(true,[.c (.sl 7 (List.map dN.cells r.1.Items)),wI r.1.Clock]),(false,[.c (.lit (.bool r.2))])]):=by
 intro ai dW r h
 refine aU K.jh (jG ?_)
 unfold C.jh
 rcases n with _ | n<;>simp only [G.jh,reduceCtorEq] at h
 have z:=pp (pp @F.bg <| pp @F.iK <| pp @F.iY ()) <| pp () <| pp () <| pp () <| pp () <| pp () <| ()
 exact jK
theorem F.fV {n:Nat} : ∀ {ai dW ag r},G.fV n ai dW ag=some r->APure pZ 166 [.agg [.c (.sl 7 (List.map dN.cells ai.Items)),wI ai.Clock],.one (wS dW),.agg (wN ag)] (.agg [.c (.sl 7 (List.map dN.cells r.Items)),wI r.Clock]):=by
 intro ai dW ag r h
 refine aU K.fV (jG ?_)
 unfold C.fV
 rcases n with _ | n<;>simp only [G.fV,reduceCtorEq] at h
 have z:=pp (pp @F.ay <| pp @F.dL ()) <| pp () <| pp (pp (@jA (af × StoreT × Bool × Int × List dN) _ (fun n x=>G.fV.L3 n ai dW x.1 x.2.1 x.2.2.1 x.2.2.2.1 x.2.2.2.2) r (fun x=>ASt.of [eS 1 dW,eP 3 117,eP 6 118,(7,.v true (.one (.own 119 x.2.2.2.2.length 7))),eP 8 120,(9,.v true (.one (.c (.sl 7 (List.map dN.cells x.2.1.Items))))),(10,.v true (.one (.c (.lit (.bool x.2.2.1))))),eI 11 x.2.2.2.1] [(117,.var [.c (.sl 7 (List.map dN.cells ai.Items)),wI ai.Clock]),(118,.var [.nsl 7,wI 0]),(119,.dat 7 (List.map dN.cells x.2.2.2.2)),(120,.var [wS dW,wI (IntKind.wrap .i64 (ai.Clock+1)),wI x.1.Kind,wI x.1.Num,wS x.1.Text,wT x.1.Names,wK x.1.Kids])])) ()) <| pp (pp (@lu (af × StoreT × Int × Bool × List dN) _ (fun n x=>G.fV.K4 n ai dW x.1 x.2.1 x.2.2.1 x.2.2.2.1 x.2.2.2.2) r (fun x=>ASt.of [eS 1 dW,eP 3 121,eP 6 122,(7,.v true (.one (.own 123 x.2.2.2.2.length 7))),eP 8 124,(9,.v true (.one (.c (.sl 7 (List.map dN.cells x.2.1.Items))))),(10,.v true (.one (.c (.lit (.bool x.2.2.2.1))))),eI 11 x.2.2.1] [(121,.var [.c (.sl 7 (List.map dN.cells ai.Items)),wI ai.Clock]),(122,.var [.nsl 7,wI 0]),(123,.dat 7 (List.map dN.cells x.2.2.2.2)),(124,.var [wS dW,wI (IntKind.wrap .i64 (ai.Clock+1)),wI x.1.Kind,wI x.1.Num,wS x.1.Text,wT x.1.Names,wK x.1.Kids])])) ()) <| pp (pp (And.intro @G.fV.L3.eq_1 <| And.intro @G.fV.L3.eq_2 <| And.intro @G.fV.K4.eq_1 <| @G.fV.K4.eq_2) ()) <| pp (pp (@bn [] [(117,10),(118,12),(119,13),(120,14)] []) <| pp (@bn [] [(121,117),(122,118),(123,119),(124,120)] []) <| pp (@bn [] [(121,117),(122,118),(123,16),(124,120)] []) <| pp (@bn [] [(117,121),(118,122),(119,123),(120,124)] []) <| pp (@bn [] [(117,121),(118,122),(119,18),(120,124)] []) ()) <| ()
 exact jK
theorem F.jC {n:Nat} : ∀ {ai dW ag r},G.jC n ai dW ag=some r->APure pZ 120 [.agg [.c (.sl 7 (List.map dN.cells ai.Items)),wI ai.Clock],.one (wS dW),.agg (wN ag)] (.tup [(true,[.c (.sl 7 (List.map dN.cells r.1.Items)),wI r.1.Clock]),(false,[.c (.lit (.bool r.2))])]):=by
 intro ai dW ag r h
 refine aU K.jC (jG ?_)
 unfold C.jC
 rcases n with _ | n<;>simp only [G.jC,reduceCtorEq] at h
 have z:=pp (pp @F.bg <| pp @F.di <| pp @F.aT <| pp @F.fV ()) <| pp () <| pp () <| pp () <| pp () <| pp () <| ()
 exact jK
theorem F.dB {n:Nat} : ∀ {aC r},G.dB n aC=some r->ACalls pZ 69 [.one (.ptr 0 0)] [.var [.c (.sl 1 (List.map cU aC.b)),wI aC.p]] (fun r1 b1=>r1 = .agg [.c (.sl 7 (List.map dN.cells r.1.Items)),wI r.1.Clock]/\b1=[.var [.c (.sl 1 (List.map cU r.2.b)),wI r.2.p]]):=by
 intro aC r h
 refine eH K.dB (jG ?_)
 unfold C.dB
 rcases n with _ | n<;>simp only [G.dB,reduceCtorEq] at h
 have z:=pp (pp @F.jC <| pp @F.jh ()) <| pp (pp (pp @F.dH (@cH [0] [])) <| pp (pp @F.iJ (@cG [0] [])) <| pp (pp @F.dK (@cG [0] [])) <| pp (pp @F.aj (@cG [0] [])) ()) <| pp (pp (@jA (Int × List Int × Int × List dN × Int) _ (fun n x=>G.dB.L3 n x.1 x.2.1 x.2.2.1 x.2.2.2.1 x.2.2.2.2) r (fun x=>ASt.of [eP 0 0,eP 2 113,eP 3 114,eI 4 x.1] [(0,.var [.c (.sl 1 (List.map cU x.2.1)),wI x.2.2.1]),(113,.var [.nsl 7,wI 0]),(114,.var [.c (.sl 7 (List.map dN.cells x.2.2.2.1)),wI x.2.2.2.2])])) ()) <| pp (pp (@lu (Int × List dN × Int × Bool × List Int × Int × List dN × Int) _ (fun n x=>G.dB.K4 n x.1 x.2.1 x.2.2.1 x.2.2.2.1 x.2.2.2.2.1 x.2.2.2.2.2.1 x.2.2.2.2.2.2.1 x.2.2.2.2.2.2.2) r (fun x=>ASt.of [eP 0 0,eP 2 115,eP 3 116,eI 4 x.1,eP 5 117,(6,.v true (.one (.c (.lit (.bool x.2.2.2.1)))))] [(0,.var [.c (.sl 1 (List.map cU x.2.2.2.2.1)),wI x.2.2.2.2.2.1]),(115,.var [.nsl 7,wI 0]),(116,.var [.c (.sl 7 (List.map dN.cells x.2.1)),wI x.2.2.1]),(117,.var [.c (.sl 7 (List.map dN.cells x.2.2.2.2.2.2.1)),wI x.2.2.2.2.2.2.2])])) ()) <| pp (pp (And.intro @G.dB.L3.eq_1 <| And.intro @G.dB.L3.eq_2 <| And.intro @G.dB.K4.eq_1 <| @G.dB.K4.eq_2) ()) <| pp (pp (@bn [11] [(0,0),(113,10),(114,12)] []) <| pp (@bn [] [(0,0),(115,113),(116,114),(117,14)] []) <| pp (@bn [] [(0,0),(113,115),(114,116)] []) ()) <| (pp (@jR [] [(0,0)] []) ())
 exact jK
theorem F.dP {n:Nat} : ∀ {aC r},G.dP n aC=some r->ACalls pZ 26 [.one (.ptr 0 0)] [.var [.c (.sl 1 (List.map cU aC.b)),wI aC.p]] (fun r1 b1=>r1 = .agg [wI r.1.Method,wS r.1.Name,wT r.1.Want,wT r.1.jk,wI r.1.Body.Kind,wI r.1.Body.Num,wS r.1.Body.Text,wT r.1.Body.Names,wK r.1.Body.Kids,.c (.sl 8 (List.map iI.cells r.1.Ops))]/\b1=[.var [.c (.sl 1 (List.map cU r.2.b)),wI r.2.p]]):=by
 intro aC r h
 refine eH K.dP (jG ?_)
 unfold C.dP
 rcases n with _ | n<;>simp only [G.dP,reduceCtorEq] at h
 have z:=pp () <| pp (pp (pp @F.dB (@cG [0] [])) <| pp (pp @F.ja (@cG [0] [])) <| pp (pp @F.aj (@cG [0] [])) ()) <| pp () <| pp (pp (@lu ((RequestT × ReaderT) × List Int × Int × Int × Int × aA × List aA × List af) _ (fun n x=>G.dP.K1 n x.1 x.2.1 x.2.2.1 x.2.2.2.1 x.2.2.2.2.1 x.2.2.2.2.2.1 x.2.2.2.2.2.2.1 x.2.2.2.2.2.2.2) r (fun x=>ASt.of [eP 0 0,eP 2 101,eP 3 102] [(0,.var [.c (.sl 1 (List.map cU x.2.1)),wI x.2.2.1]),(101,.var [wI 0,.c (.str []),.nsl 1,.nsl 1,wI 0,wI 0,.c (.str []),.nsl 1,.nsl 5,.nsl 8]),(102,.var [wI x.1.1.Method,wS x.1.1.Name,wT x.1.1.Want,wT x.1.1.jk,wI x.2.2.2.1,wI x.2.2.2.2.1,wS x.2.2.2.2.2.1,wT x.2.2.2.2.2.2.1,wK x.2.2.2.2.2.2.2,.c (.sl 8 (List.map iI.cells x.1.1.Ops))])])) ()) <| pp (pp (And.intro @G.dP.K1.eq_1 <| @G.dP.K1.eq_2) ()) <| pp (pp (@bn [] [(0,0),(101,10),(102,11)] []) ()) <| (pp (@jR [12] [(0,0)] []) <| pp (@jR [] [(0,0)] []) ())
 exact jK
end Go.Ab
end
section
namespace Go.Ab
open Go Go.ChangeShapes Go.WideShapes Go.ChangeAt Go.RowKit
def I0 (W:World):IH:=fun b=>match W.heap[b]? with
 | some (.cells c _ _)=>some c
 | _=>none
theorem Hu (W:World):Agree (I0 W) W:=by
 intro b c h
 unfold I0 at h
 split at h
 ·rename_i c' e fr hb
  cases h
  exact ⟨e,fr,hb⟩
 ·cases h
theorem Af (W:World) {a:Addr} {v:Value} (h:W.cell? a=some v):(I0 W).cell a=some v:=by
 unfold World.cell? at h
 unfold IH.cell I0
 split at h
 ·rename_i c e fr hb
  split at h
  ·cases h
  ·rename_i hs
   rw [if_neg hs,hb]
   exact h
 ·cases h
theorem Ap {W W':World} {M:Nat->Prop} (h:Frm W W' M) (hM:∀ k,¬ M k):Below W.heap.size W W' :=
 ⟨h.os,h.tape,h.output,h.size,fun k hk=>h.block k hk (hM k)⟩
theorem vX (ρ:Ren) (k:Nat):¬ ∃ b,(bxL [] b).uses (ρ b) k:=fun ⟨b,h⟩=>by
 simp only [bxL,List.getD_nil] at h
 exact h
abbrev xH (z:Int):List Cell:=[.lit (.int .u8 z)]
theorem Gp {P:Program} {W:World} {x:String × DataW Unit} {rest:List (String × DataW Unit)} (h:laidMet P (x::rest) W):laidMet P rest W:=by
 obtain ⟨ps,hv,hn,hc⟩:=h
 obtain ⟨g,t,cs,fuel,p,q,h1,h2,h3,h4,h5,rfl⟩:=hv
 exact ⟨q,h5,(List.nodup_append.1 hn).2.1,fun b off hp=>hc b off (List.mem_append_right _ hp)⟩
theorem nI {P:Program} {W:World} : ∀ (k:Nat) {l:List (String × DataW Unit)},laidMet P l W->laidMet P (l.drop k) W
 | 0,l,h=>h
 | k+1,[],h=>h
 | k+1,x::l,h=>nI k (l:=l) (Gp h)
theorem Ji {P:Program} {W:World} {rest:List (String × DataW Unit)} {g:Nat} {t e:TypeId}
  (hg:P.globalNamed "internal/strconv.uint64pow10" = some g) (hty:(P.globals[g]?).map (·.type)=some t) (ht:P.underlying t=some (.array 20 e)) (he:P.underlying e=some (.int .u64)) (hce:P.cellsOf e=1) (hct:P.cellsOf t=20)
  (h:laidMet P (("internal/strconv.uint64pow10",Lib.tabData .u64 Lib.pow10Tab)::rest) W):∀ g',P.globalNamed "internal/strconv.uint64pow10" = some g'->I0 W g'=some (Lib.pow10Tab.map fun z=>Value.int .u64 z).toArray:=by
 have h1:=Lib.tabIs_of_head hg hty ht he hce hct h
 intro g' hg'
 rw [hg] at hg'
 simp only [Option.some.injEq] at hg'
 subst hg'
 unfold Lib.TabIs World.var? at h1
 simp only [hg] at h1
 unfold I0
 revert h1
 split<;>simp_all
theorem IY {P:Program} {W:World} {n:String} {g:Nat} {t:TypeId} (h:W.ShapedOpen P) (hn:P.globalNamed n=some g) (hg:g<P.globals.size)
  (h0:((begin P (fun _ _=>0) default).world.heap[g]?).bind Obj.row? = some (#[.int .i64 0],t)) (hb:P.buildable t=true) (hc:P.cellTypes P.depth t=some [t]) (hu:P.underlying t=some (.int .i64)) :
  ∀ g',P.globalNamed n=some g'->∃ m,(I0 W).cell ⟨g',0,none⟩=some (.int .i64 m):=by
 intro g' hg'
 cases hn.symm.trans hg'
 obtain ⟨m,hm⟩:=Go.Proofs.cell_of_shapedOpen_int h hg h0 rfl hb hc hu
 exact ⟨m,Af W hm⟩
theorem AO {P:Program} {n nm:String} {text:List UInt8} {r:List (String × DataW Unit)} {W:World} {g:Nat} {ti tp te ts:TypeId} {ms:Array (String × TypeId)} {f:Field}
  (h:laidMet P ((n,.iface nm (.ptr (.agg [.lit (.string text)])))::r) W)
  (hg:P.globalNamed n=some g) (ht:(P.globals[g]?).map (·.type)=some ti) (hi:P.underlying ti=some (.interface ms)) (hrow:∀ u,P.typeName? 3 u=some nm->u=tp)
  (hp:P.underlying tp=some (.pointer te)) (he:P.underlying te=some (.struct #[f])) (hft:f.type=ts) (hfo:f.offset=0) (hs:P.underlying ts=some .string) (hc:P.cellsOf te=1) (hcs:P.cellsOf ts=1) :
  ∀ g',P.globalNamed n=some g'->∃ v,(I0 W).cell ⟨g',0,none⟩=some v/\(v = .nilIface\/∃ t p,v = .iface t p):=by
 intro g' hg'
 cases hg.symm.trans hg'
 obtain ⟨a,s,hv,_⟩:=laid_sentinel h hg ht hi hrow hp he hft hfo hs hc hcs
 exact ⟨_,Af W (by rw [World.var?_cell hg hv 0]; rfl),.inr ⟨_,_,rfl⟩⟩
theorem zO {P:Program} {f:FuncId} {H:Type} {enc:TypeId × Value->H} {W:World} {tb eb:TypeId} {v0:Value} {d0:DataW H} {p0:List MemPlace} {base:Nat}
    (hT:Tabs P (I0 W)) (ht:P.underlying tb=some (.slice eb)) (he:P.underlying eb=some (.int .u8)) (hc:P.cellsOf eb=1)
    (hval:Value.okWide P W .any base tb v0) (h0:DataW.Trod enc P W 0 (fun _=>true) true tb v0 d0 p0)
    (hp:∀ zs:List Int,zs.length<=maxLen->(∀ z,z∈zs->0<=z/\z<256)->APure P f [vSl 1 (zs.map xH)] (vBool true)) :
    Calls P f #[v0] W fun e W'=>e = .returned (.bool true)/\Below W.heap.size W W':=by
  obtain ⟨a0,len,cap,rfl⟩:=okWide_slice ht hval
  obtain ⟨fuel,hf⟩:=h0
  have go:∀ zs:List Int,zs.length<=maxLen->(∀ z,z∈zs->0<=z/\z<256)->Rd (I0 W) (.slice a0 len cap) (.sl 1 (zs.map xH)) ->
      Calls P f #[.slice a0 len cap] W fun e W'=>e = .returned (.bool true)/\Below W.heap.size W W':=by
    intro zs hl hz hr
    refine (hp zs hl hz (I0 W) (fun _=>none) W [.slice a0 len cap] hT (Hu W) ⟨fun b=>by simp only [bxL,List.getD_nil]; exact rfl,fun b b' k h=>(vX (fun _=>none) k ⟨b,h⟩).elim,fun b k h=>(vX (fun _=>none) k ⟨b,h⟩).elim⟩ ⟨rfl,?_⟩).mono ?_
    · intro j v x hv hx
      match j with
      | 0 =>
        simp only [List.getElem?_cons_zero,Option.some.injEq] at hv hx
        subst hv hx
        exact hr
      | j+1=>simp at hv
    · rintro e W' ⟨v,J,σ,r,bs,rfl,⟨rfl,rfl⟩,hg,_,_,_,hfr,_⟩
      refine ⟨?_,Ap hfr (vX (fun _=>none))⟩
      cases hg
      rfl
  rcases open_ints ht he hc hf with ⟨hcs,hx⟩ | ⟨a,len',cap',zs,hcs,_,hl,hm,hz,hx,hcell,hwz⟩
  · simp [Value.cells] at hcs
    obtain ⟨rfl,rfl,rfl⟩:=hcs
    exact go [] (Nat.zero_le _) (fun z h=>by cases h) (.sl none 0 0 1 [] (fun _ _=>undef) rfl (Nat.le_refl _) (Nat.zero_le _) (fun e h=>by cases h) (fun h=>by omega) (fun ad h=>by cases h) (fun i j c h=>by simp at h))
  · simp [Value.cells] at hcs
    obtain ⟨rfl,rfl,rfl⟩:=hcs
    simp only [if_true] at hz
    have hb:∀ z,z∈zs.take len->0<=z/\z<256:=fun z hz'=>by
      have h5:=hwz z (List.mem_of_mem_take hz')
      have e1:IntKind.u8.min=0:=rfl
      have e2:IntKind.u8.max=255:=rfl
      have:0<=z/\z<=255:=by simpa [Lit.wf,e1,e2] using h5
      omega
    have hlen:(zs.take len).length=len:=by rw [List.length_take]; omega
    refine go (zs.take len) (by omega) hb (.sl (some a) len cap 1 _ (fun i _ => .int .u8 (zs.getD i 0)) (by rw [List.length_map,hlen]) hl hm (fun e h => ?_) (fun _ h=>by cases h) (fun ad hd i j hi hj => ?_) (fun i j c h => ?_))
    · obtain ⟨z,_,rfl⟩:=List.mem_map.1 h
      rfl
    · cases hd
      have e:i*1+j=i:=by omega
      rw [e]
      exact Af W (hcell i (by omega))
    · by_cases hi:i<len
      · have hi':i<zs.length:=by omega
        have e:((zs.take len).map xH).getD i []=xH (zs.getD i 0):=by
          simp [List.getD,List.getElem?_map,List.getElem?_take,hi,hi']
        rw [e] at h
        match j with
        | 0 =>
          simp only [List.getElem?_cons_zero,Option.some.injEq] at h
          subst h
          exact .lit _ rfl
        | j+1=>simp at h
      · have e:((zs.take len).map xH).getD i []=[]:=by
          simp [List.getD,List.getElem?_map,List.getElem?_take,hi]
        rw [e] at h
        simp at h
end Go.Ab
end
