import Derived.Test.YtlakjmncfooodaaSnAr
set_option linter.all false
set_option maxRecDepth 100000
namespace Go.Proofs.Ytlakjmncfooodaa
open Go Go.RowKit
variable {w:World}{B:Nat}{a:Act}{v:Value}{T:TypeId}{w0:Bs}{Γ:List (Nat × VA)}{Λ:List Lc}{ps:String}{af:Array Edge}{vr:Value}{H:Hd}{cs:List Value}{w':World}{P:Program}{D:List TypeId}
def ItB (b:Nat)(f:FuncId)(cf:List Nat→List (TypeId × As))(D:List TypeId)(hD:∀ gs,(ItV f (cf gs) gs).deps=D):VA where
 p B v w:=∃ gs,(ItV f (cf gs) gs).p B v w∧∀ g∈gs,b≤g
 deps:=D
 cg:=λ B v w w' hg ⟨gs,h1,h2⟩=>⟨gs,(ItV f (cf gs) gs).cg B v w w' hg h1,h2⟩
 wr:=λ B v w w' g c T fz h1 hT h3 h4 ⟨gs,h5,h6⟩=>⟨gs,(ItV f (cf gs) gs).wr B v w w' g c T fz h1 (by rw [hD gs]; exact hT) h3 h4 h5,h6⟩
def ItM (f:FuncId)(cf:List Nat→List (TypeId × As))(D:List TypeId)(hD:∀ gs,(ItV f (cf gs) gs).deps=D)(ns:List Nat):VA where
 p B v w:=∃ gs,(ItV f (cf gs) gs).p B v w∧∀ n∈ns,n ∉ gs
 deps:=D
 cg:=λ B v w w' hg ⟨gs,h1,h2⟩=>⟨gs,(ItV f (cf gs) gs).cg B v w w' hg h1,h2⟩
 wr:=λ B v w w' g c T fz h1 hT h3 h4 ⟨gs,h5,h6⟩=>⟨gs,(ItV f (cf gs) gs).wr B v w w' g c T fz h1 (by rw [hD gs]; exact hT) h3 h4 h5,h6⟩
def CapN (Γ:List (Nat × VA))(Λ:List Lc):List Nat→List (TypeId × As)→List Nat→List (Nat × Nat)→Prop
 | [],[],[],[]=>True
 | g::gs,c::cs,s::ss,(x,y)::ix=>(Γ[x]?=some (s,EqV (ptr g))∧Λ[y]?=some ⟨s,c.1,ptrH,c.2⟩)∧CapN Γ Λ gs cs ss ix
 | _,_,_,_=>False
theorem k6 {B N:Nat}{w0:Bs}{Γ:List (Nat × VA)}{Λ:List Lc}{a:Act}{w:World}(h:St B w0 N Γ Λ a w):∀ {gs:List Nat} {cs:List (TypeId × As)} {ss:List Nat} {ix:List (Nat × Nat)},CapN Γ Λ gs cs ss ix →
  CapsOk B w cs gs∧(∀ g∈gs,w0.may g)∧∀ g∈gs,∃ s∈ss,∃ l∈Λ,l.s=s∧a.eval (.tmp s)=ptr g
 | [],[],[],[],_=>⟨.nil,(λ _ h=>by cases h),(λ _ h=>by cases h)⟩
 | g::gs,c::cs,s::ss,(x,y)::ix,hc=>by
  obtain ⟨⟨e1,e2⟩,h3⟩:=hc
  obtain ⟨i1,i2,i3⟩:=k6 h h3
  have hn:a.eval (.tmp s)=ptr g:=h.vals _ (qa e1)
  obtain ⟨g',ds,f1,f2,f3,f4⟩:=h.locs _ (qa e2)
  have f1':a.eval (.tmp s)=ptr g':=f1
  have eg:g'=g:=by rw [hn] at f1'; injection f1' with f1'; injection f1' with f1'; injection f1' with f1'; exact f1'.symm
  subst eg
  refine ⟨.cons ⟨h.lo _ f2,ds,f3,f4⟩ i1,λ g hg=>?_,λ g hg=>?_⟩
  ·rcases ql.1 hg with rfl | hg
   ·exact f2
   ·exact i2 g hg
  ·rcases ql.1 hg with rfl | hg
   ·exact ⟨s,zZ,_,qa e2,rfl,hn⟩
   ·obtain ⟨s',q1,q2⟩:=i3 g hg
    exact ⟨s',zc _ q1,q2⟩
 | [],_::_,_,_,h=>h.elim
 | [],[],_::_,_,h=>h.elim
 | [],[],[],_::_,h=>h.elim
 | _::_,[],_,_,h=>h.elim
 | _::_,_::_,[],_,h=>h.elim
 | _::_,_::_,_::_,[],h=>h.elim
theorem capN_nd {B N:Nat}{w0:Bs}{Γ:List (Nat × VA)}{Λ:List Lc}{a:Act}{w:World}(h:St B w0 N Γ Λ a w):∀ {gs:List Nat} {cs:List (TypeId × As)} {ss:List Nat} {ix:List (Nat × Nat)},CapN Γ Λ gs cs ss ix→ss.Nodup→gs.Nodup
 | [],_,_,_,_,_=>xR
 | g::gs,c::cs,s::ss,(x,y)::ix,hc,hn=>by
  obtain ⟨⟨e1,e2⟩,h3⟩:=hc
  obtain ⟨n1,n2⟩:=xu.1 hn
  refine xu.2 ⟨λ hm=>?_,capN_nd h h3 n2⟩
  obtain ⟨s',q1,l,q2,q3,q4⟩:=(k6 h h3).2.2 g hm
  have hg:a.eval (.tmp s)=ptr g:=h.vals _ (qa e1)
  refine h.dis _ (qa e2) l q2 (λ e=>n1 ?_) ?_
  ·have e':s=l.s:=e
   rw [e',q3]; exact q1
  ·show blk (a.eval (.tmp s))=blk (a.eval (.tmp l.s))
   rw [q3,q4,hg]
 | _::_,[],_,_,h,_=>by simp [CapN] at h
 | _::_,_::_,[],_,h,_=>by simp [CapN] at h
 | _::_,_::_,_::_,[],h,_=>by simp [CapN] at h
theorem ret_it {fn:Func}{B N t:Nat}{f:FuncId}{cf:List Nat→List (TypeId × As)}{hD:∀ gs,(ItV f (cf gs) gs).deps=D}(gs ss:List Nat)(ix:List (Nat × Nat))(hr:fn.results = #[.tmp t])(h:St B w0 N Γ Λ a w)(hF:∀ g,¬ w0.F g)
  (hm:(t,(EqA (.func (.func f) #[] (gs.map ptr).toArray)).va)∈Γ) (hc:CapN Γ Λ gs (cf gs) ss ix) (hs:ss.Nodup):bPost P fn (RQ B w0 (ItB w0.w.heap.size f cf D hD)) .ret a w :=
 dv h λ w h=>by
  have h1:=k6 h hc
  refine ⟨_,results_tmp hr a.tmps P w,_,rfl,⟨gs,⟨fT (h.vals _ hm),capN_nd h hc hs,h1.1⟩,λ g hg=>?_⟩,h.base⟩
  rcases h1.2.1 g hg with q | q
  ·exact q
  ·exact absurd q (hF _)
theorem St.itm {B N:Nat}{s:Nat}{f:FuncId}{cf:List Nat→List (TypeId × As)}{hD:∀ gs,(ItV f (cf gs) gs).deps=D}{ps:List (Nat × Nat)}(k:Nat)(ks:List Nat)(h:St B w0 N Γ Λ a w)(hm:Γ[k]?=some (s,ItM f cf D hD (ps.map Prod.snd)))(hn:Nmd Γ ps ks):
  ∃ gb,St B w0 N (Γ.set k (s,ItV f (cf gb) gb)) Λ a w∧∀ t∈ps.map ze,∀ g,blk (a.eval (.tmp t))=some g→g ∉ gb:=by
 obtain ⟨gb,h1,h2⟩:=h.vals _ (qa hm)
 refine ⟨gb,⟨h.lo,h.defers,h.size,h.base,λ x hx=>?_,h.locs,h.dis⟩,λ t ht g hg=>?_⟩
 ·rcases qI hx with hx | rfl
  ·exact h.vals x hx
  ·exact h1
 ·have key:∀ (ps:List (Nat × Nat)) (ks:List Nat),Nmd Γ ps ks→∀ p∈ps,a.eval (.tmp p.1)=ptr p.2:=by
   intro ps
   induction ps with
   | nil=>intro _ _ p hp; cases hp
   | cons q ps ih =>
    intro ks hk p hp
    cases ks with
    | nil=>exact hk.elim
    | cons k ks =>
     obtain ⟨e1,e2⟩:=hk
     rcases ql.1 hp with rfl | hp
     ·exact h.vals _ (qa e1)
     ·exact ih ks e2 p hp
  obtain ⟨p,hp,rfl⟩:=qo.1 ht
  rw [key ps ks hn p hp] at hg
  have:p.2=g:=by injection hg
  rw [← this]
  exact h2 p.2 (qo.2 ⟨p,hp,rfl⟩)
section
variable {P:Program} {R:Rg} {Q:Exit→Act→World→Prop} {B i:Nat} {w0:Bs}
theorem gm {f f':FuncId}{pre:List VA}{cf:List Nat→List (TypeId × As)}{hD:∀ gs,(ItV f (cf gs) gs).deps=D}{xs:List Operand}{at_:Array TypeId}(ns:List (Nat × Nat))(hc:CnI P f' pre (λ b=>ItB b f cf D hD))(hx:HasL R B w0 i xs pre)(hns:Nmo R B w0 i ns):
  Wv P Q R B w0 i (.call ⟨.value (.func f'),xs.toArray,at_⟩) (ItM f cf D hD (ns.map Prod.snd)):=by
 intro d T' ps af gd a w av K hK
 obtain ⟨⟨fn,hf,hn,hb⟩,hcall⟩:=hc
 have hrun:(execOp a.eval ⟨some d,.call ⟨.value (.func f'),xs.toArray,at_⟩,T',ps,af,gd⟩).run P w=.ok (.enter f' (xs.map a.eval).toArray) w:=by
  have e1:a.eval (.func f')=.func (.func f') #[] #[]:=rfl
  simp only [execOp,resolve,e1,Deferred.ofValue,Sem.run_bind,Sem.run_pure,Result.andThen_ok,invoke,aX hf hn hb]
  simp
 unfold Oper.wp
 rw [hrun]
 refine (hcall B w _ (Av.bw av) (hx.all av)).mono λ e w' ⟨v,he,⟨gs,h1,h2⟩,hg⟩=>?_
 subst he
 refine hK v w' hg ⟨gs,h1,λ n hn' hm=>?_⟩
 obtain ⟨p,hp',rfl⟩:=qo.1 hn'
 have h3:=hns.lt av p hp'
 have h4:=h2 _ hm
 omega
end
abbrev alC (t:RTk)(ah:List Nat)(_:List Nat):List (TypeId × As):=[(36,TkO t),(22,SlO 3 [] (ah.map λ (k:Nat)=>InA (k:Int)) True)]
abbrev alDs:List TypeId:=[36,22,U32,U32,U32,U32]
theorem al_D (t:RTk)(ah:List Nat):∀ gs,(ItV 31 (alC t ah gs) gs).deps=alDs:=λ _=>rfl
theorem all_c (t:RTk)(ah:List Nat):CnI Try.prog 15 [(TkO t).va,(SlO 3 [] (ah.map λ (k:Nat)=>InA (k:Int)) True).va] (λ b=>ItB b 31 (alC t ah) alDs (al_D t ah)):=by
 refine CnI.introF Try.func15 G zk nq (λ B w0 a hF0 hF U=>?_)
 have U:=zn [(0,(TkO t).va),(1,(SlO 3 [] (ah.map λ (k:Nat)=>InA (k:Int)) True).va)] [] U
 refine qb<|zg [] [⟨2,36,ptrH,some 0,_,none⟩,⟨3,22,ptrH,some 1,_,none⟩] [.alc 0,.alc 1,.v 4 _] [.o 2] U (zW 0 G (zW 1 G (zv G (a6 be) o0))) (zz [(4,_)] [O 2 36 _,O 3 22 _] λ a w U=>?_)
 refine zt ?_
 obtain ⟨q2,U⟩:=St.nm U 0 rfl
 obtain ⟨q3,U⟩:=St.nm U 1 rfl
 refine zg [η,η] [] [.v 5 _,.v 4 _] [.g 0,.g 1,.o 1] U (zv G (r_mkE (vs:=[ptr q2,ptr q3]) (.p (gq 1 G) (gq 0 G))) (zA 0 G o0)) (zz [(3,_),(2,_),(4,_)] [O 2 36 _,O 3 22 _] λ a w U=>?_)
 exact a4<|qh<|ret_it [q2,q3] [2,3] [(1,0),(0,1)] G U hF0 (zm 2 G) ⟨⟨rfl,rfl⟩,⟨rfl,rfl⟩,trivial⟩ zd
def SlP (q:Nat→Prop)(E:TypeId)(D:List TypeId)(l:List As):As where
 n:=1
 ag:=false
 p B cs w:=(SlA E D l).p B cs w∧∀ v∈cs,∀ g,blk v=some g→q g
 deps:=E::D
 len:=λ B cs w h=>(SlA E D l).len B cs w h.1
 one:=λ B cs w h=>(SlA E D l).one B cs w h.1
 ag1:=λ _=>rfl
 cg:=λ B cs w w' hg h=>⟨(SlA E D l).cg B cs w w' hg h.1,h.2⟩
 wr:=λ B cs w w' g c T fz h1 h2 h3 h4 h=>⟨(SlA E D l).wr B cs w w' g c T fz h1 h2 h3 h4 h.1,h.2⟩
theorem slP_A {q:Nat→Prop}{E:TypeId}{l:List As}:WkA (SlP q E D l) (SlA E D l):=⟨rfl,rfl,λ _ _ _ h=>h.1⟩
theorem slP_mono {q q':Nat→Prop}{E:TypeId}{l:List As}(h:∀ g,q g→q' g):WkA (SlP q E D l) (SlP q' E D l):=⟨rfl,rfl,λ _ _ _ hp=>⟨hp.1,λ v hv g hg=>h g (hp.2 v hv g hg)⟩⟩
theorem kC {lo hi:Nat}{Tp Tc:List TypeId}{q:Nat→Prop}{E:TypeId}{l:List As}(hE:Tc.contains E=false)(hl:offD (Tc++Tp) (cat l).deps=true)(hq:∀ g,q g→¬ (lo≤g∧g<hi)):StVA lo hi Tp Tc (SlP q E D l):=by
 rintro B cs gs W W' hlo ⟨⟨hD,A,c,ds,rfl,h1,h2,h3,h4⟩,h5⟩ hs hc hb
 refine ⟨⟨hD,A,c,ds,rfl,h1,h2,bD hl _ _ _ _ _ hlo h3 hs hc hb,λ hn=>?_⟩,h5⟩
 obtain ⟨b,o,rfl,h6,h7,h8⟩:=h4 hn
 have hbk:W'.heap[b]?=W.heap[b]?:=hs.block b h6 (λ hF=>by
  rcases hF with hF | ⟨q1,q2,_⟩
  ·rcases h7 with h7 | ⟨c',fz,h7⟩
   ·have:=hb b hF
    omega
   ·obtain ⟨c2,T,fz2,e1,e2⟩:=hc b hF
    rw [h7] at e1
    injection e1 with e1
    injection e1 with _ e1 _
    rw [← e1] at e2
    have hE':E ∉ Tc:=by simpa using hE
    exact hE' e2
  ·exact hq b (h5 _ (qr.2 G) b G) ⟨q1,q2⟩)
 refine ⟨b,o,rfl,qD h6 hs.size,?_,λ j v hv=>?_⟩
 ·rcases h7 with h7 | ⟨c',fz,h7⟩
  ·exact .inl h7
  ·exact .inr ⟨c',fz,hbk.trans h7⟩
 ·rw [← h8 j v hv]
  exact World.cell?_of_block hbk
theorem stVA_cat {lo hi:Nat}{Tp Tc:List TypeId}:∀ {l:List As},(∀ A∈l,StVA lo hi Tp Tc A)→StVA lo hi Tp Tc (cat l):=λ {l} hl B cs gs W W' hlo hp hs hc hb=>by
 obtain ⟨ps,rfl,h2⟩:=hp
 refine ⟨ps,rfl,?_⟩
 revert hl
 induction h2 with
 | nil=>exact λ _=>.nil
 | cons h _ ih=>exact λ hl=>.cons (hl _ zZ _ _ _ _ _ hlo h hs hc hb) (ih λ A hA=>hl A (zc _ hA))
def StVAL (lo hi:Nat)(Tp Tc:List TypeId):List Lc→Prop
 | []=>True
 | l::L=>StVA lo hi Tp Tc l.A∧StVAL lo hi Tp Tc L
theorem stVL {lo hi:Nat}{Tp Tc:List TypeId}:∀ {L:List Lc},StVAL lo hi Tp Tc L→∀ l∈L,StVA lo hi Tp Tc l.A
 | _::_,h,l,hl=>by
  rcases ql.1 hl with rfl | hl
  ·exact h.1
  ·exact stVL h.2 l hl
def optA (k:Nat)(Z X:As)(h:X.n=Z.n∧X.ag=Z.ag):As where
 n:=Z.n
 ag:=Z.ag
 p B cs w:=(k=0∧Z.p B cs w)∨(k≠0∧X.p B cs w)
 deps:=Z.deps++X.deps
 len:=λ B cs w hp=>by
  rcases hp with ⟨_,hp⟩ | ⟨_,hp⟩
  ·exact Z.len _ _ _ hp
  ·exact (X.len _ _ _ hp).trans h.1
 one:=λ B cs w hp=>by
  rcases hp with ⟨_,hp⟩ | ⟨_,hp⟩
  ·exact Z.one _ _ _ hp
  ·exact X.one _ _ _ hp
 ag1:=Z.ag1
 cg:=λ B cs w w' hg hp=>by
  rcases hp with ⟨h1,hp⟩ | ⟨h1,hp⟩
  ·exact .inl ⟨h1,Z.cg _ _ _ _ hg hp⟩
  ·exact .inr ⟨h1,X.cg _ _ _ _ hg hp⟩
 wr:=λ B cs w w' g c T fz h1 h2 h3 h4 hp=>by
  simp only [qj,not_or] at h2
  rcases hp with ⟨h5,hp⟩ | ⟨h5,hp⟩
  ·exact .inl ⟨h5,Z.wr _ _ _ _ _ _ _ _ h1 h2.1 h3 h4 hp⟩
  ·exact .inr ⟨h5,X.wr _ _ _ _ _ _ _ _ h1 h2.2 h3 h4 hp⟩
theorem opt_0 {Z X:As}{h:X.n=Z.n∧X.ag=Z.ag}:WkA Z (optA 0 Z X h):=⟨rfl,rfl,λ _ _ _ hp=>.inl ⟨rfl,hp⟩⟩
theorem opt_s {k:Nat}{Z X:As}{h:X.n=Z.n∧X.ag=Z.ag}(hk:k≠0):WkA X (optA k Z X h):=⟨h.1.symm,h.2.symm,λ _ _ _ hp=>.inr ⟨hk,hp⟩⟩
theorem opt_x {k:Nat}{Z X:As}{h:X.n=Z.n∧X.ag=Z.ag}(hk:k≠0):WkA (optA k Z X h) X:=⟨h.1,h.2,λ _ _ _ hp=>by
 rcases hp with ⟨h1,_⟩ | ⟨_,hp⟩
 ·exact absurd h1 hk
 ·exact hp⟩
theorem kD {lo hi k:Nat}{Tp Tc:List TypeId}{Z X:As}{h:X.n=Z.n∧X.ag=Z.ag}(hZ:StVA lo hi Tp Tc Z)(hX:k≠0→StVA lo hi Tp Tc X):StVA lo hi Tp Tc (optA k Z X h):=λ B cs gs W W' hlo hp hs hc hb=>by
 rcases hp with ⟨h1,hp⟩ | ⟨h1,hp⟩
 ·exact .inl ⟨h1,hZ _ _ _ _ _ hlo hp hs hc hb⟩
 ·exact .inr ⟨h1,hX h1 _ _ _ _ _ hlo hp hs hc hb⟩
def WyP (q:Nat→Prop)(k:Nat)(x:WyQ):As:=cat [SlP q 3 [] (x.l.map InA),QA k x.pw,QA k x.aw,InA x.c]
theorem wyP_A {q:Nat→Prop}{k:Nat}{x:WyQ}:WkA (WyP q k x) (WyA k x):=bc (.cons slP_A (.cons (.refl _) (.cons (.refl _) (.cons (.refl _) .nil))))
theorem ints_off (l:List Int):offD D (cat (l.map InA)).deps=true:=qc.2 λ T hT=>by
 obtain ⟨A,hA,hT⟩:=j4.1 hT
 obtain ⟨x,_,rfl⟩:=qo.1 hA
 cases hT
theorem stVA_wyP {lo hi k:Nat}{q:Nat→Prop}{x:WyQ}(hq:∀ g,q g→¬ (lo≤g∧g<hi)):StVA lo hi [3] [36,22] (WyP q k x):=stVA_cat λ A hA=>by
 simp only [ql,zR,or_false] at hA
 rcases hA with rfl | rfl | rfl | rfl
 ·exact kC zd (ints_off _) hq
 ·exact bD zk
 ·exact bD zk
 ·exact bD zk
theorem wy_lt {k B:Nat}{x:WyQ}(hl:0<x.l.length)(h:(WyA k x).p B cs w):(WyP (λ g=>g<w.heap.size) k x).p B cs w:=by
 obtain ⟨ps,rfl,h2⟩:=h
 refine ⟨ps,rfl,?_⟩
 cases h2 with
 | cons h1 h2 =>
  refine .cons ⟨h1,?_⟩ h2
  obtain ⟨_,A,c,ds,rfl,_,_,h3,h4⟩:=h1
  intro v hv g hg
  obtain rfl:=qr.1 hv
  obtain ⟨b,o,rfl,h6,_⟩:=h4 (by rw [qd]; exact hl)
  have:b=g:=by simpa [blk] using hg
  omega
theorem St.upL {B N:Nat}(h:St B w0 N Γ Λ a w){s T:Nat}{A A':As}(i:Nat)(hm:Λ[i]?=some ⟨s,T,H,A⟩)(hA:∀ cs,A.p B cs w→A'.p B cs w):St B w0 N Γ (Λ.set i ⟨s,T,H,A'⟩) a w:=by
 have hin:∀ m∈Λ.set i ⟨s,T,H,A'⟩,∃ m'∈Λ,m'.s=m.s:=λ m hm'=>by
  rcases qI hm' with hm' | rfl
  ·exact ⟨m,hm',rfl⟩
  ·exact ⟨_,qa hm,rfl⟩
 refine ⟨h.lo,h.defers,h.size,h.base,h.vals,λ m hm'=>?_,λ m h1 m' h2 hne=>?_⟩
 ·rcases qI hm' with hm' | rfl
  ·exact h.locs m hm'
  ·obtain ⟨g,cs,e1,e2,e3,e4⟩:=h.locs _ (qa hm)
   exact ⟨g,cs,e1,e2,e3,hA cs e4⟩
 ·obtain ⟨p,q1,q2⟩:=hin m h1
  obtain ⟨p',q3,q4⟩:=hin m' h2
  rw [← q2,← q4]
  exact h.dis p q1 p' q3 (by rw [q2,q4]; exact hne)
def ElQ (gb:List Nat)(b0:Nat)(E:TypeId)(A:As):VA where
 p B v w:=(ElP E A).p B v w∧∃ g,v=ptr g∧g ∉ gb∧g<b0
 deps:=E::A.deps
 cg:=λ B v w w' hg h=>⟨(ElP E A).cg _ _ _ _ hg h.1,h.2⟩
 wr:=λ B v w w' g c T fz h1 h2 h3 h4 h=>⟨(ElP E A).wr _ _ _ _ _ _ _ _ h1 h2 h3 h4 h.1,h.2⟩
theorem elq_p {gb:List Nat}{b0:Nat}{E:TypeId}{A:As}:Wk (ElQ gb b0 E A) (ElP E A):=λ _ _ _ h=>h.1
theorem stG_elq {lo0:Nat}{Tp Tc:List TypeId}{gb:List Nat}{E:TypeId}{A:As}(hA:offD (Tc++Tp) A.deps=true):StG lo0 Tp Tc gb (ElQ gb lo0 E A):=by
 rintro B v lo hi W W' hlo hlo0 ⟨⟨b,o,cs,rfl,h1,h2,h3,h4⟩,g,hg,hgb,hg0⟩ hs hc hb
 have e:b=g:=by injection hg with hg; injection hg with hg; injection hg
 subst e
 have hbk:W'.heap[b]?=W.heap[b]?:=hs.block b h1 (λ hF=>by
  rcases hF with hF | ⟨q1,_⟩
  ·exact hgb hF
  ·omega)
 refine ⟨⟨b,o,cs,rfl,qD h1 hs.size,?_,bD hA _ _ _ _ _ hlo h3 hs hc hb,λ j u hu=>?_⟩,b,hg,hgb,hg0⟩
 ·rcases h2 with h7 | ⟨c',fz,h7⟩
  ·exact .inl h7
  ·exact .inr ⟨c',fz,hbk.trans h7⟩
 ·rw [← h4 j u hu]
  exact World.cell?_of_block hbk
theorem St.toQ {B N:Nat}(h:St B w0 N Γ Λ a w){s:Nat}{A:As}{gb:List Nat}(k:Nat)(hm:Λ[k]?=some ⟨s,T,ptrH,A⟩)(hd:∀ g,blk (a.eval (.tmp s))=some g→g ∉ gb):St B w0 N ((s,ElQ gb w.heap.size T A)::Γ) (Λ.eraseIdx k) a w:=by
 have h2:=St.ofPtr h k hm
 obtain ⟨g,cs,e1,_,e3,e4⟩:=h.locs _ (qa hm)
 have e1':a.eval (.tmp s)=ptr g:=e1
 refine ⟨h2.lo,h2.defers,h2.size,h2.base,λ x hx=>?_,h2.locs,h2.dis⟩
 rcases ql.1 hx with rfl | hx
 ·exact ⟨h2.vals _ zZ,g,e1',hd g (by rw [e1']; rfl),(Array.getElem?_eq_some_iff.1 e3).1⟩
 ·exact h2.vals x (zc _ hx)
theorem gK {p:Nat}{ah:List Nat}:∀ f i,i+f=ah.length→exW p ah f i 0=ah.drop i
 | 0,i,h=>by rw [q6 zo]; rfl
 | f+1,i,h=>by rw [exW_ah zo,gK f (i+1) zo,← qP zo]
def natL (l:List Int):List Nat:=l.map Int.toNat
theorem wh_nat {t:RTk}{l:List Int}{nn:Nat}(h:whF t l=true)(h1:t.sp.length=nn+1)(h2:nn≤12):l=(natL l).map (λ (k:Nat)=>(k:Int))∧(natL l).length=nn∧∀ x∈natL l,x<t.ps.length:=by
 unfold whF pkF at h
 simp only [qi,zX,qQ,qq] at h
 obtain ⟨h3,_,h4⟩:=h
 have hs:sloF t=(nn:Int):=by
  unfold sloF
  rw [wi64 zo zo]
  omega
 rw [hs] at h3
 have h5:∀ x∈l,0≤x∧x<(t.ps.length:Int):=λ x hx=>by
  have:=xE.1 h4 x hx
  unfold pkQ at this
  simp only [zy,qQ,not_or] at this
  omega
 refine ⟨?_,by unfold natL; rw [qd]; omega,λ x hx=>?_⟩
 ·unfold natL
  rw [xa]
  exact (jF l).symm.trans (xU λ x hx=>by
   have:=(h5 x hx).1
   show x=((x.toNat:Nat):Int)
   omega)
 ·obtain ⟨y,hy,rfl⟩:=qo.1 hx
  have:=h5 y hy
  omega
theorem sl_nat {l:List Int}{m:List Nat}(h:l=m.map (λ (k:Nat)=>(k:Int))):SlO 3 [] (l.map InA) True=SlO 3 [] (m.map λ (k:Nat)=>InA (k:Int)) True:=by rw [h,xa]; rfl
theorem up_si (l:List Int):UpA (SlA 3 [] (l.map InA)) (SlO 3 [] (l.map InA) True):=gZ λ A hA=>by
 obtain ⟨x,_,rfl⟩:=qo.1 hA
 exact fL _ _
theorem iA {t:RTk}{ah:List Nat}{nn:Nat}(hck:ckF t=0)(hnn:t.sp.length=nn+1)(hl:ah.length=nn)(hah:∀ x∈ah,x<t.ps.length)(gs:List Nat):ItPg Try.prog 31 (alC t ah gs) gs (λ k=>[(WyA (dnK (nn+2)+4200) (wayW t (exW t.ps.length ah nn 0 k))).va]) false 1 [36,22,79,80,U32,27,82] [3]:=by
 have h:=kn hck hnn ⟨xy hl,hah⟩ gs
 rwa [ir nn 0 ah.length zo] at h
def btF (t:RTk)(xs ys:List Int):Bool × Int:=if ckF t != 0 then (false,ckF t) else if whF t xs&&whF t ys then (betF (wayW t (natL xs)) (wayW t (natL ys)),0) else (false,1)
theorem free_bi (b:Bool)(k:Int):Free (Tu [Bo b,In k]) (Tu [Bo b,In k]):=iQ (.cons (ft _).va (.cons (cT _ _).va .nil))
abbrev WyZ:As:=cat [EqA (.slice none 0 0),RFA rf0,RFA rf0,NumA .i64 0]
abbrev Wk26 (nn:Nat):Nat:=dnK (nn+2)+4200
theorem dC {nn:Nat}(h:nn≤12):Wk26 nn≤400000000:=by unfold Wk26 dnK; omega
abbrev WyX (t:RTk)(nn:Nat)(a:List Nat):As:=WyA (Wk26 nn) (wayW t a)
theorem stVA_z {lo hi:Nat}:StVA lo hi [3] [36,22] WyZ:=bD zk
abbrev WyO (t:RTk)(nn:Nat)(a:List Nat)(k:Nat):As:=optA k WyZ (WyX t nn a) ⟨rfl,rfl⟩
theorem wyO_0 {t:RTk}{nn:Nat}{a:List Nat}:WkA WyZ (WyO t nn a 0):=opt_0
theorem wyO_s {t:RTk}{nn k:Nat}{a:List Nat}:WkA (WyX t nn a) (WyO t nn a (k+1)):=opt_s (zP k)
theorem wyO_x {t:RTk}{nn k:Nat}{a:List Nat}:WkA (WyO t nn a (k+1)) (WyX t nn a):=opt_x (zP k)
theorem wyO_st {t:RTk}{nn k lo hi:Nat}{a:List Nat}(hk:k<1):StVA lo hi [3] [36,22] (WyO t nn a k):=kD stVA_z λ h=>absurd h zo
theorem way_pos {t:RTk}{a:List Nat}{nn:Nat}(h:a.length=nn)(h1:0<nn):0<(wayW t a).l.length:=by
 show 0<(a.map _).length
 rw [qd]; omega
set_option maxHeartbeats 2000000 in
theorem better26_c (t:RTk)(xs ys:List Int):Cn Try.prog 6 [(TkA t).va,(SlA 3 [] (xs.map InA)).va,(SlA 3 [] (ys.map InA)).va] (Tu [Bo (btF t xs ys).1,In (btF t xs ys).2]):=by
 refine Cn.introR Try.func6 G zk nq (.cons (cp t).va (.cons (up_si xs).va (.cons (up_si ys).va .nil))) (free_bi _ _) (λ B w0 a hB0 hN0 U=>?_)
 have U:=zn [(0,(TkO t).va),(1,(SlO 3 [] (xs.map InA) True).va),(2,(SlO 3 [] (ys.map InA) True).va)] [] U
 refine qb<|zg [] [⟨3,36,ptrH,some 0,_,none⟩] [.alc 0,.v 6 _,.v 7 _] [.g 1,.g 2,.o 1,.o 2] U (zW 0 G (zv G (a6 aE) (zv G (a6 a5) o0))) (zz [(1,_),(2,_),(6,_),(7,_)] [O 3 36 _] λ a w U=>?_)
 refine zt<|qb<|zg [η] [] [.v 13 _,.v 14 _,.v 8 _] [.g 0,.g 1,.g 2,.g 3,.o 2] U (zl 0 G bG (zQ G ((c6 t).wk (.cons tko_A.va .nil)) (.o (vq 0 G)) (zA 1 G o0))) (zz [(1,_),(2,_),(6,_),(7,_),(8,_)] [O 3 36 _] λ a w U=>?_)
 refine zt<|zg [η] [] [.v 15 _,.v 16 _] [.g 0,.g 1,.g 2,.g 3,.g 4,.o 1] U (zM 4 G (zv G (bM (vq 0 G) a5) o0)) (zz [(1,_),(2,_),(6,_),(7,_),(8,_),(16,_)] [O 3 36 _] λ a w U=>?_)
 refine a4<|aa U (zm 5 G) (λ hb0=>?_) (λ hb0=>?_)
 ·refine qb<|zg [η] [] [.v 17 _,.v 6 _,.v 7 _] [.g 0,.g 1,.o 1,.o 2] U (zM 4 G (zv G (a6 aE) (zA 0 G o0))) (zz [(1,_),(2,_),(6,_),(7,_)] [O 3 36 _] λ a w U=>?_)
  refine a4<|qh<|ac ?_
  refine an ?_ (aM (rs:=[.tmp 6,.tmp 7]) G U (.tmp (zm 2 G) (.tmp (zm 3 G) .nil)) zd)
  rw [btF,qy hb0]; exact aC
 ·have hck:ckF t=0:=by simpa using hb0
  obtain ⟨hs2,hs13,_⟩:=hd_b (eB hck).1
  obtain ⟨nn,hnn⟩:∃ nn,t.sp.length=nn+1:=⟨t.sp.length-1,by omega⟩
  have hn1:0<nn:=by omega
  have hn12:nn≤12:=by omega
  refine qk<|zt<|qb<|zg [η] [] [.v 18 _,.v 19 _,.v 20 _,.v 21 _,.v 22 _,.f 23 _,.f 24 _,.f 25 _,.f 26 _,.v 27 _] [.g 0,.g 1,.g 2,.g 3,.o 9] U (zl 0 G bG (zM 0 G (zQ G ((iC t xs).wk (.cons tko_A.va (.cons slo_A.va .nil))) (.p (vq 0 G) (vq 1 G)) (zv G (fh (vq 2 G)) (zv G (a7 (vq 3 G)) (zB 4 G (λ hg=>d0 (lz0 0 G) bG) (zB 4 G (λ hg=>a7 (gq 1 G)) (zB 4 G (λ hg=>aW ((iC t ys).wk (.cons tko_A.va (.cons slo_A.va .nil))) (.p (a9 (vq 5 G) hg) (a9 (vq 6 G) hg))) (zB 4 G (λ hg=>fh (a9 (vq 7 G) hg)) (zv G (r_or (vq 4 G) (vq 8 G)) o0)))))))))) (zz [(1,_),(2,_),(6,_),(7,_),(27,_)] [O 3 36 _] λ a w U=>?_)
  refine a4<|aa U (zm 4 G) (λ hb1=>?_) (λ hb1=>?_)
  ·have hw:(whF t xs&&whF t ys)=false:=by cases h1:whF t xs <;> cases h2:whF t ys <;> simp_all
   refine qb<|zg [η] [] [.v 6 _,.v 7 _] [.g 0,.g 1,.o 0,.o 1] U (zv G (a6 aE) (zv G (a6 a5) o0)) (zz [(1,_),(2,_),(6,_),(7,_)] [O 3 36 _] λ a w U=>?_)
   refine a4<|qh<|ac ?_
   refine an ?_ (aM (rs:=[.tmp 6,.tmp 7]) G U (.tmp (zm 2 G) (.tmp (zm 3 G) .nil)) zd)
   rw [btF,qm (by rw [hb0]; decide),qm (by rw [hw]; decide)]; exact aC
  ·have hw:(whF t xs&&whF t ys)=true:=by cases h1:whF t xs <;> cases h2:whF t ys <;> simp_all
   have hw2:=hw
   rw [qi] at hw2
   obtain ⟨hxe,hxl,hxp⟩:=wh_nat hw2.1 hnn hn12
   obtain ⟨hye,hyl,hyp⟩:=wh_nat hw2.2 hnn hn12
   obtain ⟨u1,ha1⟩:∃ l,natL xs=l:=⟨_,rfl⟩
   obtain ⟨v1,hb1e⟩:∃ l,natL ys=l:=⟨_,rfl⟩
   rw [ha1] at hxe hxl hxp
   rw [hb1e] at hye hyl hyp
   refine qk<|zt ?_
   have U:=St.wkG U 0 rfl (cd (qu As.va (sl_nat hxe)))
   have U:=St.wkG U 1 rfl (cd (qu As.va (sl_nat hye)))
   have U:=zn [(1,_),(2,_),(6,_),(7,_),(27,_)] [O 3 36 _] U
   refine zg [η] [⟨9,59,ptrH,some 0,_,none⟩,⟨10,59,ptrH,some 1,_,none⟩] [.alc 1,.alc 2] [.g 0,.g 1,.g 2,.g 3] U (zY G (Str.zero cK) (zY G (Str.zero cK) o0)) (zz [(1,_),(2,_),(6,_),(7,_)] [O 3 36 _,O 9 59 _,O 10 59 _] λ a w U=>?_)
   refine zt<|qb ?_
   obtain ⟨q3,U⟩:=St.nm U 0 rfl
   obtain ⟨q9,U⟩:=St.nm U 1 rfl
   obtain ⟨q10,U⟩:=St.nm U 2 rfl
   refine zg [η,η,η] [] [.v 28 _,.v 29 _,.v 30 _] [.g 0,.g 1,.g 2,.g 4,.g 5,.g 6,.o 2] U (zl 0 G bG (zM 3 G (zv G (gm [(3,q3),(9,q9),(10,q10)] (all_c t u1) (.p (vq 0 G) (vq 1 G)) (.cons (gq 2 G) (lz0 0 G) (.cons (gq 1 G) (lz0 1 G) (.cons (gq 0 G) (lz0 2 G) .nil)))) o0))) (zz [(10,_),(9,_),(3,_),(2,_),(6,_),(7,_),(30,_)] [O 3 36 _,O 9 59 _,O 10 59 _] λ a w U=>?_)
   obtain ⟨gb,U,hds⟩:=St.itm (ps:=[(3,q3),(9,q9),(10,q10)]) 6 [2,1,0] U rfl ⟨rfl,rfl,rfl,trivial⟩
   have U:=zn [(10,_),(9,_),(3,_),(2,_),(6,_),(7,_),(30,_)] [O 3 36 _,O 9 59 _,O 10 59 _] U
   have U:=St.toQ U 0 rfl (hds 3 zZ)
   have U:=St.sel U [0,1,2,4,5,6,7]
   have U:=zn [(3,_),(10,_),(9,_),(2,_),(6,_),(7,_),(30,_)] [O 9 59 _,O 10 59 _] U
   have hdis:∀ s∈[9,10],∀ g,blk (a.eval (.tmp s))=some g→g ∉ gb:=λ s hs=>hds s (zc _ hs)
   refine a4<|qt ?_
   have U:=St.selL U [0,1]
   refine dV (k0:=6) (gb:=gb) (Dd:=[36,22,79,80,U32,27,82]) (Db:=[59]) (Tp:=[3]) [⟨9,59,ptrH,WyZ⟩,⟨10,59,ptrH,WyZ⟩] (λ hi k=>[⟨9,59,ptrH,WyO t nn u1 k⟩,⟨10,59,ptrH,WyZ⟩]) none (λ _=>none) U hB0 hN0 rfl (iA hck hnn hxl hxp gb) (M:=1) (Y:=λ k=>[(WyX t nn (exW t.ps.length u1 nn 0 k)).va]) (λ h=>by cases h) zk [0,3] zk ⟨stG_elq zk,stG_off zk,trivial⟩ (λ hi k=>by kernel_rfl) (λ lo hi k hk hlo hw=>stVL ⟨wyO_st hk,stVA_z,trivial⟩) (λ _=>by kernel_rfl) zk [9,10] (λ _ k=>by kernel_rfl) zk zk hdis (λ L hL=>by cases hL) (λ _ L hL=>by cases hL) (λ _=>rfl) zd zk (λ hi Γ a W hhi h=>St.wkL h 0 rfl wyO_0) jB (λ l lo hi k a1 Ws hk hlo1 hlo2 hhi hBs hct U=>?_) (λ hi a w U=>?_) (λ L hL=>by cases hL) (λ _ L hL=>by cases hL)
   ·have hk0:k=0:=by omega
    have U:St B (rndB B [59] (gb++List.range' lo (hi-lo)) Ws Ws) 41 [(3,_),(2,_),(31,_),(9,_),(10,_)] [⟨9,59,ptrH,WyO t nn u1 k⟩,⟨10,59,ptrH,WyZ⟩] a1 Ws:=U
    refine eQ 2 [0,1,2,3,4] U G G G zk (cv λ _ _ h=>h) (Str.zero cK) G dx G zd G zk zk (λ a w U=>?_)
    have U:St B (rndB B [59] (gb++List.range' lo (hi-lo)) Ws Ws) 41 [(3,_),(2,_),(31,_),(9,_),(10,_)] [O 9 59 _,O 10 59 _,O 11 59 _] a w:=U
    refine a4<|⟨U.base,λ W3 hbg=>?_⟩
    have U:=St.begin U (qf _) hBs hbg
    refine wpIn_block ?_
    refine cF (sts:=[some (1,_),none,none]) (news:=[]) (sp:=[.v 32 _,.sto 0]) [.g 0,.g 1,.g 2,.g 3,.g 4] zk (cv λ _ _ h=>h) U (zl 2 G dx (zS 0 G dx o0)) zk zk zk (λ a w U=>?_)
    have U:St B (rndB B [59] (gb++List.range' lo (hi-lo)) Ws W3) 41 [(3,_),(2,_),(31,_),(9,_),(10,_)] [O 9 59 _,O 10 59 _,O 11 59 _] a w:=U
    refine ai ?_
    subst hk0
    rw [gK nn 0 zo,xl] at U
    have U:=St.wkL U 0 rfl (wyO_s (k:=0))
    have U:St B (rndB B [59] (gb++List.range' lo (hi-lo)) Ws W3) 41 [(3,_),(2,_),(31,_),(9,_),(10,_)] [O 9 59 _,O 10 59 _,O 11 59 _] a w:=U
    have U:=St.selL U [0,1]
    exact ⟨(λ h=>by cases h),gj [3,4] U ⟨rfl,⟨rfl,trivial⟩⟩⟩
   ·have U:=zn [(3,_),(2,_)] [O 9 59 _,O 10 59 _] U
    have U:=St.wkL U 0 rfl wyO_x
    refine ai ?_
    refine zt<|qb ?_
    obtain ⟨q9,U⟩:=St.nm U 0 rfl
    obtain ⟨q10,U⟩:=St.nm U 1 rfl
    refine zg [η,η] [] [.v 33 _,.v 34 _,.v 35 _] [.g 0,.g 1,.g 2,.o 2] U (zv G (al (has_wk' (gq 2 G) elq_p) bG) (zM 3 G (zv G (gm [(9,q9),(10,q10)] (all_c t v1) (.p (vq 0 G) (vq 1 G)) (.cons (gq 1 G) (lz0 0 G) (.cons (gq 0 G) (lz0 1 G) .nil))) o0))) (zz [(10,_),(9,_),(3,_),(35,_)] [O 9 59 _,O 10 59 _] λ a w U=>?_)
    obtain ⟨gb,U,hds⟩:=St.itm (ps:=[(9,q9),(10,q10)]) 3 [1,0] U rfl ⟨rfl,rfl,trivial⟩
    have U:=zn [(10,_),(9,_),(3,_),(35,_)] [O 9 59 _,O 10 59 _] U
    have hdis:∀ s∈[9,10],∀ g,blk (a.eval (.tmp s))=some g→g ∉ gb:=hds
    have U:=St.upL U 0 rfl (λ cs=>wy_lt (way_pos hxl hn1))
    obtain ⟨b9,hb9⟩:∃ b,w.heap.size=b:=⟨_,rfl⟩
    rw [hb9] at U
    have U:=zn [(10,_),(9,_),(3,_),(35,_)] [O 9 59 _,O 10 59 _] U
    refine a4<|qt ?_
    have U:=St.selL U [0,1]
    refine dV (k0:=3) (gb:=gb) (Dd:=[36,22,79,80,U32,27,82]) (Db:=[59]) (Tp:=[3]) [⟨9,59,ptrH,WyP (λ g=>g<b9) (Wk26 nn) (wayW t u1)⟩,⟨10,59,ptrH,WyZ⟩] (λ hi k=>[⟨9,59,ptrH,WyP (λ g=>g<b9) (Wk26 nn) (wayW t u1)⟩,⟨10,59,ptrH,WyO t nn v1 k⟩]) none (λ _=>none) U hB0 hN0 rfl (iA hck hnn hyl hyp gb) (M:=1) (Y:=λ k=>[(WyX t nn (exW t.ps.length v1 nn 0 k)).va]) (λ h=>by cases h) zk [] zk trivial (λ hi k=>by kernel_rfl) (λ lo hi k hk hlo hw=>stVL ⟨stVA_wyP (λ g hg h=>by omega),wyO_st hk,trivial⟩) (λ _=>by kernel_rfl) zk [9,10] (λ _ k=>by kernel_rfl) zk zk hdis (λ L hL=>by cases hL) (λ _ L hL=>by cases hL) (λ _=>rfl) zd zk (λ hi Γ a W hhi h=>St.wkL h 1 rfl wyO_0) jB (λ l lo hi k a1 Ws hk hlo1 hlo2 hhi hBs hct U=>?_) (λ hi a w U=>?_) (λ L hL=>by cases hL) (λ _ L hL=>by cases hL)
    ·have hk0:k=0:=by omega
     have U:St B (rndB B [59] (gb++List.range' lo (hi-lo)) Ws Ws) 41 [(36,_),(9,_),(10,_)] [⟨9,59,ptrH,WyP (λ g=>g<b9) (Wk26 nn) (wayW t u1)⟩,⟨10,59,ptrH,WyO t nn v1 k⟩] a1 Ws:=U
     refine eQ 0 [0,1,2] U G G G zk (cv λ _ _ h=>h) (Str.zero cK) G dx G zd G zk zk (λ a w U=>?_)
     have U:St B (rndB B [59] (gb++List.range' lo (hi-lo)) Ws Ws) 41 [(36,_),(9,_),(10,_)] [O 9 59 _,O 10 59 _,O 12 59 _] a w:=U
     refine a4<|⟨U.base,λ W3 hbg=>?_⟩
     have U:=St.begin U (qf _) hBs hbg
     refine wpIn_block ?_
     refine cF (sts:=[none,some (1,_),none]) (news:=[]) (sp:=[.v 37 _,.sto 1]) [.g 0,.g 1,.g 2] zk (cv λ _ _ h=>h) U (zl 2 G dx (zS 0 G dx o0)) zk zk zk (λ a w U=>?_)
     have U:St B (rndB B [59] (gb++List.range' lo (hi-lo)) Ws W3) 41 [(36,_),(9,_),(10,_)] [O 9 59 _,O 10 59 _,O 12 59 _] a w:=U
     refine ai ?_
     subst hk0
     rw [gK nn 0 zo,xl] at U
     have U:=St.wkL U 1 rfl (wyO_s (k:=0))
     have U:St B (rndB B [59] (gb++List.range' lo (hi-lo)) Ws W3) 41 [(36,_),(9,_),(10,_)] [O 9 59 _,O 10 59 _,O 12 59 _] a w:=U
     have U:=St.selL U [0,1]
     exact ⟨(λ h=>by cases h),gj [1,2] U ⟨rfl,⟨rfl,trivial⟩⟩⟩
    ·have U:=zn [] [O 9 59 _,O 10 59 _] U
     have U:=St.wkL U 1 rfl wyO_x
     have U:=St.wkL U 0 rfl wyP_A
     refine ai ?_
     refine zt<|zg [η,η] [] [.v 38 _,.v 39 _,.v 40 _,.v 6 _,.v 7 _] [.o 3,.o 4] U (zl 0 G dx (zl 1 G dx (zQ G (better_c (dC hn12) (wayW t u1) (wayW t v1)) (.p (vq 0 G) (vq 1 G)) (zA 2 G (zv G (a6 a5) o0))))) (zz [(6,_),(7,_)] [O 9 59 _,O 10 59 _] λ a w U=>?_)
     refine a4<|qh<|an ?_ (aM (rs:=[.tmp 6,.tmp 7]) G U (.tmp (zm 0 G) (.tmp (zm 1 G) .nil)) zd)
     rw [btF,qm (by rw [hb0]; decide),qy hw,ha1,hb1e]; exact aC
def NilM:As where
 n:=1
 ag:=false
 p _ cs _:=cs=[.slice none 0 0]
 deps:=[]
 len:=by rintro B cs w rfl; rfl
 one:=by rintro B cs w rfl x hx; simp at hx; subst hx; rfl
 ag1:=λ _=>rfl
 cg:=λ _ _ _ _ _ h=>h
 wr:=λ _ _ _ _ _ _ _ _ _ _ _ _ h=>h
def NilI:As:=cat [BoA false,NilM]
def RFN (x:RF):As:=cat [RIN x.num,RIN x.den]
def RFD (x:RF):As:=DisA (RFN x)
theorem free_rfd {x:RF}:FreeA (RFD x) (RFD x):=gL (cn (.cons (cG _) (.cons (cG _) .nil)))
theorem qd_rfd {k:Nat}{q:Rat}:WkA (QD k q) (RFD (rfOf q)):=eT (bc (.cons and_wk (.cons and_wk .nil)))
theorem fl (h:(cat [NilI,NilI]).p B cs w):cs=[.bool false,.slice none 0 0,.bool false,.slice none 0 0]:=by
 obtain ⟨ps,rfl,hp⟩:=h
 have hI:∀ c,NilI.p B c w→c=[.bool false,.slice none 0 0]:=λ c ⟨qs,e,hq⟩=>by
  cases hq with
  | @cons _ c1 _ _ h1 hq=>cases hq with
   | @cons _ c2 _ _ h2 hq =>
    cases hq
    have h1':c1=[.bool false]:=h1
    have h2':c2=[.slice none 0 0]:=h2
    rw [e,h1',h2']
    rfl
 cases hp with
 | cons h1 hp=>cases hp with
  | cons h2 hp =>
   cases hp
   rw [hI _ h1,hI _ h2]
   rfl
theorem zf_rfd:WkA (cat [NilI,NilI]) (RFD rf0):=⟨rfl,rfl,λ B cs w h=>by
 have hi:(RIN ⟨false,[]⟩).p B [.bool false,.slice none 0 0] w:=⟨[[.bool false],[.slice none 0 0]],rfl,.cons rfl (.cons ⟨bT,.inl ⟨rfl,rfl⟩⟩ .nil)⟩
 rw [fl h]
 exact ⟨⟨[[.bool false,.slice none 0 0],[.bool false,.slice none 0 0]],rfl,.cons hi (.cons hi .nil)⟩,xR⟩⟩
section
open Rg
variable {P:Program} {Q:Exit→Act→World→Prop} {B N:Nat} {w0:Bs} {Γ:List (Nat × VA)} {ops:Array Oper} {les:List LeF} {sp:List ((Nat→Value)→Sp)} {anc:Nat→List Nat} {i:Nat}
end
theorem zero_i26:Zero Try.prog 3 (NumA .i64 0):=Zero.of (z:=.int .i64 0) zk (λ _ _=>rfl)
def G2N (x:RF × RF):As:=cat [RFN x.1,RFN x.2]
def G2D (x:RF × RF):As:=DisA (G2N x)
theorem qd_rfn2 {k:Nat}{q:Rat}:WkA (QD k q) (RFN (rfOf q)):=qd_rfd.trans dis_wk
theorem eZ:Str Try.prog 44 [cat [NilI,NilI],cat [NilI,NilI]] :=
 Str.of (z:=.agg #[.bool false,.slice none 0 0,.bool false,.slice none 0 0,.bool false,.slice none 0 0,.bool false,.slice none 0 0]) zk Try.underlying44 zk λ B w=>⟨[[.bool false,.slice none 0 0,.bool false,.slice none 0 0],[.bool false,.slice none 0 0,.bool false,.slice none 0 0]],rfl,.cons ⟨[[.bool false,.slice none 0 0],[.bool false,.slice none 0 0]],rfl,.cons ⟨[[.bool false],[.slice none 0 0]],rfl,.cons rfl (.cons rfl .nil)⟩ (.cons ⟨[[.bool false],[.slice none 0 0]],rfl,.cons rfl (.cons rfl .nil)⟩ .nil)⟩ (.cons ⟨[[.bool false,.slice none 0 0],[.bool false,.slice none 0 0]],rfl,.cons ⟨[[.bool false],[.slice none 0 0]],rfl,.cons rfl (.cons rfl .nil)⟩ (.cons ⟨[[.bool false],[.slice none 0 0]],rfl,.cons rfl (.cons rfl .nil)⟩ .nil)⟩ .nil)⟩
theorem zg2_d:WkA (cat [cat [NilI,NilI],cat [NilI,NilI]]) (G2D (rf0,rf0)):=⟨rfl,rfl,λ B cs w ⟨ps,e,hq⟩=>by
 cases hq with
 | @cons _ c0 _ _ h0 hq=>cases hq with
  | @cons _ c1 _ _ h1 hq =>
   cases hq
   refine ⟨⟨[c0,c1],e,.cons (zf_rfd.2.2 _ _ _ h0).1 (.cons (zf_rfd.2.2 _ _ _ h1).1 .nil)⟩,?_⟩
   rw [e,fl h0,fl h1]
   exact xR⟩
theorem g2_pins {u v:Value}{c d:Nat}{x y:Rat}:WkA (cat [PinA u ((QD c x).and (SepAll [] u)),PinA v ((QD d y).and (SepAll [u] v))]) (G2D (rfOf x,rfOf y)) :=
 (dis_pins (l:=[(u,QD c x),(v,QD d y)]) (λ y hy=>by
  simp at hy
  rcases hy with rfl | rfl <;> exact nod_qd)).trans (eT (bc (.cons qd_rfn2 (.cons qd_rfn2 .nil))))
abbrev RwD (r:Int × (RF × RF) × Int):VA:=Tu [In r.1,(G2D r.2.1).va,In r.2.2]
theorem free_rwd {r:Int × (RF × RF) × Int}:Free (RwD r) (RwD r):=iQ (.cons (cT _ _).va (.cons (gL (cn (.cons (cn (.cons (cG _) (.cons (cG _) .nil))) (.cons (cn (.cons (cG _) (.cons (cG _) .nil))) .nil)))).va (.cons (cT _ _).va .nil)))
def loW (f:Nat→Rat):Nat→Rat
 | 0=>0
 | k+1=>if ((((k:Nat):Int)==0) || decide (cmQ (f k) (loW f k)<0))=true then f k else loW f k
def hiW (f:Nat→Rat):Nat→Rat
 | 0=>0
 | k+1=>if ((((k:Nat):Int)==0) || decide (cmQ (f k) (hiW f k)>0))=true then f k else hiW f k
def pwK (t:RTk)(ah:List Nat)(nn k:Nat):Rat:=powW t (exW t.ps.length ah nn 0 k)
abbrev NF:As:=cat [NilI,NilI]
abbrev lqA (b k:Nat)(x:Rat):As:=optA k NF (QA b x) ⟨rfl,rfl⟩
theorem lq_s {b k:Nat}{x:Rat}:WkA (QA b x) (lqA b (k+1) x):=opt_s (zP k)
theorem lq_x {b k:Nat}{x:Rat}(h:k≠0):WkA (lqA b k x) (QA b x):=opt_x h
theorem lq_0 {b:Nat}{x:Rat}:WkA NF (lqA b 0 x):=opt_0
theorem k_ne {k:Nat}(h:(((k:Nat):Int)==0)=false):k≠0:=λ e=>by subst e; cases h
theorem k_ne2 {k:Nat}{b:Bool}(h:((((k:Nat):Int)==0) || b)=false):k≠0:=λ e=>by subst e; simp at h
abbrev GpO (b:Nat)(f:Nat→Rat)(j k:Nat):As:=cat [lqA b j (loW f j),lqA b k (hiW f k)]
theorem ck_way {t:RTk}(h:ckF t=0):wayB t.ps.length (t.sp.length-1)=false:=by
 obtain ⟨h1,h2,h3⟩:=eB h
 unfold ckF at h
 rw [qm (by rw [h1]; decide),qm (by rw [h2]; decide),qm (by rw [h3]; decide)] at h
 split at h
 ·cases h
 ·split at h
  ·cases h
  ·rename_i h5
   simpa using h5
theorem cnt_le {t:RTk}{nn a:Nat}(h:ckF t=0)(hn:t.sp.length=nn+1):cntW t.ps.length a nn 0≤65536:=by
 have hp:=(hd_b (eB h).1).2.2.1
 have h1:=way_le (ck_way h)
 rw [hn,xg] at h1
 exact qe (cntW_le zo nn 0) h1
theorem pk_nat {t:RTk}{l:List Int}{nn:Nat}(h:pkF t l=true)(h1:t.sp.length=nn+1)(h2:nn≤12):l=(natL l).map (λ (k:Nat)=>(k:Int))∧(natL l).length≤nn∧∀ x∈natL l,x<t.ps.length:=by
 unfold pkF at h
 simp only [qi,qQ,qq] at h
 obtain ⟨h3,h4⟩:=h
 have hs:sloF t=(nn:Int):=by
  unfold sloF
  rw [wi64 zo zo]
  omega
 rw [hs] at h3
 have h5:∀ x∈l,0≤x∧x<(t.ps.length:Int):=λ x hx=>by
  have:=xE.1 h4 x hx
  unfold pkQ at this
  simp only [zy,qQ,not_or] at this
  omega
 refine ⟨?_,by unfold natL; rw [qd]; omega,λ x hx=>?_⟩
 ·unfold natL
  rw [xa]
  exact (jF l).symm.trans (xU λ x hx=>by
   have:=(h5 x hx).1
   show x=((x.toNat:Nat):Int)
   omega)
 ·obtain ⟨y,hy,rfl⟩:=qo.1 hx
  have:=h5 y hy
  omega
def rowM (t:RTk)(xs:List Int):Nat:=cntW t.ps.length (natL xs).length (t.sp.length-1) 0
def rowP (t:RTk)(xs:List Int):Nat→Rat:=pwK t (natL xs) (t.sp.length-1)
def rowF (t:RTk)(xs:List Int):Int × (RF × RF) × Int:=if (ckF t != 0)=true then (0,(rf0,rf0),ckF t) else if (!pkF t xs)=true then (0,(rf0,rf0),1) else
 if [loW (rowP t xs) (rowM t xs),hiW (rowP t xs) (rowM t xs)].any longQ=true then (0,(rf0,rf0),4) else ((rowM t xs:Nat),(rfOf (loW (rowP t xs) (rowM t xs)),rfOf (hiW (rowP t xs) (rowM t xs))),0)
theorem gQ (b:Bool):((if b then (4:Int) else 0) != 0)=b:=by cases b <;> rfl
set_option maxHeartbeats 2000000 in
theorem rows_c (t:RTk)(xs:List Int):Cn Try.prog 8 [(TkA t).va,(SlA 3 [] (xs.map InA)).va] (RwD (rowF t xs)):=by
 refine Cn.introR Try.func8 G zk nq (.cons (cp t).va (.cons (up_si xs).va .nil)) free_rwd (λ B w0 a hB0 hN0 U=>?_)
 have U:=zn [(0,(TkO t).va),(1,(SlO 3 [] (xs.map InA) True).va)] [] U
 refine qb<|zg [] [⟨2,36,ptrH,some 0,_,none⟩,⟨4,3,ptrH,some 1,_,none⟩,⟨5,44,ptrH,some 2,_,none⟩] [.alc 0,.alc 1,.alc 2,.v 6 _] [.g 1,.o 3] U (zW 0 G (zY G zero_i26 (zY G (Str.zero eZ) (zv G (a6 a5) o0)))) (zz [(1,_),(6,_)] [O 2 36 _,O 4 3 _,O 5 44 _] λ a w U=>?_)
 refine zt<|qb<|zg [η,η,η] [] [.v 10 _,.v 11 _,.v 7 _] [.g 0,.g 1,.o 2] U (zl 0 G bG (zQ G ((c6 t).wk (.cons tko_A.va .nil)) (.o (vq 0 G)) (zA 1 G o0))) (zz [(1,_),(6,_),(7,_)] [O 2 36 _,O 4 3 _,O 5 44 _] λ a w U=>?_)
 refine zt<|zg [η,η,η] [] [.v 12 _,.v 13 _] [.g 0,.g 1,.g 2,.o 1] U (zM 2 G (zv G (bM (vq 0 G) a5) o0)) (zz [(1,_),(6,_),(7,_),(13,_)] [O 2 36 _,O 4 3 _,O 5 44 _] λ a w U=>?_)
 refine a4<|aa U (zm 3 G) (λ hb0=>?_) (λ hb0=>?_)
 ·refine qb<|zg [η,some (2,_),some (3,_)] [] [.v 14 _,.v 15 _,.sto 1,.sto 2,.v 6 _] [.g 0,.o 4] U (zv G (aO (qs:=[]) eZ .nil) (zM 2 G (oc (fk G G G a5 ty_3 (xA (b:=1) G G)) (zS 0 G eH (zA 1 G o0))))) (zz [(1,_),(6,_)] [O 2 36 _,O 4 3 _,O 5 44 _] λ a w U=>?_)
  refine a4<|qh<|ac ?_
  refine an ?_ (aM (rs:=[.cell 4 3,.cell 5 44,.tmp 6]) G U (.cell (zm 1 G) ty_3 (.cell (zm 2 G) eH (.tmp (zm 1 G) .nil))) zd)
  rw [show rowF t xs=(0,(rf0,rf0),ckF t) from qy hb0]; exact tu3w aC zg2_d.va aC
 ·have hck:ckF t=0:=by simpa using hb0
  obtain ⟨hs2,hs13,hp1,_⟩:=hd_b (eB hck).1
  obtain ⟨nn,hnn⟩:∃ nn,t.sp.length=nn+1:=⟨t.sp.length-1,by omega⟩
  have hn12:nn≤12:=by omega
  refine qk<|zt<|qb<|zg [η,η,η] [] [.v 16 _,.v 17 _,.v 18 _,.v 19 _] [.g 0,.g 1,.o 3] U (zl 0 G bG (zM 0 G (zQ G ((picked_c t xs).wk (.cons tko_A.va (.cons slo_A.va .nil))) (.p (vq 0 G) (vq 1 G)) (zv G (fh (vq 2 G)) o0)))) (zz [(1,_),(6,_),(19,_)] [O 2 36 _,O 4 3 _,O 5 44 _] λ a w U=>?_)
  refine a4<|aa U (zm 2 G) (λ hb1=>?_) (λ hb1=>?_)
  ·refine qb<|zg [η,some (1,_),some (2,_)] [] [.v 20 _,.sto 1,.sto 2,.v 6 _] [.g 0,.o 3] U (zv G (aO (qs:=[]) eZ .nil) (oc (fk G G G a5 ty_3 (xA (b:=1) G G)) (zS 0 G eH (zv G (a6 a5) o0)))) (zz [(1,_),(6,_)] [O 2 36 _,O 4 3 _,O 5 44 _] λ a w U=>?_)
   refine a4<|qh<|ac ?_
   refine an ?_ (aM (rs:=[.cell 4 3,.cell 5 44,.tmp 6]) G U (.cell (zm 1 G) ty_3 (.cell (zm 2 G) eH (.tmp (zm 1 G) .nil))) zd)
   have e:rowF t xs=(0,(rf0,rf0),1):=by rw [rowF,qm (by rw [hb0]; decide),qy hb1]
   rw [e]; exact tu3w aC zg2_d.va aC
  ·obtain ⟨hxe,hxl,hxp⟩:=pk_nat (by simpa using hb1) hnn hn12
   have hrM:rowM t xs=cntW t.ps.length (natL xs).length nn 0:=by unfold rowM; rw [hnn]; rfl
   have hrP:rowP t xs=pwK t (natL xs) nn:=by unfold rowP; rw [hnn]; rfl
   obtain ⟨u1,hu1⟩:∃ l,natL xs=l:=⟨_,rfl⟩
   rw [hu1] at hxe hxl hxp hrM hrP
   have hcm:=cnt_le (a:=u1.length) hck hnn
   have hcp:0<cntW t.ps.length u1.length nn 0:=ec zo _ _
   refine qk<|zt<|qb ?_
   have U:=St.wkG U 0 rfl (cd (qu As.va (sl_nat hxe)))
   have U:=zn [(1,_),(6,_),(19,_)] [O 2 36 _,O 4 3 _,O 5 44 _] U
   obtain ⟨q4,U⟩:=St.nm U 1 rfl
   obtain ⟨q5,U⟩:=St.nm U 2 rfl
   refine zg [η,η,η] [] [.v 21 _,.v 22 _,.v 23 _] [.g 0,.g 1,.g 3,.o 2] U (zl 0 G bG (zM 2 G (zv G (gm [(4,q4),(5,q5)] (all_c t u1) (.p (vq 0 G) (vq 1 G)) (.cons (gq 1 G) (lz0 1 G) (.cons (gq 0 G) (lz0 2 G) .nil))) o0))) (zz [(5,_),(4,_),(6,_),(23,_)] [O 2 36 _,O 4 3 _,O 5 44 _] λ a w U=>?_)
   obtain ⟨gb,U,hds⟩:=St.itm (ps:=[(4,q4),(5,q5)]) 3 [1,0] U rfl ⟨rfl,rfl,trivial⟩
   have U:=zn [(5,_),(4,_),(6,_),(23,_)] [O 2 36 _,O 4 3 _,O 5 44 _] U
   have U:=St.wkL (A':=GpO (Wk26 nn) (pwK t u1 nn) 0 0) U 2 rfl (bc (.cons lq_0 (.cons lq_0 .nil)))
   have U:=zn [(5,_),(4,_),(6,_),(23,_)] [O 2 36 _,O 4 3 _,O 5 44 _] U
   refine a4<|qt ?_
   have U:=St.selL U [1,2]
   refine dV (k0:=3) (gb:=gb) (Dd:=[36,22,79,80,U32,27,82]) (Db:=[3,44]) (Tp:=[3]) [⟨4,3,ptrH,NumA .i64 ((0:Nat):Int)⟩,⟨5,44,ptrH,GpO (Wk26 nn) (pwK t u1 nn) 0 0⟩] (λ hi k=>[⟨4,3,ptrH,NumA .i64 ((k:Nat):Int)⟩,⟨5,44,ptrH,GpO (Wk26 nn) (pwK t u1 nn) k k⟩]) none (λ _=>none) U hB0 hN0 rfl (kn hck hnn ⟨hxl,hxp⟩ gb) (M:=cntW t.ps.length u1.length nn 0) (Y:=λ k=>[(WyX t nn (exW t.ps.length u1 nn 0 k)).va]) (λ h=>by cases h) zk [] zk trivial (λ hi k=>by kernel_rfl) (λ lo hi k hk hlo hw=>stVL ⟨bD zk,bD zk,trivial⟩) (λ _=>by kernel_rfl) zk [4,5] (λ _ k=>by kernel_rfl) zk zk hds (λ L hL=>by cases hL) (λ _ L hL=>by cases hL) (λ _=>rfl) zd zk (λ hi Γ a W hhi h=>h) hcp (λ l lo hi k a1 Ws hk hlo1 hlo2 hhi hBs hct U=>?_) (λ hi a w U=>?_) (λ L hL=>by cases hL) (λ _ L hL=>by cases hL)
   ·obtain ⟨a0,rfl⟩:∃ x,x=a:=⟨_,rfl⟩; have hk2:k+1≤65536:=by omega
    have U:St B (rndB B [3,44] (gb++List.range' lo (hi-lo)) Ws Ws) 71 [(24,_),(4,_),(5,_)] [⟨4,3,ptrH,NumA .i64 ((k:Nat):Int)⟩,⟨5,44,ptrH,GpO (Wk26 nn) (pwK t u1 nn) k k⟩] a1 Ws:=U
    refine eQ 0 [0,1,2] U G G G zk (cv λ _ _ h=>h) (Str.zero cK) G dx G zd G zk zk (λ a w U=>?_)
    have U:St B (rndB B [3,44] (gb++List.range' lo (hi-lo)) Ws Ws) 71 [(24,_),(4,_),(5,_)] [O 4 3 _,O 5 44 _,O 8 59 _] a w:=U
    refine a4<|⟨U.base,λ W3 hbg=>?_⟩
    have U:=St.begin U (qf _) hBs hbg
    refine wpIn_block ?_
    refine wpIn_seq ?_
    refine wpIn_seq ?_
    refine cF (sts:=[none,none,none]) (news:=[]) (sp:=[.v 25 _,.v 26 _,.v 27 _,.adr 28 8 (.some 1) (_=false),.f 29 _,.adr 30 5 (.some 0) (_=false),.f 31 _,.f 32 _,.f 33 _,.v 34 _]) [.g 0,.g 1,.g 2,.o 9] zk (cv λ _ _ h=>h) U (zl 0 G ty_3 (zv G (bd (vq 0 G) a5) (zv G (a7 (vq 1 G)) (zC 2 2 G cU (zB 2 G (λ hg=>aD 3 G zk hg (lz0 2 G) (Sub.part 1 G G) ar) (zC 2 1 G dZ (zB 2 G (λ hg=>aD 5 G zk hg (lz0 1 G) (Sub.part 0 G G) ar) (zB 2 G (λ hg=>aW ((cmp_q (c:=Wk26 nn) (d:=Wk26 nn) (by have:=dC hn12; omega)).wk (.cons aC (.cons (lq_x (k_ne hg)).va .nil))) (.p (a9 (vq 4 G) hg) (a9 (vq 6 G) hg))) (zB 2 G (λ hg=>aY (a9 (vq 7 G) hg) a5) (zv G (r_or (vq 2 G) (vq 8 G)) o0)))))))))) zk zk zk (λ a w U=>?_)
    have U:St B (rndB B [3,44] (gb++List.range' lo (hi-lo)) Ws W3) 71 [(24,_),(4,_),(5,_),(34,_)] [O 4 3 _,O 5 44 _,O 8 59 _] a w:=U
    refine a4<|eC (λ a w =>  St B (rndB B [3,44] (gb++List.range' lo (hi-lo)) Ws W3) 71 [(4,EqV (a0.eval (.tmp 4))),(5,EqV (a0.eval (.tmp 5)))] [⟨4,3,ptrH,NumA .i64 ((k:Nat):Int)⟩,⟨5,44,ptrH,cat [QA (Wk26 nn) (loW (pwK t u1 nn) (k+1)),lqA (Wk26 nn) k (hiW (pwK t u1 nn) k)]⟩,⟨8,59,ptrH,WyX t nn (exW t.ps.length u1 nn 0 k)⟩] a w) U (zm 3 G) (λ hb2=>?_) (λ hb2=>?_) (λ a w U=>?_)
    ·refine cF (sts:=[none,some (3,_),none]) (news:=[]) (sp:=[.adr 35 8 (.some 1) True,.v 36 _,.adr 37 5 (.some 0) True,.sto 1]) [.g 0,.g 1,.g 2] zk (cv λ _ _ h=>h) U (zO 2 G cU (zL 0 2 1 G ar (zO 1 G dZ (oc (bU 2 G G G G zk (vq 1 G) ar (Put.part 0 G G G)) o0)))) zk zk zk (λ a w U=>?_)
     have U:St B (rndB B [3,44] (gb++List.range' lo (hi-lo)) Ws W3) 71 [(24,_),(4,_),(5,_)] [O 4 3 _,O 5 44 _,O 8 59 _] a w:=U
     refine a4 ?_
     have U:=St.sel U [1,2]
     exact St.wkL U 1 G (bc (.cons (show WkA (QA (Wk26 nn) (pwK t u1 nn k)) (QA (Wk26 nn) (loW (pwK t u1 nn) (k+1))) from by rw [show loW (pwK t u1 nn) (k+1)=pwK t u1 nn k from qy hb2]; exact .refl _) (.cons (.refl _) .nil)))
    ·refine wpIn_skip ?_
     refine a4 ?_
     have U:=St.sel U [1,2]
     exact St.wkL U 1 G (bc (.cons (show WkA (lqA (Wk26 nn) k (loW (pwK t u1 nn) k)) (QA (Wk26 nn) (loW (pwK t u1 nn) (k+1))) from by rw [show loW (pwK t u1 nn) (k+1)=loW (pwK t u1 nn) k from qm (λ h=>Bool.noConfusion (xA hb2.symm h))]; exact lq_x (k_ne2 hb2)) (.cons (.refl _) .nil)))
    refine a4<|wpIn_seq ?_
    refine wpIn_seq ?_
    refine cF (sts:=[none,none,none]) (news:=[]) (sp:=[.v 38 _,.v 39 _,.v 40 _,.adr 41 8 (.some 1) (_=false),.f 42 _,.adr 43 5 (.some 4) (_=false),.f 44 _,.f 45 _,.f 46 _,.v 47 _]) [.g 0,.g 1,.o 9] zk (cv λ _ _ h=>h) U (zl 0 G ty_3 (zv G (bd (vq 0 G) a5) (zv G (a7 (vq 1 G)) (zC 2 2 G cU (zB 2 G (λ hg=>aD 3 G zk hg (lz0 2 G) (Sub.part 1 G G) ar) (zC 2 1 G dp (zB 2 G (λ hg=>aD 5 G zk hg (lz0 1 G) (Sub.part 1 G G) ar) (zB 2 G (λ hg=>aW ((cmp_q (c:=Wk26 nn) (d:=Wk26 nn) (by have:=dC hn12; omega)).wk (.cons aC (.cons (lq_x (k_ne hg)).va .nil))) (.p (a9 (vq 4 G) hg) (a9 (vq 6 G) hg))) (zB 2 G (λ hg=>cZ (a9 (vq 7 G) hg) a5) (zv G (r_or (vq 2 G) (vq 8 G)) o0)))))))))) zk zk zk (λ a w U=>?_)
    have U:St B (rndB B [3,44] (gb++List.range' lo (hi-lo)) Ws W3) 71 [(4,_),(5,_),(47,_)] [O 4 3 _,O 5 44 _,O 8 59 _] a w:=U
    refine a4<|eC (λ a w =>  St B (rndB B [3,44] (gb++List.range' lo (hi-lo)) Ws W3) 71 [(4,EqV (a0.eval (.tmp 4))),(5,EqV (a0.eval (.tmp 5)))] [⟨4,3,ptrH,NumA .i64 ((k:Nat):Int)⟩,⟨5,44,ptrH,cat [QA (Wk26 nn) (loW (pwK t u1 nn) (k+1)),QA (Wk26 nn) (hiW (pwK t u1 nn) (k+1))]⟩,⟨8,59,ptrH,WyX t nn (exW t.ps.length u1 nn 0 k)⟩] a w) U (zm 2 G) (λ hb3=>?_) (λ hb3=>?_) (λ a w U=>?_)
    ·refine cF (sts:=[none,some (3,_),none]) (news:=[]) (sp:=[.adr 48 8 (.some 1) True,.v 49 _,.adr 50 5 (.some 4) True,.sto 1]) [.g 0,.g 1] zk (cv λ _ _ h=>h) U (zO 2 G cU (zL 0 2 1 G ar (zO 1 G dp (oc (bU 2 G G G G zk (vq 1 G) ar (Put.part 1 G G G)) o0)))) zk zk zk (λ a w U=>?_)
     have U:St B (rndB B [3,44] (gb++List.range' lo (hi-lo)) Ws W3) 71 [(4,_),(5,_)] [O 4 3 _,O 5 44 _,O 8 59 _] a w:=U
     refine a4 ?_
     have U:=St.sel U [0,1]
     exact St.wkL U 1 G (bc (.cons (.refl _) (.cons (show WkA (QA (Wk26 nn) (pwK t u1 nn k)) (QA (Wk26 nn) (hiW (pwK t u1 nn) (k+1))) from by rw [show hiW (pwK t u1 nn) (k+1)=pwK t u1 nn k from qy hb3]; exact .refl _) .nil)))
    ·refine wpIn_skip ?_
     refine a4 ?_
     have U:=St.sel U [0,1]
     exact St.wkL U 1 G (bc (.cons (.refl _) (.cons (show WkA (lqA (Wk26 nn) k (hiW (pwK t u1 nn) k)) (QA (Wk26 nn) (hiW (pwK t u1 nn) (k+1))) from by rw [show hiW (pwK t u1 nn) (k+1)=hiW (pwK t u1 nn) k from qm (λ h=>Bool.noConfusion (xA hb3.symm h))]; exact lq_x (k_ne2 hb3)) .nil)))
    refine a4 ?_
    have U:=St.selL U [0,1]
    have U:St B (rndB B [3,44] (gb++List.range' lo (hi-lo)) Ws W3) 71 [(4,_),(5,_)] [O 4 3 _,O 5 44 _] a w:=U
    refine cF (sts:=[some (2,_),none]) (news:=[]) (sp:=[.v 51 _,.v 52 _,.sto 0]) [.g 0,.g 1] zk (cv λ _ _ h=>h) U (zl 0 G ty_3 (zv G (aU (vq 0 G) a5 ((wi64 zo zo).trans (by omega:(_:Int)=((k+1:Nat):Int)))) (zS 1 G ty_3 o0))) zk zk zk (λ a w U=>?_)
    have U:St B (rndB B [3,44] (gb++List.range' lo (hi-lo)) Ws W3) 71 [(4,_),(5,_)] [O 4 3 _,O 5 44 _] a w:=U
    refine ai ?_
    have U:=St.wkL (A':=GpO (Wk26 nn) (pwK t u1 nn) (k+1) (k+1)) U 1 rfl (bc (.cons lq_s (.cons lq_s .nil)))
    have U:St B (rndB B [3,44] (gb++List.range' lo (hi-lo)) Ws W3) 71 [(4,_),(5,_)] [O 4 3 _,O 5 44 _] a w:=U
    have U:=St.selL U [0,1]
    exact ⟨(λ h=>by cases h),gj [0,1] U ⟨rfl,⟨rfl,trivial⟩⟩⟩
   ·have U:=zn [] [O 4 3 _,O 5 44 _] U
    obtain ⟨m,hm⟩:∃ m,cntW t.ps.length u1.length nn 0=m:=⟨_,rfl⟩
    rw [hm] at U hcp hcm
    have U:=St.wkL U 1 rfl (bc (.cons (lq_x zo) (.cons (lq_x zo) .nil)))
    refine ai ?_
    refine zt<|qb<|zg [η,η] [] [.adr 53 5 (.some 0) True,.v 54 _,.adr 55 5 (.some 4) True,.v 56 _,.v 57 _,.v 58 _,.v 9 _] [.o 6] U (zO 1 G dZ (zL 0 1 0 G ar (zO 1 G dp (zL 2 1 1 G ar (zv G (aV (D:=[U32]) (l:=[_,_]) (xs:=[.tmp 54,.tmp 56]) (bN zk) dF zk (n_ok zk) nq nq nq (.p (vq 1 G) (vq 3 G)) G G) (zQ G (gO [(loW (pwK t u1 nn) m),(hiW (pwK t u1 nn) m)] (.cons ⟨_,rfl⟩ (.cons ⟨_,rfl⟩ .nil)) nq) (.o (vq 4 G)) (zA 5 G o0))))))) (zz [(9,_)] [O 4 3 _,O 5 44 _] λ a w U=>?_)
    refine zt<|zg [η,η] [] [.v 59 _,.v 60 _] [.g 0,.o 1] U (zM 0 G (zv G (bM (vq 0 G) a5) o0)) (zz [(9,_),(60,_)] [O 4 3 _,O 5 44 _] λ a w U=>?_)
    refine a4<|aa U (zm 1 G) (λ hb4=>?_) (λ hb4=>?_)
    ·rw [gQ] at hb4
     refine qb<|zg [some (2,_),some (3,_)] [] [.v 61 _,.v 62 _,.sto 0,.sto 1,.v 6 _] [.o 4] U (zv G (aO (qs:=[]) eZ .nil) (zM 0 G (oc (fk G G G a5 ty_3 (xA (b:=1) G G)) (zS 0 G eH (zA 1 G o0))))) (zz [(6,_)] [O 4 3 _,O 5 44 _] λ a w U=>?_)
     refine a4<|qh<|ac ?_
     refine an ?_ (aM (rs:=[.cell 4 3,.cell 5 44,.tmp 6]) G U (.cell (zm 0 G) ty_3 (.cell (zm 1 G) eH (.tmp (zm 0 G) .nil))) zd)
     have e:rowF t xs=(0,(rf0,rf0),4):=by rw [rowF,qm (by rw [hb0]; decide),qm (by rw [hb1]; decide),qy (by rw [hrM,hrP,hm]; exact hb4)]
     rw [e]; exact tu3w aC zg2_d.va (cd (by rw [hb4]; rfl))
    ·rw [gQ] at hb4
     refine qk<|zt<|go_drawV' [[],[],[1],[1,2],[],[4],[1,2,3,4,5],[1,2,3,4,5,6],[0,1,2,3,4,5,6],[0,1,2,3,4,5,6,7,8],[0,1,2,3,4,5,6,7,8,9]] (sts:=[some (8,λ ν=>_),some (9,λ ν=>_)]) (news:=[]) (sp:=[(λ ν=>.v 63 _),(λ ν=>.adr 64 5 (.some 0) True),(λ ν=>.v 65 _),(λ ν=>.v 66 (PinA (ν 3) ((QD (Wk26 nn) (loW (pwK t u1 nn) m)).and (SepAll [] (ν 3)))).va),(λ ν=>.adr 67 5 (.some 4) True),(λ ν=>.v 68 _),(λ ν=>.v 69 (PinA (ν 6) ((QD (Wk26 nn) (hiW (pwK t u1 nn) m)).and (SepAll [ν 3] (ν 6)))).va),(λ ν=>.v 70 _),(λ ν=>.sto 0),(λ ν=>.sto 1),(λ ν=>.v 6 _)]) [.o 10] a8 U ⟨of_u λ ν=>ob_v rfl rfl (d0 (lz0 0 rfl) ty_3),⟨of_u λ ν=>ob_a rfl rfl (gR (lz0 1 rfl) dZ),⟨of_u λ ν=>ob_v rfl rfl (aD 1 rfl zk trivial (lz0 1 rfl) (Sub.part 0 rfl rfl) ar),⟨gv (us:=λ ν=>[]) (xs:=[.tmp 65]) rfl rfl (iU (qe (dC hn12) zd)) new_qd free_qd (.cons upA_qa.va .nil) (λ ν=>(.o (vq 2 rfl))) (λ _ _=>rfl) (λ ν=>eP),⟨of_u λ ν=>ob_a rfl rfl (gR (lz0 1 rfl) dp),⟨of_u λ ν=>ob_v rfl rfl (aD 4 rfl zk trivial (lz0 1 rfl) (Sub.part 1 rfl rfl) ar),⟨gv (us:=λ ν=>[ν 3]) (xs:=[.tmp 68]) rfl rfl (iU (qe (dC hn12) zd)) new_qd free_qd (.cons upA_qa.va .nil) (λ ν=>(.o (vq 5 rfl))) (λ _ _=>rfl) (λ ν=>(ii (iJ new_qd) (vq 3 rfl) eP)),⟨of_u λ ν=>ob_v rfl rfl (aO (qs:=[(0,_),(1,_)]) eZ (.cons ⟨rfl,vq 3 rfl,rfl⟩ (.cons ⟨rfl,vq 6 rfl,rfl⟩ .nil))),⟨of_u λ ν=>fk rfl rfl rfl (vq 0 rfl) ty_3 (xA (b:=1) rfl rfl),⟨of_u λ ν=>fk rfl rfl rfl (vq 7 rfl) eH (xA (b:=8) rfl rfl),⟨of_u λ ν=>ob_v rfl rfl (a6 a5),trivial⟩⟩⟩⟩⟩⟩⟩⟩⟩⟩⟩ ⟨(λ ν ν' h=>rfl),⟨(λ ν ν' h=>rfl),⟨(λ ν ν' h=>rfl),⟨(λ ν ν' h=>by first | rfl | simp only [h 3 rfl]),⟨(λ ν ν' h=>rfl),⟨(λ ν ν' h=>rfl),⟨(λ ν ν' h=>by first | rfl | simp only [h 3 rfl,h 6 rfl]),⟨(λ ν ν' h=>by first | rfl | simp only [h 3 rfl,h 6 rfl]),⟨(λ ν ν' h=>by first | rfl | simp only [h 3 rfl,h 6 rfl]),⟨(λ ν ν' h=>by first | rfl | simp only [h 3 rfl,h 6 rfl]),⟨(λ ν ν' h=>by first | rfl | simp only [h 3 rfl,h 6 rfl]),trivial⟩⟩⟩⟩⟩⟩⟩⟩⟩⟩⟩ ⟨(λ ν ν' h=>by first | rfl | simp only [h 3 rfl,h 6 rfl]),⟨(λ ν ν' h=>by first | rfl | simp only [h 3 rfl,h 6 rfl]),trivial⟩⟩ zk zk (λ ν=>by kernel_rfl) (λ ν=>by kernel_rfl) (λ ν16 a w U=>?_)
     have U:=zn [(6,_)] [O 4 3 _,O 5 44 _] U
     refine a4<|qh<|an ?_ (aM (rs:=[.cell 4 3,.cell 5 44,.tmp 6]) G U (.cell (zm 0 G) ty_3 (.cell (zm 1 G) eH (.tmp (zm 0 G) .nil))) zd)
     have e:rowF t xs=(((m:Nat):Int),(rfOf (loW (pwK t u1 nn) m),rfOf (hiW (pwK t u1 nn) m)),0):=by rw [rowF,qm (by rw [hb0]; decide),qm (by rw [hb1]; decide),qm (by rw [hrM,hrP,hm,hb4]; decide),hrM,hrP,hm]
     rw [e]; exact tu3w aC g2_pins.va aC
end Go.Proofs.Ytlakjmncfooodaa
