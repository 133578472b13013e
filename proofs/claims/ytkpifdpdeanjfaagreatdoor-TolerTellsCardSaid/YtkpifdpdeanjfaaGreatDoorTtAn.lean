import Derived.Test.YtkpifdpdeanjfaaGreatDoorTtAm
set_option linter.all false
set_option maxRecDepth 100000
namespace Go.Proofs.YtkpifdpdeanjfaaGreatDoor
open Go Go.RowKit
variable {w:World}{B:Nat}{a:Act}{v:Value}{T:TypeId}{w0:Bs}{Γ:List (Nat × VA)}{Λ:List Lc}{ps:String}{af:Array Edge}{vr:Value}{H:Hd}{cs:List Value}{w':World}{P:Program}{D:List TypeId}
theorem Cn.introD {f : FuncId} {fn : Func} {c : Code} {pre : List VA} {post : VA} (hf : P.funcs[f]? = some fn) (hb : fn.body = some c) (hn : (fn.name == "runtime.NumGoroutine") = false) (hsz : pre.length ≤ fn.ntmps)
  (h:∀ (B:Nat) (w0:Bs) (a:Act),(∀ g,¬ w0.F g)→w0.nd=true→NoF w0→St B w0 fn.ntmps (argΓ pre) [] a w0.w→c.wp P (bPost P fn (RQ B w0 post)) a w0.w):Cn P f pre post:=by
 refine ⟨⟨fn,hf,hn,by rw [hb]; rfl⟩,λ B w args hB ha=>(bV hf hb (h B ⟨w,λ _=>False,true⟩ _ (λ _ h=>h) G (λ _ h=>h.elim) ?_)).mono λ _ _ ⟨v,he,hv,hk⟩=>⟨v,he,hv,⟨hk.os,hk.tape,hk.output,hk.size,λ k hlt=>hk.block k hlt λ h=>h⟩⟩⟩
 have hl:=ha.length
 refine ⟨λ g hg=>qd hB (hg.resolve_right λ h=>h),DefOk.nil rfl,?_,Kept.refl _,All2.args ha,(λ l hl=>by cases hl),(λ l hl=>by cases hl)⟩
 simp only [zJ,zE,qF]
 omega
def now (w:World)(go:Nat):Bs:=⟨w,λ g=>g=go,true⟩
theorem Kept.trans1 {go:Nat}(h:Kept w0 w)(hgo:w0.may go)(h2:Kept (now w go) w'):Kept w0 w' :=
 ⟨h2.os.trans h.os,h2.tape.trans h.tape,h2.output.trans h.output,qd h.size h2.size,λ k hk hf=>(h2.block k (qE hk h.size) λ e=>by
  have e':k=go:=e
  subst e'
  rcases hgo with h1 | h1
  ·omega
  ·exact hf h1).trans (h.block k hk hf)⟩
theorem St.rebase {B N:Nat}(h:St B w0 N Γ Λ a w)(hnd:w0.nd=true){go:Nat}(hgo:w0.may go)(hΛ:∀ l∈Λ,blk (a.eval (.tmp l.s))=some go):St B (now w go) N Γ Λ a w :=
 ⟨λ g hg=>by
  rcases hg with h1 | h1
  ·exact qd (h.lo w0.w.heap.size (.inl (qg _))) (qd h.base.size h1)
  ·have e:g=go:=h1
   rw [e]; exact h.lo _ hgo,DefOk.nil (h.defers.none hnd),h.size,Kept.refl _,h.vals,λ l hl=>by
  obtain ⟨g,cs,e1,e2,e3,e4⟩:=h.locs l hl
  have:=hΛ l hl
  rw [e1,l.H.ok] at this
  injection this with this
  exact ⟨g,cs,e1,.inr this,e3,e4⟩,h.dis⟩
theorem St.back {B N:Nat}{go:Nat}(h:St B (now w go) N Γ Λ a w')(hlo:∀ g,w0.may g→B≤g)(hk:Kept w0 w)(hgo:w0.may go):St B w0 N Γ Λ a w' :=
 ⟨hlo,DefOk.nil (h.defers.none rfl),h.size,hk.trans1 hgo h.base,h.vals,λ l hl=>by
  obtain ⟨g,cs,e1,e2,e3,e4⟩:=h.locs l hl
  refine ⟨g,cs,e1,?_,e3,e4⟩
  rcases e2 with e2 | e2
  ·exact .inl (qd hk.size e2)
  ·have e:g=go:=e2
   rw [e]; exact hgo,h.dis⟩
theorem gr {R:Rg}{B i:Nat}{x:Operand}{A:VA}(hA:∀ w,Kept w0 w→A.p B v w)(h:Has R B w0 i x (EqV v)):Has R B w0 i x A:=λ a w av=>by
 rw [h a w av]
 exact hA _ av.base
theorem C1 {A:Option Addr}{c:Nat}{l:List Nat}(h:Mag B w A c l)(hs:w.heap.size≤w'.heap.size)(hk:∀ b,A.map (·.block)=some b→b<w.heap.size→w'.heap[b]?=w.heap[b]?):Mag B w' A c l :=
 ⟨h.ok,h.le,h.max,λ hl=>by
  obtain ⟨b,o,rfl,h1,h2,h3⟩:=h.at_ hl
  have e:=hk b rfl h1
  refine ⟨b,o,rfl,qE h1 hs,?_,λ j hj=>?_⟩
  ·rcases h2 with h2 | ⟨c',fz,h2⟩
   ·exact .inl h2
   ·exact .inr ⟨c',fz,e.trans h2⟩
  ·rw [← h3 j hj]
   unfold World.cell?
   rw [e]⟩
theorem y5 {l:List Nat}{go:Nat}(h:(MgA l).va.p B v w)(hne:blk v≠some go)(hk:Kept (now w go) w'):(MgA l).va.p B v w':=by
 obtain ⟨A,c,rfl,hm⟩:=fP h
 refine dW (C1 hm hk.size λ b hb hlt=>hk.block b hlt λ e=>?_) rfl
 have e':b=go:=e
 subst e'
 cases A with
 | none=>cases hb
 | some ad=>exact hne hb
structure Rst (B:Nat) (w0:Bs) (a:Act) (w:World) (s8:Nat) (v:Value) (l:List Nat) (go:Nat):Prop where
 mg:(MgA l).va.p B v w
 ne:blk v≠some go
 at8:blk (a.eval (.tmp s8))=some go
 may:w0.may go
 lt:go<w.heap.size
theorem St.eqF {B N:Nat}(h:St B w0 N Γ Λ a w){s:Nat}{A:VA}(k:Nat)(hm:Γ[k]?=some (s,EqV v))(hA:A.p B v w):St B w0 N (Γ.set k (s,A)) Λ a w :=
 ⟨h.lo,h.defers,h.size,h.base,λ x hx=>by
  rcases qp hx with hx | rfl
  ·exact h.vals x hx
  ·have e:a.eval (.tmp s)=v:=h.vals _ (qa hm)
   show A.p B (a.eval (.tmp s)) w
   rw [e]; exact hA,h.locs,h.dis⟩
theorem St.toE {B N:Nat}(h:St B w0 N Γ Λ a w){s:Nat}{A:VA}(k:Nat)(hm:Γ[k]?=some (s,A)):∃ v,A.p B v w∧St B w0 N (Γ.set k (s,EqV v)) Λ a w :=
 ⟨a.eval (.tmp s),h.vals _ (qa hm),h.lo,h.defers,h.size,h.base,λ x hx=>by
  rcases qp hx with hx | rfl
  ·exact h.vals x hx
  ·exact rfl,h.locs,h.dis⟩
open Rg in
theorem St.putV {B N:Nat}{w w2:World}(h:St B w0 N Γ Λ a w){c:Nat}{M:VA}(hc:c<N)(hg:Grow w w2)(hp:M.p B v w2)(hΓ:∀ y∈Γ,y.1≠c)(hΛ:∀ l∈Λ,l.s≠c):St B w0 N ((c,M)::Γ) Λ (a.put (some c) v) w2:=by
 have hs:c<a.tmps.size:=by rw [h.size]; exact hc
 refine ⟨h.lo,h.defers.grow hg rfl,by rw [bt]; exact h.size,h.base.grow hg,λ y hy=>?_,λ l hl=>?_,λ l hl m hm hne=>?_⟩
 ·rcases qo.1 hy with rfl | hy
  ·show M.p B ((a.put (some c) v).eval (.tmp c)) w2
   rw [aG _ _ _ hs]; exact hp
  ·rw [ai _ _ _ _ (hΓ y hy)]
   exact VA.grow y.2 _ _ _ _ hg (h.vals y hy)
 ·obtain ⟨g,cs,e1,e2,e3,e4⟩:=LcOk.grow (h.locs l hl) hg
  exact ⟨g,cs,by rw [ai _ _ _ _ (hΛ l hl)]; exact e1,e2,e3,e4⟩
 ·rw [ai _ _ _ _ (hΛ l hl),ai _ _ _ _ (hΛ m hm)]
  exact h.dis l hl m hm hne
theorem w7 {w : World} {a : Act} {f : FuncId} {fn : Func} {d : Nat} {T : TypeId} {ps : String} {af : Array Edge} {gd : Option (Nat × Bool)} {at_ : Array TypeId} {xs : List Operand} (hf : P.funcs[f]? = some fn) (hn : (fn.name == "runtime.NumGoroutine") = false) (hb : fn.body.isNone = false) :
  (execOp a.eval ⟨some d,.call ⟨.value (.func f),xs.toArray,at_⟩,T,ps,af,gd⟩).run P w=.ok (.enter f (xs.map a.eval).toArray) w:=by
 simp only [execOp,resolve,Act.eval,Deferred.ofValue,Sem.run_bind,Sem.run_pure,Result.andThen_ok,invoke,be hf hn hb]
 simp
open Rg in
open Rg in
theorem GA {Q:Exit→Act→World→Prop}{B N:Nat}{id:Nat}{ops:Array Oper}{sp:List Sp}(n:Nat)(src:List Nat)(i1 i2 k3:Nat){S E T1 T2 T3:TypeId}{f:FuncId}{M1 M2:VA}{at_:Array TypeId}{s u d c e m bytes b s3:Nat}{ps1 ps2 ps3:String}{af1 af2 af3:Array Edge}{D D':List TypeId}{l xs:List As}{A2:VA}{it:TypeInfo}{z:Value}
  (h:St B w0 N Γ Λ a w) (hob:Obs P Q ⟨ops,N,Γ,lesN Λ,sp,λ i=>List.range i⟩ B w0 0 n) (hn2:ops.size=n+3) (hk:Rg.chk ⟨ops,N,Γ,lesN Λ,sp,λ i=>List.range i⟩=true)
  (ho1:ops[n]?=some ⟨some d,.call ⟨.builtin .append,#[.tmp s,.tmp u],#[S,S]⟩,T1,ps1,af1,none⟩) (ho2:ops[n+1]?=some ⟨some c,.call ⟨.value (.func f),#[.tmp d],at_⟩,T2,ps2,af2,none⟩) (ho9:ops[n+2]?=some ⟨some e,.assign (.tmp c),T3,ps3,af3,none⟩) (hcn:Cn P f [M1] M2) (hM:Wk (OwnB b E m D (l++xs)) M1)
  (hi1:i1<n) (h1:sp[i1]?=some (.v s (OwnB b E m D l))) (hi2:i2<n) (h2:sp[i2]?=some (.v u A2)) (h3:Γ[k3]?=some (s3,PtrLt b)) (ho3:Rg.outG ⟨ops,N,Γ,lesN Λ,sp,λ i=>List.range i⟩ s3=true) (hwb:w0.w.heap.size≤b) (hA2:∀ w u,A2.p B u w→Kept w0 w→(SlA E D' xs).va.p B u w)
  (hS:P.underlying S=some (.slice E)) (hi:P.info? E=some it) (hz:it.zero=some z) (hsz:it.size=m) (hby:it.bytes=bytes) (hzs:z.cells.size=m) (hm0:0<m) (hl:l.length+xs.length≤100000000000) (hb6:bytes≤1000)
  (hD':∀ T∈D',T∈D) (hED:E ∉ D) (hxm:∀ x∈xs,x.n=m) (hde:((d != c)&&(d != e)&&(c != e))=true) (hd:d<N) (hcN:c<N) (he:e<N)
  (hsrc:src.all (λ k=>match Γ[k]? with | some y => !y.2.deps.contains E&&Rg.outG ⟨ops,N,Γ,lesN Λ,sp,λ i=>List.range i⟩ y.1 | none=>false)=true)
  (hΛ:Λ.all (λ l=>(l.T != E || l.s==s3) && !l.A.deps.contains E&&l.s != d&&l.s != c&&l.s != e)=true)
  (hQ:∀ a w,St B w0 N ((e,M2)::src.filterMap (λ k=>Γ[k]?)) Λ a w→Q .normal a w):(Code.region id ops false).wp P Q a w:=by
 have hles0:∀ y∈lesN Λ,y.cr=none∧y.st=none∧(⟨y.s,y.T,y.H,y.A0⟩:Lc)∈Λ:=λ y hy=>by
  obtain ⟨l',hl',rfl⟩:=qm.1 hy
  exact ⟨rfl,rfl,hl'⟩
 refine Rg.linK (R:=⟨ops,N,Γ,lesN Λ,sp,λ i=>List.range i⟩) (m:=3) hn2 G hk h (λ y hy _=>(hles0 y hy).2.2) (λ i hi=>hob.all i zo zo) λ a1 w1 hinv=>?_
 have hcl:∀ deps,Rg.clash ⟨ops,N,Γ,lesN Λ,sp,λ i=>List.range i⟩ (λ k=>decide (k<n)) deps=false:=λ deps=>by
  unfold Rg.clash
  rw [xb]
  intro y hy
  rw [(hles0 y hy).2.1]
  simp
 obtain ⟨hbw,hB,hv⟩:=hinv.v i1 _ s _ h1 rfl (qP hi1) (hcl _)
 have hout:∀ t,Rg.outG ⟨ops,N,Γ,lesN Λ,sp,λ i=>List.range i⟩ t=true→∀ q,q<ops.size→Rg.dst ⟨ops,N,Γ,lesN Λ,sp,λ i=>List.range i⟩ q≠some t:=λ t ht q hq=>by
  have:=qc.1 ht q (by simpa using hq)
  simpa using this
 obtain ⟨g3,hg3,hlt3⟩:=hinv.g _ (qa h3) (λ q hq hdq=>absurd hdq (hout _ ho3 q hq)) (hcl _)
 have hu:=hA2 _ _ (hinv.v i2 _ u _ h2 rfl (qP hi2) (hcl _)) hinv.base
 obtain ⟨v',w',hr,r1,r2,r3⟩:=ga (T1:=T1) hS hi hz hsz hby hzs hm0 hl hb6 hv hu hD' hED hxm hbw hB
 have hdsz:d<a1.tmps.size:=by rw [hinv.size]; exact hd
 simp only [qj,bne_iff_ne] at hde
 obtain ⟨⟨hdc,hde⟩,hce⟩:=hde
 have hlc:∀ l'∈Λ,(l'.T≠E∨l'.s=s3)∧E ∉ l'.A.deps∧l'.s≠d∧l'.s≠c∧l'.s≠e:=λ l' hl'=>by
  have:=qc.1 hΛ l' hl'
  simp only [qj,zr,xh,bne_iff_ne,qz,qy,qu] at this
  exact ⟨this.1.1.1.1,this.1.1.1.2,this.1.1.2,this.1.2,this.2⟩
 have hcur:∀ l'∈Λ,(⟨l'.s,l'.T,l'.H,none,l'.A,none⟩:Le)∈lesN Λ:=λ l' hl'=>qm.2 ⟨l',hl',rfl⟩
 have hsr:∀ y∈src.filterMap (λ k=>Γ[k]?),E ∉ y.2.deps∧y.1≠d∧y.1≠c∧y.1≠e∧y.2.p B (a1.eval (.tmp y.1)) w1:=λ y hy=>by
  obtain ⟨k,hk1,hk2⟩:=qJ.1 hy
  have hs:=qc.1 hsrc k hk1
  simp only [hk2,qj,qz,qy,qu] at hs
  have ho:=hout y.1 hs.2
  exact ⟨hs.1,λ e1=>ho n zo (by unfold Rg.dst; rw [ho1,e1]; rfl),λ e1=>ho (n+1) zo (by unfold Rg.dst; rw [ho2,e1]; rfl),λ e1=>ho (n+2) zo (by unfold Rg.dst; rw [ho9,e1]; rfl),hinv.g y (qa hk2) (λ q hq hdq=>absurd hdq (ho q hq)) (hcl _)⟩
 have U:St B w0 N ((d,OwnB b E m D (l++xs))::src.filterMap (λ k=>Γ[k]?)) Λ (a1.put (some d) v') w':=by
  refine ⟨hinv.lo,hinv.defers.grown r2 r3 rfl,by rw [bt]; exact hinv.size,?_,?_,?_,?_⟩
  ·exact ⟨r2.os.trans hinv.base.os,r2.tape.trans hinv.base.tape,r2.output.trans hinv.base.output,qd hinv.base.size r2.size,λ k hk hf =>
    (r2.block k (qE hk hinv.base.size) (λ e=>by have:=(r3 k e.symm).1; omega)).trans (hinv.base.block k hk hf)⟩
  ·intro y hy
   rcases qo.1 hy with rfl | hy
   ·show (OwnB b E m D (l++xs)).p B ((a1.put (some d) v').eval (.tmp d)) w'
    rw [aG _ _ _ hdsz]
    exact ⟨qd hbw r2.size,hB,r1⟩
   ·obtain ⟨q1,q2,_,_,q5⟩:=hsr y hy
    rw [ai _ _ _ _ q2]
    exact VA.grown q5 r2 r3 hB q1
  ·intro l' hl'
   obtain ⟨g1,g2,g3,_⟩:=hlc l' hl'
   obtain ⟨g,cs,e1,e2,e3,e4⟩:=hinv.c _ (hcur l' hl') l'.A rfl
   refine ⟨g,cs,by rw [ai _ _ _ _ g3]; exact e1,e2,?_,As.grown e4 r2 r3 hB g2⟩
   rw [r2.block g (Array.getElem?_eq_some_iff.1 e3).1 (λ e5=>by
    obtain ⟨h8,c,fz,e6⟩:=r3 g e5.symm
    rcases g1 with g1 | g1
    ·rw [e3] at e6
     injection e6 with e6
     injection e6 with _ e6 _
     exact g1 e6
    ·rw [← g1,e1,l'.H.ok] at hg3
     injection hg3 with hg3
     omega)]
   exact e3
  ·intro l1 hl1 l2 hl2 hne'
   obtain ⟨_,_,g3,_⟩:=hlc l1 hl1
   obtain ⟨_,_,g5,_⟩:=hlc l2 hl2
   rw [ai _ _ _ _ g3,ai _ _ _ _ g5]
   exact hinv.x _ (hcur l1 hl1) _ (hcur l2 hl2) hne' G rfl
 rw [List.range'_succ,qv]
 refine bu (R:=⟨ops,N,Γ,lesN Λ,sp,λ i=>List.range i⟩) ho1 G (bc (w':=w') (v:=v') (by simp [execOp,resolve,invoke,builtin,hr,Result.andThen]) ?_)
 rw [List.range'_succ,qv]
 refine bu (R:=⟨ops,N,Γ,lesN Λ,sp,λ i=>List.range i⟩) ho2 G ?_
 obtain ⟨⟨fn,hf,hn,hb⟩,hcall⟩:=hcn
 have hrun:=w7 (P:=P) (w:=w') (a:=a1.put (some d) v') (d:=c) (T:=T2) (ps:=ps2) (af:=af2) (gd:=none) (at_:=at_) (xs:=[.tmp d]) hf hn hb
 unfold Oper.wp
 rw [show (#[Operand.tmp d]:Array Operand)=[Operand.tmp d].toArray from rfl,hrun]
 have hm1:M1.p B ((a1.put (some d) v').eval (.tmp d)) w':=hM _ _ _ (U.vals _ (xA ..))
 have hBw:B≤w'.heap.size:=qd (qd hB hbw) r2.size
 refine (hcall B w' [(a1.put (some d) v').eval (.tmp d)] hBw (.cons hm1 .nil)).mono λ ex w2 ⟨v2,he2,hp2,hg2⟩=>?_
 subst he2
 have hst2:=St.putV U (v:=v2) (M:=M2) hcN hg2 hp2 (λ y hy=>by
  rcases qo.1 hy with rfl | hy
  ·exact hdc
  ·exact (hsr y hy).2.2.1) (λ l' hl'=>(hlc l' hl').2.2.2.1)
 have hst3:=St.putV hst2 (c:=e) (v:=v2) (M:=M2) he (Grow.refl w2) hp2 (λ y hy=>by
  rcases qo.1 hy with rfl | hy
  ·exact hce
  ·rcases qo.1 hy with rfl | hy
   ·exact hde
   ·exact (hsr y hy).2.2.2.1) (λ l' hl'=>(hlc l' hl').2.2.2.2)
 show wpOps P ops Q ((n+1+1)::List.range' (n+1+1+1) 0) ((a1.put (some d) v').put (some c) v2) w2
 rw [qv]
 have hcsz:c<(a1.put (some d) v').tmps.size:=by rw [bt,hinv.size]; exact hcN
 refine bu (R:=⟨ops,N,Γ,lesN Λ,sp,λ i=>List.range i⟩) ho9 G (bc (w':=w2) (v:=v2) ?_ (hQ _ _ ?_))
 ·have:=aG (a1.put (some d) v') c v2 hcsz
  simp [execOp,this]
 ·exact ⟨hst3.lo,hst3.defers,hst3.size,hst3.base,λ y hy=>hst3.vals y (by
   rcases qo.1 hy with rfl | hy
   ·exact xA ..
   ·exact zi _ (zi _ (zi _ hy))),hst3.locs,hst3.dis⟩
section
variable {P:Program} {R:Rg} {Q:Exit→Act→World→Prop} {B i:Nat} {w0:Bs}
theorem Ft {A:VA}{f:FuncId}{xs:List Operand}{As:List VA}{mk:Nat→VA}{at_:Array TypeId}(hc:CnI P f As mk)(hw:∀ n,w0.w.heap.size≤n→Wk (mk n) A)(hx:HasL R B w0 i xs As):Wv P Q R B w0 i (.call ⟨.value (.func f),xs.toArray,at_⟩) A:=by
 intro d T ps af gd a w av K hK
 obtain ⟨⟨fn,hf,hn,hb⟩,hcall⟩:=hc
 have hrun:(execOp a.eval ⟨some d,.call ⟨.value (.func f),xs.toArray,at_⟩,T,ps,af,gd⟩).run P w=.ok (.enter f (xs.map a.eval).toArray) w:=by
  simp only [execOp,resolve,Act.eval,Deferred.ofValue,Sem.run_bind,Sem.run_pure,Result.andThen_ok,invoke,be hf hn hb]
  simp
 unfold Oper.wp
 rw [hrun]
 exact (hcall B w _ (Av.bw av) (hx.all av)).mono λ e w' ⟨v,he,hv,hg⟩=>by subst he; exact hK v w' hg (hw _ av.base.size _ _ _ hv)
end
theorem BZ {b b':Nat}{l:List Nat}(h:b≤b'):Wk (MgB b' l).va (MgB b l).va:=λ _ _ _ hp=>y6 (pd _ _ _ hp) λ g hg=>qd h (pc hp g hg)
theorem BS {b:Nat}{l:List Nat}(ok:okL l):Wk (OwnB b U32 1 [] (NL l)) (MgB b l).va:=λ B v w h=>wM ok B v w h.2.2
theorem pi {D:Nat}(h:(limbs D).length=1):(limbs D)[0]'zo=D:=by
 have h1:=ep (l:=limbs D) (j:=0) zo
 rw [xo,aH,xa zo] at h1
 simp at h1
 exact h1.symm
theorem vF {x:Nat}(h:x<4294967296):trimL [x]=limbs x:=by
 rw [dg (ez h)]
 simp [val]
theorem vG {x R:Nat}(h:x<4294967296):trimL (x::limbs R)=limbs (R*4294967296+x):=by
 rw [dg (λ y hy=>by
  rcases qo.1 hy with rfl | hy
  ·exact h
  ·exact (bk _).1 y hy)]
 show limbs (x+4294967296*val (limbs R))=_
 rw [aH]
 congr 1
 omega
theorem cm_lt0 {X Y:Nat}:cmL (limbs X) (limbs Y)<0↔X<Y:=by
 rw [fc]
 split
 ·omega
 ·split <;> omega
theorem F7 {l:List Nat}{d j:Nat}(hl:okL l)(hd:0<d)(hj:j<l.length)(h:val (l.drop (j+1))%d*4294967296+l[j]<d):rsSt l d (j+1)=rsSt l d j:=by
 rw [← pX hl hd hj,xv h]
 unfold rsSt
 rw [xJ,qD,eP _ _ _ _ (by simp)]
 rfl
theorem St.rowV {B N:Nat}(h:St B w0 N Γ Λ a w){s T:Nat}{A:As}(e:Nat)(he:Λ[e]?=some ⟨s,T,H,A⟩):∃ v g,blk v=some g∧w0.may g∧g<w.heap.size∧St B w0 N ((s,EqV v)::Γ) Λ a w:=by
 obtain ⟨g,cs,e1,e2,e3,e4⟩:=h.locs _ (qa he)
 exact ⟨a.eval (.tmp s),g,by rw [e1]; exact H.ok g,e2,(Array.getElem?_eq_some_iff.1 e3).1,h.lo,h.defers,h.size,h.base,λ x hx=>by
  rcases qo.1 hx with rfl | hx
  ·exact rfl
  ·exact h.vals x hx,h.locs,h.dis⟩
theorem St.ownT {B N:Nat}(h:St B w0 N Γ Λ a w){s s3 go:Nat}{v8:Value}{E:TypeId}{m:Nat}(k k8:Nat)(hm:Γ[k]?=some (s,EqV (.slice none 0 0)))(h8:Γ[k8]?=some (s3,EqV v8))(hv:blk v8=some go)(hlt:go<w0.w.heap.size):
  ∃ b,w0.w.heap.size≤b∧go<b∧St B w0 N (Γ.set k (s,OwnB b E m D [])++[(s3,PtrLt b)]) Λ a w:=by
 refine ⟨w.heap.size,h.base.size,qE hlt h.base.size,h.lo,h.defers,h.size,h.base,λ x hx=>?_,h.locs,h.dis⟩
 rcases qw.1 hx with hx | hx
 ·rcases qp hx with hx | rfl
  ·exact h.vals x hx
  ·exact ⟨qg _,qd (h.lo _ (.inl (qg _))) h.base.size,nv _ _ _ (h.vals _ (qa hm))⟩
 ·obtain rfl:=qq.1 hx
  have e:a.eval (.tmp s3)=v8:=h.vals _ (qa h8)
  exact ⟨go,by show blk (a.eval (.tmp s3))=_; rw [e]; exact hv,qE hlt h.base.size⟩
structure Rs (B:Nat) (w0:Bs) (w:World) (v:Value) (l:List Nat) (go:Nat):Prop where
 mg:(MgA l).va.p B v w
 ne:blk v≠some go
 may:w0.may go
 lt:go<w.heap.size
theorem E5 {x V D:Nat}(hD:0<D)(hx:x<4294967296):V%D*4294967296+x<D*4294967296:=by
 have h1:=qM V hD
 have h2:(V%D+1)*4294967296≤D*4294967296:=qG _ h1
 omega
theorem len_rb {D x:Nat}(h:x<D*4294967296):(limbs x).length≤(limbs D).length+1:=by
 have h1:=cd (n:=D) (qg _)
 refine dN (qE h ?_)
 rw [qW]
 exact qG _ (zD h1)
theorem sub_mod' {a b:Nat}:a-b*(a/b)=a%b:=by
 have:=xC a b
 omega
set_option maxHeartbeats 1000000 in
theorem wv {D:Nat}(l:List Nat)(hD:0<D)(hls:l.length≤1000000000)(hds:(limbs D).length≤1000000000):Cn Tryz.prog 239 [(MgA l).va,(MgA (limbs D)).va] (Tu [(MgA (limbs (val l/D))).va,(MgA (limbs (val l%D))).va]):=by
 obtain ⟨it,z,e1,e2,e3,e4,e5⟩:=m8
 refine Cn.introD Tryz.func239 G zk nq (λ B w0 a hF0 hnd hF U=>?_)
 have U:=zn [(0,(MgA l).va),(1,(MgA (limbs D)).va)] [] U
 obtain ⟨v0,hv0,U⟩:=St.eqv U 0 rfl
 obtain ⟨v1,hv1,U⟩:=St.eqv U 1 rfl
 have hl:=(dx hv0).1; have hokD:=(dx hv1).1
 refine qb<|zh [.v 4 _,.v 5 _] [.g 0,.g 1,.o 0,.o 1] U (zv G (a9 ba) (zv G (a9 ba) o0)) (zz [(0,_),(1,_),(4,_),(5,_)] [] λ a w U=>?_)
 refine zt<|qb<|zh [.v 13 _,.v 14 _,.v 15 _] [.g 0,.g 1,.g 2,.g 3,.o 2] U (zM 1 G (zv G (aJ Tryz.underlying26 (aR hF hv1 (vq 0 G))) (zv G (bF (vq 1 G) a8) o0))) (zz [(0,_),(1,_),(4,_),(5,_),(15,_)] [] λ a w U=>?_)
 refine a7<|ae U (zm 4 G) (λ hb0=>?_) (λ hb0=>?_)
 ·have hlen:(limbs D).length=1:=by simp at hb0; omega
  have hd0:=pi hlen
  refine qb<|zh [.v 17 _,.v 18 _,.v 19 _,.v 20 _,.v 21 _,.v 16 _,.v 22 _,.v 23 _,.v 6 _,.v 7 _] [.g 0,.g 1,.g 2,.g 3,.o 8,.o 9] U (zM 0 G (zM 1 G (zv G (bK bb (aR hF hv1 (vq 1 G)) (aD 0 G) zo) (zv G (aq (vq 2 G) aM) (zQ G (sv l ((limbs D)[0]'zo) zo (by rw [hd0]; exact hD) (hokD _ (qf _))) (.p (aR hF hv0 (vq 0 G)) (vq 3 G)) (zv G (ab (vq 4 G)) (zv G (aP (vq 5 G) G) (zv G (aP (vq 5 G) G) (zA 6 G (zA 7 G o0)))))))))) (zz [(0,_),(1,_),(4,_),(5,_),(6,_),(7,_)] [] λ a w U=>?_)
  refine zt<|zh [.v 24 _,.v 25 _,.v 26 _,.v 27 _,.v 4 _,.v 5 _] [.g 0,.g 1,.o 4,.o 5] U (zM 4 G (zM 5 G (zv G (dh (l:=[_]) (xs:=[.tmp 25]) bb zk nq nq ((ez (qY (qM _ (by rw [hd0]; exact hD)) (hokD _ (qf _))))) (.o (vq 1 G)) G G) (zQ G (dQ famA _) (.o (vq 2 G)) (zA 0 G (zA 3 G o0)))))) (zz [(0,_),(1,_),(4,_),(5,_)] [] λ a w U=>?_)
  refine a7<|qe<|ao ?_
  refine aj ?_ (aE (rs:=[.tmp 4,.tmp 5]) G U (.tmp (zm 2 G) (.tmp (zm 3 G) .nil)) zd)
  rw [hd0]; exact tu2w oF (bj (qk (λ l=>(MgA l).va) (vF (qY (qM _ hD) (by rw [← hd0]; exact hokD _ (qf _))))))
 ·refine qh<|zt<|de (sts:=[]) (news:=[⟨30,128,slH _ _,some 2,_,none⟩]) (sp:=[.v 28 _,.v 29 _,.alc 0,.adr 8 30 .none True]) [.g 0,.g 1,.g 2,.g 3] [(8,30)] [⟨8,128,slH _ _,_⟩] U (zM 0 G (zv G (aJ Tryz.underlying26 (aR hF hv0 (vq 0 G))) (oc (dU G G G eJ (vq 1 G) (vq 1 G) zo) (oc (ob_a G G me) o0)))) zk zk zk ⟨⟨3,rfl⟩,trivial⟩ G zk (zz [(0,_),(1,_),(4,_),(5,_)] [⟨8,128,slH _ _,_⟩] λ a w U=>?_)
  refine zt<|zg [η] [] [.v 9 _] [.g 0,.g 1,.g 2,.g 3,.o 0] U (zv G (a9 ba) o0) (zz [(0,_),(1,_),(4,_),(5,_),(9,_)] [⟨8,128,slH _ _,_⟩] λ a w U=>?_)
  refine zt<|qb<|zg [η] [] [.v 31 _,.v 32 _,.v 33 _,.v 10 _] [.g 0,.g 1,.g 2,.g 3,.g 4,.o 3] U (zM 0 G (zv G (aJ Tryz.underlying26 (aR hF hv0 (vq 0 G))) (zv G (cy (vq 1 G) a8 (wi64 zo zo)) (zA 2 G o0)))) (zz [(0,_),(1,_),(4,_),(5,_),(9,_),(10,_)] [⟨8,128,slH _ _,_⟩] λ a w U=>?_)
  obtain ⟨v8,go,hv8,hm8,hl8,U⟩:=St.rowV U 0 rfl
  refine a7<|ql ?_
  have U:=St.sel U [1,2,0,5,6]
  refine wp_loop_ghost (λ n a w=>∃ (v9 v8:Value) (go:Nat),(n≤l.length∧Rs B w0 w v9 (limbs (val (l.drop n)%D)) go∧blk v8=some go)∧St B w0 68 [(0,EqV v0),(1,EqV v1),(8,EqV v8),(9,EqV v9),(10,In ((n:Int)-1))] [⟨8,128,slH l.length l.length,Nums .u32 (rsSt l D n)⟩] a w) (l.length) ?_ ?_
  ·exact ⟨_,v8,go,⟨qg _,⟨by rw [show limbs (val (l.drop l.length)%D)=[] from by simp [bx]]; exact ⟨_,eT B _,rfl⟩,(by intro e; cases e),hm8,hl8⟩,hv8⟩,by rw [mA]; exact U⟩
  intro n a w hI
  clear hv8 hm8 hl8; obtain ⟨v9,v8,go,⟨hn,hR,hv8⟩,U⟩:=hI
  have hk0:∀ w',Kept (now w go) w'→(MgA l).va.p B v0 w':=λ w' hk=>(MgA l).va.cg _ _ _ _ (hF.cg (U.base.trans1 hR.may hk)) hv0
  have hk1:∀ w',Kept (now w go) w'→(MgA (limbs D)).va.p B v1 w':=λ w' hk=>(MgA (limbs D)).va.cg _ _ _ _ (hF.cg (U.base.trans1 hR.may hk)) hv1
  have hk9:∀ w',Kept (now w go) w'→(MgA (limbs (val (l.drop n)%D))).va.p B v9 w':=λ w' hk=>y5 hR.mg hR.ne hk
  have hback:∀ {Γ:List (Nat × VA)} {Λ:List Lc} {a:Act} {w':World},St B (now w go) 68 Γ Λ a w'→St B w0 68 Γ Λ a w':=λ h=>h.back U.lo U.base hR.may
  have hlt1:go<(now w go).w.heap.size:=hR.lt
  have U:=U.rebase hnd hR.may (λ m hm=>by
   obtain rfl:=qq.1 hm
   have e:a.eval (.tmp 8)=v8:=U.vals _ (zm 2 rfl)
   show blk (a.eval (.tmp 8))=_
   rw [e]; exact hv8)
  have hnd1:(now w go).nd=true:=rfl
  have hmay1:(now w go).may go:=.inr rfl
  generalize now w go=W1 at U hk0 hk1 hk9 hback hlt1 hnd1 hmay1
  refine qb<|qb<|zg [η] [] [.v 34 _,.v 35 _] [.g 0,.g 1,.g 2,.g 3,.g 4,.o 1] U (zM 4 G (zv G (eu (vq 0 G) a8) o0)) (λ a w U=>?_)
  have U:St B W1 68 [(0,_),(1,_),(8,_),(9,_),(10,_),(35,_)] [⟨8,128,slH _ _,_⟩] a w:=U
  refine a7<|ae U (zm 5 G) (λ hb1=>?_) (λ hb1=>?_)
  ·obtain ⟨j,rfl⟩:∃ j,n=j+1:=⟨n-1,by simp at hb1; omega⟩; rw [show ((j+1:Nat):Int)-1=(j:Int) from by omega] at U
   have hj:j<l.length:=by omega
   have hx:=hl _ (qf hj)
   have hmd:=qM (val (l.drop (j+1))) hD
   refine qh<|zt<|ql<|qb<|zg [η] [] [.v 11 _] [.g 0,.g 1,.g 2,.g 3,.g 4,.o 0] U (zv G (a9 ba) o0) (λ a w U=>?_)
   have U:St B W1 68 [(0,_),(1,_),(8,_),(9,_),(10,_),(11,_)] [⟨8,128,slH _ _,_⟩] a w:=U
   refine zt ?_
   obtain ⟨b,hwb,hgb,U⟩:=St.ownT (E:=U32) (m:=1) (D:=[]) U 5 2 rfl rfl hv8 hlt1
   refine GB (sp:=[.v 38 _,.v 39 _,.v 40 _,.v 41 _,.v 42 _,.v 43 _,.v 44 VT,.v 11 VT]) 6 [0,1,2,3,4,6] 0 5 6 U (zM 5 rfl (zM 0 rfl (zM 4 rfl (zv rfl (bK bb (gr hk0 (vq 1 rfl)) (vq 2 rfl) hj) (zv rfl (aq (vq 3 rfl) aM) (zv rfl (dh (l:=[_]) (xs:=[.tmp 42]) bb zk nq nq ((ez hx)) (.o (vq 4 rfl)) rfl rfl) o0)))))) rfl zk rfl rfl zd rfl zd rfl rfl zk hwb (λ _ _ h _=>(dx h).2) Tryz.underlying26 e1 e2 e3 e4 e5 zd (by simp) zd (λ T hT=>hT) zd (λ A hA=>by obtain ⟨_,_,rfl⟩:=qm.1 hA; rfl) zk nq nq zk zk (λ a w U=>?_)
   have U:St B W1 68 [(11,_),(0,_),(1,_),(8,_),(9,_),(10,_),(8,_)] [⟨8,128,slH _ _,_⟩] a w:=U
   refine zt<|GA (sp:=[.v 45 _,.v 46 _,.v 47 VT,.v 48 VT,.v 9 VT]) 2 [1,2,3,5] 0 1 6 (M1:=(MgB b (l[j]::limbs (val (l.drop (j+1))%D))).va) (M2:=(MgB b (trimL (l[j]::limbs (val (l.drop (j+1))%D)))).va) U (zM 0 rfl (zM 4 rfl o0)) rfl zk rfl rfl rfl (dQ (famB b) _) (BS (l:=l[j]::limbs (val (l.drop (j+1))%D)) (okL_cons.2 ⟨hx,(bk _).1⟩)) zd rfl zd rfl rfl zk hwb (D':=[]) (xs:=NL (limbs (val (l.drop (j+1))%D))) (λ w u e k=>by have e':u=v9:=e; rw [e']; exact (dx (hk9 w k)).2) Tryz.underlying26 e1 e2 e3 e4 e5 zd (by simp only [qn,qi,zy,xf]; have:=cm (zD hmd); omega) zd (λ T hT=>hT) zd (λ A hA=>by obtain ⟨_,_,rfl⟩:=qm.1 hA; rfl) zk nq nq nq zk zk (λ a w U=>?_)
   have U:St B W1 68 [(9,_),(0,_),(1,_),(8,_),(10,_)] [⟨8,128,slH _ _,_⟩] a w:=U
   have U:=St.wkG (A':=(MgB b (limbs ((val (l.drop (j+1))%D)*4294967296+l[j]))).va) U 0 rfl (bj (qk (λ l=>(MgB b l).va) (vG hx)))
   refine zt<|qb<|zg [η] [] [.v 49 _,.v 50 _,.v 51 _,.v 52 _] [.g 0,.g 1,.g 2,.g 3,.g 4,.o 3] U (zM 0 G (zM 2 G (zQ G ((oY (limbs (val (l.drop (j+1))%D*4294967296+l[j])) (limbs D)).wk (.cons pd (.cons aL .nil))) (.p (vq 0 G) (gr hk1 (vq 1 G))) (zv G (aK (vq 2 G) a8) o0)))) (λ a w U=>?_)
   have U:St B W1 68 [(9,_),(0,_),(1,_),(8,_),(10,_),(52,_)] [⟨8,128,slH _ _,_⟩] a w:=U
   refine a7<|ae U (zm 5 G) (λ hb2=>?_) (λ hb2=>?_)
   ·have hq:(val (l.drop (j+1))%D*4294967296+l[j])<D:=cm_lt0.1 (qt hb2)
    refine qK<|ah<|ay<|a7<|zg [η] [] [.v 36 _,.v 37 _,.v 10 _] [.g 0,.g 1,.g 2,.g 3,.o 2] U (zM 4 G (zv G (cy (vq 0 G) a8 (wi64 zo zo)) (zA 1 G o0))) (λ a w U=>?_)
    have U:St B W1 68 [(9,_),(0,_),(1,_),(8,_),(10,_)] [⟨8,128,slH _ _,_⟩] a w:=U
    refine a7 ?_
    have U:=St.sel U [1,2,3,0,4]
    obtain ⟨v9c,h9c,U⟩:=St.toE U 3 rfl
    have hne:blk v9c≠some go:=λ e=>by have:=pc h9c go e; omega
    have hsz:=U.base.size
    exact ⟨j,by omega,v9c,v8,go,⟨by omega,⟨by rw [← pY hD hj,q9 hq]; exact pd _ _ _ h9c,hne,hR.may,by omega⟩,hv8⟩,by have U:=hback U; rw [F7 hl hD hj hq] at U; exact U⟩
   ·have hq:¬ (val (l.drop (j+1))%D*4294967296+l[j])<D:=λ h=>qr hb2 (cm_lt0.2 h)
    have hsub:(val (l.drop (j+1))%D*4294967296+l[j])-D*((val (l.drop (j+1))%D*4294967296+l[j])/D)=val (limbs (val (l.drop (j+1))%D*4294967296+l[j]))-val (limbs (val (limbs D)*((val (l.drop (j+1))%D*4294967296+l[j])/D))):=by rw [aH,aH,aH]
    have hle:D*((val (l.drop (j+1))%D*4294967296+l[j])/D)≤(val (l.drop (j+1))%D*4294967296+l[j]):=Nat.mul_div_le _ _
    have hsl:(limbs (val (limbs D)*((val (l.drop (j+1))%D*4294967296+l[j])/D))).length≤(limbs (val (l.drop (j+1))%D*4294967296+l[j])).length:=by rw [aH]; exact cm hle
    have hsv:val (limbs (val (limbs D)*((val (l.drop (j+1))%D*4294967296+l[j])/D)))≤val (limbs (val (l.drop (j+1))%D*4294967296+l[j])):=by rw [aH,aH,aH]; exact hle
    have hlen2:(limbs (val (l.drop (j+1))%D*4294967296+l[j])).length≤1000000001:=qd (len_rb (E5 hD hx)) zo
    refine qh<|zt<|zg [η] [] [.v 53 _,.v 54 _,.v 55 _,.v 12 _] [.g 0,.g 1,.g 2,.g 3,.g 4,.o 3] U (zM 0 G (zM 2 G (zQ G ((rfit_c (R:=(val (l.drop (j+1))%D*4294967296+l[j])) (D:=D) hD (E5 hD hx) zo).wk (.cons pd (.cons aL .nil))) (.p (vq 0 G) (gr hk1 (vq 1 G))) (zA 2 G o0)))) (λ a w U=>?_)
    have U:St B W1 68 [(9,_),(0,_),(1,_),(8,_),(10,_),(12,_)] [⟨8,128,slH _ _,_⟩] a w:=U
    refine zt ?_
    obtain ⟨v9b,h9b,U⟩:=St.toE U 0 rfl
    have hk0:∀ w',Kept (now w go) w'→(MgA l).va.p B v0 w':=λ w' hk=>hk0 w' (U.base.trans1 hmay1 hk)
    have hk1:∀ w',Kept (now w go) w'→(MgA (limbs D)).va.p B v1 w':=λ w' hk=>hk1 w' (U.base.trans1 hmay1 hk)
    have hk9:∀ w',Kept (now w go) w'→(MgA (limbs (val (l.drop (j+1))%D*4294967296+l[j]))).va.p B v9b w':=λ w' hk=>y5 (pd _ _ _ h9b) (λ e=>by have:=pc h9b go e; omega) hk
    have hback:∀ {Γ:List (Nat × VA)} {Λ:List Lc} {a:Act} {w':World},St B (now w go) 68 Γ Λ a w'→St B w0 68 Γ Λ a w':=λ h=>hback (h.back U.lo U.base hmay1)
    have hlt1:go<(now w go).w.heap.size:=qE hlt1 U.base.size
    have U:=U.rebase hnd1 hmay1 (λ m hm=>by
     obtain rfl:=qq.1 hm
     have e:a.eval (.tmp 8)=v8:=U.vals _ (zm 3 rfl)
     show blk (a.eval (.tmp 8))=_
     rw [e]; exact hv8)
    have hnd1:(now w go).nd=true:=rfl
    have hmay1:(now w go).may go:=.inr rfl
    generalize now w go=W2 at U hk0 hk1 hk9 hback hlt1 hnd1 hmay1
    refine zg [some (4,_)] [] [.adr 56 8 .none True,.v 57 _,.v 58 _,.adr 59 8 (.some _) True,.sto 0] [.g 0,.g 1,.g 2,.g 3,.g 4,.g 5] U (oc (ob_a G G cw) (zM 4 G (zM 5 G (oc (ob_a G G (ek 0 G zk (lz0 0 G) bb (vq 1 G) hj)) (oc (ck 3 G G G G zk (λ _=>bW _ _ _ _) (vq 2 G) aM (bH (by rw [fm zo]; omega))) o0))))) (λ a w U=>?_)
    have U:St B W2 68 [(9,_),(0,_),(1,_),(8,_),(10,_),(12,_)] [⟨8,128,slH _ _,_⟩] a w:=U
    refine a7<|zg [η] [] [.v 60 _,.v 61 _,.v 62 _,.v 63 _,.v 64 _,.v 9 _] [.g 1,.g 2,.g 3,.g 4,.o 5] U (zM 0 G (zM 2 G (zM 5 G (zQ G (su (limbs D) ((val (l.drop (j+1))%D*4294967296+l[j])/D) zo (Bv hD hx)) (.p (gr hk1 (vq 1 G)) (vq 2 G)) (zv G (Ft (we (limbs (val (l.drop (j+1))%D*4294967296+l[j])) (limbs (val (limbs D)*((val (l.drop (j+1))%D*4294967296+l[j])/D))) zo hsl hsv) (λ n hn=>BZ hn) (.p (gr hk9 (vq 0 G)) (vq 3 G))) (zA 4 G o0)))))) (λ a w U=>?_)
    have U:St B W2 68 [(0,_),(1,_),(8,_),(10,_),(9,_)] [⟨8,128,slH _ _,_⟩] a w:=U
    refine am ?_
    refine a7<|zg [η] [] [.v 36 _,.v 37 _,.v 10 _] [.g 0,.g 1,.g 2,.g 4,.o 2] U (zM 3 G (zv G (cy (vq 0 G) a8 (wi64 zo zo)) (zA 1 G o0))) (λ a w U=>?_)
    have U:St B W2 68 [(0,_),(1,_),(8,_),(9,_),(10,_)] [⟨8,128,slH _ _,_⟩] a w:=U
    refine a7 ?_
    have U:=St.sel U [0,1,2,3,4]
    obtain ⟨v9c,h9c,U⟩:=St.toE U 3 rfl
    have hne:blk v9c≠some go:=λ e=>by have:=pc h9c go e; omega
    have hsz:=U.base.size
    exact ⟨j,by omega,v9c,v8,go,⟨by omega,⟨by rw [← pY hD hj,← sub_mod',hsub]; exact pd _ _ _ h9c,hne,hR.may,by omega⟩,hv8⟩,by have U:=hback U; rw [pX hl hD hj] at U; exact U⟩
  ·obtain rfl:n=0:=by simp at hb1; omega
   have h9:=hk9 _ U.base
   have U:=hback U
   have U:=St.eqF U 3 rfl h9
   refine qK<|ah<|ah<|ay<|zt<|zg [η] [] [.adr 65 8 .none True,.v 66 _,.v 67 _,.v 4 _,.v 5 _] [.g 2,.o 3,.o 4] U (oc (ob_a G G cw) (zQ G (dQ famN _) (.o (gn 0 G zk (lz0 0 G) ⟨by rw [fm (za _)],qg _,by unfold maxLen; omega,wg⟩ (by rw [fm (za _)]))) (zM 3 G (zA 1 G (zA 2 G o0))))) (zz [(8,_),(4,_),(5,_)] [⟨8,128,slH _ _,_⟩] λ a w U=>?_)
   refine a7<|qe<|aj ?_ (aE (rs:=[.tmp 4,.tmp 5]) G U (.tmp (zm 1 G) (.tmp (zm 2 G) .nil)) zd)
   rw [Dj hl,xo]; exact tu2w oF aL
theorem AV {l m:List Nat}(hl:okL l)(hm:okL m):val (digs (addN l m) (val l+val m))=val l+val m:=by
 rw [dy,q9]
 unfold addN
 split
 ·assumption
 ·exact De hl hm
theorem Bw {a b:Int}(h:((riOf a).neg==(riOf b).neg)=true):(RIA (rsig (riOf a).neg (digs (addN (riOf a).mag (riOf b).mag) (val (riOf a).mag+val (riOf b).mag)))).va=Zi (a+b):=by
 have h':decide (a<0)=decide (b<0):=by simpa [riOf] using h
 rw [ca (bP _ _) (z:=a+b) (by rw [AV (nA a) (nA b),bA,bA]; simp only [qQ] at h'; omega) (λ hz=>by show decide (a<0)=_; simp only [qQ] at h' ⊢; omega)]
theorem cm_ge0 {X Y:Nat}:cmL (limbs X) (limbs Y)≥0↔Y≤X:=by
 rw [fc]
 split
 ·omega
 ·split <;> omega
theorem nf {a b:Int}(h:decide (cmL (riOf a).mag (riOf b).mag≥0)=true):b.natAbs≤a.natAbs:=cm_ge0.1 (qt h)
theorem nc {a b:Int}(h:decide (cmL (riOf a).mag (riOf b).mag≥0)=false):a.natAbs≤b.natAbs:=zD (xN λ h2=>qr h (cm_ge0.2 h2))
theorem BW {p q:Int}(h:p*q≠0):(decide (p<0) != decide (q<0))=decide (p*q<0):=by
 have hp:p≠0:=λ e=>h (by rw [e,Int.zero_mul])
 have hq:q≠0:=λ e=>h (by rw [e,kC])
 rcases Int.lt_or_le p 0 with h1 | h1 <;> rcases Int.lt_or_le q 0 with h2 | h2
 ·have:=kh h1 h2
  rw [qP h1,qP h2,zP zo]; rfl
 ·have:=js h1 (show 0<q by omega)
  rw [qP h1,zP (show ¬ q<0 by omega),qP this]; rfl
 ·have:=jr (show 0<p by omega) h2
  rw [zP (show ¬ p<0 by omega),qP h2,qP this]; rfl
 ·have:=kL (show 0<p by omega) (show 0<q by omega)
  rw [zP (show ¬ p<0 by omega),zP (show ¬ q<0 by omega),zP zo]; rfl
theorem Bt {p q:Int}:(RIA (rsig ((riOf p).neg != (riOf q).neg) (limbs (val (riOf p).mag*val (riOf q).mag)))).va=Zi (p*q):=qk (λ x=>(RIA x).va) (ca (bk _).1 (z:=p*q) (by rw [aH,bA,bA,jn]) BW)
theorem rdiv_q {p q:Int}:(RIA (rsig ((riOf p).neg != (riOf q).neg) (limbs (val (riOf p).mag/q.natAbs)))).va=Zi (p.tdiv q):=qk (λ x=>(RIA x).va) (ca (bk _).1 (z:=p.tdiv q) (by rw [aH,bA,iI]) tu)
theorem rdiv_r {p q:Int}:(RIA (rsig (riOf p).neg (limbs (val (riOf p).mag%q.natAbs)))).va=Zi (p.tmod q):=qk (λ x=>(RIA x).va) (ca (bk _).1 (z:=p.tmod q) (by rw [aH,bA,gj]) nI)
theorem sw (p q:Int)(hp:lz p≤1000000000)(hq:lz q≤1000000000):Cn Tryz.prog 198 [Zi p,Zi q] (Zi (p+q)):=by
 refine Cn.intro Tryz.func198 G zk nq (λ B w0 a U=>?_)
 have U:=zn [(0,Zi p),(1,Zi q)] [] U
 refine qb<|zg [] [⟨2,28,ptrH,some 0,_,none⟩,⟨3,28,ptrH,some 1,_,none⟩,⟨4,28,ptrH,some 2,_,none⟩] [.alc 0,.alc 1,.alc 2] [] U (zW 0 G (zW 1 G (zY G (Str.zero bn) o0))) (zz [] [O 2 28 _,O 3 28 _,O 4 28 _] λ a w U=>?_)
 refine zt<|qb<|zg [η,η,η] [] [.adr 5 2 (.some 0) True,.v 6 _,.adr 7 3 (.some 0) True,.v 8 _,.v 9 _] [.o 4] U (zO 0 G aU (zL 0 0 0 G ty_4 (zO 1 G aU (zL 2 1 0 G ty_4 (zv G (wz zk (vq 1 G) (vq 3 G)) o0))))) (zz [(9,_)] [O 2 28 _,O 3 28 _,O 4 28 _] λ a w U=>?_)
 refine a7<|ae U (zm 0 G) (λ hb0=>?_) (λ hb0=>?_)
 ·refine qb<|zgd [[],[0],[],[2],[],[4],[2,3,4,5],[0,1,2,3,4,5,6],[0,1,2,3,4,5,6,7]] [none,none,some (8,_)] [] [.adr 10 2 (.some 0) True,.v 11 _,.adr 12 2 (.some 1) True,.v 13 _,.adr 14 3 (.some 1) True,.v 15 _,.v 16 _,.v 17 _,.sto 2] [] aa U (zO 0 G aU (zL 0 0 0 G ty_4 (zO 0 G ar (zL 2 0 1 G aY (zO 1 G ar (zL 4 1 1 G aY (zQ G (radd_c _ _ (qd hp zd) (qd hq zd)) (.p (vq 3 G) (vq 5 G)) (zQ G (cb _ _) (.p (vq 1 G) (vq 6 G)) (zS 7 G al o0))))))))) zk zk zk zk (zz [] [O 2 28 _,O 3 28 _,O 4 28 _] λ a w U=>?_)
  refine a7<|qe<|ao ?_
  refine aj ?_ (ap G U (zm 2 G) al)
  exact bj (Bw hb0)
 ·refine qh<|zt<|qb<|zg [η,η,η] [] [.adr 18 2 (.some 1) True,.v 19 _,.adr 20 3 (.some 1) True,.v 21 _,.v 22 _,.v 23 _] [.o 5] U (zO 0 G ar (zL 0 0 1 G aY (zO 1 G ar (zL 2 1 1 G aY (zQ G (oY _ _) (.p (vq 1 G) (vq 3 G)) (zv G (eu (vq 4 G) a8) o0)))))) (zz [(23,_)] [O 2 28 _,O 3 28 _,O 4 28 _] λ a w U=>?_)
  refine a7<|ae U (zm 0 G) (λ hb1=>?_) (λ hb1=>?_)
  ·refine qb<|zgd [[],[0],[],[2],[],[4],[2,3,4,5],[0,1,2,3,4,5,6],[0,1,2,3,4,5,6,7]] [none,none,some (8,_)] [] [.adr 24 2 (.some 0) True,.v 25 _,.adr 26 2 (.some 1) True,.v 27 _,.adr 28 3 (.some 1) True,.v 29 _,.v 30 _,.v 31 _,.sto 2] [] aa U (zO 0 G aU (zL 0 0 0 G ty_4 (zO 0 G ar (zL 2 0 1 G aY (zO 1 G ar (zL 4 1 1 G aY (zQ G (wc _ _ (qd hp zd) (cm (nf hb1)) (by show val (limbs _)≤val (limbs _); rw [aH,aH]; exact nf hb1)) (.p (vq 3 G) (vq 5 G)) (zQ G (cb _ _) (.p (vq 1 G) (vq 6 G)) (zS 7 G al o0))))))))) zk zk zk zk (zz [] [O 2 28 _,O 3 28 _,O 4 28 _] λ a w U=>?_)
   refine a7<|qe<|ao ?_
   refine aj ?_ (ap G U (zm 2 G) al)
   exact bj (wI hb0 (nf hb1))
  ·refine qh<|zt<|zgd [[],[0],[],[2],[],[4],[2,3,4,5],[0,1,2,3,4,5,6],[0,1,2,3,4,5,6,7]] [none,none,some (8,_)] [] [.adr 32 3 (.some 0) True,.v 33 _,.adr 34 3 (.some 1) True,.v 35 _,.adr 36 2 (.some 1) True,.v 37 _,.v 38 _,.v 39 _,.sto 2] [] aa U (zO 1 G aU (zL 0 1 0 G ty_4 (zO 1 G ar (zL 2 1 1 G aY (zO 0 G ar (zL 4 0 1 G aY (zQ G (wc _ _ (qd hq zd) (cm (nc hb1)) (by show val (limbs _)≤val (limbs _); rw [aH,aH]; exact nc hb1)) (.p (vq 3 G) (vq 5 G)) (zQ G (cb _ _) (.p (vq 1 G) (vq 6 G)) (zS 7 G al o0))))))))) zk zk zk zk (zz [] [O 2 28 _,O 3 28 _,O 4 28 _] λ a w U=>?_)
   refine a7<|qe<|aj ?_ (ap G U (zm 2 G) al)
   exact bj (wH hb0 (nc hb1))
theorem oW (p q:Int)(hp:lz p≤1000000000)(hq:lz q≤1000000000):Cn Tryz.prog 125 [Zi p,Zi q] (Zi (p-q)):=by
 refine Cn.intro Tryz.func125 G zk nq (λ B w0 a U=>?_)
 have U:=zn [(0,Zi p),(1,Zi q)] [] U
 refine qb<|zg [] [⟨2,28,ptrH,some 0,_,none⟩,⟨3,28,ptrH,some 1,_,none⟩,⟨4,28,ptrH,some 2,_,none⟩] [.alc 0,.alc 1,.alc 2] [] U (zW 0 G (zW 1 G (zY G (Str.zero bn) o0))) (zz [] [O 2 28 _,O 3 28 _,O 4 28 _] λ a w U=>?_)
 refine zt<|zgd [[],[],[1],[0,1,2],[0,1,2,3]] [none,none,some (4,_)] [] [.v 5 _,.v 6 _,.v 7 _,.v 8 _,.sto 2] [] aa U (zl 0 G al (zl 1 G al (zQ G (w8 q) (.o (vq 1 G)) (zQ G (sw p (-q) hp (by rw [eU]; exact hq)) (.p (vq 0 G) (vq 2 G)) (zS 3 G al o0))))) zk zk zk zk (zz [] [O 2 28 _,O 3 28 _,O 4 28 _] λ a w U=>?_)
 refine a7<|qe<|aj ?_ (ap G U (zm 2 G) al)
 exact bj (qk Zi Int.sub_eq_add_neg.symm)
theorem wa (p q:Int)(hp:lz p≤1000000000)(hq:lz q≤1000000000):Cn Tryz.prog 126 [Zi p,Zi q] (Zi (p*q)):=by
 refine Cn.intro Tryz.func126 G zk nq (λ B w0 a U=>?_)
 have U:=zn [(0,Zi p),(1,Zi q)] [] U
 refine qb<|zg [] [⟨2,28,ptrH,some 0,_,none⟩,⟨3,28,ptrH,some 1,_,none⟩,⟨4,28,ptrH,some 2,_,none⟩] [.alc 0,.alc 1,.alc 2] [] U (zW 0 G (zW 1 G (zY G (Str.zero bn) o0))) (zz [] [O 2 28 _,O 3 28 _,O 4 28 _] λ a w U=>?_)
 refine zt<|zgd [[],[0],[],[2],[0,1,2,3],[],[5],[],[7],[5,6,7,8],[0,1,2,3,4,5,6,7,8,9],[0,1,2,3,4,5,6,7,8,9,10]] [none,none,some (11,_)] [] [.adr 5 2 (.some 0) True,.v 6 _,.adr 7 3 (.some 0) True,.v 8 _,.v 9 _,.adr 10 2 (.some 1) True,.v 11 _,.adr 12 3 (.some 1) True,.v 13 _,.v 14 _,.v 15 _,.sto 2] [] aa U (zO 0 G aU (zL 0 0 0 G ty_4 (zO 1 G aU (zL 2 1 0 G ty_4 (zv G (lh zk (vq 1 G) (vq 3 G)) (zO 0 G ar (zL 5 0 1 G aY (zO 1 G ar (zL 7 1 1 G aY (zQ G ((wi _ _ (qd hp zd) (qd hq zd)).wkp oF) (.p (vq 6 G) (vq 8 G)) (zQ G (cb _ _) (.p (vq 4 G) (vq 9 G)) (zS 10 G al o0)))))))))))) zk zk zk zk (zz [] [O 2 28 _,O 3 28 _,O 4 28 _] λ a w U=>?_)
 refine a7<|qe<|aj ?_ (ap G U (zm 2 G) al)
 exact bj Bt
theorem mB (p q:Int)(hq0:q≠0)(hp:lz p≤1000000000)(hq:lz q≤1000000000):Cn Tryz.prog 203 [Zi p,Zi q] (Tu [Zi (p.tdiv q),Zi (p.tmod q)]):=by
 refine Cn.intro Tryz.func203 G zk nq (λ B w0 a U=>?_)
 have U:=zn [(0,Zi p),(1,Zi q)] [] U
 refine qb<|zg [] [⟨2,28,ptrH,some 0,_,none⟩,⟨3,28,ptrH,some 1,_,none⟩,⟨4,28,ptrH,some 2,_,none⟩,⟨5,28,ptrH,some 3,_,none⟩] [.alc 0,.alc 1,.alc 2,.alc 3] [] U (zW 0 G (zW 1 G (zY G (Str.zero bn) (zY G (Str.zero bn) o0)))) (zz [] [O 2 28 _,O 3 28 _,O 4 28 _,O 5 28 _] λ a w U=>?_)
 refine zt<|zg [η,η,η,η] [] [.adr 9 2 (.some 1) True,.v 10 _,.adr 11 3 (.some 1) True,.v 12 _,.v 13 _,.v 8 _,.v 14 _,.v 15 _,.v 6 _,.v 7 _] [.o 8,.o 9] U (zO 0 G ar (zL 0 0 1 G aY (zO 1 G ar (zL 2 1 1 G aY (zQ G (wv (D:=q.natAbs) (riOf p).mag zo hp hq) (.p (vq 1 G) (vq 3 G)) (zv G (ab (vq 4 G)) (zv G (aP (vq 5 G) G) (zv G (aP (vq 5 G) G) (zA 6 G (zA 7 G o0)))))))))) (zz [(6,_),(7,_)] [O 2 28 _,O 3 28 _,O 4 28 _,O 5 28 _] λ a w U=>?_)
 refine zt<|zgd [[],[0],[],[2],[0,1,2,3],[],[0,1,2,3,4,5],[],[7],[],[0,1,2,3,4,5,6,7,8,9],[0,1,2,3,4,5,6,7,8,9,10],[0,1,2,3,4,5,6,7,8,9,10,11]] [none,none,some (11,_),some (12,_)] [] [.adr 16 2 (.some 0) True,.v 17 _,.adr 18 3 (.some 0) True,.v 19 _,.v 20 _,.v 21 _,.v 22 _,.adr 23 2 (.some 0) True,.v 24 _,.v 25 _,.v 26 _,.sto 2,.sto 3] [] aa U (zO 0 G aU (zL 0 0 0 G ty_4 (zO 1 G aU (zL 2 1 0 G ty_4 (zv G (lh zk (vq 1 G) (vq 3 G)) (zM 0 G (zQ G (cb _ _) (.p (vq 4 G) (vq 5 G)) (zO 0 G aU (zL 7 0 0 G ty_4 (zM 1 G (zQ G (cb _ _) (.p (vq 8 G) (vq 9 G)) (zS 6 G al (zS 10 G al o0))))))))))))) zk zk zk zk (zz [] [O 2 28 _,O 3 28 _,O 4 28 _,O 5 28 _] λ a w U=>?_)
 refine a7<|qe<|aj ?_ (aE (rs:=[.cell 4 28,.cell 5 28]) G U (.cell (zm 2 G) al (.cell (zm 3 G) al .nil)) zd)
 exact tu2w (bj rdiv_q) (bj rdiv_r)
def bln:Nat→Nat
 | 0=>0
 | n+1=>bln ((n+1)/2)+1
decreasing_by omega
theorem quo32 {t:Nat}(h:t<4294967296):IntKind.u32.wrap ((t:Int).tdiv ((2:Nat):Int))=((t/2:Nat):Int):=by
 rw [xp zo,← j2,wu32 zo]
theorem rV {n:Nat}(h:0<n):bln n=bln (n/2)+1:=by
 cases n with
 | zero=>omega
 | succ n=>rw [bln]
theorem Ej:∀ (k n:Nat),n<2^k→bln n≤k
 | k,0,_=>by rw [bln]; omega
 | 0,n+1,h=>by simp at h
 | k+1,n+1,h=>by
  rw [bln]
  have:=Ej k ((n+1)/2) (by rw [qW] at h; omega)
  omega
def bitF (p:Int):Nat:=if lz p=0 then 0 else 32*(lz p-1)+bln ((limbs p.natAbs).getD (lz p-1) 0)
theorem top_nz {p:Int}(h:lz p≠0):0<(limbs p.natAbs).getD (lz p-1) 0:=by
 apply Decidable.byContradiction
 intro hn
 have hlt:lz p-1<(limbs p.natAbs).length:=by show lz p-1<lz p; omega
 rw [cQ hlt] at hn
 have e:limbs p.natAbs=(limbs p.natAbs).take (lz p-1)++[0]:=by
  have h2:=qx hlt
  rw [qB (by show lz p≤lz p-1+1; omega)] at h2
  rw [show (limbs p.natAbs)[lz p-1]=0 by omega] at h2
  exact h2
 have hv:=aH p.natAbs
 rw [e,iy,kw,jf] at hv
 have h3:=eN (l:=(limbs p.natAbs).take (lz p-1)) (λ x hx=>(bk _).1 x (z9 hx))
 rw [hv] at h3
 have h4:=dN h3
 rw [zj] at h4
 have h5:lz p=(limbs p.natAbs).length:=rfl
 omega
theorem CR {p:Int}(h:bitF p=1):p.natAbs=1:=by
 unfold bitF at h
 split at h
 ·omega
 ·rename_i h0
  have h1:=top_nz h0
  rw [rV h1] at h
  have h2:lz p=1:=by omega
  have h3:bln ((limbs p.natAbs).getD (lz p-1) 0/2)=0:=by omega
  have h4:(limbs p.natAbs).getD (lz p-1) 0=1:=by
   apply Decidable.byContradiction
   intro hn
   have:=rV (n:=(limbs p.natAbs).getD (lz p-1) 0/2) zo
   omega
  have h5:=pi (D:=p.natAbs) h2
  have h6:(limbs p.natAbs).getD 0 0=1:=by rw [h2] at h4; exact h4
  rw [cQ (by show 0<lz p; omega)] at h6
  omega
theorem r5 (p:Int)(hp:lz p≤1000000000):Cn Tryz.prog 237 [Zi p] (In (bitF p:Nat)):=by
 have hrl:(riOf p).mag.length=lz p:=rfl
 refine Cn.intro Tryz.func237 G zk nq (λ B w0 a U=>?_)
 have U:=zn [(0,Zi p)] [] U
 refine qb<|zg [] [⟨1,28,ptrH,some 0,_,none⟩] [.alc 0,.v 2 _] [.o 1] U (zW 0 G (zv G (a9 a8) o0)) (zz [(2,_)] [O 1 28 _] λ a w U=>?_)
 refine zt<|qb<|zg [η] [] [.adr 5 1 (.some 1) True,.v 6 _,.v 7 _,.v 8 _] [.g 0,.o 3] U (zO 0 G ar (zL 0 0 1 G aY (zv G (aJ Tryz.underlying26 (vq 1 G)) (zv G (bF (vq 2 G) a8) o0)))) (zz [(2,_),(8,_)] [O 1 28 _] λ a w U=>?_)
 refine a7<|ae U (zm 1 G) (λ hb0=>?_) (λ hb0=>?_)
 ·have h0:lz p=0:=by simp at hb0; rw [← hrl,hb0]; rfl
  refine qb<|zg [η] [] [.v 2 _] [.o 0] U (zv G (a9 a8) o0) (zz [(2,_)] [O 1 28 _] λ a w U=>?_)
  refine a7<|qe<|ao ?_
  refine aj ?_ (an G U (zm 0 G))
  rw [show bitF p=0 by rw [bitF,qC h0]]; exact aL
 ·have h0:lz p≠0:=by intro e; rw [← hrl] at e; simp [z7 e] at hb0
  have hlt:lz p-1<(limbs p.natAbs).length:=by show lz p-1<lz p; omega
  have htop:(limbs p.natAbs).getD (lz p-1) 0<4294967296:=fa (bk _).1 _
  have hbt:32*(lz p-1)+bln ((limbs p.natAbs).getD (lz p-1) 0)=bitF p:=by rw [bitF,qA h0]
  have hb32:=Ej 32 _ htop
  refine qh<|zt<|zg [η] [] [.adr 9 1 (.some 1) True,.v 10 _,.v 11 _,.v 12 _,.v 13 _,.v 3 _] [.g 0,.o 5] U (zO 0 G ar (zL 0 0 1 G aY (zv G (aJ Tryz.underlying26 (vq 1 G)) (zv G (cy (vq 2 G) a8 ((wi64 zo zo).trans (by omega:(_:Int)=((lz p-1:Nat):Int)))) (zv G (r8 a8 (vq 3 G) ((wi64 zo zo).trans (by omega:(_:Int)=((32*(lz p-1):Nat):Int)))) (zA 4 G o0)))))) (zz [(2,_),(3,_)] [O 1 28 _] λ a w U=>?_)
  refine zt<|qb<|zg [η] [] [.adr 14 1 (.some 1) True,.v 15 _,.adr 16 1 (.some 1) True,.v 17 _,.v 18 _,.v 19 _,.v 20 _,.v 21 _,.v 4 _] [.g 0,.g 1,.o 8] U (zO 0 G ar (zL 0 0 1 G aY (zO 0 G ar (zL 2 0 1 G aY (zv G (aJ Tryz.underlying26 (vq 3 G)) (zv G (cy (vq 4 G) a8 ((wi64 zo zo).trans (by omega:(_:Int)=((lz p-1:Nat):Int)))) (zv G (bK bb (vq 1 G) (vq 5 G) hlt) (zv G (aq (vq 6 G) aM) (zA 7 G o0))))))))) (zz [(2,_),(3,_),(4,_)] [O 1 28 _] λ a w U=>?_)
  refine a7<|ql ?_
  have U:=St.sel U [1,2]
  refine wp_loop_ghost (λ n a w=>∃ s t:Nat,(t<4294967296∧n=t∧s+bln t=bitF p)∧St B w0 29 [(3,In (s:Nat)),(4,(NumA .u32 (t:Nat)).va)] [⟨1,28,ptrH,RIA (riOf p)⟩] a w) ((limbs p.natAbs).getD (lz p-1) 0) ?_ ?_
  ·rw [← cQ hlt] at U; exact ⟨_,_,⟨htop,rfl,hbt⟩,U⟩
  intro n a w hI
  obtain ⟨s,t,⟨ht,hnt,hs⟩,U⟩:=hI
  refine qb<|qb<|zg [η] [] [.v 22 _,.v 23 _] [.g 0,.g 1,.o 1] U (zM 1 G (zv G (cP (vq 0 G) (aD 0 G)) o0)) (zz [(3,_),(4,_),(23,_)] [O 1 28 _] λ a w U=>?_)
  refine a7<|ae U (zm 2 G) (λ hb1=>?_) (λ hb1=>?_)
  ·have hb1:0<t:=by simp at hb1; omega
   refine qh<|zt<|ql<|zg [η] [] [.v 26 _,.v 27 _,.v 3 _] [.g 1,.o 2] U (zM 0 G (zv G (aQ (vq 0 G) a8 (aW zo)) (zA 1 G o0))) (zz [(4,_),(3,_)] [O 1 28 _] λ a w U=>?_)
   refine am ?_
   refine a7<|zg [η] [] [.v 24 _,.v 25 _,.v 4 _] [.g 1,.o 2] U (zM 0 G (zv G (lg (vq 0 G) (aD 2 G) zd (quo32 ht)) (zA 1 G o0))) (zz [(3,_),(4,_)] [O 1 28 _] λ a w U=>?_)
   refine a7 ?_
   have U:=St.sel U [0,1]
   exact ⟨t/2,by omega,s+1,t/2,⟨by omega,rfl,by rw [rV hb1] at hs; omega⟩,U⟩
  ·have ht0:t=0:=by simp at hb1; omega
   refine qK<|ah<|ah<|ay<|zt<|zg [η] [] [.v 28 _,.v 2 _] [.o 1] U (zM 0 G (zA 0 G o0)) (zz [(2,_)] [O 1 28 _] λ a w U=>?_)
   refine a7<|qe<|aj ?_ (an G U (zm 0 G))
   rw [show bitF p=s by rw [← hs,ht0,bln]; rfl]; exact aL
theorem wb (l:List Nat)(x:Nat)(hls:l.length≤1099511627776)(hx:x<4294967296):Cn Tryz.prog 263 [(MgA l).va,(NumA .u32 (x:Nat)).va] ((MgN (limbs (val l*x))).va):=by
 refine Cn.intro Tryz.func263 G zk nq (λ B w0 a U=>?_)
 have U:=zn [(0,(MgA l).va),(1,(NumA .u32 (x:Nat)).va)] [] U
 refine qb<|zh [.v 4 _] [.g 0,.g 1,.o 0] U (zv G (a9 ba) o0) (zz [(0,_),(1,_),(4,_)] [] λ a w U=>?_)
 refine zt<|zh [.v 5 _,.v 6 _,.v 7 _,.v 8 _,.v 9 _,.v 4 _] [.o 5] U (zM 0 G (zM 1 G (zv G (dh (l:=[_]) (xs:=[.tmp 6]) bb zk nq nq ((ez hx)) (.o (vq 1 G)) G G) (zQ G (dQ famA _) (.o (vq 2 G)) (zQ G (wi l (trimL [x]) hls (qd (iz x).1 zd)) (.p (vq 0 G) (vq 3 G)) (zA 4 G o0)))))) (zz [(4,_)] [] λ a w U=>?_)
 refine a7<|qe<|aj ?_ (an G U (zm 0 G))
 rw [(iz x).2]; exact aL
theorem pI {B:Nat}{w:World}:∀ (l:List Nat),(cat (NL l)).p B (l.map λ (x:Nat)=>Value.int .u32 x) w
 | []=>⟨[],rfl,.nil⟩
 | x::l=>by
  obtain ⟨ps,e,hp⟩:=pI (B:=B) (w:=w) l
  exact ⟨[.int .u32 x]::ps,by show _::_=_; rw [qL,← e]; rfl,.cons G hp⟩
theorem St.rowO {B N:Nat}(h:St B w0 N Γ Λ a w)(hB:B=w0.w.heap.size){s:Nat}{l:List Nat}{n:Nat}(hn:n=l.length)(hl:l.length≤maxLen)(e:Nat)(he:Λ[e]?=some ⟨s,U32,slH n n,Nums .u32 l⟩):
  St B w0 N ((s,OwnR w0.w.heap.size U32 1 [] (NL l))::Γ) (Λ.eraseIdx e) a w:=by
 subst hn
 obtain ⟨g,cs,e1,e2,e3,e4⟩:=h.locs _ (qa he)
 have e4':cs=l.map λ (x:Nat)=>Value.int .u32 x:=e4
 refine ⟨h.lo,h.defers,h.size,h.base,λ x hx=>?_,λ m hm=>h.locs m (xg hm),λ m hm m' hm' hne=>h.dis m (xg hm) m' (xg hm') hne⟩
 rcases qo.1 hx with rfl | hx
 ·have q1:∀ A∈NL l,A.n=1:=λ A hA=>by
   obtain ⟨_,_,rfl⟩:=qm.1 hA; rfl
  have q2:∀ A∈NL l,∀ T∈A.deps,T∈([]:List TypeId):=nE
  have q3:(cat (NL l)).p B cs w:=by rw [e4']; exact pI l
  have q4:a.eval (.tmp s)=.slice (some ⟨g,0,none⟩) l.length l.length:=by rw [e1]; rfl
  exact ⟨q1,q2,cs,q3,by rw [e4']; simp,.inr ⟨g,l.length,cs.toArray,by rw [qi]; exact q4,by rw [← hB]; exact h.lo g e2,e3,by simp,hl,by rw [e4']; simp,by rw [e4']; simp [qB]⟩⟩
 ·exact h.vals x hx
theorem qi64 {x:Nat}(h:x<4611686018427387904):IntKind.i64.wrap ((x:Int).tdiv 32)=((x/32:Nat):Int):=by
 rw [show (32:Int)=((32:Nat):Int) from rfl,xp zo,← j2,wi64 zo zo]
theorem wmul32 {i:Nat}(h:i<31):IntKind.u32.wrap (((2:Nat):Int)*((2^i:Nat):Int))=((2^(i+1):Nat):Int):=by
 have h1:2^(i+1)≤2^31:=zb zd zo
 rw [← xD,qV,← qW,wu32 (qO h1 zd)]
theorem pow32 (k:Nat):4294967296^k=2^(32*k):=by rw [Nat.pow_mul]
theorem BN {i:Nat}(h:i<32):2^i<4294967296:=qO (zb zd (show i≤31 by omega)) zd
theorem dbl_e {p:Int}{t:Nat}:(RIN (rsig (riOf p).neg (limbs (val (List.replicate (t/32) 0++(riOf p).mag)*2^(t%32))))).va=(RIN (riOf (p*((2^t:Nat):Int)))).va:=by
 have hpos:(0:Int)<((2^t:Nat):Int):=by exact_mod_cast zf (by decide:0<2)
 refine qk (λ x=>(RIN x).va) (ca (bk _).1 (z:=p*((2^t:Nat):Int)) ?_ λ hz=>?_)
 ·rw [aH,gH,oJ,qU,bA,zc,jn,jR,pow32,ji,← zR,xC,qV]
 ·show decide (p<0)=_
  rw [qQ]
  exact ⟨λ h=>js h hpos,λ h=>by
   apply Decidable.byContradiction
   intro hn
   have:=Int.mul_nonneg (show 0≤p by omega) (Int.le_of_lt hpos)
   omega⟩
theorem wu (p:Int)(t:Nat)(hp0:p≠0)(hp:lz p≤1000000000)(ht:t≤64000000000):Cn Tryz.prog 260 [Zi p,In (t:Nat)] ((RIN (riOf (p*((2^t:Nat):Int)))).va):=by
 obtain ⟨it,z,e1,e2,e3,e4,e5⟩:=m8
 refine Cn.introW Tryz.func260 G zk nq (.cons (tQ _).va (.cons (mt _ _).va .nil)) (fS _).va (λ B w0 a hB0 U=>?_)
 have U:=zn [(0,(RIO (riOf p)).va),(1,In (t:Nat))] [] U
 refine qb<|zg [] [⟨2,28,ptrH,some 0,_,none⟩,⟨4,28,ptrH,some 1,_,none⟩] [.alc 0,.alc 1] [.g 1] U (zW 0 G (zY G (Str.zero fk) o0)) (zz [(1,_)] [O 2 28 _,O 4 28 _] λ a w U=>?_)
 refine zt<|qb<|zg [η,η] [] [.adr 8 2 (.some 1) True,.v 9 _,.v 10 _,.v 11 _] [.g 0,.o 3] U (zO 0 G ar (zL 0 0 1 G aY (zv G (aJ Tryz.underlying26 (aC (vq 1 G))) (zv G (bF (vq 2 G) a8) o0)))) (zz [(1,_),(11,_)] [O 2 28 _,O 4 28 _] λ a w U=>?_)
 refine a7<|ae U (zm 1 G) (λ hb0=>?_) (λ hb0=>?_)
 ·have h0:(riOf p).mag=[]:=by simpa using hb0
  exact absurd (gm hp0) (by show ¬ 0<(riOf p).mag.length; rw [h0]; decide)
 ·refine qh<|zt<|de (sts:=[none,none]) (news:=[⟨15,128,slH _ _,some 2,_,none⟩]) (sp:=[.v 13 _,.v 14 _,.alc 2,.adr 5 15 .none True]) [.g 0] [(5,15)] [O 2 28 _,O 4 28 _,⟨5,128,slH _ _,_⟩] U (zM 0 G (zv G (lg (vq 0 G) a8 zd (qi64 zo)) (oc (dU G G G eJ (vq 1 G) (vq 1 G) zo) (oc (ob_a G G me) o0)))) zk zk zk ⟨⟨3,rfl⟩,trivial⟩ G zk (zz [(1,_)] [O 2 28 _,O 4 28 _,⟨5,128,slH _ _,_⟩] λ a w U=>?_)
  refine zt ?_
  have U:=St.rowO U hB0 (l:=List.replicate (t/32) 0) (by simp) (by simp; unfold maxLen; omega) 2 rfl
  have U:=zn [(5,_),(1,_)] [O 2 28 _,O 4 28 _] U
  refine o7 (sp:=[.v 16 _,.adr 17 2 (.some 1) True,.v 18 _,.v 19 VT,.v 5 VT]) 3 [1] 0 2 U (zM 0 rfl (zO 0 rfl ar (zL 1 0 1 rfl aY o0))) rfl zk rfl rfl zd rfl zd rfl (λ w u h k=>by have h2:=SlO.use h; exact (dx h2).2) Tryz.underlying26 e1 e2 e3 e4 e5 zd (by simp only [qi,qU]; have:(riOf p).mag.length=lz p:=rfl; omega) zd (λ T hT=>hT) zd (λ A hA=>by obtain ⟨_,_,rfl⟩:=qm.1 hA; rfl) zk nq nq zk zk (zz [(5,_),(1,_)] [O 2 28 _,O 4 28 _] λ a w U=>?_)
  refine zt<|zg [η,η] [] [.v 6 _] [.g 0,.g 1,.o 0] U (zv G (a9 (aD 1 G)) o0) (zz [(5,_),(1,_),(6,_)] [O 2 28 _,O 4 28 _] λ a w U=>?_)
  refine zt<|qb<|zg [η,η] [] [.v 7 _] [.g 0,.g 1,.g 2,.o 0] U (zv G (a9 a8) o0) (zz [(5,_),(1,_),(6,_),(7,_)] [O 2 28 _,O 4 28 _] λ a w U=>?_)
  refine a7<|ql ?_
  have U:=St.sel U [1,0,2,3]
  refine wp_loop_ghost (λ n a w=>∃ i:Nat,(n+i=t%32)∧St B w0 34 [(1,In (t:Nat)),(5,OwnR w0.w.heap.size U32 1 [] (NL (List.replicate (t/32) 0)++NL (riOf p).mag)),(6,(NumA .u32 (2^i:Nat)).va),(7,In (i:Nat))] [⟨2,28,ptrH,RIO (riOf p)⟩,⟨4,28,ptrH,cat [BoA false,MgO []]⟩] a w) (t%32) ?_ ?_
  ·exact ⟨0,by omega,U⟩
  intro n a w hI
  obtain ⟨i,hn,U⟩:=hI
  have hm32:=qM t (by decide:0<32)
  refine qb<|qb<|zg [η,η] [] [.v 20 _,.v 21 _,.v 22 _,.v 23 _] [.g 0,.g 1,.g 2,.g 3,.o 3] U (zM 3 G (zM 0 G (zv G (lf (vq 1 G) a8 zd (nrem (y:=32))) (zv G (aK (vq 0 G) (vq 2 G)) o0)))) (zz [(1,_),(5,_),(6,_),(7,_),(23,_)] [O 2 28 _,O 4 28 _] λ a w U=>?_)
  refine a7<|ae U (zm 4 G) (λ hb1=>?_) (λ hb1=>?_)
  ·have hi:i<t%32:=by have:=qt hb1; omega
   refine qh<|zt<|ql<|zg [η,η] [] [.v 26 _,.v 27 _,.v 6 _] [.g 0,.g 1,.g 3,.o 2] U (zM 2 G (zv G (r8 (aD 2 G) (vq 0 G) (wmul32 zo)) (zA 1 G o0))) (zz [(1,_),(5,_),(7,_),(6,_)] [O 2 28 _,O 4 28 _] λ a w U=>?_)
   refine am ?_
   refine a7<|zg [η,η] [] [.v 24 _,.v 25 _,.v 7 _] [.g 0,.g 1,.g 3,.o 2] U (zM 2 G (zv G (aQ (vq 0 G) a8 (aW zo)) (zA 1 G o0))) (zz [(1,_),(5,_),(6,_),(7,_)] [O 2 28 _,O 4 28 _] λ a w U=>?_)
   refine a7 ?_
   have U:=St.sel U [0,1,2,3]
   exact ⟨n-1,by omega,i+1,by omega,U⟩
  ·obtain rfl:i=t%32:=by have:=qr hb1; omega
   have U:=St.wkG (A':=(MgA (List.replicate (t/32) 0++(riOf p).mag)).va) U 1 rfl (by unfold NL; rw [← zF]; exact wN (okL_append.2 ⟨λ x hx=>by rw [(xl.1 hx).2]; decide,nA p⟩))
   refine qK<|ah<|ah<|ay<|zt<|zgd [[],[0],[],[],[2,3],[0,1,2,3,4],[0,1,2,3,4,5]] [none,some (6,_)] [] [.adr 28 2 (.some 0) True,.v 29 _,.v 30 _,.v 31 _,.v 32 _,.v 33 _,.sto 1] [] aa U (zO 0 G aU (zL 0 0 0 G ty_4 (zM 1 G (zM 2 G (zQ G (wb _ (2^(t%32)) (by simp only [qn,qU]; have:(riOf p).mag.length=lz p:=rfl; omega) (BN (qM _ zd))) (.p (vq 2 G) (vq 3 G)) (zQ G (tW _ _) (.p (vq 1 G) (vq 4 G)) (zS 5 G al o0))))))) zk zk zk zk (zz [] [O 2 28 _,O 4 28 _] λ a w U=>?_)
   refine a7<|qe<|aj ?_ (ap G U (zm 1 G) al)
   exact bj dbl_e
theorem iB (X:Nat)(h:(limbs X).length≤1099511627776):Cn Tryz.prog 259 [(MgA (limbs X)).va] (MgA (limbs (X/2))).va:=by
 have:=Fe (limbs X) h
 rwa [aH] at this
theorem ik {X:Nat}(h:0<X):0<(limbs X).length:=by rw [d3 zo]; simp
theorem iC (X:Nat)(h:0<X):Cn Tryz.prog 258 [(MgA (limbs X)).va] (Bo (((X%2:Nat):Int)==((0:Nat):Int))):=by
 have:=Fg (limbs X) (ik h)
 rwa [aH] at this
theorem wd (X Y:Nat)(h:Y≤X)(hl:(limbs X).length≤10000000000):Cn Tryz.prog 235 [(MgA (limbs X)).va,(MgA (limbs Y)).va] (MgA (limbs (X-Y))).va:=by
 have:=wc (limbs X) (limbs Y) hl (cm h) (by rw [aH,aH]; exact h)
 rwa [aH,aH] at this
theorem tp {X:Nat}(h:(((X%2:Nat):Int)==((0:Nat):Int))=true):X%2=0:=by
 have:=beq_iff_eq.1 h
 omega
theorem CD {X:Nat}(h:(((X%2:Nat):Int)==((0:Nat):Int))=false):X%2=1:=by
 have h2:¬ ((X%2:Nat):Int)=((0:Nat):Int):=λ e=>by rw [e] at h; simp at h
 omega
theorem ev_two {X Y:Nat}(h:((((X%2:Nat):Int)==((0:Nat):Int))&&(((Y%2:Nat):Int)==((0:Nat):Int)))=true):X%2=0∧Y%2=0:=by
 rw [qj] at h
 exact ⟨tp h.1,tp h.2⟩
theorem ev_one {X Y:Nat}(h:((((X%2:Nat):Int)==((0:Nat):Int))&&(((Y%2:Nat):Int)==((0:Nat):Int)))=false):X%2=1∨Y%2=1:=by
 rw [kG] at h
 rcases h with h | h
 ·exact .inl (CD h)
 ·exact .inr (CD h)
theorem td {X Y g:Nat}(h:Nat.gcd X Y=g)(hg:g%2=1)(hX:X%2=0):Nat.gcd (X/2) Y=g:=by
 have e:X=2*(X/2):=by omega
 apply Nat.dvd_antisymm
 ·rw [← h]
  exact Nat.dvd_gcd (km (x6 _ _) ⟨2,by omega⟩) (jv _ _)
 ·refine Nat.dvd_gcd ?_ (h▸jv _ _)
  have h1:g∣2*(X/2):=by rw [← e]; exact h▸x6 _ _
  refine Nat.Coprime.dvd_of_dvd_mul_left ?_ h1
  show Nat.gcd g 2=1
  have h2:Nat.gcd g 2∣2:=jv _ _
  have h3:Nat.gcd g 2∣g:=x6 _ _
  have h4:=Nat.le_of_dvd zd h2
  rcases kA (Nat.gcd g 2) 2 with h5 | h5
  ·have:Nat.gcd g 2≠0:=by intro e0; have:=Nat.gcd_eq_zero_iff.1 e0; omega
   omega
  ·have h6:Nat.gcd g 2=2:=by omega
   rw [h6] at h3
   obtain ⟨c,hc⟩:=h3
   omega
theorem GD {X Y:Nat}(h:X%2=1∨Y%2=1):Nat.gcd X Y%2=1:=by
 apply Decidable.byContradiction
 intro hn
 have h2:2∣Nat.gcd X Y:=Nat.dvd_of_mod_eq_zero zo
 have h3:=km h2 (x6 X Y)
 have h4:=km h2 (jv X Y)
 omega
theorem tc {X Y g:Nat}(h:Nat.gcd X Y=g)(hle:Y≤X):Nat.gcd (X-Y) Y=g:=by
 rw [← h,xz,xz X Y]
 have:=Nat.gcd_add_self_right (m:=Y) (n:=X-Y)
 rw [jh hle] at this
 exact this.symm
theorem tS {X t k:Nat}(hX:0<X)(h:X*2^t<4294967296^k):t≤32*k:=by
 rw [pow32] at h
 have h1:2^t≤X*2^t:=Nat.le_mul_of_pos_left _ hX
 exact zD ((Nat.pow_lt_pow_iff_right (by decide:1<2)).1 (qO h1 h))
structure Tw (P Q X Y t:Nat):Prop where
 x:0<X
 y:0<Y
 p:P=X*2^t
 q:Q=Y*2^t
theorem Tw.next {P Q X Y t:Nat}(h:Tw P Q X Y t)(hX:X%2=0)(hY:Y%2=0):Tw P Q (X/2) (Y/2) (t+1) :=
 ⟨by have:=h.x; omega,by have:=h.y; omega,by rw [h.p,qW,qV (2^t),← qT]; congr 1; omega,by rw [h.q,qW,qV (2^t),← qT]; congr 1; omega⟩
theorem Tw.xle {P Q X Y t:Nat}(h:Tw P Q X Y t):X≤P∧Y≤Q:=by
 have h1:0<2^t:=zf zd
 rw [h.p,h.q]
 exact ⟨kt _ h1,kt _ h1⟩
theorem Tw.tle {P Q X Y t:Nat}(h:Tw P Q X Y t)(hl:(limbs P).length≤1000000000):t≤32000000000:=by
 have h1:=cd (n:=P) (qg _)
 rw [h.p] at h1
 have h2:=tS h.x h1
 rw [← h.p] at h2
 omega
theorem lenM {X M:Nat}(h:X≤M)(hM:(limbs M).length≤1000000000):(limbs X).length≤1000000000:=qd (cm h) hM
theorem G9 {X:Nat}(h:decide (((limbs X).length:Int)>0)=true):0<X:=by
 apply Decidable.byContradiction
 intro hn
 obtain rfl:X=0:=by omega
 rw [bx] at h
 exact absurd h zd
theorem Ga {X:Nat}(h:decide (((limbs X).length:Int)>0)=false):X=0:=by
 apply Decidable.byContradiction
 intro hn
 have:=ik (X:=X) zo
 exact absurd (qr h) zo
theorem sgn_e {Y:Nat}:(RIA (rsig false (limbs Y))).va=Zi ((Y:Nat):Int):=by
 rw [ca (bk _).1 (z:=((Y:Nat):Int)) (by rw [aH]; omega) (λ hz=>by simp)]
theorem mag0 {p:Int}(h:(((riOf p).mag.length:Int)==0)=true):p=0:=by
 apply Decidable.byContradiction
 intro hn
 have h1:=gm hn
 have h2:(riOf p).mag.length=lz p:=rfl
 simp at h
 rw [h] at h2
 simp at h2
 omega
theorem mag1 {p:Int}(h:(((riOf p).mag.length:Int)==0)=false):0<p.natAbs:=by
 apply Decidable.byContradiction
 intro hn
 obtain rfl:p=0:=by omega
 exact absurd h (by rw [show (riOf (0:Int)).mag=[] from bx]; decide)
set_option maxHeartbeats 1000000 in
theorem mC (p q:Int)(hp:lz p≤1000000000)(hq:lz q≤1000000000):Cn Tryz.prog 238 [Zi p,Zi q] (Zi ((Int.gcd p q:Nat):Int)):=by
 refine Cn.intro Tryz.func238 G zk nq (λ B w0 a U=>?_)
 have U:=zn [(0,Zi p),(1,Zi q)] [] U
 refine qb<|zg [] [⟨2,28,ptrH,some 0,_,none⟩,⟨3,28,ptrH,some 1,_,none⟩,⟨4,28,ptrH,some 2,_,none⟩] [.alc 0,.alc 1,.alc 2] [] U (zW 0 G (zW 1 G (zY G (Str.zero bn) o0))) (zz [] [O 2 28 _,O 3 28 _,O 4 28 _] λ a w U=>?_)
 refine zt<|zg [η,η,η] [] [.adr 9 2 (.some 1) True,.v 10 _,.v 5 _] [.o 2] U (zO 0 G ar (zL 0 0 1 G aY (zA 1 G o0))) (zz [(5,_)] [O 2 28 _,O 3 28 _,O 4 28 _] λ a w U=>?_)
 refine zt<|zg [η,η,η] [] [.adr 11 3 (.some 1) True,.v 12 _,.v 6 _] [.g 0,.o 2] U (zO 1 G ar (zL 0 1 1 G aY (zA 1 G o0))) (zz [(5,_),(6,_)] [O 2 28 _,O 3 28 _,O 4 28 _] λ a w U=>?_)
 refine zt<|qb<|zg [η,η,η] [] [.v 13 _,.v 14 _,.v 15 _] [.g 0,.g 1,.o 2] U (zM 0 G (zv G (aJ Tryz.underlying26 (vq 0 G)) (zv G (bF (vq 1 G) a8) o0))) (zz [(5,_),(6,_),(15,_)] [O 2 28 _,O 3 28 _,O 4 28 _] λ a w U=>?_)
 refine a7<|ae U (zm 2 G) (λ hb0=>?_) (λ hb0=>?_)
 ·obtain rfl:=mag0 hb0
  refine qb<|zg [η,η,some (2,_)] [] [.v 16 _,.v 17 _,.sto 2] [.g 0,.g 1] U (zM 1 G (zQ G (cb _ _) (.cons aB (.o (vq 0 G))) (zS 1 G al o0))) (zz [(5,_),(6,_)] [O 2 28 _,O 3 28 _,O 4 28 _] λ a w U=>?_)
  refine a7<|qe<|ao ?_
  refine aj ?_ (ap G U (zm 2 G) al)
  exact bj (size_e.trans (by rw [show Int.gcd 0 q=q.natAbs from Int.gcd_zero_left ..]))
 ·have hp0:=mag1 hb0
  refine qh<|zt<|qb<|zg [η,η,η] [] [.v 18 _,.v 19 _,.v 20 _] [.g 0,.g 1,.o 2] U (zM 1 G (zv G (aJ Tryz.underlying26 (vq 0 G)) (zv G (bF (vq 1 G) a8) o0))) (zz [(5,_),(6,_),(20,_)] [O 2 28 _,O 3 28 _,O 4 28 _] λ a w U=>?_)
  refine a7<|ae U (zm 2 G) (λ hb1=>?_) (λ hb1=>?_)
  ·obtain rfl:=mag0 hb1
   refine qb<|zg [η,η,some (2,_)] [] [.v 21 _,.v 22 _,.sto 2] [.g 0,.g 1] U (zM 0 G (zQ G (cb _ _) (.cons aB (.o (vq 0 G))) (zS 1 G al o0))) (zz [(5,_),(6,_)] [O 2 28 _,O 3 28 _,O 4 28 _] λ a w U=>?_)
   refine a7<|qe<|ao ?_
   refine aj ?_ (ap G U (zm 2 G) al)
   exact bj (size_e.trans (by rw [show Int.gcd p 0=p.natAbs from Int.gcd_zero_right ..]))
  ·have hq0:=mag1 hb1
   obtain ⟨M,hM0⟩:∃ M,M=max p.natAbs q.natAbs:=⟨_,rfl⟩
   have hPM:p.natAbs≤M:=by omega
   have hQM:q.natAbs≤M:=by omega
   have hM:(limbs M).length≤1000000000:=by
    rcases Nat.le_total p.natAbs q.natAbs with h | h
    ·rw [show M=q.natAbs by omega]; exact hq
    ·rw [show M=p.natAbs by omega]; exact hp
   refine qh<|zt<|zg [η,η,η] [] [.v 7 _] [.g 0,.g 1,.o 0] U (zv G (a9 a8) o0) (zz [(5,_),(6,_),(7,_)] [O 2 28 _,O 3 28 _,O 4 28 _] λ a w U=>?_)
   refine zt<|ql ?_
   have U:=St.sel U [0,1,2]
   refine wp_loop_ghost (λ n a w=>∃ X Y t:Nat,(Tw p.natAbs q.natAbs X Y t∧n=X)∧St B w0 60 [(5,(MgA (limbs X)).va),(6,(MgA (limbs Y)).va),(7,In (t:Nat))] [⟨2,28,ptrH,RIA (riOf p)⟩,⟨3,28,ptrH,RIA (riOf q)⟩,⟨4,28,ptrH,cat [BoA false,MgA []]⟩] a w) (p.natAbs) ?_ ?_
   ·exact ⟨p.natAbs,q.natAbs,0,⟨⟨hp0,hq0,(zT _).symm,(zT _).symm⟩,rfl⟩,U⟩
   intro n a w hI
   obtain ⟨X,Y,t,⟨hT,hnX⟩,U⟩:=hI
   have htl:=hT.tle hp
   have hTx:=hT.x
   refine qb<|qb<|zg [η,η,η] [] [.v 23 _,.v 24 _,.v 25 _,.t 26 _,.t 27 _,.v 28 _] [.g 0,.g 1,.g 2,.o 5] U (zM 0 G (zQ G (iC X hT.x) (.o (vq 0 G)) (zv G (ab (vq 1 G)) (zB 2 G (λ hg=>ab (gq 1 G)) (zB 2 G (λ hg=>aX (iC Y hT.y) (.o (ac (vq 3 G) hg))) (zv G (bG (vq 2 G) (vq 4 G)) o0)))))) (zz [(5,_),(6,_),(7,_),(28,_)] [O 2 28 _,O 3 28 _,O 4 28 _] λ a w U=>?_)
   refine a7<|ae U (zm 3 G) (λ hb2=>?_) (λ hb2=>?_)
   ·have hev:=ev_two hb2
    refine qh<|a7<|ql<|qb<|zg [η,η,η] [] [.v 29 _,.v 30 _,.v 5 _] [.g 1,.g 2,.o 2] U (zM 0 G (zQ G (iB X (qd (lenM (qd hT.xle.1 hPM) hM) zd)) (.o (vq 0 G)) (zA 1 G o0))) (zz [(6,_),(7,_),(5,_)] [O 2 28 _,O 3 28 _,O 4 28 _] λ a w U=>?_)
    refine zt<|zg [η,η,η] [] [.v 31 _,.v 32 _,.v 6 _] [.g 1,.g 2,.o 2] U (zM 0 G (zQ G (iB Y (qd (lenM (qd hT.xle.2 hQM) hM) zd)) (.o (vq 0 G)) (zA 1 G o0))) (zz [(7,_),(5,_),(6,_)] [O 2 28 _,O 3 28 _,O 4 28 _] λ a w U=>?_)
    refine a7<|zg [η,η,η] [] [.v 33 _,.v 34 _,.v 7 _] [.g 1,.g 2,.o 2] U (zM 0 G (zv G (aQ (vq 0 G) a8 (aW zo)) (zA 1 G o0))) (zz [(5,_),(6,_),(7,_)] [O 2 28 _,O 3 28 _,O 4 28 _] λ a w U=>?_)
    refine am ?_
    refine a7 ?_
    have U:=St.sel U [0,1,2]
    exact ⟨X/2,by omega,X/2,Y/2,t+1,⟨hT.next hev.1 hev.2,rfl⟩,U⟩
   ·have hgo0:=GD (ev_one hb2)
    obtain ⟨g,hgd⟩:∃ g,Nat.gcd X Y=g:=⟨_,rfl⟩
    have hgo:g%2=1:=by rw [← hgd]; exact hgo0
    have hgp:Int.gcd p q=g*2^t:=by show Nat.gcd p.natAbs q.natAbs=_; rw [hT.p,hT.q,Nat.gcd_mul_right,hgd]
    refine qK<|ah<|ah<|ay<|zt<|ql ?_
    have U:=St.sel U [0,1,2]
    refine wp_loop_ghost (λ n a w=>∃ X Y:Nat,(0<Y∧X≤M∧Y≤M∧Nat.gcd X Y=g∧n=X+Y)∧St B w0 60 [(5,(MgA (limbs X)).va),(6,(MgA (limbs Y)).va),(7,In (t:Nat))] [⟨2,28,ptrH,RIA (riOf p)⟩,⟨3,28,ptrH,RIA (riOf q)⟩,⟨4,28,ptrH,cat [BoA false,MgA []]⟩] a w) (X+Y) ?_ ?_
    ·exact ⟨X,Y,⟨hT.y,qd hT.xle.1 hPM,qd hT.xle.2 hQM,hgd,rfl⟩,U⟩
    intro n a w hI
    clear hgd; obtain ⟨X,Y,⟨hY0,hXM,hYM,hg1,hn1⟩,U⟩:=hI
    obtain ⟨n1,hn2⟩:∃ n1,n1=n:=⟨n,rfl⟩
    refine qb<|qb<|zg [η,η,η] [] [.v 35 _,.v 36 _,.v 37 _] [.g 0,.g 1,.g 2,.o 2] U (zM 0 G (zv G (aJ Tryz.underlying26 (vq 0 G)) (zv G (cP (vq 1 G) a8) o0))) (zz [(5,_),(6,_),(7,_),(37,_)] [O 2 28 _,O 3 28 _,O 4 28 _] λ a w U=>?_)
    refine a7<|ae U (zm 3 G) (λ hb3=>?_) (λ hb3=>?_)
    ·have hX0:=G9 hb3
     refine qh<|a7<|ql<|qb<|ql ?_
     have U:=St.sel U [0,1,2]
     refine wp_loop_ghost (λ n a w=>∃ X2:Nat,(0<X2∧X2≤X∧Nat.gcd X2 Y=g∧n=X2)∧St B w0 60 [(5,(MgA (limbs X2)).va),(6,(MgA (limbs Y)).va),(7,In (t:Nat))] [⟨2,28,ptrH,RIA (riOf p)⟩,⟨3,28,ptrH,RIA (riOf q)⟩,⟨4,28,ptrH,cat [BoA false,MgA []]⟩] a w) (X) ?_ ?_
     ·exact ⟨X,⟨hX0,qg _,hg1,rfl⟩,U⟩
     intro n a w hI
     obtain ⟨X2,⟨hX3,hX4,hg2,hn3⟩,U⟩:=hI
     have hXM2:=qd hX4 hXM
     refine qb<|qb<|zg [η,η,η] [] [.v 38 _,.v 39 _] [.g 0,.g 1,.g 2,.o 1] U (zM 0 G (zQ G (iC X2 hX3) (.o (vq 0 G)) o0)) (zz [(5,_),(6,_),(7,_),(39,_)] [O 2 28 _,O 3 28 _,O 4 28 _] λ a w U=>?_)
     refine a7<|ae U (zm 3 G) (λ hb4=>?_) (λ hb4=>?_)
     ·have hev:=tp hb4
      refine qh<|a7<|ql<|zg [η,η,η] [] [.v 40 _,.v 41 _,.v 5 _] [.g 1,.g 2,.o 2] U (zM 0 G (zQ G (iB X2 (qd (lenM hXM2 hM) zd)) (.o (vq 0 G)) (zA 1 G o0))) (zz [(6,_),(7,_),(5,_)] [O 2 28 _,O 3 28 _,O 4 28 _] λ a w U=>?_)
      refine am ?_
      refine a7 ?_
      have U:=St.sel U [2,0,1]
      exact ⟨X2/2,by omega,X2/2,⟨by omega,by omega,td hg2 hgo hev,rfl⟩,U⟩
     ·have hoX:=CD hb4
      refine qK<|ah<|ah<|ay<|zt<|ql ?_
      have U:=St.sel U [0,1,2]
      refine wp_loop_ghost (λ n a w=>∃ Y2:Nat,(0<Y2∧Y2≤Y∧Nat.gcd X2 Y2=g∧n=Y2)∧St B w0 60 [(5,(MgA (limbs X2)).va),(6,(MgA (limbs Y2)).va),(7,In (t:Nat))] [⟨2,28,ptrH,RIA (riOf p)⟩,⟨3,28,ptrH,RIA (riOf q)⟩,⟨4,28,ptrH,cat [BoA false,MgA []]⟩] a w) (Y) ?_ ?_
      ·exact ⟨Y,⟨hY0,qg _,hg2,rfl⟩,U⟩
      intro n a w hI
      obtain ⟨Y2,⟨hY3,hY4,hg3,hn4⟩,U⟩:=hI
      have hYM2:=qd hY4 hYM
      refine qb<|qb<|zg [η,η,η] [] [.v 42 _,.v 43 _] [.g 0,.g 1,.g 2,.o 1] U (zM 1 G (zQ G (iC Y2 hY3) (.o (vq 0 G)) o0)) (zz [(5,_),(6,_),(7,_),(43,_)] [O 2 28 _,O 3 28 _,O 4 28 _] λ a w U=>?_)
      refine a7<|ae U (zm 3 G) (λ hb5=>?_) (λ hb5=>?_)
      ·have hev:=tp hb5
       refine qh<|a7<|ql<|zg [η,η,η] [] [.v 44 _,.v 45 _,.v 6 _] [.g 0,.g 2,.o 2] U (zM 1 G (zQ G (iB Y2 (qd (lenM hYM2 hM) zd)) (.o (vq 0 G)) (zA 1 G o0))) (zz [(5,_),(7,_),(6,_)] [O 2 28 _,O 3 28 _,O 4 28 _] λ a w U=>?_)
       refine am ?_
       refine a7 ?_
       have U:=St.sel U [0,2,1]
       exact ⟨Y2/2,by omega,Y2/2,⟨by omega,by omega,by rw [xz]; exact td (by rw [xz]; exact hg3) hgo hev,rfl⟩,U⟩
      ·have hoY:=CD hb5
       refine qK<|ah<|ah<|ay<|zt<|qb<|zg [η,η,η] [] [.v 46 _,.v 47 _,.v 48 _,.v 49 _] [.g 0,.g 1,.g 2,.o 3] U (zM 0 G (zM 1 G (zQ G (oY _ _) (.p (vq 0 G) (vq 1 G)) (zv G (aK (vq 2 G) a8) o0)))) (zz [(5,_),(6,_),(7,_),(49,_)] [O 2 28 _,O 3 28 _,O 4 28 _] λ a w U=>?_)
       refine a7<|ae U (zm 3 G) (λ hb6=>?_) (λ hb6=>?_)
       ·have hcm:X2<Y2:=cm_lt0.1 (qt hb6)
        refine qb<|zg [η,η,η] [] [.v 50 _,.v 8 _] [.g 0,.g 1,.g 2,.o 1] U (zM 0 G (zA 0 G o0)) (zz [(5,_),(6,_),(7,_),(8,_)] [O 2 28 _,O 3 28 _,O 4 28 _] λ a w U=>?_)
        refine zt<|zg [η,η,η] [] [.v 51 _,.v 5 _] [.g 1,.g 2,.g 3,.o 1] U (zM 1 G (zA 0 G o0)) (zz [(6,_),(7,_),(8,_),(5,_)] [O 2 28 _,O 3 28 _,O 4 28 _] λ a w U=>?_)
        refine a7<|zg [η,η,η] [] [.v 52 _,.v 6 _] [.g 1,.g 3,.o 1] U (zM 2 G (zA 0 G o0)) (zz [(7,_),(5,_),(6,_)] [O 2 28 _,O 3 28 _,O 4 28 _] λ a w U=>?_)
        refine a7<|zg [η,η,η] [] [.v 53 _,.v 54 _,.v 55 _,.v 5 _] [.g 0,.g 2,.o 3] U (zM 1 G (zM 2 G (zQ G (wd Y2 X2 (zD hcm) (qd (lenM hYM2 hM) zd)) (.p (vq 0 G) (vq 1 G)) (zA 2 G o0)))) (zz [(7,_),(6,_),(5,_)] [O 2 28 _,O 3 28 _,O 4 28 _] λ a w U=>?_)
        refine am ?_
        refine a7 ?_
        have U:=St.sel U [2,1,0]
        exact ⟨Y2-X2+X2,by omega,Y2-X2,X2,⟨hX3,by omega,hXM2,tc (by rw [xz]; exact hg3) (zD hcm),rfl⟩,U⟩
       ·have hcm:Y2≤X2:=jZ λ h=>qr hb6 (cm_lt0.2 h)
        refine qh<|a7<|zg [η,η,η] [] [.v 53 _,.v 54 _,.v 55 _,.v 5 _] [.g 1,.g 2,.o 3] U (zM 0 G (zM 1 G (zQ G (wd X2 Y2 hcm (qd (lenM hXM2 hM) zd)) (.p (vq 0 G) (vq 1 G)) (zA 2 G o0)))) (zz [(6,_),(7,_),(5,_)] [O 2 28 _,O 3 28 _,O 4 28 _] λ a w U=>?_)
        refine am ?_
        refine a7 ?_
        have U:=St.sel U [2,0,1]
        exact ⟨X2-Y2+Y2,by omega,X2-Y2,Y2,⟨hY3,by omega,hYM2,tc hg3 hcm,rfl⟩,U⟩
    ·obtain rfl:=Ga hb3
     rw [Nat.gcd_zero_left] at hg1
     refine qK<|ah<|ah<|ay<|zt<|zg [η,η,some (4,_)] [] [.v 56 _,.v 57 _,.v 58 _,.v 59 _,.sto 2] [] U (zM 1 G (zQ G ((cb false (limbs Y)).post sgn_e) (.cons aB (.o (vq 0 G))) (zM 2 G (zQ G ((wu ((Y:Nat):Int) t zo (lenM hYM hM) zo).wkp i8) (.p (vq 1 G) (vq 2 G)) (zS 3 G al o0))))) (zz [] [O 2 28 _,O 3 28 _,O 4 28 _] λ a w U=>?_)
     refine a7<|qe<|aj ?_ (ap G U (zm 2 G) al)
     exact bj (qk Zi (by rw [hgp,← hg1]; push_cast; rfl))
def AllG (a:Act)(w:World):List (Nat × VA)→Prop
 | []=>True
 | x::l=>x.2.p w.heap.size (a.eval (.tmp x.1)) w∧AllG a w l
theorem AllG.mem {a:Act}{w:World}:∀ {l:List (Nat × VA)},AllG a w l→∀ x∈l,x.2.p w.heap.size (a.eval (.tmp x.1)) w
 | y::l,h,x,hx=>by
  rcases qo.1 hx with rfl | hx
  ·exact h.1
  ·exact AllG.mem h.2 x hx
section
variable {P:Program} {B N:Nat} {w0:Bs} {Γ:List (Nat × VA)} {Λ:List Lc} {a:Act} {w:World}
theorem St.bw (h:St B w0 N Γ Λ a w):B≤w.heap.size:=qd (h.lo _ (.inl (qg _))) h.base.size
theorem mT {fn:Func}{R R':Ending→World→Prop}{e:Exit}(h:bPost P fn R e a w)(k:∀ v w',R (.returned v) w'→R' (.returned v) w'):bPost P fn R' e a w:=by
 cases e with
 | normal =>
  obtain ⟨Ds,e,nd,hD,hr⟩:=h
  exact ⟨Ds,e,nd,hD,λ w' hs=>by obtain ⟨v,h1,h2⟩:=hr w' hs; exact ⟨v,h1,k v w' h2⟩⟩
 | ret =>
  obtain ⟨Ds,e,nd,hD,hr⟩:=h
  exact ⟨Ds,e,nd,hD,λ w' hs=>by obtain ⟨v,h1,h2⟩:=hr w' hs; exact ⟨v,h1,k v w' h2⟩⟩
 | _=>exact h.elim
theorem ground {fn:Func}{c:Code}{b:Bool}(Γ':List (Nat × VA))(h:St B w0 N Γ Λ a w)(hnd:w0.nd=true)(hΓ:AllG a w Γ')
  (k:∀ (B:Nat) (w1:Bs) (w:World),w1.nd=true→(∀ g,¬ w1.F g)→B=w1.w.heap.size→St B w1 N Γ' [] a w→Exit.then (λ a w=>c.wp P (bPost P fn (RQ B w1 (Bo b))) a w) (bPost P fn (RQ B w1 (Bo b))) .normal a w) :
  Exit.then (λ a w=>c.wp P (bPost P fn (RQ B w0 (Bo b))) a w) (bPost P fn (RQ B w0 (Bo b))) .normal a w:=by
 have h1:=k w.heap.size ⟨w,λ _=>False,true⟩ w rfl (λ _ h=>h) rfl ⟨λ g hg=>hg.resolve_right λ h=>h,DefOk.nil (h.defers.none hnd),h.size,Kept.refl _,hΓ.mem,(λ l hl=>by cases hl),(λ l hl=>by cases hl)⟩
 refine wp_mono (c:=c) (show c.wp P _ a w from h1) λ e a' w' hp=>mT hp ?_
 rintro v w2 ⟨u,hu,hp,hk⟩
 exact ⟨u,hu,hp,h.base.grow ⟨hk.os,hk.tape,hk.output,hk.size,λ k hlt=>hk.block k hlt (λ h=>h)⟩⟩
end
section
variable {P:Program} {Q:Exit→Act→World→Prop} {B N:Nat} {w0:Bs} {Γ:List (Nat × VA)} {Λ:List Lc} {a:Act} {w:World} {ops:Array Oper}
theorem Ce {id m:Nat}(hsz:ops.size=m+1)(h:wpOp P ops Q 0 (wpOps P ops Q (List.range' 1 m)) a w):(Code.region id ops false).wp P Q a w:=by
 refine wp_region ?_
 rw [List.range_eq_range',hsz,List.range'_succ,qv]
 exact h
theorem Cd {sp:List Sp}{d0 m:Nat}{A0:VA}(src:List Src)(h:St B w0 N ((d0,A0)::Γ) Λ a w)(h0:sp[0]?=some (.v d0 A0))(hsz:ops.size=m+1)
  (hob:Obs P Q ⟨ops,N,Γ,les0 Λ,sp,λ i=>List.range i⟩ B w0 1 m) (hk:Rg.chk ⟨ops,N,Γ,les0 Λ,sp,λ i=>List.range i⟩=true) (hsrc:src.all (okS ⟨ops,N,Γ,les0 Λ,sp,λ i=>List.range i⟩)=true)
  (hQ:∀ a w,St B w0 N (src.filterMap (takeS ⟨ops,N,Γ,les0 Λ,sp,λ i=>List.range i⟩)) Λ a w→Q .normal a w):wpOps P ops Q (List.range' 1 m) a w:=by
 have e:m=ops.size-1:=by omega
 subst e
 exact Gy src h h0 zo hob hk hsrc hQ
end
theorem lD {w1:Bs}{Ts:List TypeId}(hB:B=w1.w.heap.size):∀ E,Ts.contains E=true→RowMay w1 B E:=λ E _ w g c fz _ h _=>.inl (hB▸h)
def ZBk:List As:=[NumA .i64 0,EqS (.slice none 0 0),EqS (.slice none 0 0),EqS (.slice none 0 0),EqS (.slice none 0 0),EqS (.slice none 0 0),EqS (.slice none 0 0),EqS (.slice none 0 0),EqS (.slice none 0 0),EqS (.slice none 0 0),EqS (.slice none 0 0),EqS (.slice none 0 0),EqS (.slice none 0 0),EqS (.slice none 0 0),EqS (.slice none 0 0),EqS (.slice none 0 0),EqS (.slice none 0 0)]
theorem Bb:Str Tryz.prog 61 ZBk :=
 Str.of (z:=.agg ([Value.int .i64 0]++List.replicate 16 (Value.slice none 0 0)).toArray) zk Tryz.underlying61 zk λ B w=>⟨[Value.int .i64 0]::List.replicate 16 [Value.slice none 0 0],rfl,.cons rfl (.cons ⟨rfl,rfl⟩ (.cons ⟨rfl,rfl⟩ (.cons ⟨rfl,rfl⟩ (.cons ⟨rfl,rfl⟩ (.cons ⟨rfl,rfl⟩ (.cons ⟨rfl,rfl⟩ (.cons ⟨rfl,rfl⟩ (.cons ⟨rfl,rfl⟩ (.cons ⟨rfl,rfl⟩ (.cons ⟨rfl,rfl⟩ (.cons ⟨rfl,rfl⟩ (.cons ⟨rfl,rfl⟩ (.cons ⟨rfl,rfl⟩ (.cons ⟨rfl,rfl⟩ (.cons ⟨rfl,rfl⟩ (.cons ⟨rfl,rfl⟩ .nil))))))))))))))))⟩
section
open Rg
variable {P:Program} {Q:Exit→Act→World→Prop} {R:Rg} {B i:Nat} {w0:Bs}
end
section
variable {P:Program} {R:Rg} {Q:Exit→Act→World→Prop} {B i:Nat} {w0:Bs}
end
theorem lB {x:RF}:NewA (RFN x):=lC λ A hA=>by
 simp at hA
 rcases hA with rfl | rfl <;> exact wX _
theorem iM {x:RF}:FreeA (RFN x) (RFN x):=bZ (.cons (fS _) (.cons (fS _) .nil))
theorem wj {x:RF}:WkA (RFN x) (RFA x):=bz (.cons wkA_riN (.cons wkA_riN .nil))
theorem qd_rfn {k:Nat}{q:Rat}:WkA (QD k q) (RFN (rfOf q)):=qd_rfd.trans dis_wk
theorem kbl_app {l m:KL}:kbl (l++m)=kbl l++kbl m:=kF ..
theorem Dl {x:RI}(h:(RIN x).p B cs w):okL x.mag:=by
 obtain ⟨ps,rfl,hp⟩:=h
 cases hp with
 | cons h1 hp=>cases hp with
  | cons h2 hp=>exact h2.1
abbrev OkK (l:KL):Prop:=∀ p∈l,okL p.2
theorem fN {l m:KL}(h:OkK l)(k:OkK m):OkK (l++m):=λ p hp=>by
 rcases qw.1 hp with hp | hp
 ·exact h p hp
 ·exact k p hp
abbrev LnK (l:KL):Prop:=∀ p∈l,p.2.length≤2000000000000
theorem fQ {l m:KL}(h:LnK l)(k:LnK m):LnK (l++m):=λ p hp=>by
 rcases qw.1 hp with hp | hp
 ·exact h p hp
 ·exact k p hp
theorem okK_f {x:RF}{m1 m2:Value}(h1:okL x.num.mag)(h2:okL x.den.mag):OkK (kf x m1 m2):=λ p hp=>by
 simp only [qo,z6,or_false] at hp
 rcases hp with rfl | rfl
 ·exact h1
 ·exact h2
theorem C5 {x:RF}{m1 m2:Value}(h:bdF x):LnK (kf x m1 m2):=λ p hp=>by
 simp only [qo,z6,or_false] at hp
 rcases hp with rfl | rfl
 ·exact qd h.1 zd
 ·exact qd h.2 zd
theorem FG {l:KL}(h:OkK l)(k:LnK l):∀ p∈l,okL p.2∧p.2.length≤2000000000000:=λ p hp=>⟨h p hp,k p hp⟩
theorem fx {x:RF}(h:(RFN x).p B cs w):∃ m1 m2,(FracP x m1 m2).p B cs w∧cbl cs=kbl (kf x m1 m2)∧OkK (kf x m1 m2):=by
 obtain ⟨ps,rfl,hp⟩:=h
 cases hp with
 | @cons _ c1 _ _ h1 hp=>cases hp with
  | @cons _ c2 _ _ h2 hp =>
   cases hp
   obtain ⟨m1,p1,e1⟩:=pl h1
   obtain ⟨m2,p2,e2⟩:=pl h2
   refine ⟨m1,m2,⟨[c1,c2],rfl,.cons p1 (.cons p2 .nil)⟩,?_,okK_f (Dl h1) (Dl h2)⟩
   have:([c1,c2]:List (List Value)).flatten=c1++c2:=by simp
   rw [this,d6,e1,e2]
   exact kbl_app.symm
def nm4 (a b c d:Value):Nat→Value
 | 0=>a
 | 1=>b
 | 2=>c
 | _=>d
theorem FF:OkK []:=λ p h=>by cases h
theorem G6:LnK []:=λ p h=>by cases h
theorem tL:bdF rf0:=⟨za _,za _⟩
theorem Ho {q:Rat}(h:¬ longQ q=true):bdF (rfOf q):=by
 have h':longQ q=false:=by cases hq:longQ q with
  | true=>exact absurd hq h
  | false=>rfl
 unfold longQ at h'
 simp only [List.any_cons,List.any_nil,Bool.or_false,qN] at h'
 have h1:=qr h'.1
 have h2:=qr h'.2
 refine ⟨?_,?_⟩
 ·show (riOf q.num).mag.length≤_
  omega
 ·show (riOf (q.den:Int)).mag.length≤_
  omega
def p4 (m:MQ)(j:Nat):Rat:=[m.a,m.b,m.c,m.d].getD j 0
def mulQ (m q:MQ):MQ:=⟨m.a*q.a+m.b*q.c,m.a*q.b+m.b*q.d,m.c*q.a+m.d*q.c,m.c*q.b+m.d*q.d⟩
theorem Cm.introK {f : FuncId} {fn : Func} {c : Code} {T : TypeId} {A0 A1 : As} {H : Hd} {pre : List Ar} {post : VA} (p : Nat) (hf : P.funcs[f]? = some fn) (hb : fn.body = some c) (hn : (fn.name == "runtime.NumGoroutine") = false) (hsz : pre.length ≤ fn.ntmps)
  (hm:∀ g,(p,EqV (H.f g))∈argΓ (pre.map (Ar.va g)))
  (h:∀ (B g:Nat) (w0:Bs) (a:Act),St B w0 fn.ntmps (argΓ (pre.map (Ar.va g))) [⟨p,T,H,A0⟩] a w0.w→c.wp P (bPost P fn (RQm B w0 g T A1 post)) a w0.w):Cm P f T A0 A1 pre post:=by
 refine ⟨⟨fn,hf,hn,by rw [hb]; rfl⟩,λ B w g cs args hB hg hp ha=>(bV hf hb (h B g ⟨w,λ k=>k=g,false⟩ _ ?_)).mono λ _ _ ⟨v,cs',he,hv,hk,h1,h2⟩=>⟨v,cs',he,hv,hk,h1,h2⟩⟩
 have hl:=ha.length
 have hgw:=(Array.getElem?_eq_some_iff.1 hg).1
 have ha':All2 (λ (A:VA) v=>A.p B v w) (pre.map (Ar.va g)) args:=by
  clear hl hm h hsz
  induction ha with
  | nil=>exact .nil
  | @cons x y xs ys h1 _ ih =>
   refine .cons ?_ ih
   cases x with
   | v A=>exact h1
   | w H=>exact h1
 have h0:(⟨args.toArray++Array.replicate (fn.ntmps-args.toArray.size) undef,[]⟩:Act).eval (.tmp p)=H.f g :=
  All2.args (N:=fn.ntmps-args.toArray.size) ha' (p,EqV (H.f g)) (hm g)
 refine ⟨λ k hk=>?_,DefOk.nil rfl,?_,Kept.refl _,All2.args ha',λ l hl=>?_,λ l hl m hm hne=>?_⟩
 ·rcases hk with hk | hk
  ·exact qd hB (qd (zD hgw) hk)
  ·have:k=g:=hk
   omega
 ·simp only [zJ,zE,qF]
  omega
 ·simp at hl
  subst hl
  exact ⟨g,cs,h0,.inr rfl,hg,hp⟩
 ·simp at hl hm
  subst hl hm
  exact absurd G hne
theorem l8 {fn:Func}{B N g p:Nat}{A1:As}{post:VA}(h:St B w0 N Γ Λ a w)(hm:(p,EqV (H.f g))∈Γ)(hl:(⟨p,T,H,A1⟩:Lc)∈Λ)
  (hb:bPost P fn (RQ B w0 post) .ret a w):bPost P fn (RQm B w0 g T A1 post) .ret a w:=by
 refine m7 h hb λ v w h ⟨v',e1,e2,e3⟩=>?_
 obtain ⟨g',cs,f1,_,f3,f4⟩:=h.locs _ hl
 replace f1:a.eval (.tmp p)=H.f g':=f1
 have f0:a.eval (.tmp p)=H.f g:=h.vals _ hm
 have:g'=g:=Rg.Hd.inj (H:=H) (H':=H) (by rw [← f1,← f0])
 subst this
 exact ⟨v',cs,e1,e2,e3,f3,f4⟩
theorem sub_self {A:As}:Sub A 0 A:=λ B cs w h=>by
 have hl:=A.len B cs w h
 refine ⟨?_,by omega⟩
 rw [xo,qB zo]
 exact h
def bQ (k:Nat)(r:Rat):Prop:=lz r.num≤k∧lz (r.den:Int)≤k
theorem bQ_add {c d:Nat}{x y:Rat}(hx:bQ c x)(hy:bQ d y):bQ (c+d+1) (x+y):=by
 obtain ⟨x1,x2⟩:=hx
 obtain ⟨y1,y2⟩:=hy
 rw [← ni]
 obtain ⟨h1,h2⟩:=eW (p:=x.num*(y.den:Int)+y.num*(x.den:Int)) (q:=(x.den:Int)*(y.den:Int)) (den_nz x y)
 have h3:=mJ (x.num*(y.den:Int)) (y.num*(x.den:Int))
 have h4:=e8 x.num y.den
 have h5:=e8 y.num x.den
 have h6:=e8 x.den y.den
 exact ⟨by omega,by omega⟩
theorem bQ_mul {c d:Nat}{x y:Rat}(hx:bQ c x)(hy:bQ d y):bQ (c+d) (x*y):=by
 obtain ⟨x1,x2⟩:=hx
 obtain ⟨y1,y2⟩:=hy
 rw [← r6]
 obtain ⟨h1,h2⟩:=eW (p:=x.num*y.num) (q:=(x.den:Int)*(y.den:Int)) (den_nz x y)
 have h4:=e8 x.num y.num
 have h6:=e8 x.den y.den
 exact ⟨by omega,by omega⟩
theorem nd_eq (x:Rat):x=(x.num:Rat)/((x.den:Int):Rat):=by rw [← xX]; exact (jQ x).symm
theorem den_ne (x:Rat):((x.den:Int):Rat)≠0:=by
 have:=x.den_nz
 intro h
 exact this (by exact_mod_cast h)
section
variable {P:Program} {R:Rg} {Q:Exit→Act→World→Prop} {B i:Nat} {w0:Bs}
end
theorem gc {c d e f:Nat}{x y z u:Rat}(hk:c+d+e+f≤137438953472):Cn Tryz.prog 186 [Qs c x,Qs d y,Qs e z,Qs f u] (Qs (c+d+(e+f)+1) (x*y+z*u)):=by
 refine Cn.intro Tryz.func186 G zk nq (λ B w0 a U=>?_)
 have U:=zn [(0,Qs c x),(1,Qs d y),(2,Qs e z),(3,Qs f u)] [] U
 refine qb<|zg [] [⟨4,30,ptrH,some 0,_,none⟩,⟨5,30,ptrH,some 1,_,none⟩,⟨6,30,ptrH,some 2,_,none⟩,⟨7,30,ptrH,some 3,_,none⟩,⟨8,30,ptrH,some 4,_,none⟩] [.alc 0,.alc 1,.alc 2,.alc 3,.alc 4] [] U (zW 0 G (zW 1 G (zW 2 G (zW 3 G (zY G (Str.zero az) o0))))) (zz [] [O 4 30 _,O 5 30 _,O 6 30 _,O 7 30 _,O 8 30 _] λ a w U=>?_)
 refine zt<|zgd [[],[],[0,1],[],[],[0,1,2,3,4],[0,1,2,3,4,5],[0,1,2,3,4,5,6]] [none,none,none,none,some (7,_)] [] [.v 9 _,.v 10 _,.v 11 _,.v 12 _,.v 13 _,.v 14 _,.v 15 _,.sto 4] [] aa U (zl 0 G ak (zl 1 G ak (zQ G (iV zo) (.p (vq 0 G) (vq 1 G)) (zl 2 G ak (zl 3 G ak (zQ G (iV zo) (.p (vq 3 G) (vq 4 G)) (zQ G (plus_q zo) (.p (vq 2 G) (vq 5 G)) (zS 6 G ak o0)))))))) zk zk zk zk (zz [] [O 4 30 _,O 5 30 _,O 6 30 _,O 7 30 _,O 8 30 _] λ a w U=>?_)
 refine a7<|qe<|aj ?_ (ap G U (zm 4 G) ak)
 exact aL
theorem tX {c d:Nat}{m q:MQ}(hk:c+d≤68719476736):Cn Tryz.prog 118 [(QMA c m).va,(QMA d q).va] ((QMA (c+d+(c+d)+1) (mulQ m q)).va):=by
 refine Cn.intro Tryz.func118 G zk nq (λ B w0 a U=>?_)
 have U:=zn [(0,(QMA c m).va),(1,(QMA d q).va)] [] U
 refine qb<|zg [] [⟨2,80,ptrH,some 0,_,none⟩,⟨3,80,ptrH,some 1,_,none⟩,⟨4,80,ptrH,some 2,_,none⟩] [.alc 0,.alc 1,.alc 2] [] U (zW 0 G (zW 1 G (zY G (Str.zero aS) o0))) (zz [] [O 2 80 _,O 3 80 _,O 4 80 _] λ a w U=>?_)
 refine zt<|f9 (anc:=[[],[0],[],[2],[],[4],[],[6],[0,1,2,3,4,5,6,7],[],[9],[],[11],[],[13],[],[15],[0,1,2,3,4,5,6,7,8,9,10,11,12,13,14,15,16],[],[18],[],[20],[],[22],[],[24],[0,1,2,3,4,5,6,7,8,9,10,11,12,13,14,15,16,17,18,19,20,21,22,23,24,25],[],[27],[],[29],[],[31],[],[33],[0,1,2,3,4,5,6,7,8,9,10,11,12,13,14,15,16,17,18,19,20,21,22,23,24,25,26,27,28,29,30,31,32,33,34],[0,1,2,3,4,5,6,7,8,9,10,11,12,13,14,15,16,17,18,19,20,21,22,23,24,25,26,27,28,29,30,31,32,33,34,35],[0,1,2,3,4,5,6,7,8,9,10,11,12,13,14,15,16,17,18,19,20,21,22,23,24,25,26,27,28,29,30,31,32,33,34,35,36]]) (sts:=[none,none,some (37,_)]) (news:=[]) (sp:=((.adr 5 2 (.some 0) True:Sp)::(.v 6 _)::(.adr 7 3 (.some 0) True)::(.v 8 _)::(.adr 9 2 (.some 4) True)::(.v 10 _)::(.adr 11 3 (.some 8) True)::(.v 12 _)::(.v 13 _)::(.adr 14 2 (.some 0) True)::(.v 15 _)::(.adr 16 3 (.some 4) True)::(.v 17 _)::(.adr 18 2 (.some 4) True)::(.v 19 _)::(.adr 20 3 (.some 12) True)::(.v 21 _)::(.v 22 _)::(.adr 23 2 (.some 8) True)::(.v 24 _)::(.adr 25 3 (.some 0) True)::(.v 26 _)::(.adr 27 2 (.some 12) True)::(.v 28 _)::(.adr 29 3 (.some 8) True)::(.v 30 _)::(.v 31 _)::(.adr 32 2 (.some 8) True)::(.v 33 _)::(.adr 34 3 (.some 4) True)::(.v 35 _)::(.adr 36 2 (.some 12) True)::(.v 37 _)::(.adr 38 3 (.some 12) True)::(.v 39 _)::(.v 40 _)::(.v 41 _)::(.sto 2)::[])) [] aa U (zO 0 G cL (zL 0 0 0 G ak (zO 1 G cL (zL 2 1 0 G ak (zO 0 G cK (zL 4 0 1 G ak (zO 1 G cB (zL 6 1 2 G ak (zQ G (gc zo) (.cons (vq 1 G) (.cons (vq 3 G) (.p (vq 5 G) (vq 7 G)))) (zO 0 G cL (zL 9 0 0 G ak (zO 1 G cK (zL 11 1 1 G ak (zO 0 G cK (zL 13 0 1 G ak (zO 1 G cJ (zL 15 1 3 G ak (zQ G (gc zo) (.cons (vq 10 G) (.cons (vq 12 G) (.p (vq 14 G) (vq 16 G)))) (zO 0 G cB (zL 18 0 2 G ak (zO 1 G cL (zL 20 1 0 G ak (zO 0 G cJ (zL 22 0 3 G ak (zO 1 G cB (zL 24 1 2 G ak (zQ G (gc zo) (.cons (vq 19 G) (.cons (vq 21 G) (.p (vq 23 G) (vq 25 G)))) (zO 0 G cB (zL 27 0 2 G ak (zO 1 G cK (zL 29 1 1 G ak (zO 0 G cJ (zL 31 0 3 G ak (zO 1 G cJ (zL 33 1 3 G ak (zQ G (gc zo) (.cons (vq 28 G) (.cons (vq 30 G) (.p (vq 32 G) (vq 34 G)))) (zv G (aO (qs:=[(0,_),(1,_),(2,_),(3,_)]) aS (.cons ⟨rfl,vq 8 rfl,rfl⟩ (.cons ⟨rfl,vq 17 rfl,rfl⟩ (.cons ⟨rfl,vq 26 rfl,rfl⟩ (.cons ⟨rfl,vq 35 rfl,rfl⟩ .nil))))) (zS 36 G bE o0)))))))))))))))))))))))))))))))))))))) zk zk zk zk (zz [] [O 2 80 _,O 3 80 _,O 4 80 _] λ a w U=>?_)
 refine a7<|qe<|aj ?_ (ap G U (zm 2 G) bE)
 exact aL
theorem fo  : Cn Tryz.prog 117 [] ((QMA 2 ⟨1,0,0,1⟩).va):=by
 refine Cn.intro Tryz.func117 G zk nq (λ B w0 a U=>?_)
 have U:=zn [] [] U
 refine qb<|zg [] [⟨0,80,ptrH,some 0,_,none⟩] [.alc 0] [] U (zY G (Str.zero aS) o0) (zz [] [O 0 80 _] λ a w U=>?_)
 refine zt<|zg [some (5,_)] [] [.v 1 _,.v 2 _,.v 3 _,.v 4 _,.v 5 _,.sto 0] [] U (zQ G one_q .nil (zQ G iG .nil (zQ G iG .nil (zQ G one_q .nil (zv G (aO (qs:=[(0,_),(1,_),(2,_),(3,_)]) aS (.cons ⟨rfl,vq 0 rfl,rfl⟩ (.cons ⟨rfl,vq 1 rfl,rfl⟩ (.cons ⟨rfl,vq 2 rfl,rfl⟩ (.cons ⟨rfl,vq 3 rfl,rfl⟩ .nil))))) (zS 4 G bE o0)))))) (zz [] [O 0 80 _] λ a w U=>?_)
 refine a7<|qe<|aj ?_ (ap G U (zm 0 G) bE)
 exact aL
end Go.Proofs.YtkpifdpdeanjfaaGreatDoor
