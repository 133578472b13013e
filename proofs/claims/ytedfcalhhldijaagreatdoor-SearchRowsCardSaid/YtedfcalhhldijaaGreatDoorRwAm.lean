import Derived.Test.YtedfcalhhldijaaGreatDoorRwAl
set_option linter.all false
set_option maxRecDepth 100000
namespace Go.Proofs.YtedfcalhhldijaaGreatDoor
open Go Go.RowKit
variable {w:World}{B:Nat}{a:Act}{v:Value}{T:TypeId}{w0:Bs}{Γ:List (Nat × VA)}{Λ:List Lc}{ps:String}{af:Array Edge}{vr:Value}{H:Hd}{cs:List Value}{w':World}{P:Program}{D:List TypeId}
theorem Cn.introD {f : FuncId} {fn : Func} {c : Code} {pre : List VA} {post : VA} (hf : P.funcs[f]? = some fn) (hb : fn.body = some c) (hn : (fn.name == "runtime.NumGoroutine") = false) (hsz : pre.length ≤ fn.ntmps)
  (h:∀ (B:Nat) (w0:Bs) (a:Act),(∀ g,¬ w0.F g)→w0.nd=true→NoF w0→St B w0 fn.ntmps (argΓ pre) [] a w0.w→c.wp P (bPost P fn (RQ B w0 post)) a w0.w):Cn P f pre post:=by
 refine ⟨⟨fn,hf,hn,by rw [hb]; rfl⟩,λ B w args hB ha=>(bS hf hb (h B ⟨w,λ _=>False,true⟩ _ (λ _ h=>h) G (λ _ h=>h.elim) ?_)).mono λ _ _ ⟨v,he,hv,hk⟩=>⟨v,he,hv,⟨hk.os,hk.tape,hk.output,hk.size,λ k hlt=>hk.block k hlt λ h=>h⟩⟩⟩
 have hl:=ha.length
 refine ⟨λ g hg=>qe hB (hg.resolve_right λ h=>h),DefOk.nil rfl,?_,Kept.refl _,All2.args ha,(λ l hl=>by cases hl),(λ l hl=>by cases hl)⟩
 simp only [zZ,zV,qJ]
 omega
def now (w:World)(go:Nat):Bs:=⟨w,λ g=>g=go,true⟩
theorem Kept.trans1 {go:Nat}(h:Kept w0 w)(hgo:w0.may go)(h2:Kept (now w go) w'):Kept w0 w' :=
 ⟨h2.os.trans h.os,h2.tape.trans h.tape,h2.output.trans h.output,qe h.size h2.size,λ k hk hf=>(h2.block k (qE hk h.size) λ e=>by
  have e':k=go:=e
  subst e'
  rcases hgo with h1 | h1
  ·omega
  ·exact hf h1).trans (h.block k hk hf)⟩
theorem St.rebase {B N:Nat}(h:St B w0 N Γ Λ a w)(hnd:w0.nd=true){go:Nat}(hgo:w0.may go)(hΛ:∀ l∈Λ,blk (a.eval (.tmp l.s))=some go):St B (now w go) N Γ Λ a w :=
 ⟨λ g hg=>by
  rcases hg with h1 | h1
  ·exact qe (h.lo w0.w.heap.size (.inl (qi _))) (qe h.base.size h1)
  ·have e:g=go:=h1
   rw [e]; exact h.lo _ hgo,DefOk.nil (h.defers.none hnd),h.size,Kept.refl _,h.vals,λ l hl=>by
  obtain ⟨g,cs,e1,e2,e3,e4⟩:=h.locs l hl
  have:=hΛ l hl
  rw [e1,l.H.ok] at this
  injection this with this
  exact ⟨g,cs,e1,.inr this,e3,e4⟩,h.dis⟩
theorem St.back {B N:Nat}{go:Nat}(h:St B (now w go) N Γ Λ a w')(hlo:∀ g,w0.may g→B≤g)(hk:Kept w0 w)(hgo:w0.may go):St B w0 N Γ Λ a w' :=
 ⟨hlo,DefOk.nil (h.defers.none rfl),h.size,hk.trans1 hgo h.base,h.vals,λ l hl=>by
  obtain ⟨g,cs,e1,e2,e3,e4⟩:=h.locs l hl
  refine ⟨g,cs,e1,?_,e3,e4⟩
  rcases e2 with e2 | e2
  ·exact .inl (qe hk.size e2)
  ·have e:g=go:=e2
   rw [e]; exact hgo,h.dis⟩
theorem fU {R:Rg}{B i:Nat}{x:Operand}{A:VA}(hA:∀ w,Kept w0 w→A.p B v w)(h:Has R B w0 i x (EqV v)):Has R B w0 i x A:=λ a w av=>by
 rw [h a w av]
 exact hA _ av.base
theorem Br {A:Option Addr}{c:Nat}{l:List Nat}(h:Mag B w A c l)(hs:w.heap.size≤w'.heap.size)(hk:∀ b,A.map (·.block)=some b→b<w.heap.size→w'.heap[b]?=w.heap[b]?):Mag B w' A c l :=
 ⟨h.ok,h.le,h.max,λ hl=>by
  obtain ⟨b,o,rfl,h1,h2,h3⟩:=h.at_ hl
  have e:=hk b rfl h1
  refine ⟨b,o,rfl,qE h1 hs,?_,λ j hj=>?_⟩
  ·rcases h2 with h2 | ⟨c',fz,h2⟩
   ·exact .inl h2
   ·exact .inr ⟨c',fz,e.trans h2⟩
  ·rw [← h3 j hj]
   unfold World.cell?
   rw [e]⟩
theorem wv {l:List Nat}{go:Nat}(h:(MgA l).va.p B v w)(hne:blk v≠some go)(hk:Kept (now w go) w'):(MgA l).va.p B v w':=by
 obtain ⟨A,c,rfl,hm⟩:=fq h
 refine dL (Br hm hk.size λ b hb hlt=>hk.block b hlt λ e=>?_) rfl
 have e':b=go:=e
 subst e'
 cases A with
 | none=>cases hb
 | some ad=>exact hne hb
structure Rst (B:Nat) (w0:Bs) (a:Act) (w:World) (s8:Nat) (v:Value) (l:List Nat) (go:Nat):Prop where
 mg:(MgA l).va.p B v w
 ne:blk v≠some go
 at8:blk (a.eval (.tmp s8))=some go
 may:w0.may go
 lt:go<w.heap.size
theorem St.eqF {B N:Nat}(h:St B w0 N Γ Λ a w){s:Nat}{A:VA}(k:Nat)(hm:Γ[k]?=some (s,EqV v))(hA:A.p B v w):St B w0 N (Γ.set k (s,A)) Λ a w :=
 ⟨h.lo,h.defers,h.size,h.base,λ x hx=>by
  rcases qy hx with hx | rfl
  ·exact h.vals x hx
  ·have e:a.eval (.tmp s)=v:=h.vals _ (qa hm)
   show A.p B (a.eval (.tmp s)) w
   rw [e]; exact hA,h.locs,h.dis⟩
theorem St.toE {B N:Nat}(h:St B w0 N Γ Λ a w){s:Nat}{A:VA}(k:Nat)(hm:Γ[k]?=some (s,A)):∃ v,A.p B v w∧St B w0 N (Γ.set k (s,EqV v)) Λ a w :=
 ⟨a.eval (.tmp s),h.vals _ (qa hm),h.lo,h.defers,h.size,h.base,λ x hx=>by
  rcases qy hx with hx | rfl
  ·exact h.vals x hx
  ·exact rfl,h.locs,h.dis⟩
open Rg in
theorem St.putV {B N:Nat}{w w2:World}(h:St B w0 N Γ Λ a w){c:Nat}{M:VA}(hc:c<N)(hg:Grow w w2)(hp:M.p B v w2)(hΓ:∀ y∈Γ,y.1≠c)(hΛ:∀ l∈Λ,l.s≠c):St B w0 N ((c,M)::Γ) Λ (a.put (some c) v) w2:=by
 have hs:c<a.tmps.size:=by rw [h.size]; exact hc
 refine ⟨h.lo,h.defers.grow hg rfl,by rw [size_put]; exact h.size,h.base.grow hg,λ y hy=>?_,λ l hl=>?_,λ l hl m hm hne=>?_⟩
 ·rcases qt.1 hy with rfl | hy
  ·show M.p B ((a.put (some c) v).eval (.tmp c)) w2
   rw [aM _ _ _ hs]; exact hp
  ·rw [aq _ _ _ _ (hΓ y hy)]
   exact VA.grow y.2 _ _ _ _ hg (h.vals y hy)
 ·obtain ⟨g,cs,e1,e2,e3,e4⟩:=LcOk.grow (h.locs l hl) hg
  exact ⟨g,cs,by rw [aq _ _ _ _ (hΛ l hl)]; exact e1,e2,e3,e4⟩
 ·rw [aq _ _ _ _ (hΛ l hl),aq _ _ _ _ (hΛ m hm)]
  exact h.dis l hl m hm hne
theorem uA {w : World} {a : Act} {f : FuncId} {fn : Func} {d : Nat} {T : TypeId} {ps : String} {af : Array Edge} {gd : Option (Nat × Bool)} {at_ : Array TypeId} {xs : List Operand} (hf : P.funcs[f]? = some fn) (hn : (fn.name == "runtime.NumGoroutine") = false) (hb : fn.body.isNone = false) :
  (execOp a.eval ⟨some d,.call ⟨.value (.func f),xs.toArray,at_⟩,T,ps,af,gd⟩).run P w=.ok (.enter f (xs.map a.eval).toArray) w:=by
 simp only [execOp,resolve,Act.eval,Deferred.ofValue,Sem.run_bind,Sem.run_pure,Result.andThen_ok,invoke,bk hf hn hb]
 simp
open Rg in
open Rg in
theorem Gq {Q:Exit→Act→World→Prop}{B N:Nat}{id:Nat}{ops:Array Oper}{sp:List Sp}(n:Nat)(src:List Nat)(i1 i2 k3:Nat){S E T1 T2 T3:TypeId}{f:FuncId}{M1 M2:VA}{at_:Array TypeId}{s u d c e m bytes b s3:Nat}{ps1 ps2 ps3:String}{af1 af2 af3:Array Edge}{D D':List TypeId}{l xs:List As}{A2:VA}{it:TypeInfo}{z:Value}
  (h:St B w0 N Γ Λ a w) (hob:Obs P Q ⟨ops,N,Γ,lesN Λ,sp,λ i=>List.range i⟩ B w0 0 n) (hn2:ops.size=n+3) (hk:Rg.chk ⟨ops,N,Γ,lesN Λ,sp,λ i=>List.range i⟩=true)
  (ho1:ops[n]?=some ⟨some d,.call ⟨.builtin .append,#[.tmp s,.tmp u],#[S,S]⟩,T1,ps1,af1,none⟩) (ho2:ops[n+1]?=some ⟨some c,.call ⟨.value (.func f),#[.tmp d],at_⟩,T2,ps2,af2,none⟩) (ho9:ops[n+2]?=some ⟨some e,.assign (.tmp c),T3,ps3,af3,none⟩) (hcn:Cn P f [M1] M2) (hM:Wk (OwnB b E m D (l++xs)) M1)
  (hi1:i1<n) (h1:sp[i1]?=some (.v s (OwnB b E m D l))) (hi2:i2<n) (h2:sp[i2]?=some (.v u A2)) (h3:Γ[k3]?=some (s3,PtrLt b)) (ho3:Rg.outG ⟨ops,N,Γ,lesN Λ,sp,λ i=>List.range i⟩ s3=true) (hwb:w0.w.heap.size≤b) (hA2:∀ w u,A2.p B u w→Kept w0 w→(SlA E D' xs).va.p B u w)
  (hS:P.underlying S=some (.slice E)) (hi:P.info? E=some it) (hz:it.zero=some z) (hsz:it.size=m) (hby:it.bytes=bytes) (hzs:z.cells.size=m) (hm0:0<m) (hl:l.length+xs.length≤100000000000) (hb6:bytes≤1000)
  (hD':∀ T∈D',T∈D) (hED:E ∉ D) (hxm:∀ x∈xs,x.n=m) (hde:((d != c)&&(d != e)&&(c != e))=true) (hd:d<N) (hcN:c<N) (he:e<N)
  (hsrc:src.all (λ k=>match Γ[k]? with | some y => !y.2.deps.contains E&&Rg.outG ⟨ops,N,Γ,lesN Λ,sp,λ i=>List.range i⟩ y.1 | none=>false)=true)
  (hΛ:Λ.all (λ l=>(l.T != E || l.s==s3) && !l.A.deps.contains E&&l.s != d&&l.s != c&&l.s != e)=true)
  (hQ:∀ a w,St B w0 N ((e,M2)::src.filterMap (λ k=>Γ[k]?)) Λ a w→Q .normal a w):(Code.region id ops false).wp P Q a w:=by
 have hles0:∀ y∈lesN Λ,y.cr=none∧y.st=none∧(⟨y.s,y.T,y.H,y.A0⟩:Lc)∈Λ:=λ y hy=>by
  obtain ⟨l',hl',rfl⟩:=qq.1 hy
  exact ⟨rfl,rfl,hl'⟩
 refine Rg.linK (R:=⟨ops,N,Γ,lesN Λ,sp,λ i=>List.range i⟩) (m:=3) hn2 G hk h (λ y hy _=>(hles0 y hy).2.2) (λ i hi=>hob.all i zo zo) λ a1 w1 hinv=>?_
 have hcl:∀ deps,Rg.clash ⟨ops,N,Γ,lesN Λ,sp,λ i=>List.range i⟩ (λ k=>decide (k<n)) deps=false:=λ deps=>by
  unfold Rg.clash
  rw [xh]
  intro y hy
  rw [(hles0 y hy).2.1]
  simp
 obtain ⟨hbw,hB,hv⟩:=hinv.v i1 _ s _ h1 rfl (qC hi1) (hcl _)
 have hout:∀ t,Rg.outG ⟨ops,N,Γ,lesN Λ,sp,λ i=>List.range i⟩ t=true→∀ q,q<ops.size→Rg.dst ⟨ops,N,Γ,lesN Λ,sp,λ i=>List.range i⟩ q≠some t:=λ t ht q hq=>by
  have:=qd.1 ht q (by simpa using hq)
  simpa using this
 obtain ⟨g3,hg3,hlt3⟩:=hinv.g _ (qa h3) (λ q hq hdq=>absurd hdq (hout _ ho3 q hq)) (hcl _)
 have hu:=hA2 _ _ (hinv.v i2 _ u _ h2 rfl (qC hi2) (hcl _)) hinv.base
 obtain ⟨v',w',hr,r1,r2,r3⟩:=fK (T1:=T1) hS hi hz hsz hby hzs hm0 hl hb6 hv hu hD' hED hxm hbw hB
 have hdsz:d<a1.tmps.size:=by rw [hinv.size]; exact hd
 simp only [ql,bne_iff_ne] at hde
 obtain ⟨⟨hdc,hde⟩,hce⟩:=hde
 have hlc:∀ l'∈Λ,(l'.T≠E∨l'.s=s3)∧E ∉ l'.A.deps∧l'.s≠d∧l'.s≠c∧l'.s≠e:=λ l' hl'=>by
  have:=qd.1 hΛ l' hl'
  simp only [ql,zw,xc,bne_iff_ne,qv,qx,qk] at this
  exact ⟨this.1.1.1.1,this.1.1.1.2,this.1.1.2,this.1.2,this.2⟩
 have hcur:∀ l'∈Λ,(⟨l'.s,l'.T,l'.H,none,l'.A,none⟩:Le)∈lesN Λ:=λ l' hl'=>qq.2 ⟨l',hl',rfl⟩
 have hsr:∀ y∈src.filterMap (λ k=>Γ[k]?),E ∉ y.2.deps∧y.1≠d∧y.1≠c∧y.1≠e∧y.2.p B (a1.eval (.tmp y.1)) w1:=λ y hy=>by
  obtain ⟨k,hk1,hk2⟩:=qQ.1 hy
  have hs:=qd.1 hsrc k hk1
  simp only [hk2,ql,qv,qx,qk] at hs
  have ho:=hout y.1 hs.2
  exact ⟨hs.1,λ e1=>ho n zo (by unfold Rg.dst; rw [ho1,e1]; rfl),λ e1=>ho (n+1) zo (by unfold Rg.dst; rw [ho2,e1]; rfl),λ e1=>ho (n+2) zo (by unfold Rg.dst; rw [ho9,e1]; rfl),hinv.g y (qa hk2) (λ q hq hdq=>absurd hdq (ho q hq)) (hcl _)⟩
 have U:St B w0 N ((d,OwnB b E m D (l++xs))::src.filterMap (λ k=>Γ[k]?)) Λ (a1.put (some d) v') w':=by
  refine ⟨hinv.lo,hinv.defers.grown r2 r3 rfl,by rw [size_put]; exact hinv.size,?_,?_,?_,?_⟩
  ·exact ⟨r2.os.trans hinv.base.os,r2.tape.trans hinv.base.tape,r2.output.trans hinv.base.output,qe hinv.base.size r2.size,λ k hk hf =>
    (r2.block k (qE hk hinv.base.size) (λ e=>by have:=(r3 k e.symm).1; omega)).trans (hinv.base.block k hk hf)⟩
  ·intro y hy
   rcases qt.1 hy with rfl | hy
   ·show (OwnB b E m D (l++xs)).p B ((a1.put (some d) v').eval (.tmp d)) w'
    rw [aM _ _ _ hdsz]
    exact ⟨qe hbw r2.size,hB,r1⟩
   ·obtain ⟨q1,q2,_,_,q5⟩:=hsr y hy
    rw [aq _ _ _ _ q2]
    exact VA.grown q5 r2 r3 hB q1
  ·intro l' hl'
   obtain ⟨g1,g2,g3,_⟩:=hlc l' hl'
   obtain ⟨g,cs,e1,e2,e3,e4⟩:=hinv.c _ (hcur l' hl') l'.A rfl
   refine ⟨g,cs,by rw [aq _ _ _ _ g3]; exact e1,e2,?_,As.grown e4 r2 r3 hB g2⟩
   rw [r2.block g (Array.getElem?_eq_some_iff.1 e3).1 (λ e5=>by
    obtain ⟨h8,c,fz,e6⟩:=r3 g e5.symm
    rcases g1 with g1 | g1
    ·rw [e3] at e6
     injection e6 with e6
     injection e6 with _ e6 _
     exact g1 e6
    ·rw [← g1,e1,l'.H.ok] at hg3
     injection hg3 with hg3
     omega)]
   exact e3
  ·intro l1 hl1 l2 hl2 hne'
   obtain ⟨_,_,g3,_⟩:=hlc l1 hl1
   obtain ⟨_,_,g5,_⟩:=hlc l2 hl2
   rw [aq _ _ _ _ g3,aq _ _ _ _ g5]
   exact hinv.x _ (hcur l1 hl1) _ (hcur l2 hl2) hne' G rfl
 rw [List.range'_succ,qA]
 refine bu (R:=⟨ops,N,Γ,lesN Λ,sp,λ i=>List.range i⟩) ho1 G (aY (w':=w') (v:=v') (by simp [execOp,resolve,invoke,builtin,hr,Result.andThen]) ?_)
 rw [List.range'_succ,qA]
 refine bu (R:=⟨ops,N,Γ,lesN Λ,sp,λ i=>List.range i⟩) ho2 G ?_
 obtain ⟨⟨fn,hf,hn,hb⟩,hcall⟩:=hcn
 have hrun:=uA (P:=P) (w:=w') (a:=a1.put (some d) v') (d:=c) (T:=T2) (ps:=ps2) (af:=af2) (gd:=none) (at_:=at_) (xs:=[.tmp d]) hf hn hb
 unfold Oper.wp
 rw [show (#[Operand.tmp d]:Array Operand)=[Operand.tmp d].toArray from rfl,hrun]
 have hm1:M1.p B ((a1.put (some d) v').eval (.tmp d)) w':=hM _ _ _ (U.vals _ (xe ..))
 have hBw:B≤w'.heap.size:=qe (qe hB hbw) r2.size
 refine (hcall B w' [(a1.put (some d) v').eval (.tmp d)] hBw (.cons hm1 .nil)).mono λ ex w2 ⟨v2,he2,hp2,hg2⟩=>?_
 subst he2
 have hst2:=St.putV U (v:=v2) (M:=M2) hcN hg2 hp2 (λ y hy=>by
  rcases qt.1 hy with rfl | hy
  ·exact hdc
  ·exact (hsr y hy).2.2.1) (λ l' hl'=>(hlc l' hl').2.2.2.1)
 have hst3:=St.putV hst2 (c:=e) (v:=v2) (M:=M2) he (Grow.refl w2) hp2 (λ y hy=>by
  rcases qt.1 hy with rfl | hy
  ·exact hce
  ·rcases qt.1 hy with rfl | hy
   ·exact hde
   ·exact (hsr y hy).2.2.2.1) (λ l' hl'=>(hlc l' hl').2.2.2.2)
 show wpOps P ops Q ((n+1+1)::List.range' (n+1+1+1) 0) ((a1.put (some d) v').put (some c) v2) w2
 rw [qA]
 have hcsz:c<(a1.put (some d) v').tmps.size:=by rw [size_put,hinv.size]; exact hcN
 refine bu (R:=⟨ops,N,Γ,lesN Λ,sp,λ i=>List.range i⟩) ho9 G (aY (w':=w2) (v:=v2) ?_ (hQ _ _ ?_))
 ·have:=aM (a1.put (some d) v') c v2 hcsz
  simp [execOp,this]
 ·exact ⟨hst3.lo,hst3.defers,hst3.size,hst3.base,λ y hy=>hst3.vals y (by
   rcases qt.1 hy with rfl | hy
   ·exact xe ..
   ·exact qX _ (qX _ (qX _ hy))),hst3.locs,hst3.dis⟩
section
variable {P:Program} {R:Rg} {Q:Exit→Act→World→Prop} {B i:Nat} {w0:Bs}
theorem Fg {A:VA}{f:FuncId}{xs:List Operand}{As:List VA}{mk:Nat→VA}{at_:Array TypeId}(hc:CnI P f As mk)(hw:∀ n,w0.w.heap.size≤n→Wk (mk n) A)(hx:HasL R B w0 i xs As):Wv P Q R B w0 i (.call ⟨.value (.func f),xs.toArray,at_⟩) A:=by
 intro d T ps af gd a w av K hK
 obtain ⟨⟨fn,hf,hn,hb⟩,hcall⟩:=hc
 have hrun:(execOp a.eval ⟨some d,.call ⟨.value (.func f),xs.toArray,at_⟩,T,ps,af,gd⟩).run P w=.ok (.enter f (xs.map a.eval).toArray) w:=by
  simp only [execOp,resolve,Act.eval,Deferred.ofValue,Sem.run_bind,Sem.run_pure,Result.andThen_ok,invoke,bk hf hn hb]
  simp
 unfold Oper.wp
 rw [hrun]
 exact (hcall B w _ (Av.bw av) (hx.all av)).mono λ e w' ⟨v,he,hv,hg⟩=>by subst he; exact hK v w' hg (hw _ av.base.size _ _ _ hv)
end
theorem Bp {b b':Nat}{l:List Nat}(h:b≤b'):Wk (MgB b' l).va (MgB b l).va:=λ _ _ _ hp=>ww (nW _ _ _ hp) λ g hg=>qe h (nV hp g hg)
theorem Bb {b:Nat}{l:List Nat}(ok:okL l):Wk (OwnB b U32 1 [] (NL l)) (MgB b l).va:=λ B v w h=>vU ok B v w h.2.2
theorem o4 {D:Nat}(h:(limbs D).length=1):(limbs D)[0]'zo=D:=by
 have h1:=dU (l:=limbs D) (j:=0) zo
 rw [z9,aH,q9 zo] at h1
 simp at h1
 exact h1.symm
theorem uc {x:Nat}(h:x<4294967296):trimL [x]=limbs x:=by
 rw [cW (e8 h)]
 simp [val]
theorem ud {x R:Nat}(h:x<4294967296):trimL (x::limbs R)=limbs (R*4294967296+x):=by
 rw [cW (λ y hy=>by
  rcases qt.1 hy with rfl | hy
  ·exact h
  ·exact (bi _).1 y hy)]
 show limbs (x+4294967296*val (limbs R))=_
 rw [aH]
 congr 1
 omega
theorem cm_lt0 {X Y:Nat}:cmL (limbs X) (limbs Y)<0↔X<Y:=by
 rw [eK]
 split
 ·omega
 ·split <;> omega
theorem ER {l:List Nat}{d j:Nat}(hl:okL l)(hd:0<d)(hj:j<l.length)(h:val (l.drop (j+1))%d*4294967296+l[j]<d):rsSt l d (j+1)=rsSt l d j:=by
 rw [← oV hl hd hj,xq h]
 unfold rsSt
 rw [xM,za,dW _ _ _ _ (by simp)]
 rfl
theorem St.rowV {B N:Nat}(h:St B w0 N Γ Λ a w){s T:Nat}{A:As}(e:Nat)(he:Λ[e]?=some ⟨s,T,H,A⟩):∃ v g,blk v=some g∧w0.may g∧g<w.heap.size∧St B w0 N ((s,EqV v)::Γ) Λ a w:=by
 obtain ⟨g,cs,e1,e2,e3,e4⟩:=h.locs _ (qa he)
 exact ⟨a.eval (.tmp s),g,by rw [e1]; exact H.ok g,e2,(Array.getElem?_eq_some_iff.1 e3).1,h.lo,h.defers,h.size,h.base,λ x hx=>by
  rcases qt.1 hx with rfl | hx
  ·exact rfl
  ·exact h.vals x hx,h.locs,h.dis⟩
theorem St.ownT {B N:Nat}(h:St B w0 N Γ Λ a w){s s3 go:Nat}{v8:Value}{E:TypeId}{m:Nat}(k k8:Nat)(hm:Γ[k]?=some (s,EqV (.slice none 0 0)))(h8:Γ[k8]?=some (s3,EqV v8))(hv:blk v8=some go)(hlt:go<w0.w.heap.size):
  ∃ b,w0.w.heap.size≤b∧go<b∧St B w0 N (Γ.set k (s,OwnB b E m D [])++[(s3,PtrLt b)]) Λ a w:=by
 refine ⟨w.heap.size,h.base.size,qE hlt h.base.size,h.lo,h.defers,h.size,h.base,λ x hx=>?_,h.locs,h.dis⟩
 rcases qo.1 hx with hx | hx
 ·rcases qy hx with hx | rfl
  ·exact h.vals x hx
  ·exact ⟨qi _,qe (h.lo _ (.inl (qi _))) h.base.size,mw _ _ _ (h.vals _ (qa hm))⟩
 ·obtain rfl:=qn.1 hx
  have e:a.eval (.tmp s3)=v8:=h.vals _ (qa h8)
  exact ⟨go,by show blk (a.eval (.tmp s3))=_; rw [e]; exact hv,qE hlt h.base.size⟩
structure Rs (B:Nat) (w0:Bs) (w:World) (v:Value) (l:List Nat) (go:Nat):Prop where
 mg:(MgA l).va.p B v w
 ne:blk v≠some go
 may:w0.may go
 lt:go<w.heap.size
theorem DP {x V D:Nat}(hD:0<D)(hx:x<4294967296):V%D*4294967296+x<D*4294967296:=by
 have h1:=qM V hD
 have h2:(V%D+1)*4294967296≤D*4294967296:=qR _ h1
 omega
theorem len_rb {D x:Nat}(h:x<D*4294967296):(limbs x).length≤(limbs D).length+1:=by
 have h1:=bZ (n:=D) (qi _)
 refine dC (qE h ?_)
 rw [qV]
 exact qR _ (zU h1)
theorem sub_mod' {a b:Nat}:a-b*(a/b)=a%b:=by
 have:=xw a b
 omega
set_option maxHeartbeats 1000000 in
theorem uR {D:Nat}(l:List Nat)(hD:0<D)(hls:l.length≤1000000000)(hds:(limbs D).length≤1000000000):Cn Tryz.prog 257 [(MgA l).va,(MgA (limbs D)).va] (Tu [(MgA (limbs (val l/D))).va,(MgA (limbs (val l%D))).va]):=by
 obtain ⟨it,z,e1,e2,e3,e4,e5⟩:=ln
 refine Cn.introD Tryz.func257 G zk nq (λ B w0 a hF0 hnd hF U=>?_)
 have U:=zn [(0,(MgA l).va),(1,(MgA (limbs D)).va)] [] U
 obtain ⟨v0,hv0,U⟩:=St.eqv U 0 rfl
 obtain ⟨v1,hv1,U⟩:=St.eqv U 1 rfl
 have hl:=(dI hv0).1; have hokD:=(dI hv1).1
 refine qb<|zh [.v 4 _,.v 5 _] [.g 0,.g 1,.o 0,.o 1] U (zv G (ac bc) (zv G (ac bc) o0)) (zz [(0,_),(1,_),(4,_),(5,_)] [] λ a w U=>?_)
 refine zt<|qb<|zh [.v 13 _,.v 14 _,.v 15 _] [.g 0,.g 1,.g 2,.g 3,.o 2] U (zM 1 G (zv G (aI Tryz.underlying24 (aT hF hv1 (vq 0 G))) (zv G (bC (vq 1 G) ab) o0))) (zz [(0,_),(1,_),(4,_),(5,_),(15,_)] [] λ a w U=>?_)
 refine aa<|aj U (zm 4 G) (λ hb0=>?_) (λ hb0=>?_)
 ·have hlen:(limbs D).length=1:=by simp at hb0; omega
  have hd0:=o4 hlen
  refine qb<|zh [.v 17 _,.v 18 _,.v 19 _,.v 20 _,.v 21 _,.v 16 _,.v 22 _,.v 23 _,.v 6 _,.v 7 _] [.g 0,.g 1,.g 2,.g 3,.o 8,.o 9] U (zM 0 G (zM 1 G (zv G (bG b9 (aT hF hv1 (vq 1 G)) (aG 0 G) zo) (zv G (au (vq 2 G) aO) (zQ G (rx l ((limbs D)[0]'zo) zo (by rw [hd0]; exact hD) (hokD _ (qf _))) (.p (aT hF hv0 (vq 0 G)) (vq 3 G)) (zv G (ai (vq 4 G)) (zv G (aQ (vq 5 G) G) (zv G (aQ (vq 5 G) G) (zA 6 G (zA 7 G o0)))))))))) (zz [(0,_),(1,_),(4,_),(5,_),(6,_),(7,_)] [] λ a w U=>?_)
  refine zt<|zh [.v 24 _,.v 25 _,.v 26 _,.v 27 _,.v 4 _,.v 5 _] [.g 0,.g 1,.o 4,.o 5] U (zM 4 G (zM 5 G (zv G (cX (l:=[_]) (xs:=[.tmp 25]) b9 zk nq nq ((e8 (ze (qM _ (by rw [hd0]; exact hD)) (hokD _ (qf _))))) (.o (vq 1 G)) G G) (zQ G (dJ famA _) (.o (vq 2 G)) (zA 0 G (zA 3 G o0)))))) (zz [(0,_),(1,_),(4,_),(5,_)] [] λ a w U=>?_)
  refine aa<|qg<|al ?_
  refine ao ?_ (bf (rs:=[.tmp 4,.tmp 5]) G U (.tmp (zm 2 G) (.tmp (zm 3 G) .nil)) zd)
  rw [hd0]; exact tu2w ny (aZ (qm (λ l=>(MgA l).va) (uc (ze (qM _ hD) (by rw [← hd0]; exact hokD _ (qf _))))))
 ·refine qh<|zt<|cU (sts:=[]) (news:=[⟨30,134,slH _ _,some 2,_,none⟩]) (sp:=[.v 28 _,.v 29 _,.alc 0,.adr 8 30 .none True]) [.g 0,.g 1,.g 2,.g 3] [(8,30)] [⟨8,134,slH _ _,_⟩] U (zM 0 G (zv G (aI Tryz.underlying24 (aT hF hv0 (vq 0 G))) (oc (dK G G G eD (vq 1 G) (vq 1 G) zo) (oc (ob_a G G lw) o0)))) zk zk zk ⟨⟨3,rfl⟩,trivial⟩ G zk (zz [(0,_),(1,_),(4,_),(5,_)] [⟨8,134,slH _ _,_⟩] λ a w U=>?_)
  refine zt<|zg [η] [] [.v 9 _] [.g 0,.g 1,.g 2,.g 3,.o 0] U (zv G (ac bc) o0) (zz [(0,_),(1,_),(4,_),(5,_),(9,_)] [⟨8,134,slH _ _,_⟩] λ a w U=>?_)
  refine zt<|qb<|zg [η] [] [.v 31 _,.v 32 _,.v 33 _,.v 10 _] [.g 0,.g 1,.g 2,.g 3,.g 4,.o 3] U (zM 0 G (zv G (aI Tryz.underlying24 (aT hF hv0 (vq 0 G))) (zv G (c6 (vq 1 G) ab (wi64 zo zo)) (zA 2 G o0)))) (zz [(0,_),(1,_),(4,_),(5,_),(9,_),(10,_)] [⟨8,134,slH _ _,_⟩] λ a w U=>?_)
  obtain ⟨v8,go,hv8,hm8,hl8,U⟩:=St.rowV U 0 rfl
  refine aa<|qj ?_
  have U:=St.sel U [1,2,0,5,6]
  refine wp_loop_ghost (λ n a w=>∃ (v9 v8:Value) (go:Nat),(n≤l.length∧Rs B w0 w v9 (limbs (val (l.drop n)%D)) go∧blk v8=some go)∧St B w0 68 [(0,EqV v0),(1,EqV v1),(8,EqV v8),(9,EqV v9),(10,In ((n:Int)-1))] [⟨8,134,slH l.length l.length,Nums .u32 (rsSt l D n)⟩] a w) (l.length) ?_ ?_
  ·exact ⟨_,v8,go,⟨qi _,⟨by rw [show limbs (val (l.drop l.length)%D)=[] from by simp [bt]]; exact ⟨_,eE B _,rfl⟩,(by intro e; cases e),hm8,hl8⟩,hv8⟩,by rw [lK]; exact U⟩
  intro n a w hI
  clear hv8 hm8 hl8; obtain ⟨v9,v8,go,⟨hn,hR,hv8⟩,U⟩:=hI
  have hk0:∀ w',Kept (now w go) w'→(MgA l).va.p B v0 w':=λ w' hk=>(MgA l).va.cg _ _ _ _ (hF.cg (U.base.trans1 hR.may hk)) hv0
  have hk1:∀ w',Kept (now w go) w'→(MgA (limbs D)).va.p B v1 w':=λ w' hk=>(MgA (limbs D)).va.cg _ _ _ _ (hF.cg (U.base.trans1 hR.may hk)) hv1
  have hk9:∀ w',Kept (now w go) w'→(MgA (limbs (val (l.drop n)%D))).va.p B v9 w':=λ w' hk=>wv hR.mg hR.ne hk
  have hback:∀ {Γ:List (Nat × VA)} {Λ:List Lc} {a:Act} {w':World},St B (now w go) 68 Γ Λ a w'→St B w0 68 Γ Λ a w':=λ h=>h.back U.lo U.base hR.may
  have hlt1:go<(now w go).w.heap.size:=hR.lt
  have U:=U.rebase hnd hR.may (λ m hm=>by
   obtain rfl:=qn.1 hm
   have e:a.eval (.tmp 8)=v8:=U.vals _ (zm 2 rfl)
   show blk (a.eval (.tmp 8))=_
   rw [e]; exact hv8)
  have hnd1:(now w go).nd=true:=rfl
  have hmay1:(now w go).may go:=.inr rfl
  generalize now w go=W1 at U hk0 hk1 hk9 hback hlt1 hnd1 hmay1
  refine qb<|qb<|zg [η] [] [.v 34 _,.v 35 _] [.g 0,.g 1,.g 2,.g 3,.g 4,.o 1] U (zM 4 G (zv G (d9 (vq 0 G) ab) o0)) (λ a w U=>?_)
  have U:St B W1 68 [(0,_),(1,_),(8,_),(9,_),(10,_),(35,_)] [⟨8,134,slH _ _,_⟩] a w:=U
  refine aa<|aj U (zm 5 G) (λ hb1=>?_) (λ hb1=>?_)
  ·obtain ⟨j,rfl⟩:∃ j,n=j+1:=⟨n-1,by simp at hb1; omega⟩; rw [show ((j+1:Nat):Int)-1=(j:Int) from by omega] at U
   have hj:j<l.length:=by omega
   have hx:=hl _ (qf hj)
   have hmd:=qM (val (l.drop (j+1))) hD
   refine qh<|zt<|qj<|qb<|zg [η] [] [.v 11 _] [.g 0,.g 1,.g 2,.g 3,.g 4,.o 0] U (zv G (ac bc) o0) (λ a w U=>?_)
   have U:St B W1 68 [(0,_),(1,_),(8,_),(9,_),(10,_),(11,_)] [⟨8,134,slH _ _,_⟩] a w:=U
   refine zt ?_
   obtain ⟨b,hwb,hgb,U⟩:=St.ownT (E:=U32) (m:=1) (D:=[]) U 5 2 rfl rfl hv8 hlt1
   refine Gu (sp:=[.v 38 _,.v 39 _,.v 40 _,.v 41 _,.v 42 _,.v 43 _,.v 44 VT,.v 11 VT]) 6 [0,1,2,3,4,6] 0 5 6 U (zM 5 rfl (zM 0 rfl (zM 4 rfl (zv rfl (bG b9 (fU hk0 (vq 1 rfl)) (vq 2 rfl) hj) (zv rfl (au (vq 3 rfl) aO) (zv rfl (cX (l:=[_]) (xs:=[.tmp 42]) b9 zk nq nq ((e8 hx)) (.o (vq 4 rfl)) rfl rfl) o0)))))) rfl zk rfl rfl zd rfl zd rfl rfl zk hwb (λ _ _ h _=>(dI h).2) Tryz.underlying24 e1 e2 e3 e4 e5 zd (by simp) zd (λ T hT=>hT) zd (λ A hA=>by obtain ⟨_,_,rfl⟩:=qq.1 hA; rfl) zk nq nq zk zk (λ a w U=>?_)
   have U:St B W1 68 [(11,_),(0,_),(1,_),(8,_),(9,_),(10,_),(8,_)] [⟨8,134,slH _ _,_⟩] a w:=U
   refine zt<|Gq (sp:=[.v 45 _,.v 46 _,.v 47 VT,.v 48 VT,.v 9 VT]) 2 [1,2,3,5] 0 1 6 (M1:=(MgB b (l[j]::limbs (val (l.drop (j+1))%D))).va) (M2:=(MgB b (trimL (l[j]::limbs (val (l.drop (j+1))%D)))).va) U (zM 0 rfl (zM 4 rfl o0)) rfl zk rfl rfl rfl (dJ (famB b) _) (Bb (l:=l[j]::limbs (val (l.drop (j+1))%D)) (okL_cons.2 ⟨hx,(bi _).1⟩)) zd rfl zd rfl rfl zk hwb (D':=[]) (xs:=NL (limbs (val (l.drop (j+1))%D))) (λ w u e k=>by have e':u=v9:=e; rw [e']; exact (dI (hk9 w k)).2) Tryz.underlying24 e1 e2 e3 e4 e5 zd (by simp only [qB,qc,xy,zJ]; have:=c8 (zU hmd); omega) zd (λ T hT=>hT) zd (λ A hA=>by obtain ⟨_,_,rfl⟩:=qq.1 hA; rfl) zk nq nq nq zk zk (λ a w U=>?_)
   have U:St B W1 68 [(9,_),(0,_),(1,_),(8,_),(10,_)] [⟨8,134,slH _ _,_⟩] a w:=U
   have U:=St.wkG (A':=(MgB b (limbs ((val (l.drop (j+1))%D)*4294967296+l[j]))).va) U 0 rfl (aZ (qm (λ l=>(MgB b l).va) (ud hx)))
   refine zt<|qb<|zg [η] [] [.v 49 _,.v 50 _,.v 51 _,.v 52 _] [.g 0,.g 1,.g 2,.g 3,.g 4,.o 3] U (zM 0 G (zM 2 G (zQ G ((nN (limbs (val (l.drop (j+1))%D*4294967296+l[j])) (limbs D)).wk (.cons nW (.cons aL .nil))) (.p (vq 0 G) (fU hk1 (vq 1 G))) (zv G (aS (vq 2 G) ab) o0)))) (λ a w U=>?_)
   have U:St B W1 68 [(9,_),(0,_),(1,_),(8,_),(10,_),(52,_)] [⟨8,134,slH _ _,_⟩] a w:=U
   refine aa<|aj U (zm 5 G) (λ hb2=>?_) (λ hb2=>?_)
   ·have hq:(val (l.drop (j+1))%D*4294967296+l[j])<D:=cm_lt0.1 (qp hb2)
    refine qK<|am<|aB<|aa<|zg [η] [] [.v 36 _,.v 37 _,.v 10 _] [.g 0,.g 1,.g 2,.g 3,.o 2] U (zM 4 G (zv G (c6 (vq 0 G) ab (wi64 zo zo)) (zA 1 G o0))) (λ a w U=>?_)
    have U:St B W1 68 [(9,_),(0,_),(1,_),(8,_),(10,_)] [⟨8,134,slH _ _,_⟩] a w:=U
    refine aa ?_
    have U:=St.sel U [1,2,3,0,4]
    obtain ⟨v9c,h9c,U⟩:=St.toE U 3 rfl
    have hne:blk v9c≠some go:=λ e=>by have:=nV h9c go e; omega
    have hsz:=U.base.size
    exact ⟨j,by omega,v9c,v8,go,⟨by omega,⟨by rw [← oW hD hj,zi hq]; exact nW _ _ _ h9c,hne,hR.may,by omega⟩,hv8⟩,by have U:=hback U; rw [ER hl hD hj hq] at U; exact U⟩
   ·have hq:¬ (val (l.drop (j+1))%D*4294967296+l[j])<D:=λ h=>qr hb2 (cm_lt0.2 h)
    have hsub:(val (l.drop (j+1))%D*4294967296+l[j])-D*((val (l.drop (j+1))%D*4294967296+l[j])/D)=val (limbs (val (l.drop (j+1))%D*4294967296+l[j]))-val (limbs (val (limbs D)*((val (l.drop (j+1))%D*4294967296+l[j])/D))):=by rw [aH,aH,aH]
    have hle:D*((val (l.drop (j+1))%D*4294967296+l[j])/D)≤(val (l.drop (j+1))%D*4294967296+l[j]):=Nat.mul_div_le _ _
    have hsl:(limbs (val (limbs D)*((val (l.drop (j+1))%D*4294967296+l[j])/D))).length≤(limbs (val (l.drop (j+1))%D*4294967296+l[j])).length:=by rw [aH]; exact c8 hle
    have hsv:val (limbs (val (limbs D)*((val (l.drop (j+1))%D*4294967296+l[j])/D)))≤val (limbs (val (l.drop (j+1))%D*4294967296+l[j])):=by rw [aH,aH,aH]; exact hle
    have hlen2:(limbs (val (l.drop (j+1))%D*4294967296+l[j])).length≤1000000001:=qe (len_rb (DP hD hx)) zo
    refine qh<|zt<|zg [η] [] [.v 53 _,.v 54 _,.v 55 _,.v 12 _] [.g 0,.g 1,.g 2,.g 3,.g 4,.o 3] U (zM 0 G (zM 2 G (zQ G ((I7 (R:=(val (l.drop (j+1))%D*4294967296+l[j])) (D:=D) hD (DP hD hx) zo).wk (.cons nW (.cons aL .nil))) (.p (vq 0 G) (fU hk1 (vq 1 G))) (zA 2 G o0)))) (λ a w U=>?_)
    have U:St B W1 68 [(9,_),(0,_),(1,_),(8,_),(10,_),(12,_)] [⟨8,134,slH _ _,_⟩] a w:=U
    refine zt ?_
    obtain ⟨v9b,h9b,U⟩:=St.toE U 0 rfl
    have hk0:∀ w',Kept (now w go) w'→(MgA l).va.p B v0 w':=λ w' hk=>hk0 w' (U.base.trans1 hmay1 hk)
    have hk1:∀ w',Kept (now w go) w'→(MgA (limbs D)).va.p B v1 w':=λ w' hk=>hk1 w' (U.base.trans1 hmay1 hk)
    have hk9:∀ w',Kept (now w go) w'→(MgA (limbs (val (l.drop (j+1))%D*4294967296+l[j]))).va.p B v9b w':=λ w' hk=>wv (nW _ _ _ h9b) (λ e=>by have:=nV h9b go e; omega) hk
    have hback:∀ {Γ:List (Nat × VA)} {Λ:List Lc} {a:Act} {w':World},St B (now w go) 68 Γ Λ a w'→St B w0 68 Γ Λ a w':=λ h=>hback (h.back U.lo U.base hmay1)
    have hlt1:go<(now w go).w.heap.size:=qE hlt1 U.base.size
    have U:=U.rebase hnd1 hmay1 (λ m hm=>by
     obtain rfl:=qn.1 hm
     have e:a.eval (.tmp 8)=v8:=U.vals _ (zm 3 rfl)
     show blk (a.eval (.tmp 8))=_
     rw [e]; exact hv8)
    have hnd1:(now w go).nd=true:=rfl
    have hmay1:(now w go).may go:=.inr rfl
    generalize now w go=W2 at U hk0 hk1 hk9 hback hlt1 hnd1 hmay1
    refine zg [some (4,_)] [] [.adr 56 8 .none True,.v 57 _,.v 58 _,.adr 59 8 (.some _) True,.sto 0] [.g 0,.g 1,.g 2,.g 3,.g 4,.g 5] U (oc (ob_a G G cb) (zM 4 G (zM 5 G (oc (ob_a G G (dm 0 G zk (lz0 0 G) b9 (vq 1 G) hj)) (oc (c7 3 G G G G zk (λ _=>bK _ _ _ _) (vq 2 G) aO (br (by rw [eS zo]; omega))) o0))))) (λ a w U=>?_)
    have U:St B W2 68 [(9,_),(0,_),(1,_),(8,_),(10,_),(12,_)] [⟨8,134,slH _ _,_⟩] a w:=U
    refine aa<|zg [η] [] [.v 60 _,.v 61 _,.v 62 _,.v 63 _,.v 64 _,.v 9 _] [.g 1,.g 2,.g 3,.g 4,.o 5] U (zM 0 G (zM 2 G (zM 5 G (zQ G (ru (limbs D) ((val (l.drop (j+1))%D*4294967296+l[j])/D) zo (AN hD hx)) (.p (fU hk1 (vq 1 G)) (vq 2 G)) (zv G (Fg (uH (limbs (val (l.drop (j+1))%D*4294967296+l[j])) (limbs (val (limbs D)*((val (l.drop (j+1))%D*4294967296+l[j])/D))) zo hsl hsv) (λ n hn=>Bp hn) (.p (fU hk9 (vq 0 G)) (vq 3 G))) (zA 4 G o0)))))) (λ a w U=>?_)
    have U:St B W2 68 [(0,_),(1,_),(8,_),(10,_),(9,_)] [⟨8,134,slH _ _,_⟩] a w:=U
    refine ap ?_
    refine aa<|zg [η] [] [.v 36 _,.v 37 _,.v 10 _] [.g 0,.g 1,.g 2,.g 4,.o 2] U (zM 3 G (zv G (c6 (vq 0 G) ab (wi64 zo zo)) (zA 1 G o0))) (λ a w U=>?_)
    have U:St B W2 68 [(0,_),(1,_),(8,_),(9,_),(10,_)] [⟨8,134,slH _ _,_⟩] a w:=U
    refine aa ?_
    have U:=St.sel U [0,1,2,3,4]
    obtain ⟨v9c,h9c,U⟩:=St.toE U 3 rfl
    have hne:blk v9c≠some go:=λ e=>by have:=nV h9c go e; omega
    have hsz:=U.base.size
    exact ⟨j,by omega,v9c,v8,go,⟨by omega,⟨by rw [← oW hD hj,← sub_mod',hsub]; exact nW _ _ _ h9c,hne,hR.may,by omega⟩,hv8⟩,by have U:=hback U; rw [oV hl hD hj] at U; exact U⟩
  ·obtain rfl:n=0:=by simp at hb1; omega
   have h9:=hk9 _ U.base
   have U:=hback U
   have U:=St.eqF U 3 rfl h9
   refine qK<|am<|am<|aB<|zt<|zg [η] [] [.adr 65 8 .none True,.v 66 _,.v 67 _,.v 4 _,.v 5 _] [.g 2,.o 3,.o 4] U (oc (ob_a G G cb) (zQ G (dJ famN _) (.o (fT 0 G zk (lz0 0 G) ⟨by rw [eS (zc _)],qi _,by unfold maxLen; omega,uI⟩ (by rw [eS (zc _)]))) (zM 3 G (zA 1 G (zA 2 G o0))))) (zz [(8,_),(4,_),(5,_)] [⟨8,134,slH _ _,_⟩] λ a w U=>?_)
   refine aa<|qg<|ao ?_ (bf (rs:=[.tmp 4,.tmp 5]) G U (.tmp (zm 1 G) (.tmp (zm 2 G) .nil)) zd)
   rw [D4 hl,z9]; exact tu2w ny aL
theorem Aa {l m:List Nat}(hl:okL l)(hm:okL m):val (digs (addN l m) (val l+val m))=val l+val m:=by
 rw [dh,zi]
 unfold addN
 split
 ·assumption
 ·exact CY hl hm
theorem AO {a b:Int}(h:((riOf a).neg==(riOf b).neg)=true):(RIA (rsig (riOf a).neg (digs (addN (riOf a).mag (riOf b).mag) (val (riOf a).mag+val (riOf b).mag)))).va=Zi (a+b):=by
 have h':decide (a<0)=decide (b<0):=by simpa [riOf] using h
 rw [bV (bI _ _) (z:=a+b) (by rw [Aa (mA a) (mA b),bv,bv]; simp only [qS] at h'; omega) (λ hz=>by show decide (a<0)=_; simp only [qS] at h' ⊢; omega)]
theorem cm_ge0 {X Y:Nat}:cmL (limbs X) (limbs Y)≥0↔Y≤X:=by
 rw [eK]
 split
 ·omega
 ·split <;> omega
theorem mp {a b:Int}(h:decide (cmL (riOf a).mag (riOf b).mag≥0)=true):b.natAbs≤a.natAbs:=cm_ge0.1 (qp h)
theorem mo {a b:Int}(h:decide (cmL (riOf a).mag (riOf b).mag≥0)=false):a.natAbs≤b.natAbs:=zU (xO λ h2=>qr h (cm_ge0.2 h2))
theorem Bl {p q:Int}(h:p*q≠0):(decide (p<0) != decide (q<0))=decide (p*q<0):=by
 have hp:p≠0:=λ e=>h (by rw [e,Int.zero_mul])
 have hq:q≠0:=λ e=>h (by rw [e,kG])
 rcases Int.lt_or_le p 0 with h1 | h1 <;> rcases Int.lt_or_le q 0 with h2 | h2
 ·have:=kh h1 h2
  rw [qC h1,qC h2,zb zo]; rfl
 ·have:=jx h1 (show 0<q by omega)
  rw [qC h1,zb (show ¬ q<0 by omega),qC this]; rfl
 ·have:=jw (show 0<p by omega) h2
  rw [zb (show ¬ p<0 by omega),qC h2,qC this]; rfl
 ·have:=kP (show 0<p by omega) (show 0<q by omega)
  rw [zb (show ¬ p<0 by omega),zb (show ¬ q<0 by omega),zb zo]; rfl
theorem AL {p q:Int}:(RIA (rsig ((riOf p).neg != (riOf q).neg) (limbs (val (riOf p).mag*val (riOf q).mag)))).va=Zi (p*q):=qm (λ x=>(RIA x).va) (bV (bi _).1 (z:=p*q) (by rw [aH,bv,bv,jp]) Bl)
theorem rdiv_q {p q:Int}:(RIA (rsig ((riOf p).neg != (riOf q).neg) (limbs (val (riOf p).mag/q.natAbs)))).va=Zi (p.tdiv q):=qm (λ x=>(RIA x).va) (bV (bi _).1 (z:=p.tdiv q) (by rw [aH,bv,ip]) sm)
theorem Ie {p q:Int}:(RIA (rsig (riOf p).neg (limbs (val (riOf p).mag%q.natAbs)))).va=Zi (p.tmod q):=qm (λ x=>(RIA x).va) (bV (bi _).1 (z:=p.tmod q) (by rw [aH,bv,fP]) mG)
theorem ry (p q:Int)(hp:lz p≤1000000000)(hq:lz q≤1000000000):Cn Tryz.prog 206 [Zi p,Zi q] (Zi (p+q)):=by
 refine Cn.intro Tryz.func206 G zk nq (λ B w0 a U=>?_)
 have U:=zn [(0,Zi p),(1,Zi q)] [] U
 refine qb<|zg [] [⟨2,26,ptrH,some 0,_,none⟩,⟨3,26,ptrH,some 1,_,none⟩,⟨4,26,ptrH,some 2,_,none⟩] [.alc 0,.alc 1,.alc 2] [] U (zW 0 G (zW 1 G (zY G (Str.zero bn) o0))) (zz [] [O 2 26 _,O 3 26 _,O 4 26 _] λ a w U=>?_)
 refine zt<|qb<|zg [η,η,η] [] [.adr 5 2 (.some 0) True,.v 6 _,.adr 7 3 (.some 0) True,.v 8 _,.v 9 _] [.o 4] U (zO 0 G aV (zL 0 0 0 G ty_4 (zO 1 G aV (zL 2 1 0 G ty_4 (zv G (uW zk (vq 1 G) (vq 3 G)) o0))))) (zz [(9,_)] [O 2 26 _,O 3 26 _,O 4 26 _] λ a w U=>?_)
 refine aa<|aj U (zm 0 G) (λ hb0=>?_) (λ hb0=>?_)
 ·refine qb<|zgd [[],[0],[],[2],[],[4],[2,3,4,5],[0,1,2,3,4,5,6],[0,1,2,3,4,5,6,7]] [none,none,some (8,_)] [] [.adr 10 2 (.some 0) True,.v 11 _,.adr 12 2 (.some 1) True,.v 13 _,.adr 14 3 (.some 1) True,.v 15 _,.v 16 _,.v 17 _,.sto 2] [] ae U (zO 0 G aV (zL 0 0 0 G ty_4 (zO 0 G ay (zL 2 0 1 G aX (zO 1 G ay (zL 4 1 1 G aX (zQ G (radd_c _ _ (qe hp zd) (qe hq zd)) (.p (vq 3 G) (vq 5 G)) (zQ G (bY _ _) (.p (vq 1 G) (vq 6 G)) (zS 7 G ar o0))))))))) zk zk zk zk (zz [] [O 2 26 _,O 3 26 _,O 4 26 _] λ a w U=>?_)
  refine aa<|qg<|al ?_
  refine ao ?_ (aA G U (zm 2 G) ar)
  exact aZ (AO hb0)
 ·refine qh<|zt<|qb<|zg [η,η,η] [] [.adr 18 2 (.some 1) True,.v 19 _,.adr 20 3 (.some 1) True,.v 21 _,.v 22 _,.v 23 _] [.o 5] U (zO 0 G ay (zL 0 0 1 G aX (zO 1 G ay (zL 2 1 1 G aX (zQ G (nN _ _) (.p (vq 1 G) (vq 3 G)) (zv G (d9 (vq 4 G) ab) o0)))))) (zz [(23,_)] [O 2 26 _,O 3 26 _,O 4 26 _] λ a w U=>?_)
  refine aa<|aj U (zm 0 G) (λ hb1=>?_) (λ hb1=>?_)
  ·refine qb<|zgd [[],[0],[],[2],[],[4],[2,3,4,5],[0,1,2,3,4,5,6],[0,1,2,3,4,5,6,7]] [none,none,some (8,_)] [] [.adr 24 2 (.some 0) True,.v 25 _,.adr 26 2 (.some 1) True,.v 27 _,.adr 28 3 (.some 1) True,.v 29 _,.v 30 _,.v 31 _,.sto 2] [] ae U (zO 0 G aV (zL 0 0 0 G ty_4 (zO 0 G ay (zL 2 0 1 G aX (zO 1 G ay (zL 4 1 1 G aX (zQ G (uF _ _ (qe hp zd) (c8 (mp hb1)) (by show val (limbs _)≤val (limbs _); rw [aH,aH]; exact mp hb1)) (.p (vq 3 G) (vq 5 G)) (zQ G (bY _ _) (.p (vq 1 G) (vq 6 G)) (zS 7 G ar o0))))))))) zk zk zk zk (zz [] [O 2 26 _,O 3 26 _,O 4 26 _] λ a w U=>?_)
   refine aa<|qg<|al ?_
   refine ao ?_ (aA G U (zm 2 G) ar)
   exact aZ (vQ hb0 (mp hb1))
  ·refine qh<|zt<|zgd [[],[0],[],[2],[],[4],[2,3,4,5],[0,1,2,3,4,5,6],[0,1,2,3,4,5,6,7]] [none,none,some (8,_)] [] [.adr 32 3 (.some 0) True,.v 33 _,.adr 34 3 (.some 1) True,.v 35 _,.adr 36 2 (.some 1) True,.v 37 _,.v 38 _,.v 39 _,.sto 2] [] ae U (zO 1 G aV (zL 0 1 0 G ty_4 (zO 1 G ay (zL 2 1 1 G aX (zO 0 G ay (zL 4 0 1 G aX (zQ G (uF _ _ (qe hq zd) (c8 (mo hb1)) (by show val (limbs _)≤val (limbs _); rw [aH,aH]; exact mo hb1)) (.p (vq 3 G) (vq 5 G)) (zQ G (bY _ _) (.p (vq 1 G) (vq 6 G)) (zS 7 G ar o0))))))))) zk zk zk zk (zz [] [O 2 26 _,O 3 26 _,O 4 26 _] λ a w U=>?_)
   refine aa<|qg<|ao ?_ (aA G U (zm 2 G) ar)
   exact aZ (vP hb0 (mo hb1))
theorem nL (p q:Int)(hp:lz p≤1000000000)(hq:lz q≤1000000000):Cn Tryz.prog 130 [Zi p,Zi q] (Zi (p-q)):=by
 refine Cn.intro Tryz.func130 G zk nq (λ B w0 a U=>?_)
 have U:=zn [(0,Zi p),(1,Zi q)] [] U
 refine qb<|zg [] [⟨2,26,ptrH,some 0,_,none⟩,⟨3,26,ptrH,some 1,_,none⟩,⟨4,26,ptrH,some 2,_,none⟩] [.alc 0,.alc 1,.alc 2] [] U (zW 0 G (zW 1 G (zY G (Str.zero bn) o0))) (zz [] [O 2 26 _,O 3 26 _,O 4 26 _] λ a w U=>?_)
 refine zt<|zgd [[],[],[1],[0,1,2],[0,1,2,3]] [none,none,some (4,_)] [] [.v 5 _,.v 6 _,.v 7 _,.v 8 _,.sto 2] [] ae U (zl 0 G ar (zl 1 G ar (zQ G (uB q) (.o (vq 1 G)) (zQ G (ry p (-q) hp (by rw [gV]; exact hq)) (.p (vq 0 G) (vq 2 G)) (zS 3 G ar o0))))) zk zk zk zk (zz [] [O 2 26 _,O 3 26 _,O 4 26 _] λ a w U=>?_)
 refine aa<|qg<|ao ?_ (aA G U (zm 2 G) ar)
 exact aZ (qm Zi Int.sub_eq_add_neg.symm)
theorem uD (p q:Int)(hp:lz p≤1000000000)(hq:lz q≤1000000000):Cn Tryz.prog 131 [Zi p,Zi q] (Zi (p*q)):=by
 refine Cn.intro Tryz.func131 G zk nq (λ B w0 a U=>?_)
 have U:=zn [(0,Zi p),(1,Zi q)] [] U
 refine qb<|zg [] [⟨2,26,ptrH,some 0,_,none⟩,⟨3,26,ptrH,some 1,_,none⟩,⟨4,26,ptrH,some 2,_,none⟩] [.alc 0,.alc 1,.alc 2] [] U (zW 0 G (zW 1 G (zY G (Str.zero bn) o0))) (zz [] [O 2 26 _,O 3 26 _,O 4 26 _] λ a w U=>?_)
 refine zt<|zgd [[],[0],[],[2],[0,1,2,3],[],[5],[],[7],[5,6,7,8],[0,1,2,3,4,5,6,7,8,9],[0,1,2,3,4,5,6,7,8,9,10]] [none,none,some (11,_)] [] [.adr 5 2 (.some 0) True,.v 6 _,.adr 7 3 (.some 0) True,.v 8 _,.v 9 _,.adr 10 2 (.some 1) True,.v 11 _,.adr 12 3 (.some 1) True,.v 13 _,.v 14 _,.v 15 _,.sto 2] [] ae U (zO 0 G aV (zL 0 0 0 G ty_4 (zO 1 G aV (zL 2 1 0 G ty_4 (zv G (lN zk (vq 1 G) (vq 3 G)) (zO 0 G ay (zL 5 0 1 G aX (zO 1 G ay (zL 7 1 1 G aX (zQ G ((uK _ _ (qe hp zd) (qe hq zd)).wkp ny) (.p (vq 6 G) (vq 8 G)) (zQ G (bY _ _) (.p (vq 4 G) (vq 9 G)) (zS 10 G ar o0)))))))))))) zk zk zk zk (zz [] [O 2 26 _,O 3 26 _,O 4 26 _] λ a w U=>?_)
 refine aa<|qg<|ao ?_ (aA G U (zm 2 G) ar)
 exact aZ AL
theorem lL (p q:Int)(hq0:q≠0)(hp:lz p≤1000000000)(hq:lz q≤1000000000):Cn Tryz.prog 246 [Zi p,Zi q] (Tu [Zi (p.tdiv q),Zi (p.tmod q)]):=by
 refine Cn.intro Tryz.func246 G zk nq (λ B w0 a U=>?_)
 have U:=zn [(0,Zi p),(1,Zi q)] [] U
 refine qb<|zg [] [⟨2,26,ptrH,some 0,_,none⟩,⟨3,26,ptrH,some 1,_,none⟩,⟨4,26,ptrH,some 2,_,none⟩,⟨5,26,ptrH,some 3,_,none⟩] [.alc 0,.alc 1,.alc 2,.alc 3] [] U (zW 0 G (zW 1 G (zY G (Str.zero bn) (zY G (Str.zero bn) o0)))) (zz [] [O 2 26 _,O 3 26 _,O 4 26 _,O 5 26 _] λ a w U=>?_)
 refine zt<|zg [η,η,η,η] [] [.adr 9 2 (.some 1) True,.v 10 _,.adr 11 3 (.some 1) True,.v 12 _,.v 13 _,.v 8 _,.v 14 _,.v 15 _,.v 6 _,.v 7 _] [.o 8,.o 9] U (zO 0 G ay (zL 0 0 1 G aX (zO 1 G ay (zL 2 1 1 G aX (zQ G (uR (D:=q.natAbs) (riOf p).mag zo hp hq) (.p (vq 1 G) (vq 3 G)) (zv G (ai (vq 4 G)) (zv G (aQ (vq 5 G) G) (zv G (aQ (vq 5 G) G) (zA 6 G (zA 7 G o0)))))))))) (zz [(6,_),(7,_)] [O 2 26 _,O 3 26 _,O 4 26 _,O 5 26 _] λ a w U=>?_)
 refine zt<|zgd [[],[0],[],[2],[0,1,2,3],[],[0,1,2,3,4,5],[],[7],[],[0,1,2,3,4,5,6,7,8,9],[0,1,2,3,4,5,6,7,8,9,10],[0,1,2,3,4,5,6,7,8,9,10,11]] [none,none,some (11,_),some (12,_)] [] [.adr 16 2 (.some 0) True,.v 17 _,.adr 18 3 (.some 0) True,.v 19 _,.v 20 _,.v 21 _,.v 22 _,.adr 23 2 (.some 0) True,.v 24 _,.v 25 _,.v 26 _,.sto 2,.sto 3] [] ae U (zO 0 G aV (zL 0 0 0 G ty_4 (zO 1 G aV (zL 2 1 0 G ty_4 (zv G (lN zk (vq 1 G) (vq 3 G)) (zM 0 G (zQ G (bY _ _) (.p (vq 4 G) (vq 5 G)) (zO 0 G aV (zL 7 0 0 G ty_4 (zM 1 G (zQ G (bY _ _) (.p (vq 8 G) (vq 9 G)) (zS 6 G ar (zS 10 G ar o0))))))))))))) zk zk zk zk (zz [] [O 2 26 _,O 3 26 _,O 4 26 _,O 5 26 _] λ a w U=>?_)
 refine aa<|qg<|ao ?_ (bf (rs:=[.cell 4 26,.cell 5 26]) G U (.cell (zm 2 G) ar (.cell (zm 3 G) ar .nil)) zd)
 exact tu2w (aZ rdiv_q) (aZ Ie)
def bln:Nat→Nat
 | 0=>0
 | n+1=>bln ((n+1)/2)+1
decreasing_by omega
theorem quo32 {t:Nat}(h:t<4294967296):IntKind.u32.wrap ((t:Int).tdiv ((2:Nat):Int))=((t/2:Nat):Int):=by
 rw [xN zo,← jF,wu32 zo]
theorem pZ {n:Nat}(h:0<n):bln n=bln (n/2)+1:=by
 cases n with
 | zero=>omega
 | succ n=>rw [bln]
theorem E0:∀ (k n:Nat),n<2^k→bln n≤k
 | k,0,_=>by rw [bln]; omega
 | 0,n+1,h=>by simp at h
 | k+1,n+1,h=>by
  rw [bln]
  have:=E0 k ((n+1)/2) (by rw [qV] at h; omega)
  omega
def bitF (p:Int):Nat:=if lz p=0 then 0 else 32*(lz p-1)+bln ((limbs p.natAbs).getD (lz p-1) 0)
theorem HP {p:Int}(h:lz p≠0):0<(limbs p.natAbs).getD (lz p-1) 0:=by
 apply Decidable.byContradiction
 intro hn
 have hlt:lz p-1<(limbs p.natAbs).length:=by show lz p-1<lz p; omega
 rw [cv hlt] at hn
 have e:limbs p.natAbs=(limbs p.natAbs).take (lz p-1)++[0]:=by
  have h2:=qu hlt
  rw [qD (by show lz p≤lz p-1+1; omega)] at h2
  rw [show (limbs p.natAbs)[lz p-1]=0 by omega] at h2
  exact h2
 have hv:=aH p.natAbs
 rw [e,ic,kE,xF] at hv
 have h3:=eu (l:=(limbs p.natAbs).take (lz p-1)) (λ x hx=>(bi _).1 x (xj hx))
 rw [hv] at h3
 have h4:=dC h3
 rw [qY] at h4
 have h5:lz p=(limbs p.natAbs).length:=rfl
 omega
theorem Cy {p:Int}(h:bitF p=1):p.natAbs=1:=by
 unfold bitF at h
 split at h
 ·omega
 ·rename_i h0
  have h1:=HP h0
  rw [pZ h1] at h
  have h2:lz p=1:=by omega
  have h3:bln ((limbs p.natAbs).getD (lz p-1) 0/2)=0:=by omega
  have h4:(limbs p.natAbs).getD (lz p-1) 0=1:=by
   apply Decidable.byContradiction
   intro hn
   have:=pZ (n:=(limbs p.natAbs).getD (lz p-1) 0/2) zo
   omega
  have h5:=o4 (D:=p.natAbs) h2
  have h6:(limbs p.natAbs).getD 0 0=1:=by rw [h2] at h4; exact h4
  rw [cv (by show 0<lz p; omega)] at h6
  omega
theorem oX (p:Int)(hp:lz p≤1000000000):Cn Tryz.prog 244 [Zi p] (In (bitF p:Nat)):=by
 have hrl:(riOf p).mag.length=lz p:=rfl
 refine Cn.intro Tryz.func244 G zk nq (λ B w0 a U=>?_)
 have U:=zn [(0,Zi p)] [] U
 refine qb<|zg [] [⟨1,26,ptrH,some 0,_,none⟩] [.alc 0,.v 2 _] [.o 1] U (zW 0 G (zv G (ac ab) o0)) (zz [(2,_)] [O 1 26 _] λ a w U=>?_)
 refine zt<|qb<|zg [η] [] [.adr 5 1 (.some 1) True,.v 6 _,.v 7 _,.v 8 _] [.g 0,.o 3] U (zO 0 G ay (zL 0 0 1 G aX (zv G (aI Tryz.underlying24 (vq 1 G)) (zv G (bC (vq 2 G) ab) o0)))) (zz [(2,_),(8,_)] [O 1 26 _] λ a w U=>?_)
 refine aa<|aj U (zm 1 G) (λ hb0=>?_) (λ hb0=>?_)
 ·have h0:lz p=0:=by simp at hb0; rw [← hrl,hb0]; rfl
  refine qb<|zg [η] [] [.v 2 _] [.o 0] U (zv G (ac ab) o0) (zz [(2,_)] [O 1 26 _] λ a w U=>?_)
  refine aa<|qg<|al ?_
  refine ao ?_ (an G U (zm 0 G))
  rw [show bitF p=0 by rw [bitF,qz h0]]; exact aL
 ·have h0:lz p≠0:=by intro e; rw [← hrl] at e; simp [z8 e] at hb0
  have hlt:lz p-1<(limbs p.natAbs).length:=by show lz p-1<lz p; omega
  have htop:(limbs p.natAbs).getD (lz p-1) 0<4294967296:=eI (bi _).1 _
  have hbt:32*(lz p-1)+bln ((limbs p.natAbs).getD (lz p-1) 0)=bitF p:=by rw [bitF,qw h0]
  have hb32:=E0 32 _ htop
  refine qh<|zt<|zg [η] [] [.adr 9 1 (.some 1) True,.v 10 _,.v 11 _,.v 12 _,.v 13 _,.v 3 _] [.g 0,.o 5] U (zO 0 G ay (zL 0 0 1 G aX (zv G (aI Tryz.underlying24 (vq 1 G)) (zv G (c6 (vq 2 G) ab ((wi64 zo zo).trans (by omega:(_:Int)=((lz p-1:Nat):Int)))) (zv G (iP ab (vq 3 G) ((wi64 zo zo).trans (by omega:(_:Int)=((32*(lz p-1):Nat):Int)))) (zA 4 G o0)))))) (zz [(2,_),(3,_)] [O 1 26 _] λ a w U=>?_)
  refine zt<|qb<|zg [η] [] [.adr 14 1 (.some 1) True,.v 15 _,.adr 16 1 (.some 1) True,.v 17 _,.v 18 _,.v 19 _,.v 20 _,.v 21 _,.v 4 _] [.g 0,.g 1,.o 8] U (zO 0 G ay (zL 0 0 1 G aX (zO 0 G ay (zL 2 0 1 G aX (zv G (aI Tryz.underlying24 (vq 3 G)) (zv G (c6 (vq 4 G) ab ((wi64 zo zo).trans (by omega:(_:Int)=((lz p-1:Nat):Int)))) (zv G (bG b9 (vq 1 G) (vq 5 G) hlt) (zv G (au (vq 6 G) aO) (zA 7 G o0))))))))) (zz [(2,_),(3,_),(4,_)] [O 1 26 _] λ a w U=>?_)
  refine aa<|qj ?_
  have U:=St.sel U [1,2]
  refine wp_loop_ghost (λ n a w=>∃ s t:Nat,(t<4294967296∧n=t∧s+bln t=bitF p)∧St B w0 29 [(3,In (s:Nat)),(4,(NumA .u32 (t:Nat)).va)] [⟨1,26,ptrH,RIA (riOf p)⟩] a w) ((limbs p.natAbs).getD (lz p-1) 0) ?_ ?_
  ·rw [← cv hlt] at U; exact ⟨_,_,⟨htop,rfl,hbt⟩,U⟩
  intro n a w hI
  obtain ⟨s,t,⟨ht,hnt,hs⟩,U⟩:=hI
  refine qb<|qb<|zg [η] [] [.v 22 _,.v 23 _] [.g 0,.g 1,.o 1] U (zM 1 G (zv G (ci (vq 0 G) (aG 0 G)) o0)) (zz [(3,_),(4,_),(23,_)] [O 1 26 _] λ a w U=>?_)
  refine aa<|aj U (zm 2 G) (λ hb1=>?_) (λ hb1=>?_)
  ·have hb1:0<t:=by simp at hb1; omega
   refine qh<|zt<|qj<|zg [η] [] [.v 26 _,.v 27 _,.v 3 _] [.g 1,.o 2] U (zM 0 G (zv G (aN (vq 0 G) ab (ba zo)) (zA 1 G o0))) (zz [(4,_),(3,_)] [O 1 26 _] λ a w U=>?_)
   refine ap ?_
   refine aa<|zg [η] [] [.v 24 _,.v 25 _,.v 4 _] [.g 1,.o 2] U (zM 0 G (zv G (lC (vq 0 G) (aG 2 G) zd (quo32 ht)) (zA 1 G o0))) (zz [(3,_),(4,_)] [O 1 26 _] λ a w U=>?_)
   refine aa ?_
   have U:=St.sel U [0,1]
   exact ⟨t/2,by omega,s+1,t/2,⟨by omega,rfl,by rw [pZ hb1] at hs; omega⟩,U⟩
  ·have ht0:t=0:=by simp at hb1; omega
   refine qK<|am<|am<|aB<|zt<|zg [η] [] [.v 28 _,.v 2 _] [.o 1] U (zM 0 G (zA 0 G o0)) (zz [(2,_)] [O 1 26 _] λ a w U=>?_)
   refine aa<|qg<|ao ?_ (an G U (zm 0 G))
   rw [show bitF p=s by rw [← hs,ht0,bln]; rfl]; exact aL
theorem uE (l:List Nat)(x:Nat)(hls:l.length≤1099511627776)(hx:x<4294967296):Cn Tryz.prog 261 [(MgA l).va,(NumA .u32 (x:Nat)).va] ((MgN (limbs (val l*x))).va):=by
 refine Cn.intro Tryz.func261 G zk nq (λ B w0 a U=>?_)
 have U:=zn [(0,(MgA l).va),(1,(NumA .u32 (x:Nat)).va)] [] U
 refine qb<|zh [.v 4 _] [.g 0,.g 1,.o 0] U (zv G (ac bc) o0) (zz [(0,_),(1,_),(4,_)] [] λ a w U=>?_)
 refine zt<|zh [.v 5 _,.v 6 _,.v 7 _,.v 8 _,.v 9 _,.v 4 _] [.o 5] U (zM 0 G (zM 1 G (zv G (cX (l:=[_]) (xs:=[.tmp 6]) b9 zk nq nq ((e8 hx)) (.o (vq 1 G)) G G) (zQ G (dJ famA _) (.o (vq 2 G)) (zQ G (uK l (trimL [x]) hls (qe (ii x).1 zd)) (.p (vq 0 G) (vq 3 G)) (zA 4 G o0)))))) (zz [(4,_)] [] λ a w U=>?_)
 refine aa<|qg<|ao ?_ (an G U (zm 0 G))
 rw [(ii x).2]; exact aL
theorem oD {B:Nat}{w:World}:∀ (l:List Nat),(cat (NL l)).p B (l.map λ (x:Nat)=>Value.int .u32 x) w
 | []=>⟨[],rfl,.nil⟩
 | x::l=>by
  obtain ⟨ps,e,hp⟩:=oD (B:=B) (w:=w) l
  exact ⟨[.int .u32 x]::ps,by show _::_=_; rw [zN,← e]; rfl,.cons G hp⟩
theorem St.rowO {B N:Nat}(h:St B w0 N Γ Λ a w)(hB:B=w0.w.heap.size){s:Nat}{l:List Nat}{n:Nat}(hn:n=l.length)(hl:l.length≤maxLen)(e:Nat)(he:Λ[e]?=some ⟨s,U32,slH n n,Nums .u32 l⟩):
  St B w0 N ((s,OwnR w0.w.heap.size U32 1 [] (NL l))::Γ) (Λ.eraseIdx e) a w:=by
 subst hn
 obtain ⟨g,cs,e1,e2,e3,e4⟩:=h.locs _ (qa he)
 have e4':cs=l.map λ (x:Nat)=>Value.int .u32 x:=e4
 refine ⟨h.lo,h.defers,h.size,h.base,λ x hx=>?_,λ m hm=>h.locs m (xi hm),λ m hm m' hm' hne=>h.dis m (xi hm) m' (xi hm') hne⟩
 rcases qt.1 hx with rfl | hx
 ·have q1:∀ A∈NL l,A.n=1:=λ A hA=>by
   obtain ⟨_,_,rfl⟩:=qq.1 hA; rfl
  have q2:∀ A∈NL l,∀ T∈A.deps,T∈([]:List TypeId):=mD
  have q3:(cat (NL l)).p B cs w:=by rw [e4']; exact oD l
  have q4:a.eval (.tmp s)=.slice (some ⟨g,0,none⟩) l.length l.length:=by rw [e1]; rfl
  exact ⟨q1,q2,cs,q3,by rw [e4']; simp,.inr ⟨g,l.length,cs.toArray,by rw [qc]; exact q4,by rw [← hB]; exact h.lo g e2,e3,by simp,hl,by rw [e4']; simp,by rw [e4']; simp [qD]⟩⟩
 ·exact h.vals x hx
theorem qi64 {x:Nat}(h:x<4611686018427387904):IntKind.i64.wrap ((x:Int).tdiv 32)=((x/32:Nat):Int):=by
 rw [show (32:Int)=((32:Nat):Int) from rfl,xN zo,← jF,wi64 zo zo]
theorem wmul32 {i:Nat}(h:i<31):IntKind.u32.wrap (((2:Nat):Int)*((2^i:Nat):Int))=((2^(i+1):Nat):Int):=by
 have h1:2^(i+1)≤2^31:=zx zd zo
 rw [← xo,qP,← qV,wu32 (qT h1 zd)]
theorem pow32 (k:Nat):4294967296^k=2^(32*k):=by rw [Nat.pow_mul]
theorem B6 {i:Nat}(h:i<32):2^i<4294967296:=qT (zx zd (show i≤31 by omega)) zd
theorem dbl_e {p:Int}{t:Nat}:(RIN (rsig (riOf p).neg (limbs (val (List.replicate (t/32) 0++(riOf p).mag)*2^(t%32))))).va=(RIN (riOf (p*((2^t:Nat):Int)))).va:=by
 have hpos:(0:Int)<((2^t:Nat):Int):=by exact_mod_cast zq (by decide:0<2)
 refine qm (λ x=>(RIN x).va) (bV (bi _).1 (z:=p*((2^t:Nat):Int)) ?_ λ hz=>?_)
 ·rw [aH,gp,nA,qW,bv,qO,jp,j1,pow32,jm,← zR,xw,qP]
 ·show decide (p<0)=_
  rw [qS]
  exact ⟨λ h=>jx h hpos,λ h=>by
   apply Decidable.byContradiction
   intro hn
   have:=Int.mul_nonneg (show 0≤p by omega) (Int.le_of_lt hpos)
   omega⟩
theorem uQ (p:Int)(t:Nat)(hp0:p≠0)(hp:lz p≤1000000000)(ht:t≤64000000000):Cn Tryz.prog 256 [Zi p,In (t:Nat)] ((RIN (riOf (p*((2^t:Nat):Int)))).va):=by
 obtain ⟨it,z,e1,e2,e3,e4,e5⟩:=ln
 refine Cn.introW Tryz.func256 G zk nq (.cons (sN _).va (.cons (fD _ _).va .nil)) (du _).va (λ B w0 a hB0 U=>?_)
 have U:=zn [(0,(RIO (riOf p)).va),(1,In (t:Nat))] [] U
 refine qb<|zg [] [⟨2,26,ptrH,some 0,_,none⟩,⟨4,26,ptrH,some 1,_,none⟩] [.alc 0,.alc 1] [.g 1] U (zW 0 G (zY G (Str.zero eQ) o0)) (zz [(1,_)] [O 2 26 _,O 4 26 _] λ a w U=>?_)
 refine zt<|qb<|zg [η,η] [] [.adr 8 2 (.some 1) True,.v 9 _,.v 10 _,.v 11 _] [.g 0,.o 3] U (zO 0 G ay (zL 0 0 1 G aX (zv G (aI Tryz.underlying24 (aD (vq 1 G))) (zv G (bC (vq 2 G) ab) o0)))) (zz [(1,_),(11,_)] [O 2 26 _,O 4 26 _] λ a w U=>?_)
 refine aa<|aj U (zm 1 G) (λ hb0=>?_) (λ hb0=>?_)
 ·have h0:(riOf p).mag=[]:=by simpa using hb0
  exact absurd (fQ hp0) (by show ¬ 0<(riOf p).mag.length; rw [h0]; decide)
 ·refine qh<|zt<|cU (sts:=[none,none]) (news:=[⟨15,134,slH _ _,some 2,_,none⟩]) (sp:=[.v 13 _,.v 14 _,.alc 2,.adr 5 15 .none True]) [.g 0] [(5,15)] [O 2 26 _,O 4 26 _,⟨5,134,slH _ _,_⟩] U (zM 0 G (zv G (lC (vq 0 G) ab zd (qi64 zo)) (oc (dK G G G eD (vq 1 G) (vq 1 G) zo) (oc (ob_a G G lw) o0)))) zk zk zk ⟨⟨3,rfl⟩,trivial⟩ G zk (zz [(1,_)] [O 2 26 _,O 4 26 _,⟨5,134,slH _ _,_⟩] λ a w U=>?_)
  refine zt ?_
  have U:=St.rowO U hB0 (l:=List.replicate (t/32) 0) (by simp) (by simp; unfold maxLen; omega) 2 rfl
  have U:=zn [(5,_),(1,_)] [O 2 26 _,O 4 26 _] U
  refine gJ (sp:=[.v 16 _,.adr 17 2 (.some 1) True,.v 18 _,.v 19 VT,.v 5 VT]) 3 [1] 0 2 U (zM 0 rfl (zO 0 rfl ay (zL 1 0 1 rfl aX o0))) rfl zk rfl rfl zd rfl zd rfl (λ w u h k=>by have h2:=SlO.use h; exact (dI h2).2) Tryz.underlying24 e1 e2 e3 e4 e5 zd (by simp only [qc,qW]; have:(riOf p).mag.length=lz p:=rfl; omega) zd (λ T hT=>hT) zd (λ A hA=>by obtain ⟨_,_,rfl⟩:=qq.1 hA; rfl) zk nq nq zk zk (zz [(5,_),(1,_)] [O 2 26 _,O 4 26 _] λ a w U=>?_)
  refine zt<|zg [η,η] [] [.v 6 _] [.g 0,.g 1,.o 0] U (zv G (ac (aG 1 G)) o0) (zz [(5,_),(1,_),(6,_)] [O 2 26 _,O 4 26 _] λ a w U=>?_)
  refine zt<|qb<|zg [η,η] [] [.v 7 _] [.g 0,.g 1,.g 2,.o 0] U (zv G (ac ab) o0) (zz [(5,_),(1,_),(6,_),(7,_)] [O 2 26 _,O 4 26 _] λ a w U=>?_)
  refine aa<|qj ?_
  have U:=St.sel U [1,0,2,3]
  refine wp_loop_ghost (λ n a w=>∃ i:Nat,(n+i=t%32)∧St B w0 34 [(1,In (t:Nat)),(5,OwnR w0.w.heap.size U32 1 [] (NL (List.replicate (t/32) 0)++NL (riOf p).mag)),(6,(NumA .u32 (2^i:Nat)).va),(7,In (i:Nat))] [⟨2,26,ptrH,RIO (riOf p)⟩,⟨4,26,ptrH,cat [BoA false,MgO []]⟩] a w) (t%32) ?_ ?_
  ·exact ⟨0,by omega,U⟩
  intro n a w hI
  obtain ⟨i,hn,U⟩:=hI
  have hm32:=qM t (by decide:0<32)
  refine qb<|qb<|zg [η,η] [] [.v 20 _,.v 21 _,.v 22 _,.v 23 _] [.g 0,.g 1,.g 2,.g 3,.o 3] U (zM 3 G (zM 0 G (zv G (nO (vq 1 G) ab zd (nrem (y:=32))) (zv G (aS (vq 0 G) (vq 2 G)) o0)))) (zz [(1,_),(5,_),(6,_),(7,_),(23,_)] [O 2 26 _,O 4 26 _] λ a w U=>?_)
  refine aa<|aj U (zm 4 G) (λ hb1=>?_) (λ hb1=>?_)
  ·have hi:i<t%32:=by have:=qp hb1; omega
   refine qh<|zt<|qj<|zg [η,η] [] [.v 26 _,.v 27 _,.v 6 _] [.g 0,.g 1,.g 3,.o 2] U (zM 2 G (zv G (iP (aG 2 G) (vq 0 G) (wmul32 zo)) (zA 1 G o0))) (zz [(1,_),(5,_),(7,_),(6,_)] [O 2 26 _,O 4 26 _] λ a w U=>?_)
   refine ap ?_
   refine aa<|zg [η,η] [] [.v 24 _,.v 25 _,.v 7 _] [.g 0,.g 1,.g 3,.o 2] U (zM 2 G (zv G (aN (vq 0 G) ab (ba zo)) (zA 1 G o0))) (zz [(1,_),(5,_),(6,_),(7,_)] [O 2 26 _,O 4 26 _] λ a w U=>?_)
   refine aa ?_
   have U:=St.sel U [0,1,2,3]
   exact ⟨n-1,by omega,i+1,by omega,U⟩
  ·obtain rfl:i=t%32:=by have:=qr hb1; omega
   have U:=St.wkG (A':=(MgA (List.replicate (t/32) 0++(riOf p).mag)).va) U 1 rfl (by unfold NL; rw [← zF]; exact vV (okL_append.2 ⟨λ x hx=>by rw [(xY.1 hx).2]; decide,mA p⟩))
   refine qK<|am<|am<|aB<|zt<|zgd [[],[0],[],[],[2,3],[0,1,2,3,4],[0,1,2,3,4,5]] [none,some (6,_)] [] [.adr 28 2 (.some 0) True,.v 29 _,.v 30 _,.v 31 _,.v 32 _,.v 33 _,.sto 1] [] ae U (zO 0 G aV (zL 0 0 0 G ty_4 (zM 1 G (zM 2 G (zQ G (uE _ (2^(t%32)) (by simp only [qB,qW]; have:(riOf p).mag.length=lz p:=rfl; omega) (B6 (qM _ zd))) (.p (vq 2 G) (vq 3 G)) (zQ G (sU _ _) (.p (vq 1 G) (vq 4 G)) (zS 5 G ar o0))))))) zk zk zk zk (zz [] [O 2 26 _,O 4 26 _] λ a w U=>?_)
   refine aa<|qg<|ao ?_ (aA G U (zm 1 G) ar)
   exact aZ dbl_e
theorem il (X:Nat)(h:(limbs X).length≤1099511627776):Cn Tryz.prog 255 [(MgA (limbs X)).va] (MgA (limbs (X/2))).va:=by
 have:=EX (limbs X) h
 rwa [aH] at this
theorem gW {X:Nat}(h:0<X):0<(limbs X).length:=by rw [cK zo]; simp
theorem io (X:Nat)(h:0<X):Cn Tryz.prog 254 [(MgA (limbs X)).va] (Bo (((X%2:Nat):Int)==((0:Nat):Int))):=by
 have:=EZ (limbs X) (gW h)
 rwa [aH] at this
theorem uG (X Y:Nat)(h:Y≤X)(hl:(limbs X).length≤10000000000):Cn Tryz.prog 235 [(MgA (limbs X)).va,(MgA (limbs Y)).va] (MgA (limbs (X-Y))).va:=by
 have:=uF (limbs X) (limbs Y) hl (c8 h) (by rw [aH,aH]; exact h)
 rwa [aH,aH] at this
theorem sf {X:Nat}(h:(((X%2:Nat):Int)==((0:Nat):Int))=true):X%2=0:=by
 have:=beq_iff_eq.1 h
 omega
theorem C8 {X:Nat}(h:(((X%2:Nat):Int)==((0:Nat):Int))=false):X%2=1:=by
 have h2:¬ ((X%2:Nat):Int)=((0:Nat):Int):=λ e=>by rw [e] at h; simp at h
 omega
theorem ev_two {X Y:Nat}(h:((((X%2:Nat):Int)==((0:Nat):Int))&&(((Y%2:Nat):Int)==((0:Nat):Int)))=true):X%2=0∧Y%2=0:=by
 rw [ql] at h
 exact ⟨sf h.1,sf h.2⟩
theorem ev_one {X Y:Nat}(h:((((X%2:Nat):Int)==((0:Nat):Int))&&(((Y%2:Nat):Int)==((0:Nat):Int)))=false):X%2=1∨Y%2=1:=by
 rw [jb] at h
 rcases h with h | h
 ·exact .inl (C8 h)
 ·exact .inr (C8 h)
theorem s0 {X Y g:Nat}(h:Nat.gcd X Y=g)(hg:g%2=1)(hX:X%2=0):Nat.gcd (X/2) Y=g:=by
 have e:X=2*(X/2):=by omega
 apply Nat.dvd_antisymm
 ·rw [← h]
  exact Nat.dvd_gcd (kn (jd _ _) ⟨2,by omega⟩) (jz _ _)
 ·refine Nat.dvd_gcd ?_ (h▸jz _ _)
  have h1:g∣2*(X/2):=by rw [← e]; exact h▸jd _ _
  refine Nat.Coprime.dvd_of_dvd_mul_left ?_ h1
  show Nat.gcd g 2=1
  have h2:Nat.gcd g 2∣2:=jz _ _
  have h3:Nat.gcd g 2∣g:=jd _ _
  have h4:=Nat.le_of_dvd zd h2
  rcases Nat.lt_or_ge (Nat.gcd g 2) 2 with h5 | h5
  ·have:Nat.gcd g 2≠0:=by intro e0; have:=Nat.gcd_eq_zero_iff.1 e0; omega
   omega
  ·have h6:Nat.gcd g 2=2:=by omega
   rw [h6] at h3
   obtain ⟨c,hc⟩:=h3
   omega
theorem Gv {X Y:Nat}(h:X%2=1∨Y%2=1):Nat.gcd X Y%2=1:=by
 apply Decidable.byContradiction
 intro hn
 have h2:2∣Nat.gcd X Y:=Nat.dvd_of_mod_eq_zero zo
 have h3:=kn h2 (jd X Y)
 have h4:=kn h2 (jz X Y)
 omega
theorem rZ {X Y g:Nat}(h:Nat.gcd X Y=g)(hle:Y≤X):Nat.gcd (X-Y) Y=g:=by
 rw [← h,xE,xE X Y]
 have:=Nat.gcd_add_self_right (m:=Y) (n:=X-Y)
 rw [jl hle] at this
 exact this.symm
theorem sO {X t k:Nat}(hX:0<X)(h:X*2^t<4294967296^k):t≤32*k:=by
 rw [pow32] at h
 have h1:2^t≤X*2^t:=Nat.le_mul_of_pos_left _ hX
 exact zU ((Nat.pow_lt_pow_iff_right (by decide:1<2)).1 (qT h1 h))
structure Tw (P Q X Y t:Nat):Prop where
 x:0<X
 y:0<Y
 p:P=X*2^t
 q:Q=Y*2^t
theorem Tw.next {P Q X Y t:Nat}(h:Tw P Q X Y t)(hX:X%2=0)(hY:Y%2=0):Tw P Q (X/2) (Y/2) (t+1) :=
 ⟨by have:=h.x; omega,by have:=h.y; omega,by rw [h.p,qV,qP (2^t),← qU]; congr 1; omega,by rw [h.q,qV,qP (2^t),← qU]; congr 1; omega⟩
theorem Tw.xle {P Q X Y t:Nat}(h:Tw P Q X Y t):X≤P∧Y≤Q:=by
 have h1:0<2^t:=zq zd
 rw [h.p,h.q]
 exact ⟨jC _ h1,jC _ h1⟩
theorem Tw.tle {P Q X Y t:Nat}(h:Tw P Q X Y t)(hl:(limbs P).length≤1000000000):t≤32000000000:=by
 have h1:=bZ (n:=P) (qi _)
 rw [h.p] at h1
 have h2:=sO h.x h1
 rw [← h.p] at h2
 omega
theorem lenM {X M:Nat}(h:X≤M)(hM:(limbs M).length≤1000000000):(limbs X).length≤1000000000:=qe (c8 h) hM
theorem G6 {X:Nat}(h:decide (((limbs X).length:Int)>0)=true):0<X:=by
 apply Decidable.byContradiction
 intro hn
 obtain rfl:X=0:=by omega
 rw [bt] at h
 exact absurd h zd
theorem G7 {X:Nat}(h:decide (((limbs X).length:Int)>0)=false):X=0:=by
 apply Decidable.byContradiction
 intro hn
 have:=gW (X:=X) zo
 exact absurd (qr h) zo
theorem sgn_e {Y:Nat}:(RIA (rsig false (limbs Y))).va=Zi ((Y:Nat):Int):=by
 rw [bV (bi _).1 (z:=((Y:Nat):Int)) (by rw [aH]; omega) (λ hz=>by simp)]
theorem mag0 {p:Int}(h:(((riOf p).mag.length:Int)==0)=true):p=0:=by
 apply Decidable.byContradiction
 intro hn
 have h1:=fQ hn
 have h2:(riOf p).mag.length=lz p:=rfl
 simp at h
 rw [h] at h2
 simp at h2
 omega
theorem mag1 {p:Int}(h:(((riOf p).mag.length:Int)==0)=false):0<p.natAbs:=by
 apply Decidable.byContradiction
 intro hn
 obtain rfl:p=0:=by omega
 exact absurd h (by rw [show (riOf (0:Int)).mag=[] from bt]; decide)
set_option maxHeartbeats 1000000 in
theorem lM (p q:Int)(hp:lz p≤1000000000)(hq:lz q≤1000000000):Cn Tryz.prog 245 [Zi p,Zi q] (Zi ((Int.gcd p q:Nat):Int)):=by
 refine Cn.intro Tryz.func245 G zk nq (λ B w0 a U=>?_)
 have U:=zn [(0,Zi p),(1,Zi q)] [] U
 refine qb<|zg [] [⟨2,26,ptrH,some 0,_,none⟩,⟨3,26,ptrH,some 1,_,none⟩,⟨4,26,ptrH,some 2,_,none⟩] [.alc 0,.alc 1,.alc 2] [] U (zW 0 G (zW 1 G (zY G (Str.zero bn) o0))) (zz [] [O 2 26 _,O 3 26 _,O 4 26 _] λ a w U=>?_)
 refine zt<|zg [η,η,η] [] [.adr 9 2 (.some 1) True,.v 10 _,.v 5 _] [.o 2] U (zO 0 G ay (zL 0 0 1 G aX (zA 1 G o0))) (zz [(5,_)] [O 2 26 _,O 3 26 _,O 4 26 _] λ a w U=>?_)
 refine zt<|zg [η,η,η] [] [.adr 11 3 (.some 1) True,.v 12 _,.v 6 _] [.g 0,.o 2] U (zO 1 G ay (zL 0 1 1 G aX (zA 1 G o0))) (zz [(5,_),(6,_)] [O 2 26 _,O 3 26 _,O 4 26 _] λ a w U=>?_)
 refine zt<|qb<|zg [η,η,η] [] [.v 13 _,.v 14 _,.v 15 _] [.g 0,.g 1,.o 2] U (zM 0 G (zv G (aI Tryz.underlying24 (vq 0 G)) (zv G (bC (vq 1 G) ab) o0))) (zz [(5,_),(6,_),(15,_)] [O 2 26 _,O 3 26 _,O 4 26 _] λ a w U=>?_)
 refine aa<|aj U (zm 2 G) (λ hb0=>?_) (λ hb0=>?_)
 ·obtain rfl:=mag0 hb0
  refine qb<|zg [η,η,some (2,_)] [] [.v 16 _,.v 17 _,.sto 2] [.g 0,.g 1] U (zM 1 G (zQ G (bY _ _) (.cons aJ (.o (vq 0 G))) (zS 1 G ar o0))) (zz [(5,_),(6,_)] [O 2 26 _,O 3 26 _,O 4 26 _] λ a w U=>?_)
  refine aa<|qg<|al ?_
  refine ao ?_ (aA G U (zm 2 G) ar)
  exact aZ (size_e.trans (by rw [show Int.gcd 0 q=q.natAbs from Int.gcd_zero_left ..]))
 ·have hp0:=mag1 hb0
  refine qh<|zt<|qb<|zg [η,η,η] [] [.v 18 _,.v 19 _,.v 20 _] [.g 0,.g 1,.o 2] U (zM 1 G (zv G (aI Tryz.underlying24 (vq 0 G)) (zv G (bC (vq 1 G) ab) o0))) (zz [(5,_),(6,_),(20,_)] [O 2 26 _,O 3 26 _,O 4 26 _] λ a w U=>?_)
  refine aa<|aj U (zm 2 G) (λ hb1=>?_) (λ hb1=>?_)
  ·obtain rfl:=mag0 hb1
   refine qb<|zg [η,η,some (2,_)] [] [.v 21 _,.v 22 _,.sto 2] [.g 0,.g 1] U (zM 0 G (zQ G (bY _ _) (.cons aJ (.o (vq 0 G))) (zS 1 G ar o0))) (zz [(5,_),(6,_)] [O 2 26 _,O 3 26 _,O 4 26 _] λ a w U=>?_)
   refine aa<|qg<|al ?_
   refine ao ?_ (aA G U (zm 2 G) ar)
   exact aZ (size_e.trans (by rw [show Int.gcd p 0=p.natAbs from Int.gcd_zero_right ..]))
  ·have hq0:=mag1 hb1
   obtain ⟨M,hM0⟩:∃ M,M=max p.natAbs q.natAbs:=⟨_,rfl⟩
   have hPM:p.natAbs≤M:=by omega
   have hQM:q.natAbs≤M:=by omega
   have hM:(limbs M).length≤1000000000:=by
    rcases Nat.le_total p.natAbs q.natAbs with h | h
    ·rw [show M=q.natAbs by omega]; exact hq
    ·rw [show M=p.natAbs by omega]; exact hp
   refine qh<|zt<|zg [η,η,η] [] [.v 7 _] [.g 0,.g 1,.o 0] U (zv G (ac ab) o0) (zz [(5,_),(6,_),(7,_)] [O 2 26 _,O 3 26 _,O 4 26 _] λ a w U=>?_)
   refine zt<|qj ?_
   have U:=St.sel U [0,1,2]
   refine wp_loop_ghost (λ n a w=>∃ X Y t:Nat,(Tw p.natAbs q.natAbs X Y t∧n=X)∧St B w0 60 [(5,(MgA (limbs X)).va),(6,(MgA (limbs Y)).va),(7,In (t:Nat))] [⟨2,26,ptrH,RIA (riOf p)⟩,⟨3,26,ptrH,RIA (riOf q)⟩,⟨4,26,ptrH,cat [BoA false,MgA []]⟩] a w) (p.natAbs) ?_ ?_
   ·exact ⟨p.natAbs,q.natAbs,0,⟨⟨hp0,hq0,(zK _).symm,(zK _).symm⟩,rfl⟩,U⟩
   intro n a w hI
   obtain ⟨X,Y,t,⟨hT,hnX⟩,U⟩:=hI
   have htl:=hT.tle hp
   have hTx:=hT.x
   refine qb<|qb<|zg [η,η,η] [] [.v 23 _,.v 24 _,.v 25 _,.t 26 _,.t 27 _,.v 28 _] [.g 0,.g 1,.g 2,.o 5] U (zM 0 G (zQ G (io X hT.x) (.o (vq 0 G)) (zv G (ai (vq 1 G)) (zB 2 G (λ hg=>ai (gq 1 G)) (zB 2 G (λ hg=>be (io Y hT.y) (.o (ak (vq 3 G) hg))) (zv G (bA (vq 2 G) (vq 4 G)) o0)))))) (zz [(5,_),(6,_),(7,_),(28,_)] [O 2 26 _,O 3 26 _,O 4 26 _] λ a w U=>?_)
   refine aa<|aj U (zm 3 G) (λ hb2=>?_) (λ hb2=>?_)
   ·have hev:=ev_two hb2
    refine qh<|aa<|qj<|qb<|zg [η,η,η] [] [.v 29 _,.v 30 _,.v 5 _] [.g 1,.g 2,.o 2] U (zM 0 G (zQ G (il X (qe (lenM (qe hT.xle.1 hPM) hM) zd)) (.o (vq 0 G)) (zA 1 G o0))) (zz [(6,_),(7,_),(5,_)] [O 2 26 _,O 3 26 _,O 4 26 _] λ a w U=>?_)
    refine zt<|zg [η,η,η] [] [.v 31 _,.v 32 _,.v 6 _] [.g 1,.g 2,.o 2] U (zM 0 G (zQ G (il Y (qe (lenM (qe hT.xle.2 hQM) hM) zd)) (.o (vq 0 G)) (zA 1 G o0))) (zz [(7,_),(5,_),(6,_)] [O 2 26 _,O 3 26 _,O 4 26 _] λ a w U=>?_)
    refine aa<|zg [η,η,η] [] [.v 33 _,.v 34 _,.v 7 _] [.g 1,.g 2,.o 2] U (zM 0 G (zv G (aN (vq 0 G) ab (ba zo)) (zA 1 G o0))) (zz [(5,_),(6,_),(7,_)] [O 2 26 _,O 3 26 _,O 4 26 _] λ a w U=>?_)
    refine ap ?_
    refine aa ?_
    have U:=St.sel U [0,1,2]
    exact ⟨X/2,by omega,X/2,Y/2,t+1,⟨hT.next hev.1 hev.2,rfl⟩,U⟩
   ·have hgo0:=Gv (ev_one hb2)
    obtain ⟨g,hgd⟩:∃ g,Nat.gcd X Y=g:=⟨_,rfl⟩
    have hgo:g%2=1:=by rw [← hgd]; exact hgo0
    have hgp:Int.gcd p q=g*2^t:=by show Nat.gcd p.natAbs q.natAbs=_; rw [hT.p,hT.q,Nat.gcd_mul_right,hgd]
    refine qK<|am<|am<|aB<|zt<|qj ?_
    have U:=St.sel U [0,1,2]
    refine wp_loop_ghost (λ n a w=>∃ X Y:Nat,(0<Y∧X≤M∧Y≤M∧Nat.gcd X Y=g∧n=X+Y)∧St B w0 60 [(5,(MgA (limbs X)).va),(6,(MgA (limbs Y)).va),(7,In (t:Nat))] [⟨2,26,ptrH,RIA (riOf p)⟩,⟨3,26,ptrH,RIA (riOf q)⟩,⟨4,26,ptrH,cat [BoA false,MgA []]⟩] a w) (X+Y) ?_ ?_
    ·exact ⟨X,Y,⟨hT.y,qe hT.xle.1 hPM,qe hT.xle.2 hQM,hgd,rfl⟩,U⟩
    intro n a w hI
    clear hgd; obtain ⟨X,Y,⟨hY0,hXM,hYM,hg1,hn1⟩,U⟩:=hI
    obtain ⟨n1,hn2⟩:∃ n1,n1=n:=⟨n,rfl⟩
    refine qb<|qb<|zg [η,η,η] [] [.v 35 _,.v 36 _,.v 37 _] [.g 0,.g 1,.g 2,.o 2] U (zM 0 G (zv G (aI Tryz.underlying24 (vq 0 G)) (zv G (ci (vq 1 G) ab) o0))) (zz [(5,_),(6,_),(7,_),(37,_)] [O 2 26 _,O 3 26 _,O 4 26 _] λ a w U=>?_)
    refine aa<|aj U (zm 3 G) (λ hb3=>?_) (λ hb3=>?_)
    ·have hX0:=G6 hb3
     refine qh<|aa<|qj<|qb<|qj ?_
     have U:=St.sel U [0,1,2]
     refine wp_loop_ghost (λ n a w=>∃ X2:Nat,(0<X2∧X2≤X∧Nat.gcd X2 Y=g∧n=X2)∧St B w0 60 [(5,(MgA (limbs X2)).va),(6,(MgA (limbs Y)).va),(7,In (t:Nat))] [⟨2,26,ptrH,RIA (riOf p)⟩,⟨3,26,ptrH,RIA (riOf q)⟩,⟨4,26,ptrH,cat [BoA false,MgA []]⟩] a w) (X) ?_ ?_
     ·exact ⟨X,⟨hX0,qi _,hg1,rfl⟩,U⟩
     intro n a w hI
     obtain ⟨X2,⟨hX3,hX4,hg2,hn3⟩,U⟩:=hI
     have hXM2:=qe hX4 hXM
     refine qb<|qb<|zg [η,η,η] [] [.v 38 _,.v 39 _] [.g 0,.g 1,.g 2,.o 1] U (zM 0 G (zQ G (io X2 hX3) (.o (vq 0 G)) o0)) (zz [(5,_),(6,_),(7,_),(39,_)] [O 2 26 _,O 3 26 _,O 4 26 _] λ a w U=>?_)
     refine aa<|aj U (zm 3 G) (λ hb4=>?_) (λ hb4=>?_)
     ·have hev:=sf hb4
      refine qh<|aa<|qj<|zg [η,η,η] [] [.v 40 _,.v 41 _,.v 5 _] [.g 1,.g 2,.o 2] U (zM 0 G (zQ G (il X2 (qe (lenM hXM2 hM) zd)) (.o (vq 0 G)) (zA 1 G o0))) (zz [(6,_),(7,_),(5,_)] [O 2 26 _,O 3 26 _,O 4 26 _] λ a w U=>?_)
      refine ap ?_
      refine aa ?_
      have U:=St.sel U [2,0,1]
      exact ⟨X2/2,by omega,X2/2,⟨by omega,by omega,s0 hg2 hgo hev,rfl⟩,U⟩
     ·have hoX:=C8 hb4
      refine qK<|am<|am<|aB<|zt<|qj ?_
      have U:=St.sel U [0,1,2]
      refine wp_loop_ghost (λ n a w=>∃ Y2:Nat,(0<Y2∧Y2≤Y∧Nat.gcd X2 Y2=g∧n=Y2)∧St B w0 60 [(5,(MgA (limbs X2)).va),(6,(MgA (limbs Y2)).va),(7,In (t:Nat))] [⟨2,26,ptrH,RIA (riOf p)⟩,⟨3,26,ptrH,RIA (riOf q)⟩,⟨4,26,ptrH,cat [BoA false,MgA []]⟩] a w) (Y) ?_ ?_
      ·exact ⟨Y,⟨hY0,qi _,hg2,rfl⟩,U⟩
      intro n a w hI
      obtain ⟨Y2,⟨hY3,hY4,hg3,hn4⟩,U⟩:=hI
      have hYM2:=qe hY4 hYM
      refine qb<|qb<|zg [η,η,η] [] [.v 42 _,.v 43 _] [.g 0,.g 1,.g 2,.o 1] U (zM 1 G (zQ G (io Y2 hY3) (.o (vq 0 G)) o0)) (zz [(5,_),(6,_),(7,_),(43,_)] [O 2 26 _,O 3 26 _,O 4 26 _] λ a w U=>?_)
      refine aa<|aj U (zm 3 G) (λ hb5=>?_) (λ hb5=>?_)
      ·have hev:=sf hb5
       refine qh<|aa<|qj<|zg [η,η,η] [] [.v 44 _,.v 45 _,.v 6 _] [.g 0,.g 2,.o 2] U (zM 1 G (zQ G (il Y2 (qe (lenM hYM2 hM) zd)) (.o (vq 0 G)) (zA 1 G o0))) (zz [(5,_),(7,_),(6,_)] [O 2 26 _,O 3 26 _,O 4 26 _] λ a w U=>?_)
       refine ap ?_
       refine aa ?_
       have U:=St.sel U [0,2,1]
       exact ⟨Y2/2,by omega,Y2/2,⟨by omega,by omega,by rw [xE]; exact s0 (by rw [xE]; exact hg3) hgo hev,rfl⟩,U⟩
      ·have hoY:=C8 hb5
       refine qK<|am<|am<|aB<|zt<|qb<|zg [η,η,η] [] [.v 46 _,.v 47 _,.v 48 _,.v 49 _] [.g 0,.g 1,.g 2,.o 3] U (zM 0 G (zM 1 G (zQ G (nN _ _) (.p (vq 0 G) (vq 1 G)) (zv G (aS (vq 2 G) ab) o0)))) (zz [(5,_),(6,_),(7,_),(49,_)] [O 2 26 _,O 3 26 _,O 4 26 _] λ a w U=>?_)
       refine aa<|aj U (zm 3 G) (λ hb6=>?_) (λ hb6=>?_)
       ·have hcm:X2<Y2:=cm_lt0.1 (qp hb6)
        refine qb<|zg [η,η,η] [] [.v 50 _,.v 8 _] [.g 0,.g 1,.g 2,.o 1] U (zM 0 G (zA 0 G o0)) (zz [(5,_),(6,_),(7,_),(8,_)] [O 2 26 _,O 3 26 _,O 4 26 _] λ a w U=>?_)
        refine zt<|zg [η,η,η] [] [.v 51 _,.v 5 _] [.g 1,.g 2,.g 3,.o 1] U (zM 1 G (zA 0 G o0)) (zz [(6,_),(7,_),(8,_),(5,_)] [O 2 26 _,O 3 26 _,O 4 26 _] λ a w U=>?_)
        refine aa<|zg [η,η,η] [] [.v 52 _,.v 6 _] [.g 1,.g 3,.o 1] U (zM 2 G (zA 0 G o0)) (zz [(7,_),(5,_),(6,_)] [O 2 26 _,O 3 26 _,O 4 26 _] λ a w U=>?_)
        refine aa<|zg [η,η,η] [] [.v 53 _,.v 54 _,.v 55 _,.v 5 _] [.g 0,.g 2,.o 3] U (zM 1 G (zM 2 G (zQ G (uG Y2 X2 (zU hcm) (qe (lenM hYM2 hM) zd)) (.p (vq 0 G) (vq 1 G)) (zA 2 G o0)))) (zz [(7,_),(6,_),(5,_)] [O 2 26 _,O 3 26 _,O 4 26 _] λ a w U=>?_)
        refine ap ?_
        refine aa ?_
        have U:=St.sel U [2,1,0]
        exact ⟨Y2-X2+X2,by omega,Y2-X2,X2,⟨hX3,by omega,hXM2,rZ (by rw [xE]; exact hg3) (zU hcm),rfl⟩,U⟩
       ·have hcm:Y2≤X2:=kb λ h=>qr hb6 (cm_lt0.2 h)
        refine qh<|aa<|zg [η,η,η] [] [.v 53 _,.v 54 _,.v 55 _,.v 5 _] [.g 1,.g 2,.o 3] U (zM 0 G (zM 1 G (zQ G (uG X2 Y2 hcm (qe (lenM hXM2 hM) zd)) (.p (vq 0 G) (vq 1 G)) (zA 2 G o0)))) (zz [(6,_),(7,_),(5,_)] [O 2 26 _,O 3 26 _,O 4 26 _] λ a w U=>?_)
        refine ap ?_
        refine aa ?_
        have U:=St.sel U [2,0,1]
        exact ⟨X2-Y2+Y2,by omega,X2-Y2,Y2,⟨hY3,by omega,hYM2,rZ hg3 hcm,rfl⟩,U⟩
    ·obtain rfl:=G7 hb3
     rw [Nat.gcd_zero_left] at hg1
     refine qK<|am<|am<|aB<|zt<|zg [η,η,some (4,_)] [] [.v 56 _,.v 57 _,.v 58 _,.v 59 _,.sto 2] [] U (zM 1 G (zQ G ((bY false (limbs Y)).post sgn_e) (.cons aJ (.o (vq 0 G))) (zM 2 G (zQ G ((uQ ((Y:Nat):Int) t zo (lenM hYM hM) zo).wkp gN) (.p (vq 1 G) (vq 2 G)) (zS 3 G ar o0))))) (zz [] [O 2 26 _,O 3 26 _,O 4 26 _] λ a w U=>?_)
     refine aa<|qg<|ao ?_ (aA G U (zm 2 G) ar)
     exact aZ (qm Zi (by rw [hgp,← hg1]; push_cast; rfl))
def ElO (T:TypeId)(A:As):VA where
 p B v w:=∃ b cs,v=ptr b∧b<B∧w.heap[b]?=some (.cells (List.toArray cs) T (0,0))∧A.p B cs w
 deps:=A.deps
 cg:=λ B v w w' hg ⟨b,cs,h1,h2,h3,h4⟩=>⟨b,cs,h1,h2,hg.heap h3,A.cg _ _ _ _ hg h4⟩
 wr:=λ B v w w' g c T' fz q1 q2 q3 q4 ⟨b,cs,h1,h2,h3,h4⟩=>⟨b,cs,h1,h2,by rw [q4.block b zo]; exact h3,A.wr _ _ _ _ _ _ _ _ q1 q2 q3 q4 h4⟩
theorem Ca {A:As}:Wk (ElO T A) (ElP T A):=λ B v w ⟨b,cs,h1,h2,h3,h4⟩ =>
 ⟨b,0,cs,h1,(Array.getElem?_eq_some_iff.1 h3).1,.inl h2,h4,λ j u hu=>by
  have:=gf (k:=0) h3 cs.length j u (by rw [z9,qF]; exact hu)
  exact this⟩
def AllG (a:Act)(w:World):List (Nat × VA)→Prop
 | []=>True
 | x::l=>x.2.p w.heap.size (a.eval (.tmp x.1)) w∧AllG a w l
theorem AllG.mem {a:Act}{w:World}:∀ {l:List (Nat × VA)},AllG a w l→∀ x∈l,x.2.p w.heap.size (a.eval (.tmp x.1)) w
 | y::l,h,x,hx=>by
  rcases qt.1 hx with rfl | hx
  ·exact h.1
  ·exact AllG.mem h.2 x hx
section
variable {P:Program} {B N:Nat} {w0:Bs} {Γ:List (Nat × VA)} {Λ:List Lc} {a:Act} {w:World}
theorem St.bw (h:St B w0 N Γ Λ a w):B≤w.heap.size:=qe (h.lo _ (.inl (qi _))) h.base.size
theorem lY {fn:Func}{R R':Ending→World→Prop}{e:Exit}(h:bPost P fn R e a w)(k:∀ v w',R (.returned v) w'→R' (.returned v) w'):bPost P fn R' e a w:=by
 cases e with
 | normal =>
  obtain ⟨Ds,e,nd,hD,hr⟩:=h
  exact ⟨Ds,e,nd,hD,λ w' hs=>by obtain ⟨v,h1,h2⟩:=hr w' hs; exact ⟨v,h1,k v w' h2⟩⟩
 | ret =>
  obtain ⟨Ds,e,nd,hD,hr⟩:=h
  exact ⟨Ds,e,nd,hD,λ w' hs=>by obtain ⟨v,h1,h2⟩:=hr w' hs; exact ⟨v,h1,k v w' h2⟩⟩
 | _=>exact h.elim
theorem ground {fn:Func}{c:Code}{b:Bool}(Γ':List (Nat × VA))(h:St B w0 N Γ Λ a w)(hnd:w0.nd=true)(hΓ:AllG a w Γ')
  (k:∀ (B:Nat) (w1:Bs) (w:World),w1.nd=true→(∀ g,¬ w1.F g)→B=w1.w.heap.size→St B w1 N Γ' [] a w→Exit.then (λ a w=>c.wp P (bPost P fn (RQ B w1 (Bo b))) a w) (bPost P fn (RQ B w1 (Bo b))) .normal a w) :
  Exit.then (λ a w=>c.wp P (bPost P fn (RQ B w0 (Bo b))) a w) (bPost P fn (RQ B w0 (Bo b))) .normal a w:=by
 have h1:=k w.heap.size ⟨w,λ _=>False,true⟩ w rfl (λ _ h=>h) rfl ⟨λ g hg=>hg.resolve_right λ h=>h,DefOk.nil (h.defers.none hnd),h.size,Kept.refl _,hΓ.mem,(λ l hl=>by cases hl),(λ l hl=>by cases hl)⟩
 refine wp_mono (c:=c) (show c.wp P _ a w from h1) λ e a' w' hp=>lY hp ?_
 rintro v w2 ⟨u,hu,hp,hk⟩
 exact ⟨u,hu,hp,h.base.grow ⟨hk.os,hk.tape,hk.output,hk.size,λ k hlt=>hk.block k hlt (λ h=>h)⟩⟩
end
section
variable {P:Program} {Q:Exit→Act→World→Prop} {B N:Nat} {w0:Bs} {Γ:List (Nat × VA)} {Λ:List Lc} {a:Act} {w:World} {ops:Array Oper}
theorem BG {id m:Nat}(hsz:ops.size=m+1)(h:wpOp P ops Q 0 (wpOps P ops Q (List.range' 1 m)) a w):(Code.region id ops false).wp P Q a w:=by
 refine wp_region ?_
 rw [List.range_eq_range',hsz,List.range'_succ,qA]
 exact h
theorem BA {sp:List Sp}{d0 m:Nat}{A0:VA}(src:List Src)(h:St B w0 N ((d0,A0)::Γ) Λ a w)(h0:sp[0]?=some (.v d0 A0))(hsz:ops.size=m+1)
  (hob:Obs P Q ⟨ops,N,Γ,les0 Λ,sp,λ i=>List.range i⟩ B w0 1 m) (hk:Rg.chk ⟨ops,N,Γ,les0 Λ,sp,λ i=>List.range i⟩=true) (hsrc:src.all (okS ⟨ops,N,Γ,les0 Λ,sp,λ i=>List.range i⟩)=true)
  (hQ:∀ a w,St B w0 N (src.filterMap (takeS ⟨ops,N,Γ,les0 Λ,sp,λ i=>List.range i⟩)) Λ a w→Q .normal a w):wpOps P ops Q (List.range' 1 m) a w:=by
 have e:m=ops.size-1:=by omega
 subst e
 exact Gn src h h0 zo hob hk hsrc hQ
end
theorem wx {w1:Bs}{Ts:List TypeId}(hB:B=w1.w.heap.size):∀ E,Ts.contains E=true→RowMay w1 B E:=λ E _ w g c fz _ h _=>.inl (hB▸h)
section
open Rg
variable {P:Program} {Q:Exit→Act→World→Prop} {R:Rg} {B i:Nat} {w0:Bs}
end
section
variable {P:Program} {R:Rg} {Q:Exit→Act→World→Prop} {B i:Nat} {w0:Bs}
end
theorem kbl_app {l m:KL}:kbl (l++m)=kbl l++kbl m:=kI ..
theorem D7 {x:RI}(h:(RIN x).p B cs w):okL x.mag:=by
 obtain ⟨ps,rfl,hp⟩:=h
 cases hp with
 | cons h1 hp=>cases hp with
  | cons h2 hp=>exact h2.1
abbrev OkK (l:KL):Prop:=∀ p∈l,okL p.2
theorem FB {l m:KL}(h:OkK l)(k:OkK m):OkK (l++m):=λ p hp=>by
 rcases qo.1 hp with hp | hp
 ·exact h p hp
 ·exact k p hp
abbrev LnK (l:KL):Prop:=∀ p∈l,p.2.length≤2000000000000
theorem G4 {l m:KL}(h:LnK l)(k:LnK m):LnK (l++m):=λ p hp=>by
 rcases qo.1 hp with hp | hp
 ·exact h p hp
 ·exact k p hp
theorem okK_f {x:RF}{m1 m2:Value}(h1:okL x.num.mag)(h2:okL x.den.mag):OkK (kf x m1 m2):=λ p hp=>by
 simp only [qt,z5,or_false] at hp
 rcases hp with rfl | rfl
 ·exact h1
 ·exact h2
theorem lnK_f {x:RF}{m1 m2:Value}(h:bdF x):LnK (kf x m1 m2):=λ p hp=>by
 simp only [qt,z5,or_false] at hp
 rcases hp with rfl | rfl
 ·exact qe h.1 zd
 ·exact qe h.2 zd
theorem FA {l:KL}(h:OkK l)(k:LnK l):∀ p∈l,okL p.2∧p.2.length≤2000000000000:=λ p hp=>⟨h p hp,k p hp⟩
theorem lU {x:RF}(h:(RFN x).p B cs w):∃ m1 m2,(FracP x m1 m2).p B cs w∧cbl cs=kbl (kf x m1 m2)∧OkK (kf x m1 m2):=by
 obtain ⟨ps,rfl,hp⟩:=h
 cases hp with
 | @cons _ c1 _ _ h1 hp=>cases hp with
  | @cons _ c2 _ _ h2 hp =>
   cases hp
   obtain ⟨m1,p1,e1⟩:=o7 h1
   obtain ⟨m2,p2,e2⟩:=o7 h2
   refine ⟨m1,m2,⟨[c1,c2],rfl,.cons p1 (.cons p2 .nil)⟩,?_,okK_f (D7 h1) (D7 h2)⟩
   have:([c1,c2]:List (List Value)).flatten=c1++c2:=by simp
   rw [this,li,e1,e2]
   exact kbl_app.symm
def nm4 (a b c d:Value):Nat→Value
 | 0=>a
 | 1=>b
 | 2=>c
 | _=>d
theorem lX:bdF rf0:=⟨zc _,zc _⟩
theorem bd_of {q:Rat}(h:¬ longQ q=true):bdF (rfOf q):=by
 have h':longQ q=false:=by cases hq:longQ q with
  | true=>exact absurd hq h
  | false=>rfl
 unfold longQ at h'
 simp only [kr,List.any_nil,kz,qI] at h'
 have h1:=qr h'.1
 have h2:=qr h'.2
 refine ⟨?_,?_⟩
 ·show (riOf q.num).mag.length≤_
  omega
 ·show (riOf (q.den:Int)).mag.length≤_
  omega
def p4 (m:MQ)(j:Nat):Rat:=[m.a,m.b,m.c,m.d].getD j 0
def mulQ (m q:MQ):MQ:=⟨m.a*q.a+m.b*q.c,m.a*q.b+m.b*q.d,m.c*q.a+m.d*q.c,m.c*q.b+m.d*q.d⟩
theorem sub_self {A:As}:Sub A 0 A:=λ B cs w h=>by
 have hl:=A.len B cs w h
 refine ⟨?_,by omega⟩
 rw [z9,qD zo]
 exact h
def bQ (k:Nat)(r:Rat):Prop:=lz r.num≤k∧lz (r.den:Int)≤k
theorem bQ_mul {c d:Nat}{x y:Rat}(hx:bQ c x)(hy:bQ d y):bQ (c+d) (x*y):=by
 obtain ⟨x1,x2⟩:=hx
 obtain ⟨y1,y2⟩:=hy
 rw [← oY]
 obtain ⟨h1,h2⟩:=ft (p:=x.num*y.num) (q:=(x.den:Int)*(y.den:Int)) (den_nz x y)
 have h4:=fR x.num y.num
 have h6:=fR x.den y.den
 exact ⟨by omega,by omega⟩
theorem nd_eq (x:Rat):x=(x.num:Rat)/((x.den:Int):Rat):=by rw [← xZ]; exact (jY x).symm
theorem den_ne (x:Rat):((x.den:Int):Rat)≠0:=by
 have:=x.den_nz
 intro h
 exact this (by exact_mod_cast h)
section
variable {P:Program} {R:Rg} {Q:Exit→Act→World→Prop} {B i:Nat} {w0:Bs}
end
def EqA (v:Value):As where
 n:=1
 ag:=false
 p _ cs _:=cs=[v]∧v.oneCell'=true
 deps:=[]
 len:=by rintro B cs w ⟨rfl,_⟩; rfl
 one:=by rintro B cs w ⟨rfl,h⟩ c hc; simp at hc; subst hc; exact h
 ag1:=λ _=>rfl
 cg:=λ _ _ _ _ _ h=>h
 wr:=λ _ _ _ _ _ _ _ _ _ _ _ _ h=>h
theorem rf (h:v.oneCell'=true):(EqA v).va.p B v w:=⟨[v],⟨rfl,h⟩,rfl⟩
theorem gX {v u:Value}(h:(EqA v).va.p B u w):u=v:=by
 obtain ⟨cs,⟨rfl,_⟩,h2⟩:=h
 exact h2
theorem St.nm {B N:Nat}(h:St B w0 N Γ Λ a w){s T:Nat}{A:As}(k:Nat)(hm:Λ[k]?=some ⟨s,T,ptrH,A⟩):∃ g,St B w0 N ((s,EqV (ptr g))::Γ) Λ a w:=by
 obtain ⟨g,cs,e,_⟩:=h.locs _ (qa hm)
 refine ⟨g,h.lo,h.defers,h.size,h.base,λ x hx=>?_,h.locs,h.dis⟩
 rcases qt.1 hx with rfl | hx
 ·exact e
 ·exact h.vals x hx
section
variable {P:Program} {R:Rg} {Q:Exit→Act→World→Prop} {B i:Nat} {w0:Bs}
theorem GE {xs:List Operand}{vs:List Value}(hx:HasL R B w0 i xs (vs.map EqV))(av:R.Av B w0 i a w):xs.map a.eval=vs:=by
 induction vs generalizing xs with
 | nil=>cases hx; rfl
 | cons v vs ih =>
  cases hx with
  | cons h1 h2 =>
   rw [qN,ih h2]
   have:_=v:=h1 a w av
   rw [this]
theorem r_mkE {f:FuncId}{xs:List Operand}{vs:List Value}(hx:HasL R B w0 i xs (vs.map EqV)):Wv P Q R B w0 i (.makeFunc (.func f) #[] xs.toArray) (EqA (.func (.func f) #[] vs.toArray)).va :=
 bj λ _ _ _ _ _ a w av=>by
  have e:=GE hx av
  refine ⟨.func (.func f) #[] vs.toArray,w,?_,Grow.refl w,rf rfl⟩
  simp [execOp,Instr.makeFunc,e]
end
structure RE where
 k:Int
 p:RF
 q:RF
 deriving DecidableEq
def REA (x:RE):As:=cat [NumA .u8 x.k,RFA x.p,RFA x.q]
def QEA (c:Nat)(k:Int)(p q:Rat):As:=cat [NumA .u8 k,QA c p,QA c q]
theorem eR:Str Tryz.prog 98 [NumA .u8 0,RFA rf0,RFA rf0] :=
 Str.of (z:=.agg #[.int .u8 0,.bool false,.slice none 0 0,.bool false,.slice none 0 0,.bool false,.slice none 0 0,.bool false,.slice none 0 0]) zk Tryz.underlying98 zk λ B w=>⟨[[.int .u8 0],[.bool false,.slice none 0 0,.bool false,.slice none 0 0],[.bool false,.slice none 0 0,.bool false,.slice none 0 0]],rfl,.cons rfl (.cons (dX B w) (.cons (dX B w) .nil))⟩
end Go.Proofs.YtedfcalhhldijaaGreatDoor
