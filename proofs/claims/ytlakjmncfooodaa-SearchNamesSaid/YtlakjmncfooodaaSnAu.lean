import Derived.Test.YtlakjmncfooodaaSnAt
set_option linter.all false
set_option maxRecDepth 100000
namespace Go.Proofs.Ytlakjmncfooodaa
open Go Go.RowKit
variable {w:World}{B:Nat}{a:Act}{v:Value}{T:TypeId}{w0:Bs}{Γ:List (Nat × VA)}{Λ:List Lc}{ps:String}{af:Array Edge}{vr:Value}{H:Hd}{cs:List Value}{w':World}{P:Program}{D:List TypeId}
def ElO (T:TypeId)(A:As):VA where
 p B v w:=∃ b cs,v=ptr b∧b<B∧w.heap[b]?=some (.cells (List.toArray cs) T (0,0))∧A.p B cs w
 deps:=A.deps
 cg:=λ B v w w' hg ⟨b,cs,h1,h2,h3,h4⟩=>⟨b,cs,h1,h2,hg.heap h3,A.cg _ _ _ _ hg h4⟩
 wr:=λ B v w w' g c T' fz q1 q2 q3 q4 ⟨b,cs,h1,h2,h3,h4⟩=>⟨b,cs,h1,h2,by rw [q4.block b zo]; exact h3,A.wr _ _ _ _ _ _ _ _ q1 q2 q3 q4 h4⟩
theorem il {A:As}:Wk (ElO T A) (ElP T A):=λ B v w ⟨b,cs,h1,h2,h3,h4⟩ =>
 ⟨b,0,cs,h1,(Array.getElem?_eq_some_iff.1 h3).1,.inl h2,h4,λ j u hu=>by
  have:=ee (k:=0) h3 cs.length j u (by rw [xl,qN]; exact hu)
  exact this⟩
theorem fu {A A':As}(h:WkA A A'):Wk (ElO T A) (ElO T A'):=λ B v w ⟨b,cs,h1,h2,h3,h4⟩=>⟨b,cs,h1,h2,h3,h.2.2 _ _ _ h4⟩
def AllG (a:Act)(w:World):List (Nat × VA)→Prop
 | []=>True
 | x::l=>x.2.p w.heap.size (a.eval (.tmp x.1)) w∧AllG a w l
theorem AllG.mem {a:Act}{w:World}:∀ {l:List (Nat × VA)},AllG a w l→∀ x∈l,x.2.p w.heap.size (a.eval (.tmp x.1)) w
 | y::l,h,x,hx=>by
  rcases ql.1 hx with rfl | hx
  ·exact h.1
  ·exact AllG.mem h.2 x hx
section
variable {P:Program} {B N:Nat} {w0:Bs} {Γ:List (Nat × VA)} {Λ:List Lc} {a:Act} {w:World}
theorem St.bw (h:St B w0 N Γ Λ a w):B≤w.heap.size:=qe (h.lo _ (.inl (qf _))) h.base.size
theorem aZ {s:Nat}{A A':VA}(h:St B w0 N Γ Λ a w)(k:Nat)(hm:Γ[k]?=some (s,A))(hu:Up A A'):A'.p w.heap.size (a.eval (.tmp s)) w:=hu _ _ _ h.bw (h.vals _ (qa hm))
theorem ia {s:Nat}{A A':As}(h:St B w0 N Γ Λ a w)(k:Nat)(hm:Λ[k]?=some ⟨s,T,ptrH,A⟩)(hu:UpA A A'):(ElO T A').p w.heap.size (a.eval (.tmp s)) w:=by
 obtain ⟨g,cs,q1,q2,q3,q4⟩:=h.locs _ (qa hm)
 exact ⟨g,cs,q1,(Array.getElem?_eq_some_iff.1 q3).1,q3,hu.2.2 _ _ _ h.bw q4⟩
theorem bPost_mono {fn:Func}{R R':Ending→World→Prop}{e:Exit}(h:bPost P fn R e a w)(k:∀ v w',R (.returned v) w'→R' (.returned v) w'):bPost P fn R' e a w:=by
 cases e with
 | normal =>
  obtain ⟨Ds,e,nd,hD,hr⟩:=h
  exact ⟨Ds,e,nd,hD,λ w' hs=>by obtain ⟨v,h1,h2⟩:=hr w' hs; exact ⟨v,h1,k v w' h2⟩⟩
 | ret =>
  obtain ⟨Ds,e,nd,hD,hr⟩:=h
  exact ⟨Ds,e,nd,hD,λ w' hs=>by obtain ⟨v,h1,h2⟩:=hr w' hs; exact ⟨v,h1,k v w' h2⟩⟩
 | _=>exact h.elim
theorem ground {fn:Func}{c:Code}{b:Bool}(Γ':List (Nat × VA))(h:St B w0 N Γ Λ a w)(hnd:w0.nd=true)(hΓ:AllG a w Γ')
  (k:∀ (B:Nat) (w1:Bs) (w:World),w1.nd=true→(∀ g,¬ w1.F g)→B=w1.w.heap.size→St B w1 N Γ' [] a w→Exit.then (λ a w=>c.wp P (bPost P fn (RQ B w1 (Bo b))) a w) (bPost P fn (RQ B w1 (Bo b))) .normal a w) :
  Exit.then (λ a w=>c.wp P (bPost P fn (RQ B w0 (Bo b))) a w) (bPost P fn (RQ B w0 (Bo b))) .normal a w:=by
 have h1:=k w.heap.size ⟨w,λ _=>False,true⟩ w rfl (λ _ h=>h) rfl ⟨λ g hg=>hg.resolve_right λ h=>h,DefOk.nil (h.defers.none hnd),h.size,Kept.refl _,hΓ.mem,(λ l hl=>by cases hl),(λ l hl=>by cases hl)⟩
 refine wp_mono (c:=c) (show c.wp P _ a w from h1) λ e a' w' hp=>bPost_mono hp ?_
 rintro v w2 ⟨u,hu,hp,hk⟩
 exact ⟨u,hu,hp,h.base.grow ⟨hk.os,hk.tape,hk.output,hk.size,λ k hlt=>hk.block k hlt (λ h=>h)⟩⟩
end
theorem Cn.introD {f : FuncId} {fn : Func} {c : Code} {pre : List VA} {post : VA} (hf : P.funcs[f]? = some fn) (hb : fn.body = some c) (hn : (fn.name == "runtime.NumGoroutine") = false) (hsz : pre.length ≤ fn.ntmps)
  (h:∀ (B:Nat) (w0:Bs) (a:Act),(∀ g,¬ w0.F g)→w0.nd=true→NoF w0→St B w0 fn.ntmps (argΓ pre) [] a w0.w→c.wp P (bPost P fn (RQ B w0 post)) a w0.w):Cn P f pre post:=by
 refine ⟨⟨fn,hf,hn,by rw [hb]; rfl⟩,λ B w args hB ha=>(bz hf hb (h B ⟨w,λ _=>False,true⟩ _ (λ _ h=>h) G (λ _ h=>h.elim) ?_)).mono λ _ _ ⟨v,he,hv,hk⟩=>⟨v,he,hv,⟨hk.os,hk.tape,hk.output,hk.size,λ k hlt=>hk.block k hlt λ h=>h⟩⟩⟩
 have hl:=ha.length
 refine ⟨λ g hg=>qe hB (hg.resolve_right λ h=>h),DefOk.nil rfl,?_,Kept.refl _,All2.args ha,(λ l hl=>by cases hl),(λ l hl=>by cases hl)⟩
 simp only [zu,zr,qz]
 omega
section
open Rg
variable {P:Program} {Q:Exit→Act→World→Prop} {B N:Nat} {w0:Bs} {Γ:List (Nat × VA)} {Λ:List Lc} {a:Act} {w:World} {ops:Array Oper} {i:Nat} {K:Act→World→Prop}
theorem op_idxC {d u:Nat}{S E:TypeId}{T':TypeId}{g n c k m:Nat}{kd:IntKind}(ku:Nat)(ho:ops[i]?=some ⟨some d,.indexAddr S (.tmp u) (.const (.int kd (k:Int))),T',ps,af,none⟩)(h:St B w0 N Γ Λ a w)(hS:Sl P S E m)(hm:m≠0)
  (hu:Γ[ku]?=some (u,EqV (.slice (some ⟨g,0,none⟩) n c))) (hk:k<n) (hd:d<N) (hΓ:Γ.all (λ x=>x.1 != d)=true) (hΛ:Λ.all (λ l=>l.s != d)=true)
  (hK:∀ a',St B w0 N ((d,EqV (.pointer (some ⟨g,k*m,none⟩)))::Γ) Λ a' w→K a' w):wpOp P ops Q i K a w:=by
 have h3:a.eval (.tmp u)=.slice (some ⟨g,0,none⟩) n c:=h.vals _ (qa hu)
 have e:a.eval (.const (.int kd (k:Int)))=.int kd k:=rfl
 obtain ⟨hs1,hs2⟩:=hS
 refine fi (A:=EqV (.pointer (some ⟨g,k*m,none⟩))) ho h hd hΓ hΛ ?_ G (hK _)
 cases hi:P.info? E with
 | none=>rw [hi] at hs2; simp at hs2
 | some it =>
  rw [hi] at hs2
  have hsz:it.size=m:=by simpa using hs2
  by_cases h0:k=0
  ·subst h0; have e2:a.eval (.const (.int kd 0))=.int kd 0:=rfl; simp [execOp,h3,e2,Instr.indexAt,asIntOf,run_underlying hs1,hk,sizeOf,typeInfo,hi,Addr.add]
  ·have:k*m≠0:=j9 h0 hm
   simp [execOp,h3,e,Instr.indexAt,asIntOf,run_underlying hs1,hk,sizeOf,typeInfo,hi,hsz,Addr.add,h0,hm]
   try exact this
theorem op_stoC {p g k sx:Nat}{E ty T T':TypeId}{A0 A1:As}(src:List Nat)(kp e:Nat)(ho:ops[i]?=some ⟨none,.store ty (.tmp p) (.const v),T',ps,af,none⟩)(h:St B w0 N Γ Λ a w)
  (hp:Γ[kp]?=some (p,EqV (.pointer (some ⟨g,k,none⟩)))) (hv1:v.oneCell'=true) (hvc:v.cells = #[v]) (ht:Ty P ty 1 false) (hl:Λ[e]?=some ⟨sx,T,H,A0⟩) (hTE:(T != E)=true) (hrm:RowMay w0 B E)
  (hsrc:src.all (λ k=>match Γ[k]? with | some y => !y.2.deps.contains E | none=>false)=true) (hΛ:Λ.zipIdx.all (λ x=>x.2==e || (x.1.T != E && !x.1.A.deps.contains E))=true)
  (htr:∀ cs,A0.p B cs w→B≤g∧∃ c:Array Value,w.heap[g]?=some (.cells c E (0,0))∧k<c.size∧A1.p B cs (w.setRow g (c.setIfInBounds k v)))
  (hK:∀ w',St B w0 N (src.filterMap λ k=>Γ[k]?) (Λ.set e ⟨sx,T,H,A1⟩) a w'→K (a.put none undef) w'):wpOp P ops Q i K a w:=by
 have e1:a.eval (.tmp p)=.pointer (some ⟨g,k,none⟩):=h.vals _ (qa hp)
 have e2:a.eval (.const v)=v:=rfl
 obtain ⟨g0,cs0,q1,q2,q3,q4⟩:=h.locs _ (qa hl)
 obtain ⟨hB,c,hc,hkc,_⟩:=htr cs0 q4
 have hrun:=bh ht w g k E c v [v] hvc rfl zo (by simpa using hv1) hc
 have e3:(c.toList.take k++[v]++c.toList.drop (k+1)).toArray=c.setIfInBounds k v:=by
  apply Array.ext'
  rw [jl,zG,qy (by simpa using hkc)]
  simp
 rw [e3] at hrun
 unfold wpOp
 simp only [ho,Region.wanted,if_true]
 refine .inl (wp_skip' (w':=w.setRow g (c.setIfInBounds k v)) ?_ (hK _ (h.turn src e grown_set (λ g' e=>?_) hrm hl hTE hsrc hΛ λ cs hp=>?_)))
 ·simp [execOp,e1,e2,Instr.storeAt,Instr.sureAddr,hrun]
 ·injection e with e
  subst e
  exact ⟨hB,_,_,hc⟩
 ·obtain ⟨_,c',hc',_,h5⟩:=htr cs hp
  rw [hc] at hc'
  injection hc' with hc'
  injection hc' with hc'
  subst hc'
  exact h5
end
theorem Put.hd {A A' A1:As}{l:List As}{k:Nat}(h:Put A k A' A1):Put (cat (A::l)) k A' (cat (A1::l)):=by
 intro B cs c w hcs hc
 obtain ⟨ps,rfl,h2⟩:=hcs
 cases h2 with
 | @cons _ c0 _ bs hh ht =>
  obtain ⟨h3,h4⟩:=h B c0 c w hh hc
  have lc:=A'.len _ _ _ hc
  refine ⟨by simp; omega,splice c0 k c::bs,?_,.cons h4 ht⟩
  simp only [splice,za]
  rw [zE zo,zV zo]
  simp [qM]
theorem Put.tl {A0 A':As}{l l':List As}{k:Nat}(h:Put (cat l) k A' (cat l')):Put (cat (A0::l)) (A0.n+k) A' (cat (A0::l')):=by
 intro B cs c w hcs hc
 obtain ⟨ps,rfl,h2⟩:=hcs
 cases h2 with
 | @cons _ c0 _ bs hh ht =>
  obtain ⟨h3,qs,h4,h5⟩:=h B bs.flatten c w ⟨bs,rfl,ht⟩ hc
  have lc:=A'.len _ _ _ hc
  have l0:=A0.len _ _ _ hh
  refine ⟨by rw [za,qE]; omega,c0::qs,?_,.cons hh h5⟩
  simp only [splice,za] at h4 ⊢
  rw [← h4,j3,qA zo,j6,q6 zo]
  have e1:A0.n+k-c0.length=k:=by omega
  have e2:A0.n+k+c.length-c0.length=k+c.length:=by omega
  rw [e1,e2]
  simp [qM]
theorem put_set {A A1:As}{k:Nat}{A':As}{x:Value}(h:Put A k A' A1)(hp:A.p B cs w)(hx:A'.p B [x] w):k<cs.length∧A1.p B (cs.set k x) w:=by
 obtain ⟨h1,h2⟩:=h B cs [x] w hp hx
 have l1:=A'.len _ _ _ hx
 have hk:k<cs.length:=by simp at l1; omega
 refine ⟨hk,?_⟩
 rw [zG,qy hk]
 simpa [splice] using h2
theorem cat_ex {α:Type}{A':α→As}{w:World}{B:Nat}{f:Nat}{A:As}:∀ {L:List As} {f:Nat} {cs:List Value},L[f]?=some A→(∀ c,A.p B c w→∃ x,(A' x).p B c w)→(cat L).p B cs w→∃ x,(cat (L.set f (A' x))).p B cs w
 | [],f,cs,hf,_,_=>by simp at hf
 | A0::L,0,cs,hf,hi,h=>by
  obtain ⟨ps,rfl,h⟩:=h
  cases h with
  | cons h1 h2 =>
   simp at hf
   subst hf
   obtain ⟨x,hx⟩:=hi _ h1
   exact ⟨x,_,rfl,.cons hx h2⟩
 | A0::L,f+1,cs,hf,hi,h=>by
  obtain ⟨ps,rfl,h⟩:=h
  cases h with
  | @cons _ c0 _ bs h1 h2 =>
   obtain ⟨x,qs,e,hq⟩:=cat_ex (L:=L) (f:=f) (cs:=bs.flatten) (by simpa using hf) hi ⟨bs,rfl,h2⟩
   exact ⟨x,c0::qs,by simp [e],.cons h1 hq⟩
theorem iw {w w':World}{B:Nat}{A A1:As}:∀ {L:List As} {f:Nat} {cs:List Value},L[f]?=some A→(∀ c,A.p B c w→A1.p B c w')→(∀ X∈L.eraseIdx f,∀ c,X.p B c w→X.p B c w')→(cat L).p B cs w→(cat (L.set f A1)).p B cs w'
 | [],f,cs,hf,_,_,_=>by simp at hf
 | A0::L,0,cs,hf,hi,ho,h=>by
  obtain ⟨ps,rfl,h⟩:=h
  cases h with
  | @cons _ c0 _ bs h1 h2 =>
   simp at hf
   subst hf
   refine ⟨c0::bs,rfl,.cons (hi _ h1) ?_⟩
   clear h1 hi
   induction h2 with
   | nil=>exact .nil
   | cons h _ ih=>exact .cons (ho _ (by simp) _ h) (ih λ X hX=>ho X (by simp at hX ⊢; exact .inr hX))
 | A0::L,f+1,cs,hf,hi,ho,h=>by
  obtain ⟨ps,rfl,h⟩:=h
  cases h with
  | @cons _ c0 _ bs h1 h2 =>
   obtain ⟨qs,e,hq⟩:=iw (L:=L) (f:=f) (cs:=bs.flatten) (by simpa using hf) hi (λ X hX=>ho X (by simp; exact .inr hX)) ⟨bs,rfl,h2⟩
   exact ⟨c0::qs,by simp [e],.cons (ho A0 (by simp) _ h1) hq⟩
theorem cat_at {A:As}{L:List As}{f:Nat}(hf:L[f]?=some A)(h:(cat L).p B cs w):∃ c,A.p B c w:=by
 obtain ⟨ps,rfl,h⟩:=h
 induction h generalizing f with
 | nil=>simp at hf
 | @cons A0 c0 L bs h1 h2 ih =>
  cases f with
  | zero=>simp at hf; subst hf; exact ⟨_,h1⟩
  | succ f=>exact ih (by simpa using hf)
def OwY (E:TypeId)(m:Nat)(D:List TypeId)(l:List As)(v:Value)(ds:List Value):As where
 n:=1
 ag:=false
 p B cs w:=cs=[v]∧v.oneCell'=true∧(∀ A∈l,A.n=m)∧(∀ A∈l,∀ T∈A.deps,T∈D)∧(cat l).p B ds w∧w.ownsRow B E m v l.length ds
 deps:=E::D
 len:=by rintro B cs w ⟨rfl,_⟩; rfl
 one:=by
  rintro B cs w ⟨rfl,h,_⟩ c hc
  obtain rfl:=qr.1 hc
  exact h
 ag1:=λ _=>rfl
 cg:=by
  rintro B cs w w' hg ⟨rfl,h0,h1,h2,h3,h4,h5⟩
  refine ⟨rfl,h0,h1,h2,(cat l).cg _ _ _ _ hg h3,h4,?_⟩
  rcases h5 with h5 | ⟨g,cap,cur,e1,e2,e3,e4⟩
  ·exact .inl h5
  ·exact .inr ⟨g,cap,cur,e1,e2,hg.heap e3,e4⟩
 wr:=by
  rintro B cs w w' g c T fz hgc hT hB hW ⟨rfl,h0,h1,h2,h3,h4,h5⟩
  simp only [ql,not_or] at hT
  refine ⟨rfl,h0,h1,h2,(cat l).wr _ _ _ _ _ _ _ _ hgc (eG h2 hT.2) hB hW h3,h4,?_⟩
  rcases h5 with h5 | ⟨g0,cap,cur,e1,e2,e3,e4⟩
  ·exact .inl h5
  ·refine .inr ⟨g0,cap,cur,e1,e2,?_,e4⟩
   have hne:g0≠g:=by
    rintro rfl
    rw [hgc] at e3
    injection e3 with e3
    injection e3 with _ e3 _
    exact hT.1 e3
   rw [hW.block g0 hne]
   exact e3
def OwX (E:TypeId)(m:Nat)(D:List TypeId)(l:List As)(v u:Value):As where
 n:=1
 ag:=false
 p B cs w:=cs=[v]∧v.oneCell'=true∧(OwnR B E m D l).p B u w
 deps:=E::D
 len:=by rintro B cs w ⟨rfl,_⟩; rfl
 one:=by
  rintro B cs w ⟨rfl,h,_⟩ c hc
  obtain rfl:=qr.1 hc
  exact h
 ag1:=λ _=>rfl
 cg:=λ B cs w w' hg ⟨h1,h2,h3⟩=>⟨h1,h2,(OwnR B E m D l).cg _ _ _ _ hg h3⟩
 wr:=λ B cs w w' g c T fz q1 q2 q3 q4 ⟨h1,h2,h3⟩=>⟨h1,h2,(OwnR B E m D l).wr _ _ _ _ _ _ _ _ q1 q2 q3 q4 h3⟩
theorem gp {B E m n:Nat}{xs:List Value}(h:w.ownsRow B E m v n xs):v.oneCell'=true∧v.cells = #[v]:=by
 rcases h.2 with ⟨rfl,_⟩ | ⟨g,cap,cur,rfl,_⟩ <;> exact ⟨rfl,rfl⟩
theorem ownC_y {E:TypeId}{m:Nat}{l:List As}{c:List Value}(h:(OwnC E m D l).p B c w):∃ x:Value × List Value,(OwY E m D l x.1 x.2).p B c w:=by
 obtain ⟨v,rfl,h1,h2,ds,h3,h4⟩:=h
 exact ⟨(v,ds),rfl,(gp h4).1,h1,h2,h3,h4⟩
theorem owY_eq {E:TypeId}{m:Nat}{l:List As}{ds:List Value}:Wk (OwY E m D l v ds).va (EqV v):=λ B u w ⟨cs,⟨h1,_⟩,h2⟩=>by subst h1; exact h2
section
variable {B N:Nat} {w0:Bs} {Γ:List (Nat × VA)} {Λ:List Lc} {a:Act} {w:World}
theorem St.exL {α:Type}(h:St B w0 N Γ Λ a w){s:Nat}{A:As}(A':α→As)(k:Nat)(hm:Λ[k]?=some ⟨s,T,H,A⟩)(hi:∀ cs,A.p B cs w→∃ x,(A' x).p B cs w):∃ x,St B w0 N Γ (Λ.set k ⟨s,T,H,A' x⟩) a w:=by
 obtain ⟨hk,he⟩:=List.getElem?_eq_some_iff.1 hm
 have hin:(⟨s,T,H,A⟩:Lc)∈Λ:=qa hm
 obtain ⟨g,cs,h1,h2,h3,h4⟩:=h.locs _ hin
 obtain ⟨x,hx⟩:=hi cs h4
 have hset:∀ l∈Λ.set k ⟨s,T,H,A' x⟩,l=⟨s,T,H,A' x⟩∨l∈Λ:=λ l hl=>(qI hl).symm
 have hd:∀ l∈Λ.set k ⟨s,T,H,A' x⟩,∃ l'∈Λ,l'.s=l.s:=λ l hl=>by
  rcases hset l hl with rfl | hl
  ·exact ⟨_,hin,rfl⟩
  ·exact ⟨l,hl,rfl⟩
 refine ⟨x,h.lo,h.defers,h.size,h.base,h.vals,λ l hl=>?_,λ l hl m hm' hne=>?_⟩
 ·rcases hset l hl with rfl | hl
  ·exact ⟨g,cs,h1,h2,h3,hx⟩
  ·exact h.locs l hl
 ·obtain ⟨l',hl',e1⟩:=hd l hl
  obtain ⟨m',hm'',e2⟩:=hd m hm'
  have:=h.dis l' hl' m' hm'' (by rw [e1,e2]; exact hne)
  rw [e1,e2] at this
  exact this
theorem St.wkB (h:St B w0 N Γ Λ a w){s:Nat}{A A':As}(k:Nat)(hm:Λ[k]?=some ⟨s,T,H,A⟩)(hi:∀ cs,A.p B cs w→A'.p B cs w):St B w0 N Γ (Λ.set k ⟨s,T,H,A'⟩) a w:=by
 obtain ⟨_,h⟩:=St.exL h (λ _:Unit=>A') k hm λ cs hp=>⟨(),hi cs hp⟩
 exact h
theorem St.nameF (h:St B w0 N Γ Λ a w){s:Nat}{L:List As}{E:TypeId}{m:Nat}{l:List As}(k f:Nat)(hm:Λ[k]?=some ⟨s,T,H,cat L⟩)(hf:L[f]?=some (OwnC E m D l)):
  ∃ x:Value × List Value,St B w0 N Γ (Λ.set k ⟨s,T,H,cat (L.set f (OwY E m D l x.1 x.2))⟩) a w :=
 St.exL h (λ x:Value × List Value=>cat (L.set f (OwY E m D l x.1 x.2))) k hm λ cs hp=>cat_ex (A':=λ x:Value × List Value=>OwY E m D l x.1 x.2) (f:=0) hf (λ c hc=>ownC_y hc) hp
theorem St.knowF (h:St B w0 N Γ Λ a w){s:Nat}{L:List As}{E:TypeId}{m:Nat}{l:List As}{ds:List Value}(k f:Nat)(hm:Λ[k]?=some ⟨s,T,H,cat L⟩)(hf:L[f]?=some (OwY E m D l v ds)):
  w.ownsRow B E m v l.length ds:=by
 obtain ⟨g,cs,_,_,_,hp⟩:=h.locs _ (qa hm)
 obtain ⟨c,hc⟩:=cat_at hf hp
 exact hc.2.2.2.2.2
end
theorem row_sl {B E m n:Nat}{xs:List Value}(h:w.ownsRow B E m v n xs)(hn:0<n):∃ g c,v=.slice (some ⟨g,0,none⟩) n c:=by
 rcases h.2 with ⟨_,h⟩ | ⟨g,cap,cur,rfl,_⟩
 ·omega
 ·exact ⟨g,cap,rfl⟩
theorem sto_fld {L:List As}{f:Nat}{E:TypeId}{m:Nat}{l l':List As}{v x:Value}{ds cs:List Value}{g n c k B:Nat}{X:As}(hp:(cat L).p B cs w)(hf:L[f]?=some (OwY E m D l v ds))(hv:v=.slice (some ⟨g,0,none⟩) n c)
  (hL:(L.eraseIdx f).all (λ X => !X.deps.contains E)=true) (hE:E ∉ D) (hput:Put (cat l) k X (cat l')) (hx:∀ w,X.p B [x] w) (hl:l'.length=l.length) (h1:∀ A∈l',A.n=m) (h2:∀ A∈l',∀ T∈A.deps,T∈D) :
  B≤g∧∃ c:Array Value,w.heap[g]?=some (.cells c E (0,0))∧k<c.size∧(cat (L.set f (OwnC E m D l'))).p B cs (w.setRow g (c.setIfInBounds k x)):=by
 obtain ⟨c0,hc0⟩:=cat_at hf hp
 obtain ⟨_,_,_,_,hds,hown⟩:=hc0
 obtain ⟨hk,hn⟩:=put_set hput hds (hx w)
 have hlen:=hown.1
 rcases hown.2 with ⟨e,_⟩ | ⟨g',cap,cur,e,e2,e3,e4,e5,e6,e7⟩
 ·rw [hv] at e; cases e
 ·rw [hv] at e
  injection e with e _ e8
  injection e with e
  injection e with e
  subst e e8
  have hW:=Wr.setRow w g (cur.setIfInBounds k x)
  have hle:l.length*m≤c*m:=qU m e4
  have hEl:E ∉ (cat l').deps:=eG h2 hE
  refine ⟨e2,cur,e3,by omega,iw hf (λ c1 hc1=>?_) (λ X hX c1 hc1=>?_) hp⟩
  ·obtain ⟨rfl,hv1,_⟩:=hc1
   refine ⟨v,rfl,h1,h2,ds.set k x,(cat l').wr _ _ _ _ _ _ _ _ e3 hEl e2 hW hn,by rw [xv,hl]; exact hlen,.inr ⟨g,c,_,by rw [hl]; rw [hv]; congr 1,e2,setRow_heap w g _ _ _ _ e3,by rw [hl]; exact e4,e5,by simpa using e6,?_⟩⟩
   rw [hl,jl,List.take_set,e7]
  ·have:=qc.1 hL X hX
   exact X.wr _ _ _ _ _ _ _ _ e3 (by simpa using this) e2 hW hc1
section
open Rg
variable {P:Program} {Q:Exit→Act→World→Prop} {B N:Nat} {w0:Bs} {Γ:List (Nat × VA)} {Λ:List Lc} {a:Act} {w:World} {ops:Array Oper} {i:Nat} {K:Act→World→Prop}
theorem op_appF {d s u sx f:Nat}{S E T1 T:TypeId}{L:List As}{X:As}{ds:List Value}{m bytes:Nat}{D D':List TypeId}{l:List As}{it:TypeInfo}{z:Value}(src:List Nat)(ks ku e:Nat)
  (ho:ops[i]?=some ⟨some d,.call ⟨.builtin .append,#[.tmp s,.tmp u],#[S,S]⟩,T1,ps,af,none⟩) (h:St B w0 N Γ Λ a w)
  (hs:Γ[ks]?=some (s,EqV v)) (hu:Γ[ku]?=some (u,(SlA E D' [X]).va)) (hXn:X.n=m) (hXd:∀ T∈X.deps,T∈D) (hl:Λ[e]?=some ⟨sx,T,H,cat L⟩) (hf:L[f]?=some (OwY E m D l v ds)) (hL:(L.eraseIdx f).all (λ X => !X.deps.contains E)=true) (hE:E ∉ D) (hTE:(T != E)=true) (hrm:RowMay w0 B E)
  (hS:P.underlying S=some (.slice E)) (hi:P.info? E=some it) (hz:it.zero=some z) (hsz1:it.size=m) (hby:it.bytes=bytes) (hzs:z.cells.size=m) (hm0:0<m) (hn:(l.length+1)*bytes≤140737488355328) (hn2:l.length≤1000000000000000)
  (hd:d<N) (hΓ:Γ.all (λ x=>x.1 != d)=true) (hΛd:Λ.all (λ l=>l.s != d)=true)
  (hsrc:src.all (λ k=>match Γ[k]? with | some y => !y.2.deps.contains E | none=>false)=true) (hΛ:Λ.zipIdx.all (λ x=>x.2==e || (x.1.T != E && !x.1.A.deps.contains E))=true)
  (hK:∀ v' w',v'.oneCell'=true→v'.cells = #[v']→St B w0 N ((d,EqV v')::src.filterMap λ k=>Γ[k]?) (Λ.set e ⟨sx,T,H,cat (L.set f (OwX E m D (l++[X]) v v'))⟩) (a.put (some d) v') w'→K (a.put (some d) v') w'):wpOp P ops Q i K a w:=by
 have hown:=h.knowF e f hl hf
 refine op_appS (n:=l.length) (A1:=λ v'=>cat (L.set f (OwX E m D (l++[X]) v v'))) (F:=λ ds'=>X.p B ds' w) src ks ku e ho h hs hu (λ _ h=>h) hXn hl hTE hrm hS hi hz hsz1 hby hzs hm0 hn hn2 hd hΓ hΛd hsrc hΛ (xs:=ds) (λ cs hp=>⟨hown,λ v' w' ds' hF hown' hg hcase=>iw hf (λ c hc=>?_) (λ Y hY c hc=>?_) hp⟩) (λ v' w' U=>?_)
 ·have hro:RowOk w B E v.ownBlock:=gn hown
  obtain ⟨rfl,hv1,q1,q2,q3,q4⟩:=hc
  refine ⟨rfl,hv1,λ A hA=>?_,λ A hA=>?_,ds++ds',cat_app (As.grown q3 hg hro (qf B) (eG q2 hE)) (by have:=As.grown hF hg hro (qf B) (λ hh=>hE (hXd _ hh)); exact ⟨[ds'],by simp,.cons this .nil⟩),by simpa using hown'⟩
  ·rcases qj.1 hA with hA | hA
   ·exact q1 A hA
   ·rw [qr.1 hA]; exact hXn
  ·rcases qj.1 hA with hA | hA
   ·exact q2 A hA
   ·rw [qr.1 hA]; exact hXd
 ·have:=qc.1 hL Y hY
  exact As.grown hc hg (gn hown) (qf B) (by simpa using this)
 ·have hLc:=List.getElem?_eq_some_iff.1 hl
  obtain ⟨g,cs,_,_,_,hp⟩:=U.locs ⟨sx,T,H,cat (L.set f (OwX E m D (l++[X]) v v'))⟩ (qa (i:=e) (by rw [List.getElem?_set_self hLc.1]))
  have hfl:=(List.getElem?_eq_some_iff.1 hf).1
  obtain ⟨c,hc⟩:=cat_at (f:=f) (A:=OwX E m D (l++[X]) v v') (by rw [List.getElem?_set_self hfl]) hp
  obtain ⟨_,_,_,_,_,_,hcc⟩:=hc
  exact hK v' w' (gp hcc).1 (gp hcc).2 U
end
theorem fld_own {L:List As}{f:Nat}{E:TypeId}{m:Nat}{l:List As}{v u:Value}{k B:Nat}(hf:L[f]?=some (OwX E m D l v u))(hk:offs L f=k)(hp:(cat L).p B cs w):k<cs.length∧(cat (L.set f (OwnC E m D l))).p B (cs.set k u) w:=by
 obtain ⟨c,hc⟩:=cat_at hf hp
 exact put_set (A':=OwnC E m D l) (Put.part f hf G hk) hp ⟨u,rfl,hc.2.2⟩
def OwG (b:Nat)(E:TypeId)(m:Nat)(D:List TypeId)(l:List As):As where
 n:=1
 ag:=false
 p B cs w:=∃ v,cs=[v]∧(OwnR b E m D l).p B v w
 deps:=E::D
 len:=by rintro B cs w ⟨v,rfl,_⟩; rfl
 one:=by
  rintro B cs w ⟨v,rfl,_,_,ds,_,h⟩ c hc
  obtain rfl:=qr.1 hc
  exact (gp h).1
 ag1:=λ _=>rfl
 cg:=λ B cs w w' hg ⟨v,h1,h3⟩=>⟨v,h1,(OwnR b E m D l).cg _ _ _ _ hg h3⟩
 wr:=λ B cs w w' g c T fz q1 q2 q3 q4 ⟨v,h1,h3⟩=>⟨v,h1,(OwnR b E m D l).wr _ _ _ _ _ _ _ _ q1 q2 q3 q4 h3⟩
theorem newR_owG {b:Nat}{E:TypeId}{m:Nat}{l:List As}(h1:∀ A∈l,A.n=m)(h2:∀ A∈l,∀ T∈A.deps,T∈D)(h3:l.length≤1000):Wk (NewR b E l) (OwG b E m D l).va:=λ B v w h=>by
 have:=newR_own (m:=m) (D:=D) h1 h2 h3 B v w h
 exact ⟨[v],⟨v,rfl,this⟩,rfl⟩
theorem owG_c {b B:Nat}(hb:B≤b){E:TypeId}{m:Nat}{l:List As}{c:List Value}(h:(OwG b E m D l).p B c w):(OwnC E m D l).p B c w:=by
 obtain ⟨v,rfl,h1,h2,ds,h3,h4,h5⟩:=h
 refine ⟨v,rfl,h1,h2,ds,h3,h4,?_⟩
 rcases h5 with h5 | ⟨g,cap,cur,e1,e2,e3⟩
 ·exact .inl h5
 ·exact .inr ⟨g,cap,cur,e1,qe hb e2,e3⟩
theorem St.bt {B N:Nat}(h:St B w0 N Γ Λ a w):B≤w0.w.heap.size:=h.lo _ (.inl (qf _))
def TkN (t:RTk):As:=cat [OwnC 27 4 [U32] (t.sp.map RFA),OwnC 52 11 [U32] (t.ps.map PtA),RFA t.tg]
theorem ownC_A {E:TypeId}{m:Nat}{l:List As}:WkA (OwnC E m D l) (SlA E D l):=⟨rfl,rfl,λ B cs w h=>by
 obtain ⟨cs',h1,h2⟩:=ownC_sl B (shape false cs) w ⟨cs,h,rfl⟩
 have l1:=(OwnC E m D l).len _ _ _ h
 have l2:=(SlA E D l).len _ _ _ h1
 match cs,cs',l1,l2 with
 | [c],[c'],_,_ =>
  have e:c=c':=h2
  subst e
  exact h1⟩
theorem tkN_A {t:RTk}:WkA (TkN t) (TkA t):=bc (.cons ownC_A (.cons ownC_A (.cons (.refl _) .nil)))
theorem UpA.wk {A A1 A2:As}(h:WkA A A1)(h2:UpA A1 A2):UpA A A2:=⟨h2.1.trans h.1,h2.2.1.trans h.2.1,λ B cs w hB hp=>h2.2.2 B cs w hB (h.2.2 B cs w hp)⟩
theorem upA_tkN (t:RTk):UpA (TkN t) (TkO t):=UpA.wk tkN_A (cp t)
theorem twoN_c {n:Int}(h1 : -9223372036854775808≤n)(h2:n<9223372036854775808):Cn Try.prog 5 [In n] ((TkN (twoT n)).va):=by
 refine Cn.intro Try.func5 G zk nq (λ B w0 a U=>?_)
 have U:=zn [(0,In n)] [] U
 refine qb<|zg [] [⟨2,36,ptrH,some 0,_,none⟩] [.alc 0] [.g 0] U (zY G (Str.zero c5) o0) (zz [(0,_)] [O 2 36 _] λ a w U=>?_)
 refine zt<|zg [some (10,_)] [] [.v 3 _,.v 4 _,.v 5 _,.v 6 _,.v 7 _,.v 8 _,.v 9 _,.v 10 _,.v 11 _,.v 12 _,.sto 0] [] U (zQ rfl (aR (n:=0) zd zd) (.cons a5 .nil) (zQ rfl (aR (n:=1) zd zd) (.cons a5 .nil) (zQ rfl (aR (n:=0) zd zd) (.cons a5 .nil) (zv rfl (gk (l:=[_,_,_]) (xs:=[.tmp 3,.tmp 4,.tmp 5]) dF zk (n_ok zk) nq nq nq (.cons (vq 0 rfl) (.p (vq 1 rfl) (vq 2 rfl))) rfl rfl) (zv rfl (aW (xs:=[.const (.string ⟨#[97]⟩),.const (.int .i64 1),.const (.int .i64 5)]) (dU ⟨#[97]⟩ (p:=1) (c:=5) zd zd) (.cons fp (.cons a5 (.cons a5 .nil)))) (zv rfl (aW (xs:=[.const (.string ⟨#[98]⟩),.const (.int .i64 2),.const (.int .i64 3)]) (dU ⟨#[98]⟩ (p:=2) (c:=3) zd zd) (.cons fp (.cons a5 (.cons a5 .nil)))) (zv rfl (gk (l:=[_,_]) (xs:=[.tmp 7,.tmp 8]) i6 zk (n_ok zk) nq nq nq (.p (vq 4 rfl) (vq 5 rfl)) rfl rfl) (zM 0 rfl (zQ rfl (aR h1 h2) (.o (vq 7 rfl)) (zv rfl (aO (qs:=[(0,OwG w0.w.heap.size 27 4 [U32] [RFA (frI 0),RFA (frI 1),RFA (frI 0)]),(1,OwG w0.w.heap.size 52 11 [U32] [PtA (lnT ⟨#[97]⟩ 1 5),PtA (lnT ⟨#[98]⟩ 2 3)]),(2,RFA (frI n))]) c5 (.cons ⟨rfl,(has_wk' (vq 3 rfl) (newR_owG (λ A hA=>by simp at hA; rcases hA with rfl | rfl | rfl <;> rfl) (bN zk) nq)),rfl⟩ (.cons ⟨rfl,(has_wk' (vq 6 rfl) (newR_owG (λ A hA=>by simp at hA; rcases hA with rfl | rfl <;> rfl) (bN zk) nq)),rfl⟩ (.cons ⟨rfl,vq 8 rfl,rfl⟩ .nil)))) (zS 9 rfl bG o0))))))))))) (zz [] [O 2 36 _] λ a w U=>?_)
 have U:=St.wkB (A':=TkN (twoT n)) U 0 rfl (λ cs hp=>iw (f:=1) (A:=OwG w0.w.heap.size 52 11 [U32] [PtA (lnT ⟨#[97]⟩ 1 5),PtA (lnT ⟨#[98]⟩ 2 3)]) rfl (λ c h=>owG_c U.bt h) (λ _ _ _ h=>h) (iw (f:=0) (A:=OwG w0.w.heap.size 27 4 [U32] [RFA (frI 0),RFA (frI 1),RFA (frI 0)]) rfl (λ c h=>owG_c U.bt h) (λ _ _ _ h=>h) hp))
 have U:=zn [] [O 2 36 _] U
 refine a4<|qh<|an ?_ (ax G U (zm 0 G) bG)
 exact aC
end Go.Proofs.Ytlakjmncfooodaa
