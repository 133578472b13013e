import Derived.Test.YtlakjmncfooodaaSnAl
import Derived.Test.YtlakjmncfooodaaSnAm
import Derived.Test.YtlakjmncfooodaaSnAn
import Derived.Deep.DeepAppendRoom
import Derived.Maps.Own
import Derived.Maps.OwnSet
import Derived.Maps.Views
import Derived.Carry
import Derived.StringKeys
set_option linter.all false
set_option maxRecDepth 100000
namespace Go.Proofs.Ytlakjmncfooodaa
open Go Go.RowKit
variable {w:World}{B:Nat}{a:Act}{v:Value}{T:TypeId}{w0:Bs}{Γ:List (Nat × VA)}{Λ:List Lc}{ps:String}{af:Array Edge}{vr:Value}{H:Hd}{cs:List Value}{w':World}{P:Program}{D:List TypeId}
section
open Rg
variable {P:Program} {Q:Exit→Act→World→Prop} {B N:Nat} {w0:Bs} {Γ:List (Nat × VA)} {Λ:List Lc} {a:Act} {w:World}
theorem iN {R:Rg}{n:Nat}(hles:∀ l'∈Λ,∃ st,(⟨l'.s,l'.T,l'.H,none,l'.A,st⟩:Le)∈R.les)(hles2:∀ y∈R.les,∀ i A,y.st=some (i,A)→n≤i)(hinv:R.Inv B w0 (λ k=>decide (k<n)) a w)(src:List Src)
  (hsrc:src.all (λ s=>match s with | .g k=>(match R.Γ[k]? with | some x=>Rg.outG R x.1 | none=>false) | .o i=>decide (i<n))=true):St B w0 R.N (src.filterMap (takeS R)) Λ a w:=by
 have hcl:∀ deps,Rg.clash R (λ k=>decide (k<n)) deps=false:=λ deps=>by
  unfold Rg.clash
  rw [xE]
  intro y hy
  cases U:y.st with
  | none=>simp
  | some x =>
   obtain ⟨i,B'⟩:=x
   have:=hles2 y hy i B' U
   have hno:¬ i<n:=by omega
   simp [hno]
 have hcur:∀ y∈R.les,y.cr=none→Rg.cur (λ k=>decide (k<n)) y=some y.A0:=λ y hy h0=>by
  unfold Rg.cur
  rw [h0]
  simp only [Rg.crOk,if_true]
  cases U:y.st with
  | none=>rfl
  | some x =>
   obtain ⟨i,B'⟩:=x
   have:=hles2 y hy i B' U
   have hno:¬ i<n:=by omega
   simp [hno]
 refine ⟨hinv.lo,hinv.defers,hinv.size,hinv.base,λ x hx=>?_,λ l' hl'=>?_,λ l1 h1 l2 h2 hne=>?_⟩
 rotate_left
 ·obtain ⟨st,hy⟩:=hles l' hl'
  exact hinv.c _ hy l'.A (hcur _ hy G)
 ·obtain ⟨s1,hy1⟩:=hles l1 h1
  obtain ⟨s2,hy2⟩:=hles l2 h2
  exact hinv.x _ hy1 _ hy2 hne (by rw [hcur _ hy1 rfl]; rfl) (by rw [hcur _ hy2 rfl]; rfl)
 obtain ⟨s,hs1,hs2⟩:=qW.1 hx
 have ho:=qc.1 hsrc s hs1
 cases s with
 | g k =>
  simp only [takeS] at hs2
  simp only [hs2] at ho
  refine hinv.g x (qa hs2) (λ q hq hdq=>?_) (hcl _)
  cases h2:R.ops[q]? with
  | none=>unfold Rg.dst at hdq; rw [h2] at hdq; cases hdq
  | some v =>
   have:=qc.1 ho q (by simpa using (Array.getElem?_eq_some_iff.1 h2).1)
   exact absurd hdq (by simpa using this)
 | o i =>
  simp only [takeS] at hs2
  cases hy:R.sp[i]? with
  | none=>rw [hy] at hs2; cases hs2
  | some y =>
   rw [hy] at hs2
   exact hinv.v i y x.1 x.2 hy hs2 ho (hcl _)
theorem run_app1 (w:World)(base:Nat)(t ty e:TypeId)(i:TypeInfo)(z:Value)(size bytes:Nat)(ht:P.underlying t=some (.slice e))(hi:P.info? e=some i)(hz:i.zero=some z)
  (hsize:i.size=size) (hby:i.bytes=bytes) (hzs:z.cells.size=size) (hsz:0<size) (v:Value) (n:Nat) (xs:List Value) (hown:w.ownsRow base e size v n xs)
  (a:Addr) (c:Nat) (news:List Value) (hl:news.length=1*size) (hnews:∀ j u,news[j]?=some u→w.cell? (a.add j)=some u) (h1:∀ u∈news,u.oneCell'=true)
  (h63:n+1≤maxLen) (hbytes:(n+1)*bytes≤140737488355328) (hbase:base≤w.heap.size) :
  ∃ v' w',(Builtin.append_ #[t,t] ty #[v,.slice (some a) 1 c]).run P w=.ok v' w'∧w'.ownsRow base e size v' (n+1) (xs++news)∧w.grownBy w' v.ownBlock∧(v'.ownBlock=v.ownBlock∨(v'.ownBlock=some w.heap.size∧w.grownBy w' none)):=by
 obtain ⟨v',w',hr,r1,r2,_,r3⟩:=run_append_own_at (P:=P) w base t ty e i z size bytes ht hi hz hsize hby hzs hsz v n xs hown a 1 c news hl hnews h1 h63 hbytes hbase
 refine ⟨v',w',hr,r1,r2,?_⟩
 rcases r3 with r3 | r3
 ·exact .inl r3
 ·have hcases:=hown.2
  rcases hcases with ⟨rfl,_⟩ | ⟨g,cap,cur,rfl,hbg,hg,hnc,hcm,hcs,htake⟩
  ·exact .inr ⟨r3,r2⟩
  ·by_cases hroom:n+1≤cap
   ·obtain ⟨w2,hr2,_⟩:=run_append_own_spare (P:=P) w base t ty e i size ht hi hsize g n cap xs hown a 1 c news hl hnews h1 hroom
    rw [hr2] at hr
    injection hr with hr
    subst hr
    exact .inl rfl
   ·subst hsize
    have holds:∀ j u,xs[j]?=some u→w.cell? ((⟨g,0,none⟩:Addr).add j)=some u:=hown.cells (g:=g) rfl
    have hr2:=run_append_grow (P:=P) w t ty e i z ht hi hz ⟨g,0,none⟩ n cap xs hown.1 holds a 1 c news hl hnews zo (by unfold maxLen at h63; omega) (growslice_fits zo (by rw [hby]; exact hbytes))
    rw [hr2] at hr
    injection hr with hr hr'
    subst hr'
    exact .inr ⟨r3,rfl,rfl,rfl,by simp,λ k hk _=>by first | exact Go.heap_alloc_old w.drew _ k hk | exact heap_alloc_old w.drew _ hk⟩
theorem eR {id:Nat}{ops:Array Oper}{sp:List Sp}(anc:List (List Nat))(n m e j:Nat)(A:As)(src:List Src)(hmx:P.follows .mixedOrders=true)
  (h:St B w0 N Γ Λ a w) (hob:Obs P Q ⟨ops,N,Γ,lesS Λ e j A,sp,λ i=>anc.getD i []⟩ B w0 0 n) (hsz:ops.size=n+m) (hm:0<m) (hj:n≤j) (hanc:Rg.ancOk ⟨ops,N,Γ,lesS Λ e j A,sp,λ i=>anc.getD i []⟩=true) (hall:∀ i,n≤i→i<n+m→∀ j,j<i→(anc.getD i []).contains j=true) (hk:Rg.chk ⟨ops,N,Γ,lesS Λ e j A,sp,λ i=>anc.getD i []⟩=true)
  (hsrc:src.all (λ s=>match s with | .g k=>(match Γ[k]? with | some x=>Rg.outG ⟨ops,N,Γ,lesS Λ e j A,sp,λ i=>anc.getD i []⟩ x.1 | none=>false) | .o i=>decide (i<n))=true)
  (hQ:∀ a' w',St B w0 N (src.filterMap (takeS ⟨ops,N,Γ,lesS Λ e j A,sp,λ i=>anc.getD i []⟩)) Λ a' w'→wpOps P ops Q (List.range' n m) a' w'):(Code.region id ops true).wp P Q a w:=by
 refine Rg.drawK (R:=⟨ops,N,Γ,lesS Λ e j A,sp,λ i=>anc.getD i []⟩) (m:=m) hsz hm hmx hanc hk h (λ y hy _=>?_) (λ i hi=>hob.all i zo zo) (λ i h1 h2 j hj=>hall i h1 h2 j hj) λ a1 w1 hinv=>?_
 ·exact (dK y hy).2.1
 ·exact hQ a1 w1 (iN (λ l' hl'=>by
   obtain ⟨j',hj'⟩:=List.getElem?_of_mem hl'
   exact ⟨_,qo.2 ⟨(l',j'),qZ.2 hj',rfl⟩⟩) (λ y hy i B' h1=>by have:=(dK y hy).2.2 i B' h1; omega) hinv src hsrc)
theorem eA {id:Nat}{ops:Array Oper}{sp:List Sp}(n m e j:Nat)(A:As)(src:List Src)
  (h:St B w0 N Γ Λ a w) (hob:Obs P Q ⟨ops,N,Γ,lesS Λ e j A,sp,λ i=>List.range i⟩ B w0 0 n) (hsz:ops.size=n+m) (hj:n≤j) (hk:Rg.chk ⟨ops,N,Γ,lesS Λ e j A,sp,λ i=>List.range i⟩=true)
  (hsrc:src.all (λ s=>match s with | .g k=>(match Γ[k]? with | some x=>Rg.outG ⟨ops,N,Γ,lesS Λ e j A,sp,λ i=>List.range i⟩ x.1 | none=>false) | .o i=>decide (i<n))=true)
  (hQ:∀ a' w',St B w0 N (src.filterMap (takeS ⟨ops,N,Γ,lesS Λ e j A,sp,λ i=>List.range i⟩)) Λ a' w'→wpOps P ops Q (List.range' n m) a' w'):(Code.region id ops false).wp P Q a w:=by
 refine Rg.linK (R:=⟨ops,N,Γ,lesS Λ e j A,sp,λ i=>List.range i⟩) (m:=m) hsz G hk h (λ y hy _=>?_) (λ i hi=>hob.all i zo zo) λ a1 w1 hinv=>?_
 ·exact (dK y hy).2.1
 ·exact hQ a1 w1 (iN (λ l' hl'=>by
   obtain ⟨j',hj'⟩:=List.getElem?_of_mem hl'
   exact ⟨_,qo.2 ⟨(l',j'),qZ.2 hj',rfl⟩⟩) (λ y hy i B' h1=>by have:=(dK y hy).2.2 i B' h1; omega) hinv src hsrc)
theorem St.addV {d:Nat}{A:VA}(h:St B w0 N Γ Λ a w)(hd:d<N)(hΓ:Γ.all (λ x=>x.1 != d)=true)(hΛ:Λ.all (λ l=>l.s != d)=true)(hA:A.p B v w):St B w0 N ((d,A)::Γ) Λ (a.put (some d) v) w:=by
 have hdsz:d<a.tmps.size:=by rw [h.size]; exact hd
 have hl:∀ l∈Λ,l.s≠d:=λ l hl=>by simpa using qc.1 hΛ l hl
 refine ⟨h.lo,h.defers.keep G λ _ hD=>hD,by rw [size_put]; exact h.size,h.base,λ x hx=>?_,λ l hl'=>?_,λ l1 h1 l2 h2 hne=>?_⟩
 ·rcases ql.1 hx with rfl | hx
  ·show A.p B ((a.put (some d) v).eval (.tmp d)) w
   rw [aQ _ _ _ hdsz]
   exact hA
  ·have:x.1≠d:=by simpa using qc.1 hΓ x hx
   rw [ak _ _ _ _ this]
   exact h.vals x hx
 ·exact (h.locs l hl').eval (ak _ _ _ _ (hl l hl'))
 ·rw [ak _ _ _ _ (hl l1 h1),ak _ _ _ _ (hl l2 h2)]
  exact h.dis l1 h1 l2 h2 hne
variable {ops:Array Oper} {i:Nat} {K:Act→World→Prop}
theorem fi {d:Nat}{op:Op}{T':TypeId}{A:VA}(ho:ops[i]?=some ⟨some d,op,T',ps,af,none⟩)(h:St B w0 N Γ Λ a w)(hd:d<N)(hΓ:Γ.all (λ x=>x.1 != d)=true)(hΛ:Λ.all (λ l=>l.s != d)=true)
  (hr:(execOp a.eval ⟨some d,op,T',ps,af,none⟩).run P w=.ok (.value v) w) (hA:A.p B v w) (hK:St B w0 N ((d,A)::Γ) Λ (a.put (some d) v) w→K (a.put (some d) v) w):wpOp P ops Q i K a w:=by
 unfold wpOp
 simp only [ho,Region.wanted,if_true]
 exact .inl (bf hr (hK (h.addV hd hΓ hΛ hA)))
theorem op_idxS {d u y:Nat}{S E:TypeId}{T':TypeId}{g n c k m:Nat}{kd:IntKind}(ku ky:Nat)(ho:ops[i]?=some ⟨some d,.indexAddr S (.tmp u) (.tmp y),T',ps,af,none⟩)(h:St B w0 N Γ Λ a w)(hS:Sl P S E m)(hm:m≠0)
  (hu:Γ[ku]?=some (u,EqV (.slice (some ⟨g,0,none⟩) n c))) (hy:Γ[ky]?=some (y,(NumA kd k).va)) (hk:k<n) (hd:d<N) (hΓ:Γ.all (λ x=>x.1 != d)=true) (hΛ:Λ.all (λ l=>l.s != d)=true)
  (hK:∀ a',St B w0 N ((d,EqV (.pointer (some ⟨g,k*m,none⟩)))::Γ) Λ a' w→K a' w):wpOp P ops Q i K a w:=by
 have h3:a.eval (.tmp u)=.slice (some ⟨g,0,none⟩) n c:=h.vals _ (qa hu)
 have e:=aF (h.vals _ (qa hy))
 obtain ⟨hs1,hs2⟩:=hS
 refine fi (A:=EqV (.pointer (some ⟨g,k*m,none⟩))) ho h hd hΓ hΛ ?_ G (hK _)
 cases hi:P.info? E with
 | none=>rw [hi] at hs2; simp at hs2
 | some it =>
  rw [hi] at hs2
  have hsz:it.size=m:=by simpa using hs2
  by_cases h0:k=0
  ·subst h0; simp [execOp,h3,e,Instr.indexAt,asIntOf,run_underlying hs1,hk,sizeOf,typeInfo,hi,Addr.add]
  ·have:k*m≠0:=j9 h0 hm
   simp [execOp,h3,e,Instr.indexAt,asIntOf,run_underlying hs1,hk,sizeOf,typeInfo,hi,hsz,Addr.add,h0,hm]
   try exact this
theorem fj {d u f k n:Nat}{T T':TypeId}{g o:Nat}(ku:Nat)(ho:ops[i]?=some ⟨some d,.fieldAddr T (.tmp u) f,T',ps,af,none⟩)(h:St B w0 N Γ Λ a w)(hf:Fld P T f k n)
  (hu:Γ[ku]?=some (u,EqV (.pointer (some ⟨g,o,none⟩)))) (hd:d<N) (hΓ:Γ.all (λ x=>x.1 != d)=true) (hΛ:Λ.all (λ l=>l.s != d)=true)
  (hK:∀ a',St B w0 N ((d,EqV (.pointer (some ⟨g,o+k,none⟩)))::Γ) Λ a' w→K a' w):wpOp P ops Q i K a w:=by
 have h3:a.eval (.tmp u)=.pointer (some ⟨g,o,none⟩):=h.vals _ (qa hu)
 exact fi (A:=EqV (.pointer (some ⟨g,o+k,none⟩))) ho h hd hΓ hΛ (by simp [execOp,h3,dG hf]) G (hK _)
theorem op_asgS {d u:Nat}{T':TypeId}{A:VA}(ku:Nat)(ho:ops[i]?=some ⟨some d,.assign (.tmp u),T',ps,af,none⟩)(h:St B w0 N Γ Λ a w)
  (hu:Γ[ku]?=some (u,A)) (hd:d<N) (hΓ:Γ.all (λ x=>x.1 != d)=true) (hΛ:Λ.all (λ l=>l.s != d)=true)
  (hK:∀ a',St B w0 N ((d,A)::Γ) Λ a' w→K a' w):wpOp P ops Q i K a w :=
 fi (A:=A) (v:=a.eval (.tmp u)) ho h hd hΓ hΛ (by simp [execOp]) (h.vals _ (qa hu)) (hK _)
theorem St.turn {E sx:Nat}{A0 A1:As}{row:Option Nat}(src:List Nat)(e:Nat)(h:St B w0 N Γ Λ a w)(hg:w.grownBy w' row)(hr:RowOk w B E row)(hrm:RowMay w0 B E)(hl:Λ[e]?=some ⟨sx,T,H,A0⟩)(hTE:(T != E)=true)
  (hsrc:src.all (λ k=>match Γ[k]? with | some y => !y.2.deps.contains E | none=>false)=true) (hΛ:Λ.zipIdx.all (λ x=>x.2==e || (x.1.T != E && !x.1.A.deps.contains E))=true)
  (htr:∀ cs,A0.p B cs w→A1.p B cs w'):St B w0 N (src.filterMap λ k=>Γ[k]?) (Λ.set e ⟨sx,T,H,A1⟩) a w':=by
 have hrow:∀ {g:Nat} {c:Array Value} {T':TypeId} {fz:Nat × Nat},w.heap[g]?=some (.cells c T' fz)→T'≠E→w'.heap[g]?=some (.cells c T' fz):=λ {g c T' fz} hg1 hne =>
  (hg.block g (Array.getElem?_eq_some_iff.1 hg1).1 (λ e5=>by
   obtain ⟨_,c',fz',e6⟩:=hr g e5.symm
   rw [hg1] at e6
   injection e6 with e6
   injection e6 with _ e6 _
   exact hne e6)).trans hg1
 refine ⟨h.lo,h.defers.grown hg hr rfl,h.size,⟨hg.os.trans h.base.os,hg.tape.trans h.base.tape,hg.output.trans h.base.output,qe h.base.size hg.size,λ k hk hf=>?_⟩,λ y hy=>?_,λ m' hm'=>?_,λ m1 hm1 m2 hm2 hne=>?_⟩
 ·refine (hg.block k (qD hk h.base.size) (λ e=>?_)).trans (h.base.block k hk hf)
  obtain ⟨q1,c,fz,q2⟩:=hr k e.symm
  rcases hrm w k c fz h.base q1 q2 with q3 | q3
  ·omega
  ·exact hf q3
 ·obtain ⟨k,hk1,hk2⟩:=qW.1 hy
  have hs:=qc.1 hsrc k hk1
  simp only [hk2,qq,qv,qn] at hs
  exact VA.grown (h.vals y (qa hk2)) hg hr (qf B) hs
 ·obtain ⟨j,hj⟩:=List.getElem?_of_mem hm'
  by_cases e1:j=e
  ·subst e1
   have:m'=⟨sx,T,H,A1⟩:=by
    rw [List.getElem?_set_self (List.getElem?_eq_some_iff.1 hl).1] at hj
    injection hj with hj
    exact hj.symm
   subst this
   obtain ⟨g,cs,q1,q2,q3,q4⟩:=h.locs _ (qa hl)
   exact ⟨g,cs,q1,q2,hrow q3 (by simpa using hTE),htr cs q4⟩
  ·rw [List.getElem?_set_ne (λ e2=>e1 e2.symm)] at hj
   have hc:=qc.1 hΛ (m',j) (qZ.2 hj)
   simp only [zy,zX,qi,bne_iff_ne,qq,qv,qn] at hc
   have hc':=hc.resolve_left e1
   obtain ⟨g,cs,q1,q2,q3,q4⟩:=h.locs m' (qa hj)
   exact ⟨g,cs,q1,q2,hrow q3 hc'.1,As.grown q4 hg hr (qf B) hc'.2⟩
 ·have hs:∀ m∈Λ.set e ⟨sx,T,H,A1⟩,∃ m0∈Λ,m0.s=m.s:=λ m hm=>by
   rcases qI hm with hm | rfl
   ·exact ⟨m,hm,rfl⟩
   ·exact ⟨_,qa hl,rfl⟩
  obtain ⟨m3,q1,q2⟩:=hs m1 hm1
  obtain ⟨m4,q3,q4⟩:=hs m2 hm2
  rw [← q2,← q4] at hne ⊢
  exact h.dis m3 q1 m4 q3 hne
theorem grown_set {g:Nat}{cs:Array Value}:w.grownBy (w.setRow g cs) (some g):=⟨rfl,rfl,rfl,by simp,λ k _ hk=>setRow_other w g k cs (λ e=>hk (by rw [e]))⟩
theorem op_appS {d s u sx:Nat}{S E T1 T:TypeId}{A0:As}{X:As}{xs:List Value}{n m bytes:Nat}{D':List TypeId}{it:TypeInfo}{z:Value}(A1:Value→As)(F:List Value→Prop)(src:List Nat)(ks ku e:Nat)
  (ho:ops[i]?=some ⟨some d,.call ⟨.builtin .append,#[.tmp s,.tmp u],#[S,S]⟩,T1,ps,af,none⟩) (h:St B w0 N Γ Λ a w)
  (hs:Γ[ks]?=some (s,EqV v)) (hu:Γ[ku]?=some (u,(SlA E D' [X]).va)) (hX:∀ ds,X.p B ds w→F ds) (hXn:X.n=m) (hl:Λ[e]?=some ⟨sx,T,H,A0⟩) (hTE:(T != E)=true) (hrm:RowMay w0 B E)
  (hS:P.underlying S=some (.slice E)) (hi:P.info? E=some it) (hz:it.zero=some z) (hsz1:it.size=m) (hby:it.bytes=bytes) (hzs:z.cells.size=m) (hm0:0<m) (hn:(n+1)*bytes≤140737488355328) (hn2:n≤1000000000000000)
  (hd:d<N) (hΓ:Γ.all (λ x=>x.1 != d)=true) (hΛd:Λ.all (λ l=>l.s != d)=true)
  (hsrc:src.all (λ k=>match Γ[k]? with | some y => !y.2.deps.contains E | none=>false)=true) (hΛ:Λ.zipIdx.all (λ x=>x.2==e || (x.1.T != E && !x.1.A.deps.contains E))=true)
  (htr:∀ cs,A0.p B cs w→w.ownsRow B E m v n xs∧∀ v' w' ds,F ds→w'.ownsRow B E m v' (n+1) (xs++ds)→w.grownBy w' v.ownBlock→(v'.ownBlock=v.ownBlock∨(v'.ownBlock=some w.heap.size∧w.grownBy w' none))→(A1 v').p B cs w')
  (hK:∀ v' w',St B w0 N ((d,EqV v')::src.filterMap λ k=>Γ[k]?) (Λ.set e ⟨sx,T,H,A1 v'⟩) (a.put (some d) v') w'→K (a.put (some d) v') w'):wpOp P ops Q i K a w:=by
 have e1:a.eval (.tmp s)=v:=h.vals _ (qa hs)
 obtain ⟨cs1,⟨_,Ad,cap,ds,rfl,_,_,h5,h6⟩,hu'⟩:=h.vals _ (qa hu)
 have e2:a.eval (.tmp u)=.slice Ad 1 cap:=hu'
 obtain ⟨g1,o1,rfl,_,_,h8⟩:=h6 (by simp)
 obtain ⟨g0,cs0,q1,q2,q3,q4⟩:=h.locs _ (qa hl)
 obtain ⟨hown,hnext⟩:=htr cs0 q4
 obtain ⟨ps1,e3,hps⟩:=h5
 have hx1:X.p B ds w:=by
  cases hps with
  | cons h1 h2 =>
   cases h2
   rw [e3]
   simpa using h1
 have hdl:ds.length=1*m:=by rw [X.len _ _ _ hx1,hXn,jC]
 have hBw:B≤w.heap.size:=qe (h.lo _ (.inl (qf _))) h.base.size
 obtain ⟨v',w',hr,r1,r2,r3⟩:=run_app1 (P:=P) w B S T1 E it z m bytes hS hi hz hsz1 hby hzs hm0 v n xs hown ⟨g1,o1,none⟩ cap ds hdl (λ j u hu=>by rw [add_k]; exact h8 j u hu) (X.one _ _ _ hx1) (by unfold maxLen; omega) hn hBw
 have hro:RowOk w B E v.ownBlock:=gn hown
 have U:=(h.turn (A1:=A1 v') src e r2 hro hrm hl hTE hsrc hΛ λ cs hp=>(htr cs hp).2 v' w' ds (hX ds hx1) r1 r2 r3)
 have hst2:=U.addV (d:=d) (v:=v') (A:=EqV v') hd (qc.2 λ x hx=>by
  obtain ⟨k,hk1,hk2⟩:=qW.1 hx
  exact qc.1 hΓ x (qa hk2)) (qc.2 λ l hl'=>by
  rcases qI hl' with hl' | rfl
  ·exact qc.1 hΛd l hl'
  ·exact qc.1 hΛd (⟨sx,T,H,A0⟩:Lc) (qa hl)) rfl
 unfold wpOp
 simp only [ho,Region.wanted,if_true]
 refine .inl (bf (w':=w') (v:=v') ?_ (hK v' w' hst2))
 simp only [execOp,resolve,invoke,builtin,Sem.run_bind,Sem.run_pure,Result.andThen_ok,ja,qH,x5,e1,e2,hr]
theorem op_ownS {p d g k sx:Nat}{ty T T':TypeId}{A0 A1:As}(src:List Nat)(kp kd ks e:Nat)(ho:ops[i]?=some ⟨none,.store ty (.tmp p) (.tmp d),T',ps,af,none⟩)(h:St B w0 N Γ Λ a w)
  (hp:Γ[kp]?=some (p,EqV (.pointer (some ⟨g,k,none⟩)))) (hd:Γ[kd]?=some (d,EqV v)) (hs:Γ[ks]?=some (sx,EqV (H.f g))) (hv1:v.oneCell'=true) (hvc:v.cells = #[v]) (ht:Ty P ty 1 false) (hl:Λ[e]?=some ⟨sx,T,H,A0⟩)
  (hsrc:src.all (λ k=>match Γ[k]? with | some y => !y.2.deps.contains T | none=>false)=true) (hΛ:Λ.zipIdx.all (λ x=>x.2==e || (x.1.s != sx && !x.1.A.deps.contains T))=true) (hT:A1.deps.contains T=false)
  (htr:∀ cs,A0.p B cs w→k<cs.length∧A1.p B (cs.set k v) w)
  (hK:∀ w',St B w0 N (src.filterMap λ k=>Γ[k]?) (Λ.set e ⟨sx,T,H,A1⟩) a w'→K (a.put none undef) w'):wpOp P ops Q i K a w:=by
 have e1:a.eval (.tmp p)=.pointer (some ⟨g,k,none⟩):=h.vals _ (qa hp)
 have e2:a.eval (.tmp d)=v:=h.vals _ (qa hd)
 have e0:a.eval (.tmp sx)=H.f g:=h.vals _ (qa hs)
 obtain ⟨g0,cs,q1,q2,q3,q4⟩:=h.locs _ (qa hl)
 have:g0=g:=by
  have:=qu blk (q1.symm.trans e0)
  rw [H.ok,H.ok] at this
  injection this
 subst this
 obtain ⟨hkc,hp1⟩:=htr cs q4
 have hrun:=bh ht w g0 k T cs.toArray v [v] hvc rfl (by simp; omega) (by simpa using hv1) q3
 have e3:(cs.take k++[v]++cs.drop (k+1))=cs.set k v:=by
  rw [zG,qy hkc]
  simp
 simp only [e3] at hrun
 have hW:=Wr.setRow w g0 (cs.set k v).toArray
 have hB:B≤g0:=h.lo g0 q2
 have hTn:T ∉ A1.deps:=by simpa using hT
 unfold wpOp
 simp only [ho,Region.wanted,if_true]
 refine .inl (wp_skip' (w':=w.setRow g0 (cs.set k v).toArray) ?_ (hK _ ⟨h.lo,h.defers.keep rfl λ D hD=>(hW.block D (λ e=>by subst e; rw [q3] at hD; cases hD)).trans hD,h.size,h.base.wr hW q2,λ x hx=>?_,λ m hm=>?_,λ m1 hm1 m2 hm2 hne=>?_⟩))
 ·simp [execOp,e1,e2,Instr.storeAt,Instr.sureAddr,hrun]
 ·obtain ⟨k',hk1,hk2⟩:=qW.1 hx
  have:=qc.1 hsrc k' hk1
  simp only [hk2,qq,qv,qn] at this
  exact x.2.wr _ _ _ _ _ _ _ _ q3 this hB hW (h.vals x (qa hk2))
 ·obtain ⟨j,hj⟩:=List.getElem?_of_mem hm
  by_cases e5:j=e
  ·subst e5
   have:m=⟨sx,T,H,A1⟩:=by
    rw [List.getElem?_set_self (List.getElem?_eq_some_iff.1 hl).1] at hj
    injection hj with hj
    exact hj.symm
   subst this
   exact ⟨g0,cs.set k v,q1,q2,setRow_heap w g0 _ _ _ _ q3,A1.wr _ _ _ _ _ _ _ _ q3 hTn hB hW hp1⟩
  ·rw [List.getElem?_set_ne (λ e2=>e5 e2.symm)] at hj
   have hc:=qc.1 hΛ (m,j) (qZ.2 hj)
   simp only [zy,zX,qi,bne_iff_ne,qq,qv,qn] at hc
   have hc':=hc.resolve_left e5
   obtain ⟨g',cs2,p1,p2,p3,p4⟩:=h.locs m (qa hj)
   have hne:g'≠g0:=λ hh=>h.dis m (qa hj) _ (qa hl) hc'.1 (by rw [p1,q1,hh,m.H.ok,Hd.ok])
   exact ⟨g',cs2,p1,p2,(hW.block g' hne).trans p3,m.A.wr _ _ _ _ _ _ _ _ q3 hc'.2 hB hW p4⟩
 ·have hs:∀ m∈Λ.set e ⟨sx,T,H,A1⟩,∃ m0∈Λ,m0.s=m.s:=λ m hm=>by
   rcases qI hm with hm | rfl
   ·exact ⟨m,hm,rfl⟩
   ·exact ⟨_,qa hl,rfl⟩
  obtain ⟨m3,r1,r2⟩:=hs m1 hm1
  obtain ⟨m4,r3,r4⟩:=hs m2 hm2
  rw [← r2,← r4] at hne ⊢
  exact h.dis m3 r1 m4 r3 hne
end
section
open Rg
variable {P:Program} {Q:Exit→Act→World→Prop} {B N:Nat} {w0:Bs} {Γ:List (Nat × VA)} {Λ:List Lc} {a:Act} {w:World}
theorem op_newS {ops:Array Oper}{i d x:Nat}{T ty T1 T2:TypeId}{A0 A:As}{ps1 ps2:String}{af1 af2:Array Edge}{rest:List Nat}(kx:Nat)(src:List Nat)
  (ho1:ops[i]?=some ⟨some d,.alloc T,T1,ps1,af1,none⟩) (ho2:ops[i+1]?=some ⟨none,.store ty (.tmp d) (.tmp x),T2,ps2,af2,none⟩)
  (h:St B w0 N Γ Λ a w) (hz:Zero P T A0) (hx:Γ[kx]?=some (x,A.va)) (ht:Ty P ty A.n A.ag) (hn:A0.n=A.n) (hd:d<N) (hdx:(d != x)=true)
  (hsrc:src.all (λ k=>match Γ[k]? with | some y=>y.1 != d | none=>false)=true) (hΛ:Λ.all (λ l=>l.s != d)=true)
  (hK:∀ a' w',St B w0 N (src.filterMap λ k=>Γ[k]?) (Λ++[⟨d,T,ptrH,A⟩]) a' w'→wpOps P ops Q rest a' w'):wpOps P ops Q (i::(i+1)::rest) a w:=by
 obtain ⟨it,z,z1,z2,z3⟩:=hz
 obtain ⟨cs,hp,hv⟩:=h.vals _ (qa hx)
 have hv':a.eval (.tmp x)=shape A.ag cs:=hv
 have l1:=A.len _ _ _ hp
 have l0:=A0.len _ _ _ (z3 B w)
 have hds:d<a.tmps.size:=by rw [h.size]; exact hd
 have hdx':x≠d:=λ e=>by subst e; simp at hdx
 have hΛ':∀ l∈Λ,l.s≠d:=λ l hl=>by
  have:=qc.1 hΛ l hl
  simpa using this
 obtain ⟨W1,hW1⟩:∃ W1,w.alloc (.cells z.cells T)=W1:=⟨_,rfl⟩
 have hg1:Grow w W1:=by rw [← hW1]; exact Grow.alloc _ _
 have hnew:W1.heap[w.heap.size]?=some (.cells z.cells T (0,0)):=by rw [← hW1]; exact heap_alloc_new w _
 rw [qG]
 refine (bB (R:=⟨ops,N,Γ,[],[],λ _=>[]⟩) ho1 G (bf (w':=W1) (v:=ptr w.heap.size) ?_ ?_))
 ·rw [← hW1]; simp [execOp,Instr.alloc,zeroValue,typeInfo,z1,z2,newVar,newRow,ptr]
 obtain ⟨a1,ha1⟩:∃ a1,a.put (some d) (ptr w.heap.size)=a1:=⟨_,rfl⟩
 have ed:a1.eval (.tmp d)=ptr w.heap.size:=by rw [← ha1]; exact aQ _ _ _ hds
 have eo:∀ t,t≠d→a1.eval (.tmp t)=a.eval (.tmp t):=λ t ht=>by rw [← ha1]; exact ak _ _ _ _ ht
 have ef:a1.defers=a.defers:=by rw [← ha1]; rfl
 have es:a1.tmps.size=N:=by rw [← ha1,size_put]; exact h.size
 rw [ha1]
 have l2:z.cells.size=A0.n:=by simpa using l0
 have hrun:=bh ht W1 w.heap.size 0 T z.cells _ cs (A.cells_shape hp) l1 zo (A.one _ _ _ hp) hnew
 rw [q6 (by simp; omega)] at hrun
 simp only [ji,xO,q8] at hrun
 have hW:=Wr.setRow W1 w.heap.size cs.toArray
 have hcell:(W1.setRow w.heap.size cs.toArray).heap[w.heap.size]?=some (.cells cs.toArray T (0,0)):=setRow_heap W1 _ _ _ _ _ hnew
 have hgr:Grow w (W1.setRow w.heap.size cs.toArray):=Kept.grow0 ((hg1.kept).wr hW (.inl (qf _)))
 rw [qG]
 have U:wpOps P ops Q rest a1 (W1.setRow w.heap.size cs.toArray):=by
  refine hK _ _ ⟨h.lo,?_,es,h.base.grow hgr,λ y hy=>?_,λ m hm=>?_,λ m hm m' hm' hne=>?_⟩
  ·exact h.defers.grow hgr ef
  ·obtain ⟨k,hk1,hk2⟩:=qW.1 hy
   have:=qc.1 hsrc k hk1
   rw [hk2] at this
   rw [eo _ (by simpa using this)]
   exact y.2.grow _ _ _ _ hgr (h.vals y (qa hk2))
  ·rcases qj.1 hm with hm | hm
   ·obtain ⟨g,c,q1,q2,q3,q4⟩:=h.locs m hm
    exact ⟨g,c,by rw [eo _ (hΛ' m hm)]; exact q1,q2,hgr.heap q3,m.A.grow _ _ _ _ hgr q4⟩
   ·obtain rfl:=qr.1 hm
    exact ⟨w.heap.size,cs,ed,.inl h.base.size,hcell,A.grow _ _ _ _ hgr hp⟩
  ·have hnm:∀ m∈Λ,∃ g,blk (a1.eval (.tmp m.s))=some g∧g<w.heap.size:=λ m hm=>by
    obtain ⟨g,c,q1,q2,q3,q4⟩:=h.locs m hm
    exact ⟨g,by rw [eo _ (hΛ' m hm),q1]; exact m.H.ok g,(Array.getElem?_eq_some_iff.1 q3).1⟩
   have hd0:blk (a1.eval (.tmp d))=some w.heap.size:=by rw [ed]; rfl
   rcases qj.1 hm with hm | hm <;> rcases qj.1 hm' with hm' | hm'
   ·rw [eo _ (hΛ' m hm),eo _ (hΛ' m' hm')]
    exact h.dis m hm m' hm' hne
   ·obtain rfl:=qr.1 hm'
    obtain ⟨g,q1,q2⟩:=hnm m hm
    rw [q1,hd0]
    intro e
    injection e with e
    omega
   ·obtain rfl:=qr.1 hm
    obtain ⟨g,q1,q2⟩:=hnm m' hm'
    rw [q1,hd0]
    intro e
    injection e with e
    omega
   ·obtain rfl:=qr.1 hm
    obtain rfl:=qr.1 hm'
    exact absurd G hne
 unfold wpOp
 rw [ho2]
 have hwant:Region.wanted (⟨none,.store ty (.tmp d) (.tmp x),T2,ps2,af2,none⟩:Oper) (yielded ops a1.tmps)=true:=rfl
 simp only [hwant,if_true]
 refine .inl (wp_skip' (w':=W1.setRow w.heap.size cs.toArray) ?_ U)
 have e2:a1.eval (.tmp x)=shape A.ag cs:=by rw [eo _ hdx']; exact hv'
 have e1:a1.eval (.tmp d)=.pointer (some ⟨w.heap.size,0,none⟩):=ed
 simp [execOp,e1,e2,Instr.storeAt,Instr.sureAddr,hrun]
end
def TyIn (w:World)(k:Nat)(Ts:List TypeId):Prop:=∃ c T fz,w.heap[k]?=some (.cells c T fz)∧T∈Ts
abbrev Wid (B:Nat)(w:World)(Ts:List TypeId):Bs:=⟨w,λ k=>B≤k∧TyIn w k Ts,false⟩
open Classical in
theorem kept_gen {p:World→Prop}{Ts:List TypeId}(hcg:∀ w w',Grow w w'→p w→p w')(hwr:∀ w w' g c T fz,w.heap[g]?=some (.cells c T fz)→T∈Ts→B≤g→Wr g w w'→p w→p w')
  {w w':World} (hk:Kept (Wid B w Ts) w') (hp:p w):p w':=by
 let W:Nat→World:=λ m=>{ w with heap:=w.heap.mapIdx λ k o=>if k<m∧(Wid B w Ts).F k then (w'.heap[k]?).getD o else o }
 have hW:∀ m k,(W m).heap[k]?=if k<m∧(Wid B w Ts).F k∧k<w.heap.size then w'.heap[k]? else w.heap[k]?:=λ m k=>by
  show (w.heap.mapIdx _)[k]?=_
  rw [Array.getElem?_mapIdx]
  by_cases hlt:k<w.heap.size
  ·rw [Array.getElem?_eq_getElem hlt]
   have hlt':k<w'.heap.size:=qD hlt hk.size
   rw [Array.getElem?_eq_getElem hlt']
   by_cases hc:k<m∧(Wid B w Ts).F k
   ·rw [qy ⟨hc.1,hc.2,hlt⟩,qV,qy hc]
    rfl
   ·rw [qm (λ h=>hc ⟨h.1,h.2.1⟩),qV,qm hc]
  ·have h0:w.heap[k]?=none:=Array.getElem?_eq_none zo
   rw [qm (λ h=>hlt h.2.2),h0]
   rfl
 have hs:∀ m,(W m).heap.size=w.heap.size:=λ m=>by simp [W]
 have key:∀ m,p (W m):=λ m=>by
  induction m with
  | zero=>exact hcg w (W 0) ⟨rfl,rfl,rfl,by rw [hs]; exact qf _,λ k hk=>by rw [hW,qm (λ h=>by omega)]⟩ hp
  | succ m ih =>
   by_cases hF:(Wid B w Ts).F m
   ·obtain ⟨hB,c,T,fz,hc,hT⟩:=hF
    refine hwr (W m) (W (m+1)) m c T fz ?_ hT hB ⟨rfl,rfl,rfl,by rw [hs,hs],λ k hk=>?_⟩ ih
    ·rw [hW,qm (λ h=>by omega)]; exact hc
    ·rw [hW,hW]
     by_cases h1:k<m
     ·simp [h1,x4 h1]
     ·have:¬ k<m+1:=by omega
      simp [h1,this]
   ·refine hcg (W m) (W (m+1)) ⟨rfl,rfl,rfl,by rw [hs,hs]; exact qf _,λ k hk=>?_⟩ ih
    rw [hW,hW]
    by_cases h1:k<m
    ·simp [h1,x4 h1]
    ·by_cases h2:k=m
     ·subst h2
      rw [qm (λ h=>hF h.2.1),qm (λ h=>by omega)]
     ·have:¬ k<m+1:=by omega
      simp [h1,this]
 refine hcg (W w.heap.size) w' ⟨hk.os,hk.tape,hk.output,by rw [hs]; exact hk.size,λ k hlt=>?_⟩ (key _)
 rw [hs] at hlt
 rw [hW]
 by_cases hF:(Wid B w Ts).F k
 ·rw [qy ⟨hlt,hF,hlt⟩]
 ·rw [qm (λ h=>hF h.2.1)]
  exact hk.block k hlt hF
theorem VA.kept {A:VA}{Ts:List TypeId}(hp:A.p B v w)(hk:Kept (Wid B w Ts) w')(hd:∀ T∈Ts,T ∉ A.deps):A.p B v w' :=
 kept_gen (p:=λ w=>A.p B v w) (λ w w' hg h=>A.grow _ _ _ _ hg h) (λ w w' g c T fz hc hT hB hW h=>A.wr _ _ _ _ _ _ _ _ hc (hd T hT) hB hW h) hk hp
theorem As.kept {A:As}{Ts:List TypeId}(hp:A.p B cs w)(hk:Kept (Wid B w Ts) w')(hd:∀ T∈Ts,T ∉ A.deps):A.p B cs w' :=
 kept_gen (p:=λ w=>A.p B cs w) (λ w w' hg h=>A.grow _ _ _ _ hg h) (λ w w' g c T fz hc hT hB hW h=>A.wr _ _ _ _ _ _ _ _ hc (hd T hT) hB hW h) hk hp
theorem op_ownP {Q:Exit→Act→World→Prop}{B N:Nat}{ops:Array Oper}{i:Nat}{K:Act→World→Prop}{p d g k sx:Nat}{ty T T':TypeId}{A0 A A1:As}(src:List Nat)(kp kd ks e:Nat)(ho:ops[i]?=some ⟨none,.store ty (.tmp p) (.tmp d),T',ps,af,none⟩)(h:St B w0 N Γ Λ a w)
  (hp:Γ[kp]?=some (p,EqV (.pointer (some ⟨g,k,none⟩)))) (hd:Γ[kd]?=some (d,A.va)) (hs:Γ[ks]?=some (sx,EqV (H.f g))) (ht:Ty P ty A.n A.ag) (hl:Λ[e]?=some ⟨sx,T,H,A0⟩)
  (hput:Put A0 k A A1) (hsrc:src.all (λ k=>match Γ[k]? with | some y => !y.2.deps.contains T | none=>false)=true) (hΛ:Λ.zipIdx.all (λ x=>x.2==e || (x.1.s != sx && !x.1.A.deps.contains T))=true) (hT:A1.deps.contains T=false)
  (hK:∀ w',St B w0 N (src.filterMap λ k=>Γ[k]?) (Λ.set e ⟨sx,T,H,A1⟩) a w'→K (a.put none undef) w'):wpOp P ops Q i K a w:=by
 have e1:a.eval (.tmp p)=.pointer (some ⟨g,k,none⟩):=h.vals _ (qa hp)
 obtain ⟨cs',hpA,e2⟩:=h.vals _ (qa hd)
 have e2:a.eval (.tmp d)=shape A.ag cs':=e2
 have e0:a.eval (.tmp sx)=H.f g:=h.vals _ (qa hs)
 obtain ⟨g0,cs,q1,q2,q3,q4⟩:=h.locs _ (qa hl)
 have:g0=g:=by
  have:=qu blk (q1.symm.trans e0)
  rw [H.ok,H.ok] at this
  injection this
 subst this
 obtain ⟨hkc,hp1⟩:=hput B cs cs' w q4 hpA
 have lA:=A.len _ _ _ hpA
 have hrun:=bh ht w g0 k T cs.toArray _ cs' (A.cells_shape hpA) lA (by simpa using hkc) (A.one _ _ _ hpA) q3
 have e3:cs.toArray.toList.take k++cs'++cs.toArray.toList.drop (k+A.n)=splice cs k cs':=by simp [splice,lA]
 rw [e3] at hrun
 have hW:=Wr.setRow w g0 (splice cs k cs').toArray
 have hB:B≤g0:=h.lo g0 q2
 have hTn:T ∉ A1.deps:=by simpa using hT
 unfold wpOp
 simp only [ho,Region.wanted,if_true]
 refine .inl (wp_skip' (w':=w.setRow g0 (splice cs k cs').toArray) ?_ (hK _ ⟨h.lo,h.defers.keep rfl λ D hD=>(hW.block D (λ e=>by subst e; rw [q3] at hD; cases hD)).trans hD,h.size,h.base.wr hW q2,λ x hx=>?_,λ m hm=>?_,λ m1 hm1 m2 hm2 hne=>?_⟩))
 ·simp [execOp,e1,e2,Instr.storeAt,Instr.sureAddr,hrun]
 ·obtain ⟨k',hk1,hk2⟩:=qW.1 hx
  have:=qc.1 hsrc k' hk1
  simp only [hk2,qq,qv,qn] at this
  exact x.2.wr _ _ _ _ _ _ _ _ q3 this hB hW (h.vals x (qa hk2))
 ·obtain ⟨j,hj⟩:=List.getElem?_of_mem hm
  by_cases e5:j=e
  ·subst e5
   have:m=⟨sx,T,H,A1⟩:=by
    rw [List.getElem?_set_self (List.getElem?_eq_some_iff.1 hl).1] at hj
    injection hj with hj
    exact hj.symm
   subst this
   exact ⟨g0,splice cs k cs',q1,q2,setRow_heap w g0 _ _ _ _ q3,A1.wr _ _ _ _ _ _ _ _ q3 hTn hB hW hp1⟩
  ·rw [List.getElem?_set_ne (λ e2=>e5 e2.symm)] at hj
   have hc:=qc.1 hΛ (m,j) (qZ.2 hj)
   simp only [zy,zX,qi,bne_iff_ne,qq,qv,qn] at hc
   have hc':=hc.resolve_left e5
   obtain ⟨g',cs2,p1,p2,p3,p4⟩:=h.locs m (qa hj)
   have hne:g'≠g0:=λ hh=>h.dis m (qa hj) _ (qa hl) hc'.1 (by rw [p1,q1,hh,m.H.ok,Hd.ok])
   exact ⟨g',cs2,p1,p2,(hW.block g' hne).trans p3,m.A.wr _ _ _ _ _ _ _ _ q3 hc'.2 hB hW p4⟩
 ·have hs:∀ m∈Λ.set e ⟨sx,T,H,A1⟩,∃ m0∈Λ,m0.s=m.s:=λ m hm=>by
   rcases qI hm with hm | rfl
   ·exact ⟨m,hm,rfl⟩
   ·exact ⟨_,qa hl,rfl⟩
  obtain ⟨m3,r1,r2⟩:=hs m1 hm1
  obtain ⟨m4,r3,r4⟩:=hs m2 hm2
  rw [← r2,← r4] at hne ⊢
  exact h.dis m3 r1 m4 r3 hne
def lamT (Λ:List Lc)(e:Nat)(A:As):List Lc:=Λ.zipIdx.map λ x=>⟨x.1.s,x.1.T,x.1.H,if x.2=e then A else x.1.A⟩
section
open Rg
variable {P:Program} {Q:Exit→Act→World→Prop} {B N:Nat} {w0:Bs} {Γ:List (Nat × VA)} {Λ:List Lc} {a:Act} {w:World}
theorem inv_stT {R:Rg}{n:Nat}{Λ':List Lc}(hles:∀ l'∈Λ',∃ y∈R.les,y.s=l'.s∧y.T=l'.T∧y.H=l'.H∧y.cr=none∧Rg.cur (λ k=>decide (k<n)) y=some l'.A)(hinv:R.Inv B w0 (λ k=>decide (k<n)) a w)(src:List Src)
  (hsrc:src.all (λ s=>match s with | .g k=>(match R.Γ[k]? with | some x=>Rg.outG R x.1 && !Rg.clash R (λ k=>decide (k<n)) x.2.deps | none=>false) | .o i=>decide (i<n)&&(match R.sp[i]? with | some y=>(match y.vl with | some z => !Rg.clash R (λ k=>decide (k<n)) z.2.deps | none=>true) | none=>true))=true):St B w0 R.N (src.filterMap (takeS R)) Λ' a w:=by
 refine ⟨hinv.lo,hinv.defers,hinv.size,hinv.base,λ x hx=>?_,λ l' hl'=>?_,λ l1 h1 l2 h2 hne=>?_⟩
 rotate_left
 ·obtain ⟨y,hy,e1,e2,e3,_,e4⟩:=hles l' hl'
  have:=hinv.c _ hy l'.A e4
  rw [e1,e2,e3] at this
  exact this
 ·obtain ⟨y1,hy1,e1,_,_,_,f1⟩:=hles l1 h1
  obtain ⟨y2,hy2,e2,_,_,_,f2⟩:=hles l2 h2
  rw [← e1,← e2] at hne ⊢
  exact hinv.x _ hy1 _ hy2 hne (by rw [f1]; rfl) (by rw [f2]; rfl)
 obtain ⟨s,hs1,hs2⟩:=qW.1 hx
 have ho:=qc.1 hsrc s hs1
 cases s with
 | g k =>
  simp only [takeS] at hs2
  simp only [hs2,qi,qq] at ho
  refine hinv.g x (qa hs2) (λ q hq hdq=>?_) ho.2
  cases h2:R.ops[q]? with
  | none=>unfold Rg.dst at hdq; rw [h2] at hdq; cases hdq
  | some v =>
   have:=qc.1 ho.1 q (by simpa using (Array.getElem?_eq_some_iff.1 h2).1)
   exact absurd hdq (by simpa using this)
 | o i =>
  simp only [takeS] at hs2
  cases hy:R.sp[i]? with
  | none=>rw [hy] at hs2; cases hs2
  | some y =>
   rw [hy] at hs2
   have hs3:y.vl=some x:=hs2
   simp only [hy,hs3,qi,qq] at ho
   exact hinv.v i y x.1 x.2 hy hs3 ho.1 ho.2
theorem go_headT {id:Nat}{ops:Array Oper}{sp:List Sp}(anc:List (List Nat))(n m e j:Nat)(A1:As)(src:List Src)(hmx:P.follows .mixedOrders=true)
  (h:St B w0 N Γ Λ a w) (hob:Obs P Q ⟨ops,N,Γ,lesS Λ e j A1,sp,λ i=>anc.getD i []⟩ B w0 0 n) (hsz:ops.size=n+m) (hm:0<m) (hj:j<n) (hanc:Rg.ancOk ⟨ops,N,Γ,lesS Λ e j A1,sp,λ i=>anc.getD i []⟩=true) (hall:∀ i,n≤i→i<n+m→∀ j,j<i→(anc.getD i []).contains j=true) (hk:Rg.chk ⟨ops,N,Γ,lesS Λ e j A1,sp,λ i=>anc.getD i []⟩=true)
  (hsrc:src.all (λ s=>match s with | .g k=>(match Γ[k]? with | some x=>Rg.outG ⟨ops,N,Γ,lesS Λ e j A1,sp,λ i=>anc.getD i []⟩ x.1 && !Rg.clash ⟨ops,N,Γ,lesS Λ e j A1,sp,λ i=>anc.getD i []⟩ (λ k=>decide (k<n)) x.2.deps | none=>false) | .o i=>decide (i<n)&&(match sp[i]? with | some y=>(match y.vl with | some z => !Rg.clash ⟨ops,N,Γ,lesS Λ e j A1,sp,λ i=>anc.getD i []⟩ (λ k=>decide (k<n)) z.2.deps | none=>true) | none=>true))=true)
  (hQ:∀ a' w',St B w0 N (src.filterMap (takeS ⟨ops,N,Γ,lesS Λ e j A1,sp,λ i=>anc.getD i []⟩)) (lamT Λ e A1) a' w'→wpOps P ops Q (List.range' n m) a' w'):(Code.region id ops true).wp P Q a w:=by
 refine Rg.drawK (R:=⟨ops,N,Γ,lesS Λ e j A1,sp,λ i=>anc.getD i []⟩) (m:=m) hsz hm hmx hanc hk h (λ y hy _=>?_) (λ i hi=>hob.all i zo zo) (λ i h1 h2 j hj=>hall i h1 h2 j hj) λ a1 w1 hinv=>?_
 ·exact (dK y hy).2.1
 ·refine hQ a1 w1 (inv_stT (λ l' hl'=>?_) hinv src hsrc)
  obtain ⟨x,hx,rfl⟩:=qo.1 hl'
  refine ⟨⟨x.1.s,x.1.T,x.1.H,none,x.1.A,if x.2=e then some (j,A1) else none⟩,qo.2 ⟨x,hx,rfl⟩,?_⟩
  by_cases h1:x.2=e
  ·simp only [h1,if_true]
   exact ⟨by trivial,by trivial,by trivial,by trivial,by simp [Rg.cur,Rg.crOk,hj]⟩
  ·simp only [h1,if_false]
   exact ⟨by trivial,by trivial,by trivial,by trivial,by simp [Rg.cur,Rg.crOk]⟩
end
theorem wpOps_sP {ops:Array Oper}{Q:Exit→Act→World→Prop}(h:Q .normal a w):wpOps P ops Q [] (a.put none undef) w:=h
set_option maxHeartbeats 1000000 in
theorem through_q {x:RE}{b:Nat}{m:MQ}(hx:elF x=true)(hm:RepM b m)(hb:b≤1000000):Cn Try.prog 37 [(REA x).va,(CoA b m).va] ((CoA (b+4097) (mulQ (elM x) m)).va):=by
 refine Cn.intro Try.func37 G zk nq (λ B w0 a U=>?_)
 have U:=zn [(0,(REA x).va),(1,(CoA b m).va)] [] U
 refine qb<|zg [] [⟨2,50,ptrH,some 0,_,none⟩,⟨3,82,ptrH,some 1,_,none⟩,⟨4,82,ptrH,some 2,_,none⟩] [.alc 0,.alc 1,.alc 2] [] U (zW 0 G (zW 1 G (zY G (Str.zero str_ray) o0))) (zz [] [O 2 50 _,O 3 82 _,O 4 82 _] λ a w U=>?_)
 have U:=St.wkL U 0 rfl (el_q (dq hx).1)
 have U:=zn [] [O 2 50 _,O 3 82 _,O 4 82 _] U
 refine zt<|qb<|zg [η,η,η] [] [.adr 5 2 (.some 0) True,.v 6 _] [.o 1] U (zO 0 G dn (zL 0 0 0 G ty_48 o0)) (zz [(6,_)] [O 2 50 _,O 3 82 _,O 4 82 _] λ a w U=>?_)
 refine a4<|qt<|qb<|zg [η,η,η] [] [.v 8 _,.v 7 _] [.g 0,.o 1] U (zv G (bd (gq 0 G) a5) (zA 0 G o0)) (zz [(6,_),(7,_)] [O 2 50 _,O 3 82 _,O 4 82 _] λ a w U=>?_)
 refine a4<|bC (λ a w =>  St B w0 68 [] [⟨2,50,ptrH,QEA 2048 x.k (toQ x.p) (toQ x.q)⟩,⟨3,82,ptrH,CoA (b+4097) (mulQ (elM x) m)⟩,⟨4,82,ptrH,cat [RFA rf0,RFA rf0]⟩] a w) U (zm 1 G) (λ hb0=>?_) (λ hb0=>?_) (λ a w U=>?_)
 ·refine zgd [[],[0],[],[2],[],[4],[2,3,4,5],[0,1,2,3,4,5,6],[0,1,2,3,4,5,6,7],[0,1,2,3,4,5,6,7,8]] [none,some (9,_),none] [] [.adr 9 3 (.some 0) True,.v 10 _,.adr 11 2 (.some 1) True,.v 12 _,.adr 13 3 (.some 4) True,.v 14 _,.v 15 _,.v 16 _,.adr 17 3 (.some 0) True,.sto 1] [] a8 U (zO 1 G c8 (zL 0 1 0 G ar (zO 0 G cV (zL 2 0 1 G ar (zO 1 G c7 (zL 4 1 1 G ar (zQ G (em zo) (.p (vq 3 G) (vq 5 G)) (zQ G (plus_q zo) (.p (vq 1 G) (vq 6 G)) (zO 1 G c8 (oc (bU 8 G G G G zk (vq 7 G) ar (Put.part 0 G G G)) o0)))))))))) zk zk zk zk (zz [] [O 2 50 _,O 3 82 _,O 4 82 _] λ a w U=>?_)
  refine a4 ?_
  have U:=St.sel U []
  have e:=thr_1 (x:=x) (by simpa using hb0)
  exact St.wkL U 1 G (iV (by rw [e]; show _=_*m.a+_*m.c; grind) (by rw [e]; show _=_*m.a+_*m.c; grind) (dE hx hm))
 ·refine qb<|zg [η,η,η] [] [.v 19 _,.v 18 _] [.g 0,.o 1] U (zv G (bd (gq 0 G) a5) (zA 0 G o0)) (zz [(6,_),(18,_)] [O 2 50 _,O 3 82 _,O 4 82 _] λ a w U=>?_)
  refine a4<|bC (λ a w =>  St B w0 68 [] [⟨2,50,ptrH,QEA 2048 x.k (toQ x.p) (toQ x.q)⟩,⟨3,82,ptrH,CoA (b+4097) (mulQ (elM x) m)⟩,⟨4,82,ptrH,cat [RFA rf0,RFA rf0]⟩] a w) U (zm 1 G) (λ hb1=>?_) (λ hb1=>?_) (λ a w U=>?_)
  ·refine zgd [[],[0],[],[2],[],[4],[2,3,4,5],[],[7],[2,3,4,5,6,7,8],[0,1,2,3,4,5,6,7,8,9],[0,1,2,3,4,5,6,7,8,9,10],[0,1,2,3,4,5,6,7,8,9,10,11]] [none,some (12,_),none] [] [.adr 20 3 (.some 0) True,.v 21 _,.adr 22 2 (.some 1) True,.v 23 _,.adr 24 2 (.some 5) True,.v 25 _,.v 26 _,.adr 27 3 (.some 4) True,.v 28 _,.v 29 _,.v 30 _,.adr 31 3 (.some 0) True,.sto 1] [] a8 U (zO 1 rfl c8 (zL 0 1 0 rfl ar (zO 0 rfl cV (zL 2 0 1 rfl ar (zO 0 rfl dY (zL 4 0 2 rfl ar (zQ rfl (over_q zo (by rcases (dq hx).2 with h | h | h | h | h <;> simp_all)) (.p (vq 3 rfl) (vq 5 rfl)) (zO 1 rfl c7 (zL 7 1 1 rfl ar (zQ rfl (em zo) (.p (vq 6 rfl) (vq 8 rfl)) (zQ rfl (plus_q zo) (.p (vq 1 rfl) (vq 9 rfl)) (zO 1 rfl c8 (oc (bU 11 rfl rfl rfl rfl zk (vq 10 rfl) ar (Put.part 0 rfl rfl rfl)) o0))))))))))))) zk zk zk zk (zz [] [O 2 50 _,O 3 82 _,O 4 82 _] λ a w U=>?_)
   refine a4 ?_
   have U:=St.sel U []
   have e:=thr_3 (x:=x) (by simpa using hb1)
   exact St.wkL U 1 G (iV (by rw [e]; show _=_*m.a+_*m.c; grind) (by rw [e]; show _=_*m.a+_*m.c; grind) (dE hx hm))
  ·refine qb<|zg [η,η,η] [] [.v 33 _,.v 32 _] [.g 0,.o 1] U (zv G (bd (gq 0 G) a5) (zA 0 G o0)) (zz [(6,_),(32,_)] [O 2 50 _,O 3 82 _,O 4 82 _] λ a w U=>?_)
   refine a4<|bC (λ a w =>  St B w0 68 [] [⟨2,50,ptrH,QEA 2048 x.k (toQ x.p) (toQ x.q)⟩,⟨3,82,ptrH,CoA (b+4097) (mulQ (elM x) m)⟩,⟨4,82,ptrH,cat [RFA rf0,RFA rf0]⟩] a w) U (zm 1 G) (λ hb2=>?_) (λ hb2=>?_) (λ a w U=>?_)
   ·refine zgd [[],[0],[],[2],[],[4],[2,3,4,5],[0,1,2,3,4,5,6],[0,1,2,3,4,5,6,7],[0,1,2,3,4,5,6,7,8]] [none,some (9,_),none] [] [.adr 34 3 (.some 4) True,.v 35 _,.adr 36 2 (.some 1) True,.v 37 _,.adr 38 3 (.some 0) True,.v 39 _,.v 40 _,.v 41 _,.adr 42 3 (.some 4) True,.sto 1] [] a8 U (zO 1 G c7 (zL 0 1 1 G ar (zO 0 G cV (zL 2 0 1 G ar (zO 1 G c8 (zL 4 1 0 G ar (zQ G (em zo) (.p (vq 3 G) (vq 5 G)) (zQ G (iL zo) (.p (vq 1 G) (vq 6 G)) (zO 1 G c7 (oc (bU 8 G G G G zk (vq 7 G) ar (Put.part 1 G G G)) o0)))))))))) zk zk zk zk (zz [] [O 2 50 _,O 3 82 _,O 4 82 _] λ a w U=>?_)
    refine a4 ?_
    have U:=St.sel U []
    have e:=thr_2 (x:=x) (by simpa using hb2)
    exact St.wkL U 1 G (iV (by rw [e]; show _=_*m.a+_*m.c; grind) (by rw [e]; show _=_*m.a+_*m.c; grind) (dE hx hm))
   ·refine qb<|zg [η,η,η] [] [.v 44 _,.v 43 _] [.g 0,.o 1] U (zv G (bd (gq 0 G) a5) (zA 0 G o0)) (zz [(6,_),(43,_)] [O 2 50 _,O 3 82 _,O 4 82 _] λ a w U=>?_)
    refine a4<|bC (λ a w =>  St B w0 68 [] [⟨2,50,ptrH,QEA 2048 x.k (toQ x.p) (toQ x.q)⟩,⟨3,82,ptrH,CoA (b+4097) (mulQ (elM x) m)⟩,⟨4,82,ptrH,cat [RFA rf0,RFA rf0]⟩] a w) U (zm 1 G) (λ hb3=>?_) (λ hb3=>?_) (λ a w U=>?_)
    ·refine zgd [[],[0],[],[2],[],[4],[2,3,4,5],[],[7],[2,3,4,5,6,7,8],[0,1,2,3,4,5,6,7,8,9],[0,1,2,3,4,5,6,7,8,9,10],[0,1,2,3,4,5,6,7,8,9,10,11]] [none,some (12,_),none] [] [.adr 45 3 (.some 4) True,.v 46 _,.adr 47 2 (.some 1) True,.v 48 _,.adr 49 2 (.some 5) True,.v 50 _,.v 51 _,.adr 52 3 (.some 0) True,.v 53 _,.v 54 _,.v 55 _,.adr 56 3 (.some 4) True,.sto 1] [] a8 U (zO 1 G c7 (zL 0 1 1 G ar (zO 0 G cV (zL 2 0 1 G ar (zO 0 G dY (zL 4 0 2 G ar (zQ G (em zo) (.p (vq 3 G) (vq 5 G)) (zO 1 G c8 (zL 7 1 0 G ar (zQ G (em zo) (.p (vq 6 G) (vq 8 G)) (zQ G (iL zo) (.p (vq 1 G) (vq 9 G)) (zO 1 G c7 (oc (bU 11 G G G G zk (vq 10 G) ar (Put.part 1 G G G)) o0))))))))))))) zk zk zk zk (zz [] [O 2 50 _,O 3 82 _,O 4 82 _] λ a w U=>?_)
     refine a4 ?_
     have U:=St.sel U []
     have e:=thr_4 (x:=x) (by simpa using hb3)
     exact St.wkL U 1 G (iV (by rw [e]; show _=_*m.a+_*m.c; grind) (by rw [e]; show _=_*m.a+_*m.c; grind) (dE hx hm))
    ·refine qb<|zg [η,η,η] [] [.v 58 _,.v 57 _] [.o 1] U (zv G (bd (gq 0 G) a5) (zA 0 G o0)) (zz [(57,_)] [O 2 50 _,O 3 82 _,O 4 82 _] λ a w U=>?_)
     refine a4<|bC (λ a w =>  St B w0 68 [] [⟨2,50,ptrH,QEA 2048 x.k (toQ x.p) (toQ x.q)⟩,⟨3,82,ptrH,CoA (b+4097) (mulQ (elM x) m)⟩,⟨4,82,ptrH,cat [RFA rf0,RFA rf0]⟩] a w) U (zm 0 G) (λ hb4=>?_) (λ hb4=>?_) (λ a w U=>?_)
     ·obtain ⟨q3,U⟩:=St.nm U 1 rfl
      refine go_headT (sp:=[.adr 59 3 (.some 0) True,.v 60 _,.v 61 _,.adr 62 3 (.some 4) True,.v 63 _,.v 64 _,.adr 65 3 (.some 0) True,.sto 1,.skp,.skp]) [[],[0],[0,1],[],[3],[0,1,2,3,4],[0,1,2,3,4],[0,1,2,3,4,5,6],[0,1,2,3,4,5,6,7],[0,1,2,3,4,5,6,7,8]] 8 2 1 7 (cat [QA b (-m.a),QA b m.c]) [.g 0,.o 5] a8 U (zO 1 G c8 (zL 0 1 0 G ar (zQ G (eK zo) (.o (vq 1 G)) (zO 1 G c7 (zL 3 1 1 G ar (zQ G (eK zo) (.o (vq 4 G)) (zO 1 G c8 (oc (bU 6 G G G G zk (vq 2 G) ar (Put.part 0 G G G)) o0)))))))) G zd zd zk (fD zk) zk zk (zz [(3,_),(64,_)] [O 2 50 _,O 3 82 _,O 4 82 _] λ a w U=>?_)
      rw [show List.range' 8 2=[8,9] from rfl]
      rw [qG]
      refine fj 0 G U c7 G zd zk zk (λ a U=>?_)
      rw [qG]
      refine op_ownP (A:=QA b (-m.c)) (A1:=cat [QA b (-m.a),QA b (-m.c)]) [] 0 2 1 1 G U G G G ar G (Put.part 1 G G G) zk zk zk (λ w U=>?_)
      refine wpOps_sP ?_
      have U:St B w0 68 [] [O 2 50 _,O 3 82 _,O 4 82 _] _ w:=U
      refine a4 ?_
      have U:=St.sel U []
      have e:=thr_5 (x:=x) (by simpa using hb4)
      exact St.wkL U 1 G (iV (by rw [e]; show _=_*m.a+_*m.c; grind) (by rw [e]; show _=_*m.a+_*m.c; grind) (dE hx hm))
     ·refine qk<|a4 ?_
      have U:=St.sel U []
      exact absurd (dq hx).2 (by simp at hb0 hb1 hb2 hb3 hb4; simp [hb0,hb1,hb2,hb3,hb4])
     refine a4 ?_
     have U:=St.sel U []
     exact U
    refine a4 ?_
    have U:=St.sel U []
    exact U
   refine a4 ?_
   have U:=St.sel U []
   exact U
  refine a4 ?_
  have U:=St.sel U []
  exact U
 refine ai ?_
 refine zt<|zg [η,η,some (1,_)] [] [.v 67 _,.sto 2] [] U (zl 1 G ty_82 (zS 0 G ty_82 o0)) (zz [] [O 2 50 _,O 3 82 _,O 4 82 _] λ a w U=>?_)
 refine a4<|qh<|an ?_ (ax G U (zm 2 G) ty_82)
 exact aC
abbrev ky (s:ByteArray):Lit:=.string s.data.toList
def dupB (ns:List ByteArray):Bool := !decide (ns.map λ s=>s.data.toList).Nodup
def MpI (P:Program)(K E:TypeId)(w:World)(b:Nat)(ns:List ByteArray):Prop :=
 ∃ D:DataW Unit,w.ownsMap P K (plainElem P E) b ns.length D∧Maps.Tidy D∧(∀ s:ByteArray,Maps.has D (ky s)=(ns.map λ s=>s.data.toList).contains s.data.toList)∧decide (Maps.size D<ns.length)=dupB ns
section
variable {P:Program} {K E T:TypeId} {w:World} {b:Nat} {ns:List ByteArray}
theorem mp_new:MpI P K E (w.alloc (.map #[] 0)) w.heap.size [] :=
 ⟨.map [],World.ownsMap_made w P K _,Maps.tidy_empty,λ s=>rfl,rfl⟩
theorem MpI.at_ (h:MpI P K E w b ns):∃ es clock,w.heap[b]?=some (.map es clock):=by
 obtain ⟨D,⟨es,clock,hb,_⟩,_⟩:=h
 exact ⟨es,clock,hb⟩
theorem MpI.kept (h:MpI P K E w b ns)(hk:w'.heap[b]?=w.heap[b]?):MpI P K E w' b ns:=by
 obtain ⟨D,⟨es,clock,hb,F,hs,hD⟩,h2,h3,h4⟩:=h
 exact ⟨D,⟨es,clock,hk.trans hb,F,hs,hD⟩,h2,h3,h4⟩
theorem MpI.len (h:MpI P K E w b ns)(ht:P.underlying T=some (.map K E))(ty:TypeId):∃ n:Nat,(Builtin.len_ #[T] ty #[.map (some b)]).run P w=.ok (.int .i64 n) w∧decide ((n:Int)<(ns.length:Int))=dupB ns:=by
 obtain ⟨D,h1,h2,h3,h4⟩:=h
 exact ⟨_,h1.len ht ty,by rw [← h4,qF]; omega⟩
theorem dup_snoc (ns:List ByteArray)(s:ByteArray):dupB (ns++[s])=(dupB ns || (ns.map λ s=>s.data.toList).contains s.data.toList):=by
 unfold dupB
 rw [zF,jP]
 by_cases h1:(ns.map λ s=>s.data.toList).Nodup
 ·by_cases h2:s.data.toList∈ns.map λ s=>s.data.toList
  ·have:¬ ((ns.map λ s=>s.data.toList)++[s.data.toList]).Nodup:=λ h=>(xD.1 h).2.2 _ h2 _ (by simp) rfl
   rw [zH this,qv,zw h2]; simp
  ·have:((ns.map λ s=>s.data.toList)++[s.data.toList]).Nodup:=xD.2 ⟨h1,by simp,λ a ha c hc e=>by
    obtain rfl:=qr.1 hc
    exact h2 (e▸ha)⟩
   rw [zw this,zw h1,qv,zH h2]; rfl
 ·have:¬ ((ns.map λ s=>s.data.toList)++[s.data.toList]).Nodup:=λ h=>h1 (xD.1 h).1
  rw [zH this,zH h1]; rfl
theorem MpI.add (h:MpI P K E w b ns)(hK:P.underlying K=some .string)(ht:P.underlying T=some (.map K E))(hE:P.underlying E=some (.int .i64))(hz:(zeroValue E).run P w=.ok (.int .i64 0) w)(hn:ns.length<4096){s:ByteArray}(hs:s.size≤4096) :
  ∃ c:Int,(Instr.lookup T (.map (some b)) (.string s) false).run P w=.ok (.int .i64 c) w∧∃ w',(Instr.mapUpdate T (.map (some b)) (.string s) (.int .i64 (IntKind.i64.wrap (c+1)))).run P w=.ok () w'∧MpI P K E w' b (ns++[s])∧w.grownBy w' (some b):=by
 obtain ⟨D,h1,h2,h3,h4⟩:=h
 have hkey:keyOf P K (.string s)=some (ky s):=WideMaps.keyOf_string_mk hK (by unfold maxLen; omega)
 have hkl:WideAt.IsKeyLit (ky s):=by trivial
 obtain ⟨c,hr,_,_⟩:=h1.lookup_int (Maps.string_keyed hK) ht hE hz hkey
 have hwf:(Lit.int .i64 (IntKind.i64.wrap (c+1))).wf=true:=wf_wrap _ _
 obtain ⟨w',hr',ho,hg⟩:=h1.update (Maps.string_keyed hK) ht (by unfold maxLen; omega) hkey (plainElem_int (H:=Unit) hE hwf)
 refine ⟨c,hr,w',hr',⟨_,by rw [qE]; exact ho,h2.put hkl _,λ s'=>?_,?_⟩,hg⟩
 ·rw [zF,jP]
  by_cases e:s'.data.toList=s.data.toList
  ·rw [show ky s'=ky s from qu Lit.string e,Maps.has_put_same h2.isMap hkl,e]; simp
  ·rw [Maps.has_put_other (λ h=>e (by injection h)),h3]
   simp [qv,e]
 ·rw [dup_snoc,Maps.size_put h2,h3 s,← h4]
  have hle:=h1.size_le
  rw [qE,xp]
  by_cases e:(ns.map λ s=>s.data.toList).contains s.data.toList=true
  ·rw [qy e,e,Bool.or_true]
   exact zw zo
  ·rw [qm e,zK.2 e,Bool.or_false,qF]
   omega
end
end Go.Proofs.Ytlakjmncfooodaa
