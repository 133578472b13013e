import Derived.Test.YtkpifdpdeanjfaaGreatDoorTtAh
import Derived.Deep.DeepAppendRoom
set_option linter.all false
set_option maxRecDepth 100000
namespace Go.Proofs.YtkpifdpdeanjfaaGreatDoor
open Go Go.RowKit
variable {w:World}{B:Nat}{a:Act}{v:Value}{T:TypeId}{w0:Bs}{Γ:List (Nat × VA)}{Λ:List Lc}{ps:String}{af:Array Edge}{vr:Value}{H:Hd}{cs:List Value}{w':World}{P:Program}{D:List TypeId}
section
open Rg
variable {P:Program} {Q:Exit→Act→World→Prop} {B N:Nat} {w0:Bs} {Γ:List (Nat × VA)} {Λ:List Lc} {a:Act} {w:World}
theorem nT {R:Rg}{n:Nat}(hles:∀ l'∈Λ,∃ st,(⟨l'.s,l'.T,l'.H,none,l'.A,st⟩:Le)∈R.les)(hles2:∀ y∈R.les,∀ i A,y.st=some (i,A)→n≤i)(hinv:R.Inv B w0 (λ k=>decide (k<n)) a w)(src:List Src)
  (hsrc:src.all (λ s=>match s with | .g k=>(match R.Γ[k]? with | some x=>Rg.outG R x.1 | none=>false) | .o i=>decide (i<n))=true):St B w0 R.N (src.filterMap (takeS R)) Λ a w:=by
 have hcl:∀ deps,Rg.clash R (λ k=>decide (k<n)) deps=false:=λ deps=>by
  unfold Rg.clash
  rw [xb]
  intro y hy
  cases U:y.st with
  | none=>simp
  | some x =>
   obtain ⟨i,B'⟩:=x
   have:=hles2 y hy i B' U
   have hno:¬ i<n:=by omega
   simp [hno]
 have hcur:∀ y∈R.les,y.cr=none→Rg.cur (λ k=>decide (k<n)) y=some y.A0:=λ y hy h0=>by
  unfold Rg.cur
  rw [h0]
  simp only [Rg.crOk,if_true]
  cases U:y.st with
  | none=>rfl
  | some x =>
   obtain ⟨i,B'⟩:=x
   have:=hles2 y hy i B' U
   have hno:¬ i<n:=by omega
   simp [hno]
 refine ⟨hinv.lo,hinv.defers,hinv.size,hinv.base,λ x hx=>?_,λ l' hl'=>?_,λ l1 h1 l2 h2 hne=>?_⟩
 rotate_left
 ·obtain ⟨st,hy⟩:=hles l' hl'
  exact hinv.c _ hy l'.A (hcur _ hy G)
 ·obtain ⟨s1,hy1⟩:=hles l1 h1
  obtain ⟨s2,hy2⟩:=hles l2 h2
  exact hinv.x _ hy1 _ hy2 hne (by rw [hcur _ hy1 rfl]; rfl) (by rw [hcur _ hy2 rfl]; rfl)
 obtain ⟨s,hs1,hs2⟩:=qJ.1 hx
 have ho:=qc.1 hsrc s hs1
 cases s with
 | g k =>
  simp only [takeS] at hs2
  simp only [hs2] at ho
  refine hinv.g x (qa hs2) (λ q hq hdq=>?_) (hcl _)
  cases h2:R.ops[q]? with
  | none=>unfold Rg.dst at hdq; rw [h2] at hdq; cases hdq
  | some v =>
   have:=qc.1 ho q (by simpa using (Array.getElem?_eq_some_iff.1 h2).1)
   exact absurd hdq (by simpa using this)
 | o i =>
  simp only [takeS] at hs2
  cases hy:R.sp[i]? with
  | none=>rw [hy] at hs2; cases hs2
  | some y =>
   rw [hy] at hs2
   exact hinv.v i y x.1 x.2 hy hs2 ho (hcl _)
theorem Br (w:World)(base:Nat)(t ty e:TypeId)(i:TypeInfo)(z:Value)(size bytes:Nat)(ht:P.underlying t=some (.slice e))(hi:P.info? e=some i)(hz:i.zero=some z)
  (hsize:i.size=size) (hby:i.bytes=bytes) (hzs:z.cells.size=size) (hsz:0<size) (v:Value) (n:Nat) (xs:List Value) (hown:w.ownsRow base e size v n xs)
  (a:Addr) (c:Nat) (news:List Value) (hl:news.length=1*size) (hnews:∀ j u,news[j]?=some u→w.cell? (a.add j)=some u) (h1:∀ u∈news,u.oneCell'=true)
  (h63:n+1≤maxLen) (hbytes:(n+1)*bytes≤140737488355328) (hbase:base≤w.heap.size) :
  ∃ v' w',(Builtin.append_ #[t,t] ty #[v,.slice (some a) 1 c]).run P w=.ok v' w'∧w'.ownsRow base e size v' (n+1) (xs++news)∧w.grownBy w' v.ownBlock∧(v'.ownBlock=v.ownBlock∨(v'.ownBlock=some w.heap.size∧w.grownBy w' none)):=by
 obtain ⟨v',w',hr,r1,r2,_,r3⟩:=run_append_own_at (P:=P) w base t ty e i z size bytes ht hi hz hsize hby hzs hsz v n xs hown a 1 c news hl hnews h1 h63 hbytes hbase
 refine ⟨v',w',hr,r1,r2,?_⟩
 rcases r3 with r3 | r3
 ·exact .inl r3
 ·have hcases:=hown.2
  rcases hcases with ⟨rfl,_⟩ | ⟨g,cap,cur,rfl,hbg,hg,hnc,hcm,hcs,htake⟩
  ·exact .inr ⟨r3,r2⟩
  ·by_cases hroom:n+1≤cap
   ·obtain ⟨w2,hr2,_⟩:=run_append_own_spare (P:=P) w base t ty e i size ht hi hsize g n cap xs hown a 1 c news hl hnews h1 hroom
    rw [hr2] at hr
    injection hr with hr
    subst hr
    exact .inl rfl
   ·subst hsize
    have holds:∀ j u,xs[j]?=some u→w.cell? ((⟨g,0,none⟩:Addr).add j)=some u:=hown.cells (g:=g) rfl
    have hr2:=run_append_grow (P:=P) w t ty e i z ht hi hz ⟨g,0,none⟩ n cap xs hown.1 holds a 1 c news hl hnews zo (by unfold maxLen at h63; omega) (growslice_fits zo (by rw [hby]; exact hbytes))
    rw [hr2] at hr
    injection hr with hr hr'
    subst hr'
    exact .inr ⟨r3,rfl,rfl,rfl,by simp,λ k hk _=>by first | exact Go.heap_alloc_old w.drew _ k hk | exact heap_alloc_old w.drew _ hk⟩
theorem t9 {id:Nat}{ops:Array Oper}{sp:List Sp}(anc:List (List Nat))(n m e j:Nat)(A:As)(src:List Src)(hmx:P.follows .mixedOrders=true)
  (h:St B w0 N Γ Λ a w) (hob:Obs P Q ⟨ops,N,Γ,lesS Λ e j A,sp,λ i=>anc.getD i []⟩ B w0 0 n) (hsz:ops.size=n+m) (hm:0<m) (hj:n≤j) (hanc:Rg.ancOk ⟨ops,N,Γ,lesS Λ e j A,sp,λ i=>anc.getD i []⟩=true) (hall:∀ i,n≤i→i<n+m→∀ j,j<i→(anc.getD i []).contains j=true) (hk:Rg.chk ⟨ops,N,Γ,lesS Λ e j A,sp,λ i=>anc.getD i []⟩=true)
  (hsrc:src.all (λ s=>match s with | .g k=>(match Γ[k]? with | some x=>Rg.outG ⟨ops,N,Γ,lesS Λ e j A,sp,λ i=>anc.getD i []⟩ x.1 | none=>false) | .o i=>decide (i<n))=true)
  (hQ:∀ a' w',St B w0 N (src.filterMap (takeS ⟨ops,N,Γ,lesS Λ e j A,sp,λ i=>anc.getD i []⟩)) Λ a' w'→wpOps P ops Q (List.range' n m) a' w'):(Code.region id ops true).wp P Q a w:=by
 refine Rg.drawK (R:=⟨ops,N,Γ,lesS Λ e j A,sp,λ i=>anc.getD i []⟩) (m:=m) hsz hm hmx hanc hk h (λ y hy _=>?_) (λ i hi=>hob.all i zo zo) (λ i h1 h2 j hj=>hall i h1 h2 j hj) λ a1 w1 hinv=>?_
 ·exact (gZ y hy).2.1
 ·exact hQ a1 w1 (nT (λ l' hl'=>by
   obtain ⟨j',hj'⟩:=List.getElem?_of_mem hl'
   exact ⟨_,qm.2 ⟨(l',j'),zx.2 hj',rfl⟩⟩) (λ y hy i B' h1=>by have:=(gZ y hy).2.2 i B' h1; omega) hinv src hsrc)
theorem bN {id:Nat}{ops:Array Oper}{sp:List Sp}(n m e j:Nat)(A:As)(src:List Src)
  (h:St B w0 N Γ Λ a w) (hob:Obs P Q ⟨ops,N,Γ,lesS Λ e j A,sp,λ i=>List.range i⟩ B w0 0 n) (hsz:ops.size=n+m) (hj:n≤j) (hk:Rg.chk ⟨ops,N,Γ,lesS Λ e j A,sp,λ i=>List.range i⟩=true)
  (hsrc:src.all (λ s=>match s with | .g k=>(match Γ[k]? with | some x=>Rg.outG ⟨ops,N,Γ,lesS Λ e j A,sp,λ i=>List.range i⟩ x.1 | none=>false) | .o i=>decide (i<n))=true)
  (hQ:∀ a' w',St B w0 N (src.filterMap (takeS ⟨ops,N,Γ,lesS Λ e j A,sp,λ i=>List.range i⟩)) Λ a' w'→wpOps P ops Q (List.range' n m) a' w'):(Code.region id ops false).wp P Q a w:=by
 refine Rg.linK (R:=⟨ops,N,Γ,lesS Λ e j A,sp,λ i=>List.range i⟩) (m:=m) hsz G hk h (λ y hy _=>?_) (λ i hi=>hob.all i zo zo) λ a1 w1 hinv=>?_
 ·exact (gZ y hy).2.1
 ·exact hQ a1 w1 (nT (λ l' hl'=>by
   obtain ⟨j',hj'⟩:=List.getElem?_of_mem hl'
   exact ⟨_,qm.2 ⟨(l',j'),zx.2 hj',rfl⟩⟩) (λ y hy i B' h1=>by have:=(gZ y hy).2.2 i B' h1; omega) hinv src hsrc)
theorem St.addV {d:Nat}{A:VA}(h:St B w0 N Γ Λ a w)(hd:d<N)(hΓ:Γ.all (λ x=>x.1 != d)=true)(hΛ:Λ.all (λ l=>l.s != d)=true)(hA:A.p B v w):St B w0 N ((d,A)::Γ) Λ (a.put (some d) v) w:=by
 have hdsz:d<a.tmps.size:=by rw [h.size]; exact hd
 have hl:∀ l∈Λ,l.s≠d:=λ l hl=>by simpa using qc.1 hΛ l hl
 refine ⟨h.lo,h.defers.keep G λ _ hD=>hD,by rw [bt]; exact h.size,h.base,λ x hx=>?_,λ l hl'=>?_,λ l1 h1 l2 h2 hne=>?_⟩
 ·rcases qo.1 hx with rfl | hx
  ·show A.p B ((a.put (some d) v).eval (.tmp d)) w
   rw [aG _ _ _ hdsz]
   exact hA
  ·have:x.1≠d:=by simpa using qc.1 hΓ x hx
   rw [ai _ _ _ _ this]
   exact h.vals x hx
 ·exact (h.locs l hl').eval (ai _ _ _ _ (hl l hl'))
 ·rw [ai _ _ _ _ (hl l1 h1),ai _ _ _ _ (hl l2 h2)]
  exact h.dis l1 h1 l2 h2 hne
variable {ops:Array Oper} {i:Nat} {K:Act→World→Prop}
theorem wP {d:Nat}{op:Op}{T':TypeId}{A:VA}(ho:ops[i]?=some ⟨some d,op,T',ps,af,none⟩)(h:St B w0 N Γ Λ a w)(hd:d<N)(hΓ:Γ.all (λ x=>x.1 != d)=true)(hΛ:Λ.all (λ l=>l.s != d)=true)
  (hr:(execOp a.eval ⟨some d,op,T',ps,af,none⟩).run P w=.ok (.value v) w) (hA:A.p B v w) (hK:St B w0 N ((d,A)::Γ) Λ (a.put (some d) v) w→K (a.put (some d) v) w):wpOp P ops Q i K a w:=by
 unfold wpOp
 simp only [ho,Region.wanted,if_true]
 exact .inl (bc hr (hK (h.addV hd hΓ hΛ hA)))
theorem ny {d u y:Nat}{S E:TypeId}{T':TypeId}{g n c k m:Nat}{kd:IntKind}(ku ky:Nat)(ho:ops[i]?=some ⟨some d,.indexAddr S (.tmp u) (.tmp y),T',ps,af,none⟩)(h:St B w0 N Γ Λ a w)(hS:Sl P S E m)(hm:m≠0)
  (hu:Γ[ku]?=some (u,EqV (.slice (some ⟨g,0,none⟩) n c))) (hy:Γ[ky]?=some (y,(NumA kd k).va)) (hk:k<n) (hd:d<N) (hΓ:Γ.all (λ x=>x.1 != d)=true) (hΛ:Λ.all (λ l=>l.s != d)=true)
  (hK:∀ a',St B w0 N ((d,EqV (.pointer (some ⟨g,k*m,none⟩)))::Γ) Λ a' w→K a' w):wpOp P ops Q i K a w:=by
 have h3:a.eval (.tmp u)=.slice (some ⟨g,0,none⟩) n c:=h.vals _ (qa hu)
 have e:=bo (h.vals _ (qa hy))
 obtain ⟨hs1,hs2⟩:=hS
 refine wP (A:=EqV (.pointer (some ⟨g,k*m,none⟩))) ho h hd hΓ hΛ ?_ G (hK _)
 cases hi:P.info? E with
 | none=>rw [hi] at hs2; simp at hs2
 | some it =>
  rw [hi] at hs2
  have hsz:it.size=m:=by simpa using hs2
  by_cases h0:k=0
  ·subst h0; simp [execOp,h3,e,Instr.indexAt,asIntOf,run_underlying hs1,hk,sizeOf,typeInfo,hi,Addr.add]
  ·have:k*m≠0:=vj h0 hm
   simp [execOp,h3,e,Instr.indexAt,asIntOf,run_underlying hs1,hk,sizeOf,typeInfo,hi,hsz,Addr.add,h0,hm]
   try exact this
theorem nw {d u:Nat}{T':TypeId}{g o:Nat}(ku:Nat)(ho:ops[i]?=some ⟨some d,.nilCheck (.tmp u),T',ps,af,none⟩)(h:St B w0 N Γ Λ a w)
  (hu:Γ[ku]?=some (u,EqV (.pointer (some ⟨g,o,none⟩)))) (hd:d<N) (hΓ:Γ.all (λ x=>x.1 != d)=true) (hΛ:Λ.all (λ l=>l.s != d)=true)
  (hK:∀ a',St B w0 N ((d,EqV (.pointer (some ⟨g,o,none⟩)))::Γ) Λ a' w→K a' w):wpOp P ops Q i K a w:=by
 have h3:a.eval (.tmp u)=.pointer (some ⟨g,o,none⟩):=h.vals _ (qa hu)
 exact wP (A:=EqV (.pointer (some ⟨g,o,none⟩))) ho h hd hΓ hΛ (by simp [execOp,h3]) G (hK _)
theorem gW {d u f k n:Nat}{T T':TypeId}{g o:Nat}(ku:Nat)(ho:ops[i]?=some ⟨some d,.fieldAddr T (.tmp u) f,T',ps,af,none⟩)(h:St B w0 N Γ Λ a w)(hf:Fld P T f k n)
  (hu:Γ[ku]?=some (u,EqV (.pointer (some ⟨g,o,none⟩)))) (hd:d<N) (hΓ:Γ.all (λ x=>x.1 != d)=true) (hΛ:Λ.all (λ l=>l.s != d)=true)
  (hK:∀ a',St B w0 N ((d,EqV (.pointer (some ⟨g,o+k,none⟩)))::Γ) Λ a' w→K a' w):wpOp P ops Q i K a w:=by
 have h3:a.eval (.tmp u)=.pointer (some ⟨g,o,none⟩):=h.vals _ (qa hu)
 exact wP (A:=EqV (.pointer (some ⟨g,o+k,none⟩))) ho h hd hΓ hΛ (by simp [execOp,h3,da hf]) G (hK _)
theorem wR {d u:Nat}{T':TypeId}{A:VA}(ku:Nat)(ho:ops[i]?=some ⟨some d,.assign (.tmp u),T',ps,af,none⟩)(h:St B w0 N Γ Λ a w)
  (hu:Γ[ku]?=some (u,A)) (hd:d<N) (hΓ:Γ.all (λ x=>x.1 != d)=true) (hΛ:Λ.all (λ l=>l.s != d)=true)
  (hK:∀ a',St B w0 N ((d,A)::Γ) Λ a' w→K a' w):wpOp P ops Q i K a w :=
 wP (A:=A) (v:=a.eval (.tmp u)) ho h hd hΓ hΛ (by simp [execOp]) (h.vals _ (qa hu)) (hK _)
theorem St.turn {E sx:Nat}{A0 A1:As}{row:Option Nat}(src:List Nat)(e:Nat)(h:St B w0 N Γ Λ a w)(hg:w.grownBy w' row)(hr:RowOk w B E row)(hrm:RowMay w0 B E)(hl:Λ[e]?=some ⟨sx,T,H,A0⟩)(hTE:(T != E)=true)
  (hsrc:src.all (λ k=>match Γ[k]? with | some y => !y.2.deps.contains E | none=>false)=true) (hΛ:Λ.zipIdx.all (λ x=>x.2==e || (x.1.T != E && !x.1.A.deps.contains E))=true)
  (htr:∀ cs,A0.p B cs w→A1.p B cs w'):St B w0 N (src.filterMap λ k=>Γ[k]?) (Λ.set e ⟨sx,T,H,A1⟩) a w':=by
 have hrow:∀ {g:Nat} {c:Array Value} {T':TypeId} {fz:Nat × Nat},w.heap[g]?=some (.cells c T' fz)→T'≠E→w'.heap[g]?=some (.cells c T' fz):=λ {g c T' fz} hg1 hne =>
  (hg.block g (Array.getElem?_eq_some_iff.1 hg1).1 (λ e5=>by
   obtain ⟨_,c',fz',e6⟩:=hr g e5.symm
   rw [hg1] at e6
   injection e6 with e6
   injection e6 with _ e6 _
   exact hne e6)).trans hg1
 refine ⟨h.lo,h.defers.grown hg hr rfl,h.size,⟨hg.os.trans h.base.os,hg.tape.trans h.base.tape,hg.output.trans h.base.output,qd h.base.size hg.size,λ k hk hf=>?_⟩,λ y hy=>?_,λ m' hm'=>?_,λ m1 hm1 m2 hm2 hne=>?_⟩
 ·refine (hg.block k (qE hk h.base.size) (λ e=>?_)).trans (h.base.block k hk hf)
  obtain ⟨q1,c,fz,q2⟩:=hr k e.symm
  rcases hrm w k c fz h.base q1 q2 with q3 | q3
  ·omega
  ·exact hf q3
 ·obtain ⟨k,hk1,hk2⟩:=qJ.1 hy
  have hs:=qc.1 hsrc k hk1
  simp only [hk2,qz,qy,qu] at hs
  exact VA.grown (h.vals y (qa hk2)) hg hr (qg B) hs
 ·obtain ⟨j,hj⟩:=List.getElem?_of_mem hm'
  by_cases e1:j=e
  ·subst e1
   have:m'=⟨sx,T,H,A1⟩:=by
    rw [List.getElem?_set_self (List.getElem?_eq_some_iff.1 hl).1] at hj
    injection hj with hj
    exact hj.symm
   subst this
   obtain ⟨g,cs,q1,q2,q3,q4⟩:=h.locs _ (qa hl)
   exact ⟨g,cs,q1,q2,hrow q3 (by simpa using hTE),htr cs q4⟩
  ·rw [List.getElem?_set_ne (λ e2=>e1 e2.symm)] at hj
   have hc:=qc.1 hΛ (m',j) (zx.2 hj)
   simp only [zr,xh,qj,bne_iff_ne,qz,qy,qu] at hc
   have hc':=hc.resolve_left e1
   obtain ⟨g,cs,q1,q2,q3,q4⟩:=h.locs m' (qa hj)
   exact ⟨g,cs,q1,q2,hrow q3 hc'.1,As.grown q4 hg hr (qg B) hc'.2⟩
 ·have hs:∀ m∈Λ.set e ⟨sx,T,H,A1⟩,∃ m0∈Λ,m0.s=m.s:=λ m hm=>by
   rcases qp hm with hm | rfl
   ·exact ⟨m,hm,rfl⟩
   ·exact ⟨_,qa hl,rfl⟩
  obtain ⟨m3,q1,q2⟩:=hs m1 hm1
  obtain ⟨m4,q3,q4⟩:=hs m2 hm2
  rw [← q2,← q4] at hne ⊢
  exact h.dis m3 q1 m4 q3 hne
theorem po {g:Nat}{cs:Array Value}:w.grownBy (w.setRow g cs) (some g):=⟨rfl,rfl,rfl,by simp,λ k _ hk=>setRow_other w g k cs (λ e=>hk (by rw [e]))⟩
theorem rj {p d g k sx:Nat}{E ty T T':TypeId}{A0 A1:As}(src:List Nat)(kp kd e:Nat)(ho:ops[i]?=some ⟨none,.store ty (.tmp p) (.tmp d),T',ps,af,none⟩)(h:St B w0 N Γ Λ a w)
  (hp:Γ[kp]?=some (p,EqV (.pointer (some ⟨g,k,none⟩)))) (hd:Γ[kd]?=some (d,EqV v)) (hv1:v.oneCell'=true) (hvc:v.cells = #[v]) (ht:Ty P ty 1 false) (hl:Λ[e]?=some ⟨sx,T,H,A0⟩) (hTE:(T != E)=true) (hrm:RowMay w0 B E)
  (hsrc:src.all (λ k=>match Γ[k]? with | some y => !y.2.deps.contains E | none=>false)=true) (hΛ:Λ.zipIdx.all (λ x=>x.2==e || (x.1.T != E && !x.1.A.deps.contains E))=true)
  (htr:∀ cs,A0.p B cs w→B≤g∧∃ c:Array Value,w.heap[g]?=some (.cells c E (0,0))∧k<c.size∧A1.p B cs (w.setRow g (c.setIfInBounds k v)))
  (hK:∀ w',St B w0 N (src.filterMap λ k=>Γ[k]?) (Λ.set e ⟨sx,T,H,A1⟩) a w'→K (a.put none undef) w'):wpOp P ops Q i K a w:=by
 have e1:a.eval (.tmp p)=.pointer (some ⟨g,k,none⟩):=h.vals _ (qa hp)
 have e2:a.eval (.tmp d)=v:=h.vals _ (qa hd)
 obtain ⟨g0,cs0,q1,q2,q3,q4⟩:=h.locs _ (qa hl)
 obtain ⟨hB,c,hc,hkc,_⟩:=htr cs0 q4
 have hrun:=ce ht w g k E c v [v] hvc rfl zo (by simpa using hv1) hc
 have e3:(c.toList.take k++[v]++c.toList.drop (k+1)).toArray=c.setIfInBounds k v:=by
  apply Array.ext'
  rw [xL,xW,qC (by simpa using hkc)]
  simp
 rw [e3] at hrun
 unfold wpOp
 simp only [ho,Region.wanted,if_true]
 refine .inl (wp_skip' (w':=w.setRow g (c.setIfInBounds k v)) ?_ (hK _ (h.turn src e po (λ g' e=>?_) hrm hl hTE hsrc hΛ λ cs hp=>?_)))
 ·simp [execOp,e1,e2,Instr.storeAt,Instr.sureAddr,hrun]
 ·injection e with e
  subst e
  exact ⟨hB,_,_,hc⟩
 ·obtain ⟨_,c',hc',_,h5⟩:=htr cs hp
  rw [hc] at hc'
  injection hc' with hc'
  injection hc' with hc'
  subst hc'
  exact h5
theorem gX {d s u sx:Nat}{S E T1 T:TypeId}{A0:As}{X:As}{xs:List Value}{n m bytes:Nat}{D':List TypeId}{it:TypeInfo}{z:Value}(A1:Value→As)(F:List Value→Prop)(src:List Nat)(ks ku e:Nat)
  (ho:ops[i]?=some ⟨some d,.call ⟨.builtin .append,#[.tmp s,.tmp u],#[S,S]⟩,T1,ps,af,none⟩) (h:St B w0 N Γ Λ a w)
  (hs:Γ[ks]?=some (s,EqV v)) (hu:Γ[ku]?=some (u,(SlA E D' [X]).va)) (hX:∀ ds,X.p B ds w→F ds) (hXn:X.n=m) (hl:Λ[e]?=some ⟨sx,T,H,A0⟩) (hTE:(T != E)=true) (hrm:RowMay w0 B E)
  (hS:P.underlying S=some (.slice E)) (hi:P.info? E=some it) (hz:it.zero=some z) (hsz1:it.size=m) (hby:it.bytes=bytes) (hzs:z.cells.size=m) (hm0:0<m) (hn:(n+1)*bytes≤140737488355328) (hn2:n≤1000000000000000)
  (hd:d<N) (hΓ:Γ.all (λ x=>x.1 != d)=true) (hΛd:Λ.all (λ l=>l.s != d)=true)
  (hsrc:src.all (λ k=>match Γ[k]? with | some y => !y.2.deps.contains E | none=>false)=true) (hΛ:Λ.zipIdx.all (λ x=>x.2==e || (x.1.T != E && !x.1.A.deps.contains E))=true)
  (htr:∀ cs,A0.p B cs w→w.ownsRow B E m v n xs∧∀ v' w' ds,F ds→w'.ownsRow B E m v' (n+1) (xs++ds)→w.grownBy w' v.ownBlock→(v'.ownBlock=v.ownBlock∨(v'.ownBlock=some w.heap.size∧w.grownBy w' none))→(A1 v').p B cs w')
  (hK:∀ v' w',St B w0 N ((d,EqV v')::src.filterMap λ k=>Γ[k]?) (Λ.set e ⟨sx,T,H,A1 v'⟩) (a.put (some d) v') w'→K (a.put (some d) v') w'):wpOp P ops Q i K a w:=by
 have e1:a.eval (.tmp s)=v:=h.vals _ (qa hs)
 obtain ⟨cs1,⟨_,Ad,cap,ds,rfl,_,_,h5,h6⟩,hu'⟩:=h.vals _ (qa hu)
 have e2:a.eval (.tmp u)=.slice Ad 1 cap:=hu'
 obtain ⟨g1,o1,rfl,_,_,h8⟩:=h6 (by simp)
 obtain ⟨g0,cs0,q1,q2,q3,q4⟩:=h.locs _ (qa hl)
 obtain ⟨hown,hnext⟩:=htr cs0 q4
 obtain ⟨ps1,e3,hps⟩:=h5
 have hx1:X.p B ds w:=by
  cases hps with
  | cons h1 h2 =>
   cases h2
   rw [e3]
   simpa using h1
 have hdl:ds.length=1*m:=by rw [X.len _ _ _ hx1,hXn,j6]
 have hBw:B≤w.heap.size:=qd (h.lo _ (.inl (qg _))) h.base.size
 obtain ⟨v',w',hr,r1,r2,r3⟩:=Br (P:=P) w B S T1 E it z m bytes hS hi hz hsz1 hby hzs hm0 v n xs hown ⟨g1,o1,none⟩ cap ds hdl (λ j u hu=>by rw [rX]; exact h8 j u hu) (X.one _ _ _ hx1) (by unfold maxLen; omega) hn hBw
 have hro:RowOk w B E v.ownBlock:=fM hown
 have U:=(h.turn (A1:=A1 v') src e r2 hro hrm hl hTE hsrc hΛ λ cs hp=>(htr cs hp).2 v' w' ds (hX ds hx1) r1 r2 r3)
 have hst2:=U.addV (d:=d) (v:=v') (A:=EqV v') hd (qc.2 λ x hx=>by
  obtain ⟨k,hk1,hk2⟩:=qJ.1 hx
  exact qc.1 hΓ x (qa hk2)) (qc.2 λ l hl'=>by
  rcases qp hl' with hl' | rfl
  ·exact qc.1 hΛd l hl'
  ·exact qc.1 hΛd (⟨sx,T,H,A0⟩:Lc) (qa hl)) rfl
 unfold wpOp
 simp only [ho,Region.wanted,if_true]
 refine .inl (bc (w':=w') (v:=v') ?_ (hK v' w' hst2))
 simp only [execOp,resolve,invoke,builtin,Sem.run_bind,Sem.run_pure,Result.andThen_ok,vd,qX,kB,e1,e2,hr]
theorem gU {p d g k sx:Nat}{ty T T':TypeId}{A0 A1:As}(src:List Nat)(kp kd ks e:Nat)(ho:ops[i]?=some ⟨none,.store ty (.tmp p) (.tmp d),T',ps,af,none⟩)(h:St B w0 N Γ Λ a w)
  (hp:Γ[kp]?=some (p,EqV (.pointer (some ⟨g,k,none⟩)))) (hd:Γ[kd]?=some (d,EqV v)) (hs:Γ[ks]?=some (sx,EqV (H.f g))) (hv1:v.oneCell'=true) (hvc:v.cells = #[v]) (ht:Ty P ty 1 false) (hl:Λ[e]?=some ⟨sx,T,H,A0⟩)
  (hsrc:src.all (λ k=>match Γ[k]? with | some y => !y.2.deps.contains T | none=>false)=true) (hΛ:Λ.zipIdx.all (λ x=>x.2==e || (x.1.s != sx && !x.1.A.deps.contains T))=true) (hT:A1.deps.contains T=false)
  (htr:∀ cs,A0.p B cs w→k<cs.length∧A1.p B (cs.set k v) w)
  (hK:∀ w',St B w0 N (src.filterMap λ k=>Γ[k]?) (Λ.set e ⟨sx,T,H,A1⟩) a w'→K (a.put none undef) w'):wpOp P ops Q i K a w:=by
 have e1:a.eval (.tmp p)=.pointer (some ⟨g,k,none⟩):=h.vals _ (qa hp)
 have e2:a.eval (.tmp d)=v:=h.vals _ (qa hd)
 have e0:a.eval (.tmp sx)=H.f g:=h.vals _ (qa hs)
 obtain ⟨g0,cs,q1,q2,q3,q4⟩:=h.locs _ (qa hl)
 have:g0=g:=by
  have:=qk blk (q1.symm.trans e0)
  rw [H.ok,H.ok] at this
  injection this
 subst this
 obtain ⟨hkc,hp1⟩:=htr cs q4
 have hrun:=ce ht w g0 k T cs.toArray v [v] hvc rfl (by simp; omega) (by simpa using hv1) q3
 have e3:(cs.take k++[v]++cs.drop (k+1))=cs.set k v:=by
  rw [xW,qC hkc]
  simp
 simp only [e3] at hrun
 have hW:=Wr.setRow w g0 (cs.set k v).toArray
 have hB:B≤g0:=h.lo g0 q2
 have hTn:T ∉ A1.deps:=by simpa using hT
 unfold wpOp
 simp only [ho,Region.wanted,if_true]
 refine .inl (wp_skip' (w':=w.setRow g0 (cs.set k v).toArray) ?_ (hK _ ⟨h.lo,h.defers.keep rfl λ D hD=>(hW.block D (λ e=>by subst e; rw [q3] at hD; cases hD)).trans hD,h.size,h.base.wr hW q2,λ x hx=>?_,λ m hm=>?_,λ m1 hm1 m2 hm2 hne=>?_⟩))
 ·simp [execOp,e1,e2,Instr.storeAt,Instr.sureAddr,hrun]
 ·obtain ⟨k',hk1,hk2⟩:=qJ.1 hx
  have:=qc.1 hsrc k' hk1
  simp only [hk2,qz,qy,qu] at this
  exact x.2.wr _ _ _ _ _ _ _ _ q3 this hB hW (h.vals x (qa hk2))
 ·obtain ⟨j,hj⟩:=List.getElem?_of_mem hm
  by_cases e5:j=e
  ·subst e5
   have:m=⟨sx,T,H,A1⟩:=by
    rw [List.getElem?_set_self (List.getElem?_eq_some_iff.1 hl).1] at hj
    injection hj with hj
    exact hj.symm
   subst this
   exact ⟨g0,cs.set k v,q1,q2,setRow_heap w g0 _ _ _ _ q3,A1.wr _ _ _ _ _ _ _ _ q3 hTn hB hW hp1⟩
  ·rw [List.getElem?_set_ne (λ e2=>e5 e2.symm)] at hj
   have hc:=qc.1 hΛ (m,j) (zx.2 hj)
   simp only [zr,xh,qj,bne_iff_ne,qz,qy,qu] at hc
   have hc':=hc.resolve_left e5
   obtain ⟨g',cs2,p1,p2,p3,p4⟩:=h.locs m (qa hj)
   have hne:g'≠g0:=λ hh=>h.dis m (qa hj) _ (qa hl) hc'.1 (by rw [p1,q1,hh,m.H.ok,Hd.ok])
   exact ⟨g',cs2,p1,p2,(hW.block g' hne).trans p3,m.A.wr _ _ _ _ _ _ _ _ q3 hc'.2 hB hW p4⟩
 ·have hs:∀ m∈Λ.set e ⟨sx,T,H,A1⟩,∃ m0∈Λ,m0.s=m.s:=λ m hm=>by
   rcases qp hm with hm | rfl
   ·exact ⟨m,hm,rfl⟩
   ·exact ⟨_,qa hl,rfl⟩
  obtain ⟨m3,r1,r2⟩:=hs m1 hm1
  obtain ⟨m4,r3,r4⟩:=hs m2 hm2
  rw [← r2,← r4] at hne ⊢
  exact h.dis m3 r1 m4 r3 hne
end
section
open Rg
variable {P:Program} {Q:Exit→Act→World→Prop} {B N:Nat} {w0:Bs} {Γ:List (Nat × VA)} {Λ:List Lc} {a:Act} {w:World}
theorem gV {ops:Array Oper}{i d x:Nat}{T ty T1 T2:TypeId}{A0 A:As}{ps1 ps2:String}{af1 af2:Array Edge}{rest:List Nat}(kx:Nat)(src:List Nat)
  (ho1:ops[i]?=some ⟨some d,.alloc T,T1,ps1,af1,none⟩) (ho2:ops[i+1]?=some ⟨none,.store ty (.tmp d) (.tmp x),T2,ps2,af2,none⟩)
  (h:St B w0 N Γ Λ a w) (hz:Zero P T A0) (hx:Γ[kx]?=some (x,A.va)) (ht:Ty P ty A.n A.ag) (hn:A0.n=A.n) (hd:d<N) (hdx:(d != x)=true)
  (hsrc:src.all (λ k=>match Γ[k]? with | some y=>y.1 != d | none=>false)=true) (hΛ:Λ.all (λ l=>l.s != d)=true)
  (hK:∀ a' w',St B w0 N (src.filterMap λ k=>Γ[k]?) (Λ++[⟨d,T,ptrH,A⟩]) a' w'→wpOps P ops Q rest a' w'):wpOps P ops Q (i::(i+1)::rest) a w:=by
 obtain ⟨it,z,z1,z2,z3⟩:=hz
 obtain ⟨cs,hp,hv⟩:=h.vals _ (qa hx)
 have hv':a.eval (.tmp x)=shape A.ag cs:=hv
 have l1:=A.len _ _ _ hp
 have l0:=A0.len _ _ _ (z3 B w)
 have hds:d<a.tmps.size:=by rw [h.size]; exact hd
 have hdx':x≠d:=λ e=>by subst e; simp at hdx
 have hΛ':∀ l∈Λ,l.s≠d:=λ l hl=>by
  have:=qc.1 hΛ l hl
  simpa using this
 obtain ⟨W1,hW1⟩:∃ W1,w.alloc (.cells z.cells T)=W1:=⟨_,rfl⟩
 have hg1:Grow w W1:=by rw [← hW1]; exact Grow.alloc _ _
 have hnew:W1.heap[w.heap.size]?=some (.cells z.cells T (0,0)):=by rw [← hW1]; exact heap_alloc_new w _
 rw [qv]
 refine (bu (R:=⟨ops,N,Γ,[],[],λ _=>[]⟩) ho1 G (bc (w':=W1) (v:=ptr w.heap.size) ?_ ?_))
 ·rw [← hW1]; simp [execOp,Instr.alloc,zeroValue,typeInfo,z1,z2,newVar,newRow,ptr]
 obtain ⟨a1,ha1⟩:∃ a1,a.put (some d) (ptr w.heap.size)=a1:=⟨_,rfl⟩
 have ed:a1.eval (.tmp d)=ptr w.heap.size:=by rw [← ha1]; exact aG _ _ _ hds
 have eo:∀ t,t≠d→a1.eval (.tmp t)=a.eval (.tmp t):=λ t ht=>by rw [← ha1]; exact ai _ _ _ _ ht
 have ef:a1.defers=a.defers:=by rw [← ha1]; rfl
 have es:a1.tmps.size=N:=by rw [← ha1,bt]; exact h.size
 rw [ha1]
 have l2:z.cells.size=A0.n:=by simpa using l0
 have hrun:=ce ht W1 w.heap.size 0 T z.cells _ cs (A.cells_shape hp) l1 zo (A.one _ _ _ hp) hnew
 rw [xa (by simp; omega)] at hrun
 simp only [kb,xT,zp] at hrun
 have hW:=Wr.setRow W1 w.heap.size cs.toArray
 have hcell:(W1.setRow w.heap.size cs.toArray).heap[w.heap.size]?=some (.cells cs.toArray T (0,0)):=setRow_heap W1 _ _ _ _ _ hnew
 have hgr:Grow w (W1.setRow w.heap.size cs.toArray):=Kept.grow0 ((hg1.kept).wr hW (.inl (qg _)))
 rw [qv]
 have U:wpOps P ops Q rest a1 (W1.setRow w.heap.size cs.toArray):=by
  refine hK _ _ ⟨h.lo,?_,es,h.base.grow hgr,λ y hy=>?_,λ m hm=>?_,λ m hm m' hm' hne=>?_⟩
  ·exact h.defers.grow hgr ef
  ·obtain ⟨k,hk1,hk2⟩:=qJ.1 hy
   have:=qc.1 hsrc k hk1
   rw [hk2] at this
   rw [eo _ (by simpa using this)]
   exact y.2.grow _ _ _ _ hgr (h.vals y (qa hk2))
  ·rcases qw.1 hm with hm | hm
   ·obtain ⟨g,c,q1,q2,q3,q4⟩:=h.locs m hm
    exact ⟨g,c,by rw [eo _ (hΛ' m hm)]; exact q1,q2,hgr.heap q3,m.A.grow _ _ _ _ hgr q4⟩
   ·obtain rfl:=qq.1 hm
    exact ⟨w.heap.size,cs,ed,.inl h.base.size,hcell,A.grow _ _ _ _ hgr hp⟩
  ·have hnm:∀ m∈Λ,∃ g,blk (a1.eval (.tmp m.s))=some g∧g<w.heap.size:=λ m hm=>by
    obtain ⟨g,c,q1,q2,q3,q4⟩:=h.locs m hm
    exact ⟨g,by rw [eo _ (hΛ' m hm),q1]; exact m.H.ok g,(Array.getElem?_eq_some_iff.1 q3).1⟩
   have hd0:blk (a1.eval (.tmp d))=some w.heap.size:=by rw [ed]; rfl
   rcases qw.1 hm with hm | hm <;> rcases qw.1 hm' with hm' | hm'
   ·rw [eo _ (hΛ' m hm),eo _ (hΛ' m' hm')]
    exact h.dis m hm m' hm' hne
   ·obtain rfl:=qq.1 hm'
    obtain ⟨g,q1,q2⟩:=hnm m hm
    rw [q1,hd0]
    intro e
    injection e with e
    omega
   ·obtain rfl:=qq.1 hm
    obtain ⟨g,q1,q2⟩:=hnm m' hm'
    rw [q1,hd0]
    intro e
    injection e with e
    omega
   ·obtain rfl:=qq.1 hm
    obtain rfl:=qq.1 hm'
    exact absurd G hne
 unfold wpOp
 rw [ho2]
 have hwant:Region.wanted (⟨none,.store ty (.tmp d) (.tmp x),T2,ps2,af2,none⟩:Oper) (yielded ops a1.tmps)=true:=rfl
 simp only [hwant,if_true]
 refine .inl (wp_skip' (w':=W1.setRow w.heap.size cs.toArray) ?_ U)
 have e2:a1.eval (.tmp x)=shape A.ag cs:=by rw [eo _ hdx']; exact hv'
 have e1:a1.eval (.tmp d)=.pointer (some ⟨w.heap.size,0,none⟩):=ed
 simp [execOp,e1,e2,Instr.storeAt,Instr.sureAddr,hrun]
end
def TyIn (w:World)(k:Nat)(Ts:List TypeId):Prop:=∃ c T fz,w.heap[k]?=some (.cells c T fz)∧T∈Ts
abbrev Wid (B:Nat)(w:World)(Ts:List TypeId):Bs:=⟨w,λ k=>B≤k∧TyIn w k Ts,false⟩
open Classical in
theorem sU {p:World→Prop}{Ts:List TypeId}(hcg:∀ w w',Grow w w'→p w→p w')(hwr:∀ w w' g c T fz,w.heap[g]?=some (.cells c T fz)→T∈Ts→B≤g→Wr g w w'→p w→p w')
  {w w':World} (hk:Kept (Wid B w Ts) w') (hp:p w):p w':=by
 let W:Nat→World:=λ m=>{ w with heap:=w.heap.mapIdx λ k o=>if k<m∧(Wid B w Ts).F k then (w'.heap[k]?).getD o else o }
 have hW:∀ m k,(W m).heap[k]?=if k<m∧(Wid B w Ts).F k∧k<w.heap.size then w'.heap[k]? else w.heap[k]?:=λ m k=>by
  show (w.heap.mapIdx _)[k]?=_
  rw [Array.getElem?_mapIdx]
  by_cases hlt:k<w.heap.size
  ·rw [Array.getElem?_eq_getElem hlt]
   have hlt':k<w'.heap.size:=qE hlt hk.size
   rw [Array.getElem?_eq_getElem hlt']
   by_cases hc:k<m∧(Wid B w Ts).F k
   ·rw [qC ⟨hc.1,hc.2,hlt⟩,qH,qC hc]
    rfl
   ·rw [qA (λ h=>hc ⟨h.1,h.2.1⟩),qH,qA hc]
  ·have h0:w.heap[k]?=none:=Array.getElem?_eq_none zo
   rw [qA (λ h=>hlt h.2.2),h0]
   rfl
 have hs:∀ m,(W m).heap.size=w.heap.size:=λ m=>by simp [W]
 have key:∀ m,p (W m):=λ m=>by
  induction m with
  | zero=>exact hcg w (W 0) ⟨rfl,rfl,rfl,by rw [hs]; exact qg _,λ k hk=>by rw [hW,qA (λ h=>by omega)]⟩ hp
  | succ m ih =>
   by_cases hF:(Wid B w Ts).F m
   ·obtain ⟨hB,c,T,fz,hc,hT⟩:=hF
    refine hwr (W m) (W (m+1)) m c T fz ?_ hT hB ⟨rfl,rfl,rfl,by rw [hs,hs],λ k hk=>?_⟩ ih
    ·rw [hW,qA (λ h=>by omega)]; exact hc
    ·rw [hW,hW]
     by_cases h1:k<m
     ·simp [h1,k7 h1]
     ·have:¬ k<m+1:=by omega
      simp [h1,this]
   ·refine hcg (W m) (W (m+1)) ⟨rfl,rfl,rfl,by rw [hs,hs]; exact qg _,λ k hk=>?_⟩ ih
    rw [hW,hW]
    by_cases h1:k<m
    ·simp [h1,k7 h1]
    ·by_cases h2:k=m
     ·subst h2
      rw [qA (λ h=>hF h.2.1),qA (λ h=>by omega)]
     ·have:¬ k<m+1:=by omega
      simp [h1,this]
 refine hcg (W w.heap.size) w' ⟨hk.os,hk.tape,hk.output,by rw [hs]; exact hk.size,λ k hlt=>?_⟩ (key _)
 rw [hs] at hlt
 rw [hW]
 by_cases hF:(Wid B w Ts).F k
 ·rw [qC ⟨hlt,hF,hlt⟩]
 ·rw [qA (λ h=>hF h.2.1)]
  exact hk.block k hlt hF
theorem VA.kept {A:VA}{Ts:List TypeId}(hp:A.p B v w)(hk:Kept (Wid B w Ts) w')(hd:∀ T∈Ts,T ∉ A.deps):A.p B v w' :=
 sU (p:=λ w=>A.p B v w) (λ w w' hg h=>A.grow _ _ _ _ hg h) (λ w w' g c T fz hc hT hB hW h=>A.wr _ _ _ _ _ _ _ _ hc (hd T hT) hB hW h) hk hp
theorem As.kept {A:As}{Ts:List TypeId}(hp:A.p B cs w)(hk:Kept (Wid B w Ts) w')(hd:∀ T∈Ts,T ∉ A.deps):A.p B cs w' :=
 sU (p:=λ w=>A.p B cs w) (λ w w' hg h=>A.grow _ _ _ _ hg h) (λ w w' g c T fz hc hT hB hW h=>A.wr _ _ _ _ _ _ _ _ hc (hd T hT) hB hW h) hk hp
def CK (P:Program)(f:FuncId)(T:TypeId)(Ts:List TypeId)(A0 A1:As)(pre:List VA)(post:VA):Prop :=
 (∃ fn, P.funcs[f]? = some fn ∧ (fn.name == "runtime.NumGoroutine") = false ∧ fn.body.isNone = false) ∧
 ∀ (B:Nat) (w:World) (g:Nat) (cs:List Value) (args:List Value),B≤g→w.heap[g]?=some (.cells cs.toArray T (0,0))→A0.p B cs w→All2 (λ (A:VA) v=>A.p B v w) pre args →
  Calls P f (ptr g::args).toArray w λ e w'=>∃ v cs',e=.returned v∧post.p B v w'∧Kept (Wid B w Ts) w'∧w'.heap[g]?=some (.cells (List.toArray cs') T (0,0))∧A1.p B cs' w'
theorem FU {Ts:List TypeId}{E:TypeId}(hE:E∈Ts):RowMay (Wid B w Ts) B E:=λ w1 g c fz hk hB hc=>by
 by_cases hF:(Wid B w Ts).F g
 ·exact .inr hF
 ·by_cases hlt:g<w.heap.size
  ·exact .inr ⟨hB,c,E,fz,(hk.block g hlt hF).symm.trans hc,hE⟩
  ·exact .inl (jZ hlt)
theorem CK.intro {f : FuncId} {fn : Func} {c : Code} {T : TypeId} {Ts : List TypeId} {A0 A1 : As} {pre : List VA} {post : VA} (hf : P.funcs[f]? = some fn) (hb : fn.body = some c) (hn : (fn.name == "runtime.NumGoroutine") = false) (hsz : pre.length + 1 ≤ fn.ntmps) (hT : Ts.contains T = true)
  (h:∀ (B g:Nat) (w0:Bs) (a:Act),(∀ E,Ts.contains E=true→RowMay w0 B E)→St B w0 fn.ntmps (argΓ (EqV (ptrH.f g)::pre)) [⟨0,T,ptrH,A0⟩] a w0.w→c.wp P (bPost P fn (RQm B w0 g T A1 post)) a w0.w):CK P f T Ts A0 A1 pre post:=by
 refine ⟨⟨fn,hf,hn,by rw [hb]; rfl⟩,λ B w g cs args hB hg hp ha=>(bV hf hb (h B g (Wid B w Ts) _ (λ E hE=>FU (by simpa using hE)) ?_)).mono λ _ _ ⟨v,cs',he,hv,hk,h1,h2⟩=>⟨v,cs',he,hv,hk,h1,h2⟩⟩
 have hl:=ha.length
 have hgw:=(Array.getElem?_eq_some_iff.1 hg).1
 have ha':All2 (λ (A:VA) v=>A.p B v w) (EqV (ptrH.f g)::pre) (ptr g::args):=.cons rfl ha
 have h0:(⟨(ptr g::args).toArray++Array.replicate (fn.ntmps-(ptr g::args).toArray.size) undef,[]⟩:Act).eval (.tmp 0)=ptrH.f g:=by
  have:=All2.args (N:=fn.ntmps-(ptr g::args).toArray.size) ha' (0,EqV (ptrH.f g)) (by simp [argΓ])
  exact this
 refine ⟨λ k hk=>?_,DefOk.nil rfl,?_,Kept.refl _,All2.args ha',λ l hl=>?_,λ l hl m hm hne=>?_⟩
 ·rcases hk with hk | hk
  ·exact qd hB (qd (zD hgw) hk)
  ·exact hk.1
 ·simp only [zJ,zE,qF,qR]
  omega
 ·simp at hl
  subst hl
  exact ⟨g,cs,h0,.inr ⟨hB,_,_,_,hg,by simpa using hT⟩,hg,hp⟩
 ·simp at hl hm
  subst hl hm
  exact absurd G hne
theorem CK.ex {f : FuncId} {T : TypeId} {Ts : List TypeId} {A0 A1 : As} {A : Value → As} {c : Value → Prop} {pre : List VA} {post : VA} (hex : ∃ fn, P.funcs[f]? = some fn ∧ (fn.name == "runtime.NumGoroutine") = false ∧ fn.body.isNone = false) (h : ∀ x, c x → CK P f T Ts (A x) A1 pre post) (hp : ∀ B cs w, A0.p B cs w → ∃ x, c x ∧ (A x).p B cs w) : CK P f T Ts A0 A1 pre post :=
 ⟨hex,λ B w g cs args hB hg hp0 ha=>by
  obtain ⟨x,hc,hx⟩:=hp B cs w hp0
  exact (h x hc).2 B w g cs args hB hg hx ha⟩
theorem CK.wk {f:FuncId}{Ts:List TypeId}{A0 A1 A1':As}{pre:List VA}{post:VA}(h:CK P f T Ts A0 A1 pre post)(hp:∀ B cs w,A1.p B cs w→A1'.p B cs w):CK P f T Ts A0 A1' pre post :=
 ⟨h.1,λ B w g cs args hB hg hp0 ha=>(h.2 B w g cs args hB hg hp0 ha).mono λ _ _ ⟨v,cs',he,hv,hk,h1,h2⟩=>⟨v,cs',he,hv,hk,h1,hp _ _ _ h2⟩⟩
theorem CK.wkT {f:FuncId}{Ts Ts':List TypeId}{A0 A1:As}{pre:List VA}{post:VA}(h:CK P f T Ts A0 A1 pre post)(hT:∀ E∈Ts,E∈Ts'):CK P f T Ts' A0 A1 pre post :=
 ⟨h.1,λ B w g cs args hB hg hp0 ha=>(h.2 B w g cs args hB hg hp0 ha).mono λ _ _ ⟨v,cs',he,hv,hk,h1,h2⟩=>⟨v,cs',he,hv,⟨hk.os,hk.tape,hk.output,hk.size,λ k h1 h2=>hk.block k h1 λ⟨q1,c,T,fz,q2,q3⟩=>h2 ⟨q1,c,T,fz,q2,hT T q3⟩⟩,h1,h2⟩⟩
section
open Rg
variable {P:Program} {Q:Exit→Act→World→Prop} {B N:Nat} {w0:Bs} {Γ:List (Nat × VA)} {Λ:List Lc} {a:Act} {w:World} {ops:Array Oper} {i:Nat} {K:Act→World→Prop}
theorem Hq {pre:List VA}{ks:List Nat}{xs:List Operand}(h:St B w0 N Γ Λ a w)(hx:All2 (λ (A:VA) (kx:Nat × Operand)=>∃ t,kx.2=.tmp t∧Γ[kx.1]?=some (t,A)) pre (ks.zip xs))(hl:ks.length=xs.length):All2 (λ (A:VA) v=>A.p B v w) pre (xs.map a.eval):=by
 induction pre generalizing ks xs with
 | nil =>
  cases hk:ks.zip xs with
  | nil =>
   have:xs=[]:=by
    cases xs with
    | nil=>rfl
    | cons x xs=>cases ks with
     | nil=>cases hl
     | cons k ks=>cases hk
   subst this
   exact .nil
  | cons y ys=>rw [hk] at hx; cases hx
 | cons A pre ih =>
  cases ks with
  | nil=>cases hx
  | cons k ks=>cases xs with
   | nil=>cases hx
   | cons x xs =>
    cases hx with
    | cons h1 h2 =>
     obtain ⟨t,e,h3⟩:=h1
     have e:x=.tmp t:=e
     subst e
     exact .cons (h.vals _ (qa h3)) (ih h2 (by simpa using hl))
theorem d8 {d p f sx:Nat}{T T1:TypeId}{Ts:List TypeId}{A0 A1:As}{pre:List VA}{post:VA}{xs:List Operand}{at_:Array TypeId}(src ks:List Nat)(e:Nat)(ho:ops[i]?=some ⟨some d,.call ⟨.value (.func f),(.tmp p::xs).toArray,at_⟩,T1,ps,af,none⟩)(h:St B w0 N Γ Λ a w)
  (hc:CK P f T Ts A0 A1 pre post) (hl:Λ[e]?=some ⟨sx,T,ptrH,A0⟩) (hp:a.eval (.tmp p)=a.eval (.tmp sx)) (hx:All2 (λ (A:VA) (kx:Nat × Operand)=>∃ t,kx.2=.tmp t∧Γ[kx.1]?=some (t,A)) pre (ks.zip xs)) (hkl:ks.length=xs.length)
  (hrm:∀ E,Ts.contains E=true→RowMay w0 B E) (hd:d<N) (hΓ:Γ.all (λ x=>x.1 != d)=true) (hΛd:Λ.all (λ l=>l.s != d)=true)
  (hsrc:src.all (λ k=>match Γ[k]? with | some y=>Ts.all (λ E => !y.2.deps.contains E) | none=>false)=true) (hΛ:Λ.zipIdx.all (λ x=>x.2==e || (!Ts.contains x.1.T&&Ts.all (λ E => !x.1.A.deps.contains E)))=true)
  (hK:∀ a' w',St B w0 N ((d,post)::src.filterMap λ k=>Γ[k]?) (Λ.set e ⟨sx,T,ptrH,A1⟩) a' w'→K a' w'):wpOp P ops Q i K a w:=by
 obtain ⟨g,cs,q1,q2,q3,q4⟩:=h.locs _ (qa hl)
 have e1:a.eval (.tmp p)=ptr g:=hp.trans q1
 have hargs:=Hq h hx hkl
 obtain ⟨⟨fn,hf,hn,hb⟩,hcall⟩:=hc
 have hrun:(execOp a.eval ⟨some d,.call ⟨.value (.func f),(.tmp p::xs).toArray,at_⟩,T1,ps,af,none⟩).run P w=.ok (.enter f (ptr g::xs.map a.eval).toArray) w:=by
  simp only [execOp,resolve,Act.eval,Deferred.ofValue,Sem.run_bind,Sem.run_pure,Result.andThen_ok,invoke,be hf hn hb]
  have e1':a.eval (.tmp p)=ptr g:=e1
  simp [Act.eval] at e1' ⊢
  exact e1'
 have hdsz:d<a.tmps.size:=by rw [h.size]; exact hd
 have hBw:B≤w.heap.size:=qd (h.lo _ (.inl (qg _))) h.base.size
 unfold wpOp
 simp only [ho,Region.wanted,if_true]
 refine .inl ?_
 unfold Oper.wp
 rw [hrun]
 refine (hcall B w g cs _ (h.lo g q2) q3 q4 hargs).mono ?_
 rintro e0 w' ⟨v,cs',rfl,hv,hk,h1,h2⟩
 refine hK _ _ ?_
 have hls:∀ l∈Λ,l.s≠d:=λ l hl=>by simpa using qc.1 hΛd l hl
 have hrow:∀ {g:Nat} {c:Array Value} {T':TypeId} {fz:Nat × Nat},w.heap[g]?=some (.cells c T' fz)→T' ∉ Ts→w'.heap[g]?=some (.cells c T' fz):=λ {g c T' fz} hg1 hne =>
  (hk.block g (Array.getElem?_eq_some_iff.1 hg1).1 (λ⟨_,c',T2,fz',e5,e6⟩=>by
   rw [hg1] at e5
   injection e5 with e5
   injection e5 with _ e5 _
   subst e5
   exact hne e6)).trans hg1
 have hset:∀ m∈Λ.set e ⟨sx,T,ptrH,A1⟩,∃ m0∈Λ,m0.s=m.s:=λ m hm=>by
  rcases qp hm with hm | rfl
  ·exact ⟨m,hm,rfl⟩
  ·exact ⟨_,qa hl,rfl⟩
 refine ⟨h.lo,h.defers.keep rfl λ D hD=>(hk.block D (Array.getElem?_eq_some_iff.1 hD).1 (λ⟨_,c,T2,fz,e5,_⟩=>by rw [hD] at e5; cases e5)).trans hD,by rw [bt]; exact h.size,⟨hk.os.trans h.base.os,hk.tape.trans h.base.tape,hk.output.trans h.base.output,qd h.base.size hk.size,λ k h3 h4=>?_⟩,λ y hy=>?_,λ m hm=>?_,λ m1 hm1 m2 hm2 hne=>?_⟩
 ·refine (hk.block k (qE h3 h.base.size) (λ⟨q5,c,T2,fz,q6,q7⟩=>?_)).trans (h.base.block k h3 h4)
  rcases hrm T2 (by simpa using q7) w k c fz h.base q5 q6 with q8 | q8
  ·omega
  ·exact h4 q8
 ·rcases qo.1 hy with rfl | hy
  ·show post.p B ((a.put (some d) v).eval (.tmp d)) w'
   rw [aG _ _ _ hdsz]
   exact hv
  ·obtain ⟨k,hk1,hk2⟩:=qJ.1 hy
   have hs:=qc.1 hsrc k hk1
   simp only [hk2,qc,qz,qy,qu] at hs
   have hyd:y.1≠d:=by simpa using qc.1 hΓ y (qa hk2)
   rw [ai _ _ _ _ hyd]
   exact VA.kept (h.vals y (qa hk2)) hk hs
 ·obtain ⟨j,hj⟩:=List.getElem?_of_mem hm
  by_cases e1:j=e
  ·subst e1
   have:m=⟨sx,T,ptrH,A1⟩:=by
    rw [List.getElem?_set_self (List.getElem?_eq_some_iff.1 hl).1] at hj
    injection hj with hj
    exact hj.symm
   subst this
   exact ⟨g,cs',by rw [ai _ _ _ _ (hls _ (qa hl))]; exact q1,q2,h1,h2⟩
  ·rw [List.getElem?_set_ne (λ e2=>e1 e2.symm)] at hj
   have hc:=qc.1 hΛ (m,j) (zx.2 hj)
   simp only [zr,xh,qj,qz,qy,qu,qc] at hc
   have hc':=hc.resolve_left e1
   obtain ⟨g',cs2,p1,p2,p3,p4⟩:=h.locs m (qa hj)
   exact ⟨g',cs2,by rw [ai _ _ _ _ (hls _ (qa hj))]; exact p1,p2,hrow p3 hc'.1,As.kept p4 hk hc'.2⟩
 ·obtain ⟨m3,r1,r2⟩:=hset m1 hm1
  obtain ⟨m4,r3,r4⟩:=hset m2 hm2
  rw [← r2,← r4] at hne ⊢
  rw [ai _ _ _ _ (hls _ r1),ai _ _ _ _ (hls _ r3)]
  exact h.dis m3 r1 m4 r3 hne
end
def lv (x:Nat):Value:=.int .u32 x
structure Slot where
 v:Value
 xs:List Nat
 u:Value
 ys:List Nat
 z:Value
 n:Nat
def Slot.cells (s:Slot):List Value:=[s.v,s.z,.int .i64 s.n]
def RowV (v:Value)(n:Nat):Prop:=(v=.slice none 0 0∧n=0)∨∃ g cap,v=.slice (some ⟨g,0,none⟩) n cap∧n≤cap∧cap≤maxLen
def Rdy (B:Nat)(w:World)(v:Value)(xs:List Nat):Prop:=RowV v xs.length∧∀ g,v.ownBlock=some g→B≤g∧∃ c,w.heap[g]?=some (Obj.cells c U32 (0,0))∧c.toList.take xs.length=xs.map lv
def Slot.ok (B:Nat)(w:World)(s:Slot):Prop:=w.ownsRow B U32 1 s.u s.ys.length (s.ys.map lv)∧Rdy B w s.v s.xs
def Slot.has (s:Slot)(g:Nat):Prop:=s.v.ownBlock=some g∨s.u.ownBlock=some g
def Apt (L:List Slot):Prop:=∀ (i j:Nat) (s t:Slot),L[i]?=some s→L[j]?=some t→i≠j→∀ g,s.has g→¬ t.has g
theorem cu {E m n B:Nat}{xs:List Value}(h:w.ownsRow B E m v n xs)(hk:∀ (g:Nat) (c:Array Value),v.ownBlock=some g→w.heap[g]?=some (Obj.cells c E (0,0))→w'.heap[g]?=some (Obj.cells c E (0,0))):w'.ownsRow B E m v n xs:=by
 refine ⟨h.1,?_⟩
 rcases h.2 with h1 | ⟨g,cap,cur,rfl,h2,h3,h4⟩
 ·exact .inl h1
 ·exact .inr ⟨g,cap,cur,rfl,h2,hk g cur G h3,h4⟩
theorem Rdy.keep {xs:List Nat}(h:Rdy B w v xs)(hk:∀ (g:Nat) (c:Array Value),v.ownBlock=some g→w.heap[g]?=some (Obj.cells c U32 (0,0))→w'.heap[g]?=some (Obj.cells c U32 (0,0))):Rdy B w' v xs :=
 ⟨h.1,λ g hg=>by
  obtain ⟨h1,c,h2,h3⟩:=h.2 g hg
  exact ⟨h1,c,hk g c hg h2,h3⟩⟩
theorem Slot.ok.keep {B:Nat}{s:Slot}{w w':World}(h:s.ok B w)(hk:∀ (g:Nat) (c:Array Value),s.has g→w.heap[g]?=some (Obj.cells c U32 (0,0))→w'.heap[g]?=some (Obj.cells c U32 (0,0))):s.ok B w' :=
 ⟨cu h.1 λ g c hg=>hk g c (.inr hg),h.2.keep λ g c hg=>hk g c (.inl hg)⟩
theorem Slot.ok.lt {s:Slot}(h:s.ok B w){g:Nat}(hg:s.has g):B≤g∧∃ c,w.heap[g]?=some (Obj.cells c U32 (0,0)):=by
 rcases hg with hg | hg
 ·obtain ⟨h1,c,h2,_⟩:=h.2.2 g hg
  exact ⟨h1,c,h2⟩
 ·rcases h.1.2 with ⟨e,_⟩ | ⟨g',cap,cur,e,h2,h3,_⟩
  ·rw [e] at hg; cases hg
  ·rw [e] at hg
   have:g'=g:=by simpa [Value.ownBlock] using hg
   subst this
   exact ⟨h2,cur,h3⟩
def HbA (vr:Value)(L:List Slot):As where
 n:=1
 ag:=false
 p B cs w:=cs=[vr]∧w.ownsRow B 127 3 vr L.length (L.flatMap Slot.cells)∧(∀ s∈L,s.ok B w)∧Apt L
 deps:=[127,U32]
 len:=by rintro B cs w ⟨rfl,_⟩; rfl
 one:=by
  rintro B cs w ⟨rfl,h,_⟩ c hc
  obtain rfl:=qq.1 hc
  rcases h.2 with ⟨rfl,_⟩ | ⟨g,cap,cur,rfl,_⟩ <;> rfl
 ag1:=λ _=>rfl
 cg:=λ B cs w w' hg ⟨h1,h2,h3,h4⟩=>⟨h1,cu h2 λ g c _ h=>hg.heap h,λ s hs=>(h3 s hs).keep λ g c _ h=>hg.heap h,h4⟩
 wr:=by
  rintro B cs w w' g c T fz hgc hT hB hW ⟨h1,h2,h3,h4⟩
  simp only [qo,z6,or_false,not_or] at hT
  have hne:∀ (g':Nat) (c':Array Value) (E:TypeId),(E=127∨E=U32)→w.heap[g']?=some (Obj.cells c' E (0,0))→w'.heap[g']?=some (Obj.cells c' E (0,0)):=λ g' c' E hE h=>by
   rw [hW.block g' (λ e=>?_)]
   ·exact h
   ·subst e
    rw [hgc] at h
    injection h with h
    injection h with _ h _
    subst h
    rcases hE with e | e
    ·exact hT.1 e
    ·exact hT.2 e
  exact ⟨h1,cu h2 λ g c _ h=>hne g c _ (.inl G) h,λ s hs=>(h3 s hs).keep λ g c _ h=>hne g c _ (.inr G) h,h4⟩
theorem tk {α:Type}{f:Slot→List α}:∀ {L:List Slot} {i:Nat} {s s':Slot},L[i]?=some s→f s'=f s→(L.set i s').flatMap f=L.flatMap f
 | x::L,0,s,s',h,e=>by
  simp at h
  subst h
  simp [e]
 | x::L,i+1,s,s',h,e=>by
  simp only [xU,zG]
  rw [tk (by simpa using h) e]
theorem DT {L:List Slot}{B i:Nat}{s s':Slot}(h:(HbA vr L).p B cs w)(hi:L[i]?=some s)(hc:s'.cells=s.cells)(hok:s'.ok B w')
  (hrow:∀ (g:Nat) (c:Array Value),w.heap[g]?=some (Obj.cells c 127 (0,0))→w'.heap[g]?=some (Obj.cells c 127 (0,0))) (hoth:∀ (g:Nat) (c:Array Value),¬ s.has g→w.heap[g]?=some (Obj.cells c U32 (0,0))→w'.heap[g]?=some (Obj.cells c U32 (0,0)))
  (hblk:∀ g,s'.has g→s.has g∨w.heap.size≤g):(HbA vr (L.set i s')).p B cs w':=by
 obtain ⟨h1,h2,h3,h4⟩:=h
 have hlt:i<L.length:=(List.getElem?_eq_some_iff.1 hi).1
 have hfar:∀ (j:Nat) t,L[j]?=some t→j≠i→∀ g,t.has g→¬ s'.has g:=λ j t hj hne g hg hg'=>by
  rcases hblk g hg' with h5 | h5
  ·exact h4 j i t s hj hi hne g hg h5
  ·obtain ⟨_,c,h6⟩:=(h3 t (qa hj)).lt hg
   have:=(Array.getElem?_eq_some_iff.1 h6).1
   omega
 refine ⟨h1,?_,λ t ht=>?_,λ j k t1 t2 hj hk hne g hg hg'=>?_⟩
 ·rw [qS,tk hi hc]
  exact cu h2 λ g c _ h=>hrow g c h
 ·obtain ⟨j,hj⟩:=List.getElem?_of_mem ht
  by_cases e:j=i
  ·subst e
   rw [List.getElem?_set_self hlt] at hj
   injection hj with hj
   subst hj
   exact hok
  ·rw [List.getElem?_set_ne (λ e2=>e e2.symm)] at hj
   exact (h3 t (qa hj)).keep λ g c hg hh=>hoth g c (λ hs=>h4 j i t s hj hi e g hg hs) hh
 ·by_cases e:j=i
  ·subst e
   rw [List.getElem?_set_self hlt] at hj
   injection hj with hj
   subst hj
   rw [List.getElem?_set_ne hne] at hk
   exact hfar k t2 hk (λ e=>hne e.symm) g hg' hg
  ·rw [List.getElem?_set_ne (λ e2=>e e2.symm)] at hj
   by_cases e2:k=i
   ·subst e2
    rw [List.getElem?_set_self hlt] at hk
    injection hk with hk
    subst hk
    exact hfar j t1 hj e g hg hg'
   ·rw [List.getElem?_set_ne (λ e3=>e2 e3.symm)] at hk
    exact h4 j k t1 t2 hj hk hne g hg hg'
theorem take_set {c:List Value}{xs:List Nat}{k m:Nat}(h:c.take xs.length=xs.map lv):(c.set k (lv m)).take xs.length=(xs.set k m).map lv:=by
 rw [kn,h,List.map_set]
theorem Gl {L:List Slot}{B i k g cap m:Nat}{s:Slot}(h:(HbA vr L).p B cs w)(hi:L[i]?=some s)(hu:s.u=s.v)(hy:s.ys=s.xs)(hv:s.v=.slice (some ⟨g,0,none⟩) s.xs.length cap)(hk:k<s.xs.length):
  B≤g∧∃ c:Array Value,w.heap[g]?=some (Obj.cells c U32 (0,0))∧k<c.size∧(HbA vr (L.set i { s with xs:=s.xs.set k m,ys:=s.xs.set k m })).p B cs (w.setRow g (c.setIfInBounds k (lv m))):=by
 have hs:=h.2.2.1 s (qa hi)
 have hg:s.v.ownBlock=some g:=by rw [hv]; rfl
 obtain ⟨hB,c,hc,htk⟩:=hs.2.2 g hg
 have hown:=hs.1
 rw [hu,hy,hv] at hown
 rcases hown.2 with ⟨e,_⟩ | ⟨g',cap',cur,e,h2,h3,h4,h5,h6,h7⟩
 ·cases e
 ·injection e with e1 e2 e3
  injection e1 with e1
  injection e1 with e1
  subst e1
  subst e3
  rw [hc] at h3
  injection h3 with h3
  injection h3 with h3
  subst h3
  have hlen:c.size=cap:=by rw [h6,zT]
  have hnew:(w.setRow g (c.setIfInBounds k (lv m))).heap[g]?=some (Obj.cells (c.setIfInBounds k (lv m)) U32 (0,0)):=setRow_heap w g _ _ _ _ hc
  have htk2:(c.setIfInBounds k (lv m)).toList.take (s.xs.set k m).length=(s.xs.set k m).map lv:=by
   rw [xL,qS]
   exact take_set htk
  refine ⟨hB,c,hc,by omega,DT h hi G ⟨?_,?_⟩ (λ g2 c2 h8=>?_) (λ g2 c2 h8 h9=>?_) λ g2 h8=>.inl h8⟩
  ·show World.ownsRow _ B U32 1 s.u (s.xs.set k m).length ((s.xs.set k m).map lv)
   rw [hu,hv,qS]
   refine ⟨by simp,.inr ⟨g,cap,_,rfl,hB,hnew,h4,h5,by simp [hlen],?_⟩⟩
   rw [qS] at htk2
   rw [zT]
   exact htk2
  ·show Rdy B _ s.v (s.xs.set k m)
   refine ⟨?_,λ g2 h8=>?_⟩
   ·rw [qS]; exact hs.2.1
   ·rw [hg] at h8
    injection h8 with h8
    subst h8
    exact ⟨hB,_,hnew,htk2⟩
  ·rw [setRow_other _ _ _ _ (λ e=>by subst e; rw [hc] at h8; injection h8 with h8; injection h8 with _ h8 _; revert h8; decide)]
   exact h8
  ·rw [setRow_other _ _ _ _ (λ e=>h8 (.inl (by rw [e]; exact hg)))]
   exact h9
theorem hb_app {vr v':Value}{L:List Slot}{B i m:Nat}{s:Slot}(h:(HbA vr L).p B cs w)(hi:L[i]?=some s)(hown:w'.ownsRow B U32 1 v' (s.ys.length+1) (s.ys.map lv++[lv m]))(hg:w.grownBy w' s.u.ownBlock)
  (hb:v'.ownBlock=s.u.ownBlock∨(v'.ownBlock=some w.heap.size∧w.grownBy w' none)) (hpre:s.u.ownBlock=s.v.ownBlock→s.xs <+: s.ys):(HbA vr (L.set i { s with u:=v',ys:=s.ys++[m] })).p B cs w':=by
 have hs:=h.2.2.1 s (qa hi)
 have hlt:∀ (g:Nat) (c:Array Value) (T:TypeId),w.heap[g]?=some (Obj.cells c T (0,0))→g<w.heap.size:=λ g c T h=>(Array.getElem?_eq_some_iff.1 h).1
 refine DT h hi G ⟨by simpa using hown,?_⟩ (λ g c h8=>?_) (λ g c h8 h9=>?_) λ g h8=>?_
 ·refine ⟨hs.2.1,λ g hgv=>?_⟩
  obtain ⟨h1,c,h2,h3⟩:=hs.2.2 g hgv
  by_cases e:s.u.ownBlock=some g
  ·rcases hb with hb | ⟨hb,hgn⟩
   ·rcases hown.2 with ⟨e1,_⟩ | ⟨g',cap,cur,e1,h4,h5,h6,h7,h10,h11⟩
    ·rw [e1,e] at hb
     cases hb
    ·have:g'=g:=by
      have:v'.ownBlock=some g':=by rw [e1]; rfl
      rw [hb,e] at this
      injection this with this
      exact this.symm
     subst this
     refine ⟨h1,cur,h5,?_⟩
     obtain ⟨t,ht⟩:=hpre (e.trans hgv.symm)
     have hle:s.xs.length≤s.ys.length:=by rw [← ht]; simp
     rw [zT] at h11
     have h12:=qk (List.take s.xs.length) h11
     rw [jl,xi zo] at h12
     show cur.toList.take s.xs.length=s.xs.map lv
     rw [h12,← ht]
     simp [zN]
   ·exact ⟨h1,c,(hgn.block g (hlt _ _ _ h2) (by simp)).trans h2,h3⟩
  ·exact ⟨h1,c,(hg.block g (hlt _ _ _ h2) (λ e2=>e e2.symm)).trans h2,h3⟩
 ·refine (hg.block g (hlt _ _ _ h8) (λ e=>?_)).trans h8
  obtain ⟨_,c2,h9⟩:=hs.lt (g:=g) (.inr e.symm)
  rw [h8] at h9
  injection h9 with h9
  injection h9 with _ h9 _
  revert h9
  decide
 ·exact (hg.block g (hlt _ _ _ h9) (λ e=>h8 (.inr e.symm))).trans h9
 ·rcases h8 with h8 | h8
  ·exact .inl (.inl h8)
  ·rcases hb with hb | ⟨hb,_⟩
   ·exact .inl (.inr (hb.symm.trans h8))
   ·have h8':v'.ownBlock=some g:=h8
    rw [hb] at h8'
    injection h8' with h8'
    exact .inr (xZ h8')
theorem yT:∀ {L:List Slot} {i:Nat} {s:Slot},L[i]?=some s→∀ z,(L.set i { s with z:=z }).flatMap Slot.cells=(L.flatMap Slot.cells).set (3*i+1) z
 | x::L,0,s,h,z=>by
  simp at h
  subst h
  rfl
 | x::L,i+1,s,h,z=>by
  simp only [xU,zG]
  rw [yT (by simpa using h) z,show 3*(i+1)+1=(3*i+1)+3 by omega]
  rfl
theorem Ct {L:List Slot}:(L.flatMap Slot.cells).length=L.length*3:=by
 induction L with
 | nil=>rfl
 | cons x L ih=>rw [zG,qn,ih,qR]; show 3+_=_; omega
theorem DU {L:List Slot}{B i g cap:Nat}{s:Slot}(z:Value)(h:(HbA vr L).p B cs w)(hi:L[i]?=some s)(hvr:vr=.slice (some ⟨g,0,none⟩) L.length cap):
  B≤g∧∃ c:Array Value,w.heap[g]?=some (Obj.cells c 127 (0,0))∧i*3+1<c.size∧(HbA vr (L.set i { s with z:=z })).p B cs (w.setRow g (c.setIfInBounds (i*3+1) z)):=by
 obtain ⟨h1,h2,h3,h4⟩:=h
 have hlt:i<L.length:=(List.getElem?_eq_some_iff.1 hi).1
 rcases h2.2 with ⟨e,_⟩ | ⟨g',cap',cur,e,q2,q3,q4,q5,q6,q7⟩
 ·rw [hvr] at e; cases e
 ·rw [hvr] at e
  injection e with e1 e2 e3
  injection e1 with e1
  injection e1 with e1
  subst e1
  have hsz:i*3+1<cur.size:=by
   rw [q6]
   have:L.length*3≤cap'*3:=qG 3 q4
   omega
  have hnew:(w.setRow g (cur.setIfInBounds (i*3+1) z)).heap[g]?=some (Obj.cells (cur.setIfInBounds (i*3+1) z) 127 (0,0)):=setRow_heap w g _ _ _ _ q3
  refine ⟨q2,cur,q3,hsz,h1,?_,λ t ht=>?_,λ j k t1 t2 hj hk hne g2 hg hg'=>?_⟩
  ·rw [qS,yT hi]
   refine ⟨by rw [qS,Ct],.inr ⟨g,cap',_,?_,q2,hnew,q4,q5,by simp [q6],?_⟩⟩
   ·rw [hvr,e3]
   ·rw [xL,kn,q7,show 3*i+1=i*3+1 by omega]
  ·have hkeep:∀ t':Slot,t'.ok B w→t'.ok B (w.setRow g (cur.setIfInBounds (i*3+1) z)):=λ t' ht'=>ht'.keep λ g2 c2 hg2 h8=>by
    rw [setRow_other _ _ _ _ (λ e=>by subst e; rw [q3] at h8; injection h8 with h8; injection h8 with _ h8 _; revert h8; decide)]
    exact h8
   rcases qp ht with ht | rfl
   ·exact hkeep t (h3 t ht)
   ·exact hkeep _ (h3 s (qa hi))
  ·have hsame:∀ (j:Nat) t,(L.set i { s with z:=z })[j]?=some t→∃ t0,L[j]?=some t0∧∀ g,t.has g→t0.has g:=λ j t hj=>by
    by_cases e:j=i
    ·subst e
     rw [List.getElem?_set_self hlt] at hj
     injection hj with hj
     subst hj
     exact ⟨s,hi,λ g h=>h⟩
    ·rw [List.getElem?_set_ne (λ e2=>e e2.symm)] at hj
     exact ⟨t,hj,λ g h=>h⟩
   obtain ⟨t3,r1,r2⟩:=hsame j t1 hj
   obtain ⟨t4,r3,r4⟩:=hsame k t2 hk
   exact h4 j k t3 t4 r1 r3 hne g2 (r2 g2 hg) (r4 g2 hg')
abbrev mkN (n:Nat):Nat:=100000+n
def EqS (v:Value):As where
 n:=1
 ag:=false
 p _ cs _:=cs=[v]∧v.oneCell'=true
 deps:=[]
 len:=by rintro B cs w ⟨rfl,_⟩; rfl
 one:=by rintro B cs w ⟨rfl,h⟩ c hc; simp at hc; subst hc; exact h
 ag1:=λ _=>rfl
 cg:=λ _ _ _ _ _ h=>h
 wr:=λ _ _ _ _ _ _ _ _ _ _ _ _ h=>h
theorem lR {v u:Value}(h:(EqS v).va.p B u w):u=v:=by
 obtain ⟨cs,⟨rfl,_⟩,h2⟩:=h
 exact h2
theorem oG:Wk (EqS v).va (EqV v):=λ _ _ _ h=>lR h
def BkA (vr:Value)(L:List Slot):As:=cat [NumA .i64 (L.length:Nat),HbA vr L,EqS (.slice none 0 0),EqS (.slice none 0 0),EqS (.slice none 0 0),EqS (.slice none 0 0),EqS (.slice none 0 0),EqS (.slice none 0 0),EqS (.slice none 0 0),EqS (.slice none 0 0),EqS (.slice none 0 0),EqS (.slice none 0 0),EqS (.slice none 0 0),EqS (.slice none 0 0),EqS (.slice none 0 0),EqS (.slice none 0 0),EqS (.slice none 0 0)]
def Slot.view (s:Slot):As:=cat [EqS s.v,EqS s.z,NumA .i64 (s.n:Nat)]
structure Slot.wf (s:Slot):Prop where
 rv:RowV s.v s.xs.length
 ox:okL s.xs
 oy:okL s.ys
 z1:s.z.oneCell'=true
 n1:s.n≤1000000
 lx:s.xs.length≤2000000000000
theorem RowV.one {n:Nat}(h:RowV v n):v.oneCell'=true:=by
 rcases h with ⟨rfl,_⟩ | ⟨g,cap,rfl,_⟩ <;> rfl
theorem tI {B:Nat}{w:World}:∀ {L:List Slot},(∀ s∈L,s.wf)→(cat (L.map Slot.view)).p B (L.flatMap Slot.cells) w
 | [],_=>⟨[],rfl,.nil⟩
 | s::L,h=>by
  obtain ⟨ps,e,hp⟩:=tI (B:=B) (w:=w) (L:=L) λ t ht=>h t (by simp [ht])
  refine ⟨s.cells::ps,by rw [zG,e]; rfl,.cons ?_ hp⟩
  exact ⟨[[s.v],[s.z],[.int .i64 s.n]],rfl,.cons ⟨rfl,(h s (by simp)).rv.one⟩ (.cons ⟨rfl,(h s (by simp)).z1⟩ (.cons G .nil))⟩
theorem hb_sl {L:List Slot}(h:∀ s∈L,s.wf):Wk (HbA vr L).va (SlA 127 [] (L.map Slot.view)).va:=λ B v w ⟨cs,⟨e,h2,_⟩,hv⟩=>by
 subst e
 have hv':v=vr:=hv
 subst hv'
 refine ii (b:=B) (m:=3) B v w ⟨λ A hA=>?_,λ A hA T hT=>?_,L.flatMap Slot.cells,tI h,?_⟩
 ·obtain ⟨s,_,rfl⟩:=qm.1 hA; rfl
 ·obtain ⟨s,_,rfl⟩:=qm.1 hA; cases (show T∈([]:List TypeId) from hT)
 ·rw [qi]; exact h2
theorem ws {xs:List Nat}(h:Rdy B w v xs)(ok:okL xs):(MgA xs).va.p B v w:=by
 rcases h.1 with ⟨rfl,e⟩ | ⟨g,cap,rfl,h1,h2⟩
 ·exact dW ⟨ok,by omega,za _,λ h=>by omega⟩ e.symm
 ·obtain ⟨_,c,h3,h4⟩:=h.2 g rfl
  refine dW (Mag.own h3 ok h1 h2 λ j hj=>?_) rfl
  have h5:=qk (λ l=>l[j]?) h4
  simp only [List.getElem?_take,hj,if_true,List.getElem?_map,List.getElem?_eq_getElem hj,qH] at h5
  rw [← Array.getElem?_toList]
  exact h5
theorem wL {ys:List Nat}(h:w.ownsRow B U32 1 v ys.length (ys.map lv)):Rdy B w v ys:=by
 rcases h.2 with ⟨rfl,e⟩ | ⟨g,cap,cur,rfl,h1,h2,h3,h4,h5,h6⟩
 ·exact ⟨.inl ⟨rfl,e⟩,λ g hg=>by cases hg⟩
 ·refine ⟨.inr ⟨g,cap,rfl,h3,h4⟩,λ g' hg=>?_⟩
  have:g=g':=by simpa [Value.ownBlock] using hg
  subst this
  rw [zT] at h6
  exact ⟨h1,cur,h2,h6⟩
section
open Rg
variable {P:Program} {Q:Exit→Act→World→Prop} {R:Rg} {B i:Nat} {w0:Bs}
end
theorem uR {n:Nat}(h:n≤1000000):IntKind.i64.wrap (100000+(n:Int))=((mkN n:Nat):Int):=by
 rw [wi64 zo zo]
 simp
theorem rZ {n:Nat}(h:n≤1000000):IntKind.u32.wrap ((mkN n:Nat):Int)=((mkN n:Nat):Int):=wu32 (by unfold mkN; omega)
theorem DF (n0:Nat)(hn:n0≤1000000):Cn Tryz.prog 138 [In (n0:Nat)] ((NumA .u32 (mkN n0:Nat)).va):=by
 refine Cn.intro Tryz.func138 G zk nq (λ B w0 a U=>?_)
 have U:=zn [(0,In (n0:Nat))] [] U
 refine qb<|zh [.v 2 _] [.g 0,.o 0] U (zv G (a9 (aD 0 G)) o0) (zz [(0,_),(2,_)] [] λ a w U=>?_)
 refine zt<|zh [.v 3 _,.v 4 _,.v 5 _,.v 2 _] [.o 3] U (zM 0 G (zv G (aQ a8 (vq 0 G) (uR hn)) (zv G (aI .u32 zk zk (vq 1 G) (rZ hn)) (zA 2 G o0)))) (zz [(2,_)] [] λ a w U=>?_)
 exact a7<|qe<|an G U (zm 0 G)
theorem sY (x0 n0:Nat)(hn:n0≤1000000):Cn Tryz.prog 154 [(NumA .u32 (x0:Nat)).va,In (n0:Nat)] (Bo (((x0:Nat):Int)==((mkN n0:Nat):Int))):=by
 refine Cn.intro Tryz.func154 G zk nq (λ B w0 a U=>?_)
 have U:=zn [(0,(NumA .u32 (x0:Nat)).va),(1,In (n0:Nat))] [] U
 refine qb<|zh [.v 4 _] [.g 0,.g 1,.o 0] U (zv G (a9 aB) o0) (zz [(0,_),(1,_),(4,_)] [] λ a w U=>?_)
 refine zt<|zh [.v 5 _,.v 6 _,.v 7 _,.v 8 _,.v 9 _,.v 4 _] [.o 5] U (zM 0 G (zM 1 G (zv G (aQ a8 (vq 1 G) (uR hn)) (zv G (aI .u32 zk zk (vq 2 G) (rZ hn)) (zv G (bF (vq 0 G) (vq 3 G)) (zA 4 G o0)))))) (zz [(4,_)] [] λ a w U=>?_)
 exact a7<|qe<|an G U (zm 0 G)
theorem iA:Str Tryz.prog 127 [EqS (.slice none 0 0),EqS (.slice none 0 0),NumA .i64 0] :=
 Str.of (z:=.agg #[.slice none 0 0,.slice none 0 0,.int .i64 0]) zk Tryz.underlying127 zk λ B w=>⟨[[.slice none 0 0],[.slice none 0 0],[.int .i64 0]],rfl,.cons ⟨rfl,rfl⟩ (.cons ⟨rfl,rfl⟩ (.cons rfl .nil))⟩
def Slot.fil (s:Slot)(k:Nat):Slot:={ s with xs:=List.replicate k (mkN s.n)++s.xs.drop k,ys:=List.replicate k (mkN s.n)++s.xs.drop k }
theorem i6 {s:Slot}{k:Nat}(h:k≤s.xs.length):(s.fil k).xs.length=s.xs.length:=by
 show (List.replicate k (mkN s.n)++s.xs.drop k).length=_
 rw [qn,qU,xw]; omega
theorem fil_0 {s:Slot}(h:s.ys=s.xs):s.fil 0=s:=by
 obtain ⟨v,xs,u,ys,z,n⟩:=s
 have h:ys=xs:=h
 subst h
 rfl
theorem GL {s:Slot}{k:Nat}(h:k<s.xs.length):(s.fil k).xs.set k (mkN s.n)=(s.fil (k+1)).xs:=by
 show (List.replicate k (mkN s.n)++s.xs.drop k).set k (mkN s.n)=List.replicate (k+1) (mkN s.n)++s.xs.drop (k+1)
 rw [xE _ _ (by simp),qU,xY,xe h,kV,xJ,qD]
 rfl
structure Slot.new (s:Slot):Prop extends s.wf where
 uv:s.u=s.v
 yx:s.ys=s.xs
theorem FP {n k:Nat}(h:n≤1000000):okL (List.replicate k (mkN n)):=λ x hx=>by
 rw [(xl.1 hx).2]; unfold mkN; omega
theorem A3 {s:Slot}{k:Nat}(h:s.wf):okL (s.fil k).xs:=λ x hx=>by
 rcases qw.1 hx with hx | hx
 ·exact FP h.n1 x hx
 ·exact h.ox x (kJ hx)
theorem yZ {s:Slot}{k:Nat}(h:s.wf)(hk:k≤s.xs.length):(s.fil k).wf:=⟨by rw [i6 hk]; exact h.rv,A3 h,A3 h,h.z1,h.n1,by rw [i6 hk]; exact h.lx⟩
def fl (L:List Slot)(i k:Nat):List Slot:=L.mapIdx λ j s=>if j<i then s.fil s.xs.length else if j=i then s.fil k else s
theorem yU {L:List Slot}{i k:Nat}:(fl L i k).length=L.length:=by unfold fl; simp
theorem Cu {L:List Slot}{i k:Nat}{s:Slot}(h:L[i]?=some s):(fl L i k)[i]?=some (s.fil k):=by
 unfold fl
 rw [List.getElem?_mapIdx,h]
 simp
theorem GI {L:List Slot}{i k:Nat}{s:Slot}(h:L[i]?=some s)(hk:k<s.xs.length):(fl L i k).set i { s.fil k with xs:=(s.fil k).xs.set k (mkN s.n),ys:=(s.fil k).xs.set k (mkN s.n) }=fl L i (k+1):=by
 apply jw
 intro j
 by_cases e:j=i
 ·subst e
  rw [List.getElem?_set_self (by rw [yU]; exact (List.getElem?_eq_some_iff.1 h).1),Cu h,GL hk]
  rfl
 ·rw [List.getElem?_set_ne (λ e2=>e e2.symm)]
  unfold fl
  rw [List.getElem?_mapIdx,List.getElem?_mapIdx]
  simp [e]
theorem GJ {L:List Slot}{i:Nat}{s:Slot}(h:L[i]?=some s)(hn:∀ s∈L,s.new):fl L i s.xs.length=fl L (i+1) 0:=by
 apply jw
 intro j
 unfold fl
 rw [List.getElem?_mapIdx,List.getElem?_mapIdx]
 cases hj:L[j]? with
 | none=>rfl
 | some t =>
  simp only [qH]
  by_cases e:j=i
  ·subst e
   rw [h] at hj
   injection hj with hj
   subst hj
   simp
  ·by_cases e1:j<i
   ·rw [qC e1,qC zo]
   ·rw [qA e1,qA e,qA zo]
    by_cases e2:j=i+1
    ·rw [qC e2,fil_0 (hn t (qa hj)).yx]
    ·rw [qA e2]
theorem GH {L:List Slot}(hn:∀ s∈L,s.new):fl L 0 0=L:=by
 apply jw
 intro j
 unfold fl
 rw [List.getElem?_mapIdx]
 cases hj:L[j]? with
 | none=>rfl
 | some t =>
  simp only [qH,jE,if_false]
  by_cases e:j=0
  ·rw [qC e,fil_0 (hn t (qa hj)).yx]
  ·rw [qA e]
theorem fl_end {L:List Slot}{k:Nat}:fl L L.length k=L.map λ s=>s.fil s.xs.length:=by
 apply jw
 intro j
 unfold fl
 rw [List.getElem?_mapIdx,List.getElem?_map]
 cases hj:L[j]? with
 | none=>rfl
 | some t =>
  have:=(List.getElem?_eq_some_iff.1 hj).1
  simp only [qH]
  rw [qC this]
theorem fl_wf {L:List Slot}{i k:Nat}(hn:∀ s∈L,s.new)(hk:∀ s,L[i]?=some s→k≤s.xs.length):∀ s∈fl L i k,s.wf:=λ s hs=>by
 obtain ⟨j,hj⟩:=List.getElem?_of_mem hs
 unfold fl at hj
 rw [List.getElem?_mapIdx] at hj
 cases ht:L[j]? with
 | none=>rw [ht] at hj; cases hj
 | some t =>
  rw [ht] at hj
  have hw:=(hn t (qa ht)).towf
  simp only [qH,Option.some.injEq] at hj
  split at hj
  ·subst hj; exact yZ hw (qg _)
  ·split at hj
   ·rename_i e; subst e; subst hj; exact yZ hw (hk t ht)
   ·subst hj; exact hw
theorem pO {L:List Slot}{i:Nat}{s:Slot}(h:L[i]?=some s):(L.map Slot.view)[i]?=some s.view:=by rw [List.getElem?_map,h]; rfl
theorem uV {L:List Slot}:∀ A∈L.map Slot.view,A.n=3:=λ A hA=>by
 obtain ⟨s,_,rfl⟩:=qm.1 hA; rfl
theorem RowV.row {n k:Nat}(h:RowV v n)(hk:k<n):∃ g cap,v=.slice (some ⟨g,0,none⟩) n cap:=by
 rcases h with ⟨_,e⟩ | ⟨g,cap,h,_⟩
 ·omega
 ·exact ⟨g,cap,h⟩
theorem bC {ops:Array Oper}{Q:Exit→Act→World→Prop}(h:Q .normal a w):wpOps P ops Q [] a w:=h
theorem df {ops:Array Oper}{Q:Exit→Act→World→Prop}(h:Q .normal a w):wpOps P ops Q [] (a.put none undef) w:=h
theorem Ev {k:IntKind}{n:Int}:Wk (NumA k n).va (EqV (.int k n)):=λ _ _ _ h=>bo h
theorem CT:∃ it z,Tryz.prog.info? 128=some it∧it.zero=some z∧it.size=1∧it.bytes=4∧z.cells.size=1:=by
 have h:((Tryz.prog.info? 128).bind λ it=>it.zero.map λ z=>(it.size,it.bytes,z.cells.size))=some (1,4,1):=by kernel_rfl
 cases hi:Tryz.prog.info? 128 with
 | none=>rw [hi] at h; simp at h
 | some it =>
  rw [hi] at h
  cases hz:it.zero with
  | none=>simp [hz] at h
  | some z =>
   simp [hz] at h
   exact ⟨it,z,rfl,hz,h.1,h.2.1,h.2.2⟩
def Slot.ext (s:Slot)(u:Value)(k:Nat):Slot:={ s with u:=u,ys:=List.replicate (s.xs.length+k) (mkN s.n) }
structure Slot.full (s:Slot):Prop extends s.wf where
 uv:s.u=s.v
 yx:s.ys=s.xs
 xm:s.xs=List.replicate s.xs.length (mkN s.n)
theorem ext_0 {s:Slot}(h:s.full):s.ext s.v 0=s:=by
 have h1:=h.uv
 have h2:=h.yx
 have h3:=h.xm
 obtain ⟨v,xs,u,ys,z,n⟩:=s
 simp only at h1 h2 h3
 subst h1 h2
 show Slot.mk u ys u (List.replicate (ys.length+0) (mkN n)) z n=_
 rw [jf,← h3]
structure Grew (s t:Slot):Prop where
 v:t.v=s.v
 xs:t.xs=s.xs
 n:t.n=s.n
 z:t.z=t.u
 ys:t.ys=List.replicate (s.xs.length+70) (mkN s.n)
def Gr (L M:List Slot)(i:Nat):Prop:=M.length=L.length∧∀ (j:Nat) s,L[j]?=some s→∃ t,M[j]?=some t∧(j<i→Grew s t)∧(i≤j→t=s)
theorem gr_0 {L:List Slot}:Gr L L 0:=⟨rfl,λ j s h=>⟨s,h,λ h=>absurd h (jE _),λ _=>rfl⟩⟩
theorem gr_at {L M:List Slot}{i:Nat}{s:Slot}(h:Gr L M i)(hs:L[i]?=some s):M[i]?=some s:=by
 obtain ⟨t,h1,_,h2⟩:=h.2 i s hs
 rw [h1,h2 (qg _)]
theorem Gv {L M:List Slot}{i:Nat}{s:Slot}{u:Value}(h:Gr L M i)(hs:L[i]?=some s):Gr L (M.set i { s.ext u 70 with z:=u }) (i+1):=by
 refine ⟨by rw [qS]; exact h.1,λ j s' hj=>?_⟩
 by_cases e:j=i
 ·subst e
  rw [hs] at hj
  injection hj with hj
  subst hj
  refine ⟨_,List.getElem?_set_self (by rw [h.1]; exact (List.getElem?_eq_some_iff.1 hs).1),λ _=>⟨rfl,rfl,rfl,rfl,rfl⟩,λ h=>by omega⟩
 ·obtain ⟨t,h1,h2,h3⟩:=h.2 j s' hj
  exact ⟨t,by rw [List.getElem?_set_ne (λ e2=>e e2.symm)]; exact h1,λ h=>h2 zo,λ h=>h3 zo⟩
theorem gr_mem {L M:List Slot}{i:Nat}(h:Gr L M i){t:Slot}(ht:t∈M):∃ s∈L,Grew s t∨t=s:=by
 obtain ⟨j,hj⟩:=List.getElem?_of_mem ht
 have hlt:=(List.getElem?_eq_some_iff.1 hj).1
 rw [h.1] at hlt
 obtain ⟨t',h1,h2,h3⟩:=h.2 j _ (List.getElem?_eq_getElem hlt)
 rw [hj] at h1
 injection h1 with h1
 subst h1
 refine ⟨_,qf hlt,?_⟩
 by_cases e:j<i
 ·exact .inl (h2 e)
 ·exact .inr (h3 zo)
def One1 (M:List Slot):Prop:=∀ s∈M,s.v.oneCell'=true∧s.z.oneCell'=true
theorem pH {B:Nat}{w:World}:∀ {L:List Slot},One1 L→(cat (L.map Slot.view)).p B (L.flatMap Slot.cells) w
 | [],_=>⟨[],rfl,.nil⟩
 | s::L,h=>by
  obtain ⟨ps,e,hp⟩:=pH (B:=B) (w:=w) (L:=L) λ t ht=>h t (by simp [ht])
  refine ⟨s.cells::ps,by rw [zG,e]; rfl,.cons ?_ hp⟩
  exact ⟨[[s.v],[s.z],[.int .i64 s.n]],rfl,.cons ⟨rfl,(h s (by simp)).1⟩ (.cons ⟨rfl,(h s (by simp)).2⟩ (.cons G .nil))⟩
theorem t6 {L:List Slot}(h:One1 L):Wk (HbA vr L).va (SlA 127 [] (L.map Slot.view)).va:=λ B v w ⟨cs,⟨e,h2,_⟩,hv⟩=>by
 subst e
 have hv':v=vr:=hv
 subst hv'
 refine ii (b:=B) (m:=3) B v w ⟨λ A hA=>?_,λ A hA T hT=>?_,L.flatMap Slot.cells,pH h,?_⟩
 ·obtain ⟨s,_,rfl⟩:=qm.1 hA; rfl
 ·obtain ⟨s,_,rfl⟩:=qm.1 hA; cases (show T∈([]:List TypeId) from hT)
 ·rw [qi]; exact h2
theorem Gm {L:List Slot}:Wk (HbA vr L).va (EqV vr):=λ B v w ⟨cs,⟨e,_⟩,hv⟩=>by
 subst e
 exact hv
theorem cY {E m n B:Nat}{xs:List Value}(h:w.ownsRow B E m v n xs):v.oneCell'=true∧RowV v n:=by
 rcases h.2 with ⟨rfl,e⟩ | ⟨g,cap,cur,rfl,_,_,h3,h4,_⟩
 ·exact ⟨rfl,.inl ⟨rfl,e⟩⟩
 ·exact ⟨rfl,.inr ⟨g,cap,rfl,h3,h4⟩⟩
theorem gr_z {L M:List Slot}{i:Nat}(h:Gr L M i)(hf:∀ s∈L,s.full):∀ t∈M,t.z.oneCell'=true∨t.z=t.u:=λ t ht=>by
 obtain ⟨s,hs,h1 | h1⟩:=gr_mem h ht
 ·exact .inr h1.z
 ·subst h1; exact .inl (hf t hs).z1
theorem RowV.cell {n:Nat}(h:RowV v n):v.cells = #[v]:=by
 rcases h with ⟨rfl,_⟩ | ⟨g,cap,rfl,_⟩ <;> rfl
theorem okm {n:Nat}(h:n≤1000000):okL [mkN n]:=λ y hy=>by
 have:y=mkN n:=by simpa using hy
 subst this
 unfold mkN
 omega
theorem HD {l:List Nat}:Wk (MgA l).va (SlA U32 [] (l.map λ (x:Nat)=>NumA .u32 (x:Int))).va:=λ _ _ _ h=>(dx h).2
theorem w3 {M:List Slot}{i:Nat}{x y:Slot}:(M.set i x).set i y=M.set i y:=by simp
theorem Bj {M:List Slot}{i:Nat}{x:Slot}(h:M[i]?=some x):M.set i x=M:=by
 obtain ⟨h1,h2⟩:=List.getElem?_eq_some_iff.1 h
 subst h2
 simp
structure Slot.done (t:Slot):Prop where
 zu:t.z=t.u
 xm:t.xs=List.replicate t.xs.length (mkN t.n)
 ym:t.ys=List.replicate (t.xs.length+70) (mkN t.n)
 n1:t.n≤1000000
 lx:t.xs.length≤2000000000000
theorem Gw {L M:List Slot}(h:Gr L M L.length)(hf:∀ s∈L,s.full):∀ t∈M,t.done:=λ t ht=>by
 obtain ⟨j,hj⟩:=List.getElem?_of_mem ht
 have hlt:=(List.getElem?_eq_some_iff.1 hj).1
 rw [h.1] at hlt
 obtain ⟨t',h1,h2,_⟩:=h.2 j _ (List.getElem?_eq_getElem hlt)
 rw [hj] at h1
 injection h1 with h1
 subst h1
 have hG:=h2 hlt
 have hs:=hf _ (qf hlt)
 refine ⟨hG.z,?_,?_,?_,?_⟩
 ·rw [hG.xs,hG.n]; exact hs.xm
 ·rw [hG.xs,hG.n]; exact hG.ys
 ·rw [hG.n]; exact hs.n1
 ·rw [hG.xs]; exact hs.lx
theorem ou {t:Slot}(h:t.done):t.ys.length=t.xs.length+70:=by rw [h.ym,qU]
theorem Aj {t:Slot}(h:t.done):okL t.xs:=h.xm▸FP h.n1
theorem Ai {t:Slot}(h:t.done):okL t.ys:=h.ym▸FP h.n1
theorem H3 {t:Slot}(h:t.done){k:Nat}(hk:k<t.xs.length):t.xs[k]=mkN t.n:=by
 have h1:=h.xm
 have h2:t.xs[k]?=(List.replicate t.xs.length (mkN t.n))[k]?:=qk (λ l=>l[k]?) h1
 rw [List.getElem?_eq_getElem hk,List.getElem?_replicate,qC hk] at h2
 injection h2
theorem GZ {t:Slot}(h:t.done){k:Nat}(hk:k<t.ys.length):t.ys[k]=mkN t.n:=by
 have h2:t.ys[k]?=(List.replicate (t.xs.length+70) (mkN t.n))[k]?:=qk (λ l=>l[k]?) h.ym
 rw [List.getElem?_eq_getElem hk,List.getElem?_replicate,qC (by rw [← ou h]; exact hk)] at h2
 injection h2
theorem G0 {t:Slot}(h:t.done){k:Nat}(hk:k<t.ys.length):((!(((t.ys[k]:Nat):Int)==((mkN t.n:Nat):Int))) || (decide ((k:Int)<(t.xs.length:Int))&&(!(((t.xs.getD k 0:Nat):Int)==((mkN t.n:Nat):Int)))))=false:=by
 rw [GZ h hk,beq_self_eq_true,kr,ja]
 by_cases h2:k<t.xs.length
 ·rw [List.getD_eq_getElem?_getD,List.getElem?_eq_getElem h2,z8,H3 h h2,beq_self_eq_true,kr,kc]
 ·rw [zP zo,Bool.false_and]
section
open Rg
variable {P:Program} {Q:Exit→Act→World→Prop} {B N:Nat} {w0:Bs} {Γ:List (Nat × VA)} {Λ:List Lc} {a:Act} {w:World}
def lesA (Λ:List Lc)(d n:Nat):List Le:=(Λ.map λ l=>⟨l.s,l.T,l.H,none,l.A,none⟩)++[⟨d,999999,ptrH,some n,OneC,some (n+1,OneC)⟩]
theorem ta {id:Nat}{ops:Array Oper}{sp:List Sp}(n m d:Nat)(src:List Src)
  (h:St B w0 N Γ Λ a w) (hob:Obs P Q ⟨ops,N,Γ,lesA Λ d n,sp,λ i=>List.range i⟩ B w0 0 n) (hsz:ops.size=n+m) (hk:Rg.chk ⟨ops,N,Γ,lesA Λ d n,sp,λ i=>List.range i⟩=true)
  (hsrc:src.all (λ s=>match s with | .g k=>(match Γ[k]? with | some x=>Rg.outG ⟨ops,N,Γ,lesA Λ d n,sp,λ i=>List.range i⟩ x.1 | none=>false) | .o i=>decide (i<n))=true)
  (hQ:∀ a' w',St B w0 N (src.filterMap (takeS ⟨ops,N,Γ,lesA Λ d n,sp,λ i=>List.range i⟩)) Λ a' w'→wpOps P ops Q (List.range' n m) a' w'):(Code.region id ops false).wp P Q a w:=by
 refine Rg.linK (R:=⟨ops,N,Γ,lesA Λ d n,sp,λ i=>List.range i⟩) (m:=m) hsz G hk h (λ y hy hcr=>?_) (λ i hi=>hob.all i zo zo) λ a1 w1 hinv=>?_
 ·rcases qw.1 hy with hy | hy
  ·obtain ⟨l,hl,rfl⟩:=qm.1 hy
   exact hl
  ·obtain rfl:=qq.1 hy
   cases hcr
 ·exact hQ a1 w1 (nT (λ l' hl'=>⟨none,qw.2 (.inl (qm.2 ⟨l',hl',rfl⟩))⟩) (λ y hy i A' h1=>by
   rcases qw.1 hy with hy | hy
   ·obtain ⟨l,hl,rfl⟩:=qm.1 hy
    cases h1
   ·obtain rfl:=qq.1 hy
    injection h1 with h1
    injection h1 with h1 _
    omega) hinv src hsrc)
end
section
open Rg
variable {P:Program} {Q:Exit→Act→World→Prop} {R:Rg} {B i:Nat} {w0:Bs}
theorem bv {x:Operand}{E:TypeId}{A:As}(hx:Has R B w0 i x (ElP E A)):Wv P Q R B w0 i (.nilCheck x) (ElP E A) :=
 bm λ d T ps af gd a w av=>by
  have h:=hx a w av
  obtain ⟨b,o,cs,hv,_⟩:=h
  exact ⟨a.eval x,w,by simp [execOp,hv],Grow.refl w,hx a w av⟩
end
theorem HE {n:Nat}(h:n≤2000000000000):IntKind.i64.wrap ((n:Int)+70)=((n+70:Nat):Int):=by rw [wi64 zo zo]; rfl
theorem br:Wk (EqS (.slice none 0 0)).va (SlA 0 [] []).va:=bO oG DB
section
open Rg
variable {R:Rg} {B i:Nat} {w0:Bs}
end
abbrev filL (L:List Slot):List Slot:=L.map λ s=>s.fil s.xs.length
theorem Cv {s:Slot}(h:s.new):(s.fil s.xs.length).full:=by
 have e:(s.fil s.xs.length).xs=List.replicate s.xs.length (mkN s.n):=by
  show List.replicate s.xs.length (mkN s.n)++s.xs.drop s.xs.length=_
  rw [xO,zp]
 exact ⟨yZ h.towf (qg _),h.uv,rfl,by rw [e,qU]; rfl⟩
theorem px {L:List Slot}(h:∀ s∈L,s.new):∀ s∈filL L,s.full:=λ s hs=>by
 obtain ⟨t,ht,rfl⟩:=qm.1 hs
 exact Cv (h t ht)
section
open Rg
variable {P:Program} {Q:Exit→Act→World→Prop} {B N:Nat} {w0:Bs} {Γ:List (Nat × VA)} {Λ:List Lc} {a:Act} {w:World}
theorem Gi {R:Rg}{n:Nat}{L:Nat→Bool}(hL:∀ i,n≤i→L i=false)(hles:∀ l'∈Λ,∃ st,(⟨l'.s,l'.T,l'.H,none,l'.A,st⟩:Le)∈R.les)(hles2:∀ y∈R.les,∀ i A,y.st=some (i,A)→n≤i)(hinv:R.Inv B w0 L a w)(src:List Src)
  (hsrc:src.all (λ s=>match s with | .g k=>(match R.Γ[k]? with | some x=>Rg.outG R x.1 | none=>false) | .o i=>L i)=true):St B w0 R.N (src.filterMap (takeS R)) Λ a w:=by
 have hcl:∀ deps,Rg.clash R L deps=false:=λ deps=>by
  unfold Rg.clash
  rw [xb]
  intro y hy
  cases U:y.st with
  | none=>simp
  | some x =>
   obtain ⟨i,B'⟩:=x
   have:=hles2 y hy i B' U
   have hno:=hL i zo
   simp [hno]
 have hcur:∀ y∈R.les,y.cr=none→Rg.cur L y=some y.A0:=λ y hy h0=>by
  unfold Rg.cur
  rw [h0]
  simp only [Rg.crOk,if_true]
  cases U:y.st with
  | none=>rfl
  | some x =>
   obtain ⟨i,B'⟩:=x
   have:=hles2 y hy i B' U
   have hno:=hL i zo
   simp [hno]
 refine ⟨hinv.lo,hinv.defers,hinv.size,hinv.base,λ x hx=>?_,λ l' hl'=>?_,λ l1 h1 l2 h2 hne=>?_⟩
 rotate_left
 ·obtain ⟨st,hy⟩:=hles l' hl'
  exact hinv.c _ hy l'.A (hcur _ hy G)
 ·obtain ⟨s1,hy1⟩:=hles l1 h1
  obtain ⟨s2,hy2⟩:=hles l2 h2
  exact hinv.x _ hy1 _ hy2 hne (by rw [hcur _ hy1 rfl]; rfl) (by rw [hcur _ hy2 rfl]; rfl)
 obtain ⟨s,hs1,hs2⟩:=qJ.1 hx
 have ho:=qc.1 hsrc s hs1
 cases s with
 | g k =>
  simp only [takeS] at hs2
  simp only [hs2] at ho
  refine hinv.g x (qa hs2) (λ q hq hdq=>?_) (hcl _)
  cases h2:R.ops[q]? with
  | none=>unfold Rg.dst at hdq; rw [h2] at hdq; cases hdq
  | some v =>
   have:=qc.1 ho q (by simpa using (Array.getElem?_eq_some_iff.1 h2).1)
   exact absurd hdq (by simpa using this)
 | o i =>
  simp only [takeS] at hs2
  cases hy:R.sp[i]? with
  | none=>rw [hy] at hs2; cases hs2
  | some y =>
   rw [hy] at hs2
   exact hinv.v i y x.1 x.2 hy hs2 ho (hcl _)
end
section
variable {P:Program} {R:Rg} {Q:Exit→Act→World→Prop} {B:Nat} {w0:Bs} {a:Act} {w:World}
open Rg in
theorem Rg.drawJ {id:Nat}{n m:Nat}(z:Nat)(hz:z<n)(hsz2:R.ops.size=n+m)(hm0:0<m)(hm:P.follows .mixedOrders=true)(hanc:ancOk R=true)(J:(Nat→Bool)→Act→World→Prop)(hJc:∀ {L L':Nat→Bool} {a:Act} {w:World},J L a w→(∀ k,L' k=L k)→J L' a w)(hJ0:J (λ _=>false) a w.drew)
  (hJs:∀ i,i<n→∀ (L:Nat→Bool) (a:Act) (w:World),J L a w→Closed R L→L i=false→(∀ j,(R.anc i).contains j=true→L j=true)→∀ K:Act→World→Prop,(∀ a' w',J (upd L i) a' w'→K a' w')→wpOp P R.ops Q i K a w) (ha0:∀ j,j<n→j≠z→(R.anc n).contains j=true) (ha1:∀ i,n<i→i<n+m→∀ j,j<i→(R.anc i).contains j=true)
  (hQ:∀ a w,J (λ k=>decide (k<n)) a w→wpOps P R.ops Q (List.range' n m) a w) (hQz:∀ a w,J (λ k=>decide (k<n)&&k != z) a w→wpOps P R.ops Q (n::z::List.range' (n+1) (m-1)) a w) :
  (Code.region id R.ops true).wp P Q a w:=by
 refine wp_region_any hm ?_
 have ho:∀ i,i<R.ops.size→∃ o:Oper,R.ops[i]?=some o∧(∀ j,(R.anc i).contains j=true→∃ e∈o.after,Region.binds .any e=true∧(e.on=j∨(R.anc e.on).contains j=true)) ∧
   ∀ e∈o.after,Region.binds .any e=true→e.on<i:=by
  intro i hi
  have:=qc.1 hanc i (by simpa using hi)
  cases hoi:R.ops[i]? with
  | none=>rw [hoi] at this; cases this
  | some o =>
   rw [hoi] at this
   simp only [qj] at this
   refine ⟨o,rfl,λ j hj=>?_,λ e he hb=>?_⟩
   ·have hh:=qc.1 this.1 j (by simpa using hj)
    obtain ⟨e,he,h1⟩:=jp.1 hh
    simp only [qj,zr,xh] at h1
    exact ⟨e,he,h1.1,h1.2⟩
   ·have hh:=zw.1 this.2 e he
    simpa [hb] using hh
 have hrd:∀ (listed:Array Bool) i,i∈Region.ready .any R.ops listed→i<R.ops.size∧listed.getD i true=false∧∀ o,R.ops[i]?=some o→∀ e∈o.after,Region.binds .any e=true→listed.getD e.on false=true:=by
  intro listed i hi
  unfold Region.ready at hi
  obtain ⟨h1,h2⟩:=z4.1 hi
  simp only [qj,qz] at h2
  refine ⟨by simpa using h1,h2.1,λ o hoi e he hb=>?_⟩
  have h3:=h2.2
  rw [hoi] at h3
  simp only [qH,z8] at h3
  have:=zw.1 h3 e he
  simpa [hb] using this
 have hset:∀ (listed:Array Bool) (i k:Nat),listed.size=R.ops.size→i<R.ops.size→(listed.setIfInBounds i true).getD k false=upd (λ i=>listed.getD i false) i k:=by
  intro listed i k hsz hi
  unfold upd
  by_cases hki:k=i
  ·subst hki
   simp [hsz,hi]
  ·simp [hki,Array.getElem?_setIfInBounds_ne (λ e=>hki e.symm)]
 have hpos:∀ (listed:Array Bool) (i:Nat),i<R.ops.size→listed.getD i false=false→0<(List.range R.ops.size).countP (λ k => !listed.getD k false):=λ listed i hi hl =>
  jd.2 ⟨i,by simpa using hi,by simp only [hl]; rfl⟩
 have hlt:∀ (listed:Array Bool) (i:Nat),listed.size=R.ops.size→i<R.ops.size→listed.getD i false=false→(List.range R.ops.size).countP (λ k => !(listed.setIfInBounds i true).getD k false)<(List.range R.ops.size).countP (λ k => !listed.getD k false):=by
  intro listed i hsz hi hLi
  refine ei (x:=i) (λ x hx=>?_) (by simpa using hi) (by rw [hLi]; rfl) (by rw [hset listed i i hsz hi,cf]; rfl)
  have hx':upd (λ i=>listed.getD i false) i x=false:=by
   rw [← hset listed i x hsz hi]
   simpa only [qz] using hx
  rw [(dn hx').2]
  rfl
 have hfull:∀ (listed:Array Bool),listed.size=R.ops.size→Region.ready .any R.ops listed=[]→∀ k,k<R.ops.size→listed.getD k false=true:=by
  intro listed hsz hr k
  induction k using Nat.strongRecOn with
  | _ k ih =>
   intro hkn
   cases hl:listed.getD k false with
   | true=>rfl
   | false =>
    exfalso
    obtain ⟨x,ho1,_,ho3⟩:=ho k hkn
    have:k∈Region.ready .any R.ops listed:=by
     unfold Region.ready
     refine z4.2 ⟨by simpa using hkn,?_⟩
     have h0:listed.getD k true=false:=by
      simp only [Array.getD,hsz,hkn,dite_true] at hl ⊢
      exact hl
     rw [h0,ho1]
     simp only [jo,jP,qH,z8]
     refine zw.2 λ e he=>?_
     cases hb:Region.binds .any e with
     | false=>rfl
     | true=>simpa using ih e.on (ho3 e he hb) (qY (ho3 e he hb) hkn)
    rw [hr] at this
    cases this
 have hancL:∀ (listed:Array Bool) i,Closed R (λ i=>listed.getD i false)→i∈Region.ready .any R.ops listed→∀ j,(R.anc i).contains j=true→listed.getD j false=true:=by
  intro listed i hcl hir j hj
  obtain ⟨h1,h2,h3⟩:=hrd listed i hir
  obtain ⟨x,ho1,ho2,_⟩:=ho i h1
  obtain ⟨e,he,hb,hj'⟩:=ho2 j hj
  have hl:=h3 x ho1 e he hb
  rcases hj' with rfl | hj'
  ·exact hl
  ·exact hcl e.on hl j hj'
 have hclN:∀ (listed:Array Bool) i,listed.size=R.ops.size→Closed R (λ i=>listed.getD i false)→i∈Region.ready .any R.ops listed→Closed R (λ k=>(listed.setIfInBounds i true).getD k false):=by
  intro listed i hsz hcl hir k hk' j hj
  obtain ⟨h1,_,_⟩:=hrd listed i hir
  have hk2:upd (λ i=>listed.getD i false) i k=true:=by rw [← hset listed i k hsz h1]; exact hk'
  show (listed.setIfInBounds i true).getD j false=true
  rw [hset listed i j hsz h1]
  rcases pa hk2 with rfl | h4
  ·exact dm _ (hancL listed k hcl hir j hj)
  ·exact dm _ (hcl k h4 j hj)
 have tail:∀ q k,k+q=n+m→n≤k→∀ fuel (listed:Array Bool) a w,listed.size=R.ops.size→(List.range R.ops.size).countP (λ i => !listed.getD i false)≤fuel→Closed R (λ i=>listed.getD i false) →
   (∀ j,j<k→listed.getD j false=true)→(∀ j,k≤j→j<n+m→listed.getD j false=false)→wpOps P R.ops Q (List.range' k q) a w→wpAny P .any R.ops Q fuel listed a w:=by
  intro q
  induction q with
  | zero =>
   intro k hkq hnk fuel listed a w hsz hcnt hcl hall _ hwp
   have hr:Region.ready .any R.ops listed=[]:=by
    cases hrr:Region.ready .any R.ops listed with
    | nil=>rfl
    | cons i rest =>
     obtain ⟨h1,h2,_⟩:=hrd listed i (by rw [hrr]; simp)
     have:=hall i zo
     simp only [Array.getD,hsz,h1,dite_true] at h2 this
     rw [h2] at this
     cases this
   cases fuel with
   | zero=>exact ⟨hr,hwp⟩
   | succ fuel=>exact ⟨λ _=>hwp,λ i hir=>by rw [hr] at hir; cases hir⟩
  | succ q ih =>
   intro k hkq hnk fuel listed a w hsz hcnt hcl hall hnone hwp
   have hLk:listed.getD k false=false:=hnone k (qg _) zo
   have hp:=hpos listed k zo hLk
   cases fuel with
   | zero=>omega
   | succ fuel =>
    refine ⟨λ hr=>absurd (hfull listed hsz hr k zo) (by rw [hLk]; decide),λ i hir=>?_⟩
    obtain ⟨h1,h2,h3⟩:=hrd listed i hir
    have hik:i=k:=by
     by_cases e:i=k
     ·exact e
     ·exfalso
      by_cases hlt':i<k
      ·have:=hall i hlt'
       simp only [Array.getD,hsz,h1,dite_true] at h2 this
       rw [h2] at this
       cases this
      ·have:=hancL listed i hcl hir k (ha1 i zo zo k zo)
       rw [hLk] at this
       cases this
    subst hik
    rw [List.range'_succ,qv] at hwp
    refine wpOp_mono (λ a' w' hr=>ih (i+1) zo zo fuel _ a' w' (by simpa using hsz) ?_ (hclN listed i hsz hcl hir) (λ j hj=>?_) (λ j hj hj2=>?_) hr) hwp
    ·have:=hlt listed i hsz h1 hLk
     omega
    ·rw [hset listed i j hsz h1]
     by_cases e:j=i
     ·rw [e]; exact cf _ _
     ·exact dm _ (hall j zo)
    ·rw [hset listed i j hsz h1,du _ zo]
     exact hnone j zo hj2
 have tailz:∀ fuel (listed:Array Bool) a w,listed.size=R.ops.size→(List.range R.ops.size).countP (λ i => !listed.getD i false)≤fuel→Closed R (λ i=>listed.getD i false) →
   (∀ j,j<n→j≠z→listed.getD j false=true)→listed.getD z false=false→listed.getD n false=true→(∀ j,n+1≤j→j<n+m→listed.getD j false=false)→wpOps P R.ops Q (z::List.range' (n+1) (m-1)) a w→wpAny P .any R.ops Q fuel listed a w:=by
  intro fuel listed a w hsz hcnt hcl hall hzf hnt hnone hwp
  have hp:=hpos listed z zo hzf
  cases fuel with
  | zero=>omega
  | succ fuel =>
   refine ⟨λ hr=>absurd (hfull listed hsz hr z zo) (by rw [hzf]; decide),λ i hir=>?_⟩
   obtain ⟨h1,h2,h3⟩:=hrd listed i hir
   have hLi:listed.getD i false=false:=by
    simp only [Array.getD,hsz,h1,dite_true] at h2 ⊢
    exact h2
   have hiz:i=z:=by
    by_cases e:i=z
    ·exact e
    ·exfalso
     by_cases hlt':i<n
     ·rw [hall i hlt' e] at hLi; cases hLi
     ·by_cases e2:i=n
      ·rw [e2,hnt] at hLi; cases hLi
      ·have:=hancL listed i hcl hir z (ha1 i zo zo z zo)
       rw [hzf] at this
       cases this
   subst hiz
   rw [qv] at hwp
   refine wpOp_mono (λ a' w' hr=>tail (m-1) (n+1) zo zo fuel _ a' w' (by simpa using hsz) ?_ (hclN listed i hsz hcl hir) (λ j hj=>?_) (λ j hj hj2=>?_) hr) hwp
   ·have:=hlt listed i hsz h1 hLi
    omega
   ·rw [hset listed i j hsz h1]
    by_cases e:j=i
    ·rw [e]; exact cf _ _
    ·by_cases e2:j=n
     ·rw [e2]; exact dm _ hnt
     ·exact dm _ (hall j zo e)
   ·rw [hset listed i j hsz h1,du _ zo]
    exact hnone j zo hj2
 have key:∀ fuel (listed:Array Bool) a w,listed.size=R.ops.size→(List.range R.ops.size).countP (λ i => !listed.getD i false)≤fuel→Closed R (λ i=>listed.getD i false) →
   (∀ j,n≤j→j<n+m→listed.getD j false=false)→J (λ i=>listed.getD i false) a w→wpAny P .any R.ops Q fuel listed a w:=by
  intro fuel
  induction fuel with
  | zero =>
   intro listed a w hsz hcnt hcl hn0 hi
   have:=hpos listed n zo (hn0 n (qg _) zo)
   omega
  | succ fuel ih =>
   intro listed a w hsz hcnt hcl hn0 hi
   have hn00:=hn0 n (qg _) zo
   by_cases hdone:∀ j,j<n→listed.getD j false=true
   ·refine tail m n G (qg _) (fuel+1) listed a w hsz hcnt hcl hdone hn0 (hQ a w (hJc hi λ k=>?_))
    by_cases hkn:k<n
    ·rw [hdone k hkn]; simp [hkn]
    ·by_cases hkm:k<n+m
     ·rw [hn0 k zo hkm]; simp [hkn]
     ·have:listed.getD k false=false:=by simp [Array.getD,hsz,hsz2,hkm]
      rw [this]; simp [hkn]
   ·refine ⟨λ hr=>absurd (hfull listed hsz hr n zo) (by rw [hn00]; decide),λ i hir=>?_⟩
    obtain ⟨h1,h2,h3⟩:=hrd listed i hir
    have hLi:listed.getD i false=false:=by
     simp only [Array.getD,hsz,h1,dite_true] at h2 ⊢
     exact h2
    by_cases hin:i<n
    ·refine hJs i hin _ _ _ hi hcl hLi (hancL listed i hcl hir) _ λ a' w' hi'=>ih _ _ _ (by simpa using hsz) ?_ (hclN listed i hsz hcl hir) ?_ (hJc hi' λ k=>hset listed i k hsz h1)
     ·have:=hlt listed i hsz h1 hLi
      omega
     ·intro j hj hj2
      rw [hset listed i j hsz h1,du _ zo]
      exact hn0 j hj hj2
    ·by_cases hgt:n<i
     ·exact absurd (λ j hj=>hancL listed i hcl hir j (ha1 i hgt zo j zo)) hdone
     ·have hin':i=n:=by omega
      have hjs:∀ j,j<n→j≠z→listed.getD j false=true:=λ j hj hne=>hancL listed i hcl hir j (by rw [hin']; exact ha0 j hj hne)
      have hzf:listed.getD z false=false:=by
       cases hh:listed.getD z false with
       | false=>rfl
       | true=>exact absurd (λ j hj=>if e:j=z then e▸hh else hjs j hj e) hdone
      have hwp:=hQz a w (hJc hi λ k=>by
       by_cases hkn:k<n
       ·by_cases hkz:k=z
        ·subst hkz; rw [hzf]; simp
        ·rw [hjs k hkn hkz]; simp [hkn,hkz]
       ·by_cases hkm:k<n+m
        ·rw [hn0 k zo hkm]; simp [hkn]
        ·have:listed.getD k false=false:=by simp [Array.getD,hsz,hsz2,hkm]
         rw [this]; simp [hkn])
      rw [qv] at hwp
      rw [hin']
      rw [hin'] at hir hLi h1
      refine wpOp_mono (λ a' w' hr=>tailz fuel _ a' w' (by simpa using hsz) ?_ (hclN listed n hsz hcl hir) (λ j hj hne=>?_) ?_ ?_ (λ j hj hj2=>?_) hr) hwp
      ·have:=hlt listed n hsz h1 hLi
       omega
      ·rw [hset listed n j hsz h1]; exact dm _ (hjs j hj hne)
      ·rw [hset listed n z hsz h1,du _ zo]; exact hzf
      ·rw [hset listed n n hsz h1]; exact cf _ _
      ·rw [hset listed n j hsz h1,du _ zo]; exact hn0 j zo hj2
 refine key _ _ a _ (by simp) ?_ ?_ ?_ ?_
 ·refine qd (x5) (by simp)
 ·intro i hi
  exfalso
  simp only [Array.getD,qF] at hi
  split at hi <;> simp at hi
 ·intro j hj hj2
  simp only [Array.getD,qF]
  split <;> simp
 ·refine hJc hJ0 λ k=>?_
  simp only [Array.getD,qF]
  split <;> simp
open Rg in
theorem Rg.drawZ {id:Nat}{n m:Nat}(z:Nat)(hz:z<n)(hsz2:R.ops.size=n+m)(hm0:0<m)(hm:P.follows .mixedOrders=true)(hanc:ancOk R=true)(hk:R.chk=true)(h:St B w0 R.N R.Γ Λ a w)(hles:∀ e∈R.les,e.cr=none→(⟨e.s,e.T,e.H,e.A0⟩:Lc)∈Λ)
  (hob:∀ i,i<n→R.Ob P Q B w0 i) (ha0:∀ j,j<n→j≠z→(R.anc n).contains j=true) (ha1:∀ i,n<i→i<n+m→∀ j,j<i→(R.anc i).contains j=true)
  (hQ:∀ a w,R.Inv B w0 (λ k=>decide (k<n)) a w→wpOps P R.ops Q (List.range' n m) a w) (hQz:∀ a w,R.Inv B w0 (λ k=>decide (k<n)&&k != z) a w→wpOps P R.ops Q (n::z::List.range' (n+1) (m-1)) a w) :
  (Code.region id R.ops true).wp P Q a w:=by
 have hs:=start h hles
 have hd:R.Inv B w0 (λ _=>false) a w.drew:=⟨hs.lo,hs.defers.grow (Grow.drew w) rfl,hs.size,hs.base.drew,λ x hx h1 h2=>x.2.grow _ _ _ _ (Grow.drew w) (hs.g x hx h1 h2),(λ i y d A _ _ hf=>by cases hf),(λ i d b k c _ hf=>by cases hf),
  λ e he A hA=>(hs.c e he A hA).grow (Grow.drew w),hs.x⟩
 exact Rg.drawJ z hz hsz2 hm0 hm hanc (λ L a w=>R.Inv B w0 L a w) (λ h hk'=>h.congr hk') hd (λ i hi L a w hJ hcl hL ha K hK=>step hk (hob i hi) hJ hcl hL ha K hK) ha0 ha1 hQ hQz
end
section
open Rg
variable {P:Program} {Q:Exit→Act→World→Prop} {B N:Nat} {w0:Bs} {Γ:List (Nat × VA)} {Λ:List Lc} {a:Act} {w:World}
theorem t8 {id:Nat}{ops:Array Oper}{sp:List Sp}(anc:List (List Nat))(n m e j z:Nat)(A:As)(src srcz:List Src)(hmx:P.follows .mixedOrders=true)
  (h:St B w0 N Γ Λ a w) (hob:Obs P Q ⟨ops,N,Γ,lesS Λ e j A,sp,λ i=>anc.getD i []⟩ B w0 0 n) (hsz:ops.size=n+m) (hm:0<m) (hj:n≤j) (hz:z<n) (hanc:Rg.ancOk ⟨ops,N,Γ,lesS Λ e j A,sp,λ i=>anc.getD i []⟩=true)
  (ha0:(List.range n).all (λ j=>j==z || (anc.getD n []).contains j)=true) (hall:∀ i,n+1≤i→i<n+1+(m-1)→∀ j,j<i→(anc.getD i []).contains j=true) (hk:Rg.chk ⟨ops,N,Γ,lesS Λ e j A,sp,λ i=>anc.getD i []⟩=true)
  (hsrc:src.all (λ s=>match s with | .g k=>(match Γ[k]? with | some x=>Rg.outG ⟨ops,N,Γ,lesS Λ e j A,sp,λ i=>anc.getD i []⟩ x.1 | none=>false) | .o i=>decide (i<n))=true)
  (hsrcz:srcz.all (λ s=>match s with | .g k=>(match Γ[k]? with | some x=>Rg.outG ⟨ops,N,Γ,lesS Λ e j A,sp,λ i=>anc.getD i []⟩ x.1 | none=>false) | .o i=>decide (i<n)&&i != z)=true)
  (hQ:∀ a' w',St B w0 N (src.filterMap (takeS ⟨ops,N,Γ,lesS Λ e j A,sp,λ i=>anc.getD i []⟩)) Λ a' w'→wpOps P ops Q (List.range' n m) a' w')
  (hQz:∀ a' w',St B w0 N (srcz.filterMap (takeS ⟨ops,N,Γ,lesS Λ e j A,sp,λ i=>anc.getD i []⟩)) Λ a' w'→wpOps P ops Q (n::z::List.range' (n+1) (m-1)) a' w'):(Code.region id ops true).wp P Q a w:=by
 have hl1:∀ l'∈Λ,∃ st,(⟨l'.s,l'.T,l'.H,none,l'.A,st⟩:Le)∈lesS Λ e j A:=λ l' hl'=>by
  obtain ⟨j',hj'⟩:=List.getElem?_of_mem hl'
  exact ⟨_,qm.2 ⟨(l',j'),zx.2 hj',rfl⟩⟩
 have hl2:∀ y∈lesS Λ e j A,∀ i A',y.st=some (i,A')→n≤i:=λ y hy i B' h1=>by have:=(gZ y hy).2.2 i B' h1; omega
 refine Rg.drawZ (R:=⟨ops,N,Γ,lesS Λ e j A,sp,λ i=>anc.getD i []⟩) (m:=m) z hz hsz hm hmx hanc hk h (λ y hy _=>(gZ y hy).2.1) (λ i hi=>hob.all i zo zo) (λ j hj hne=>?_) (λ i h1 h2 j hj=>hall i zo zo j hj) (λ a1 w1 hinv=>?_) λ a1 w1 hinv=>?_
 ·have:=qc.1 ha0 j (by simpa using hj)
  simpa [hne] using this
 ·exact hQ a1 w1 (nT hl1 hl2 hinv src hsrc)
 ·exact hQz a1 w1 (Gi (n:=n) (λ i hi=>by simp [show ¬ i<n by omega]) hl1 hl2 hinv srcz hsrcz)
theorem wQ {ops:Array Oper}{i:Nat}{K:Act→World→Prop}{d u:Nat}{T':TypeId}{A:VA}(ku:Nat)(ho:ops[i]?=some ⟨some d,.move (.tmp u),T',ps,af,none⟩)(h:St B w0 N Γ Λ a w)
  (hu:Γ[ku]?=some (u,A)) (hd:d<N) (hΓ:Γ.all (λ x=>x.1 != d)=true) (hΛ:Λ.all (λ l=>l.s != d)=true)
  (hK:∀ a',St B w0 N ((d,A)::Γ) Λ a' w→K a' w):wpOp P ops Q i K a w :=
 wP (A:=A) (v:=a.eval (.tmp u)) ho h hd hΓ hΛ (by simp [execOp]) (h.vals _ (qa hu)) (hK _)
end
theorem CU:∃ it z,Tryz.prog.info? 127=some it∧it.zero=some z∧it.size=3∧it.bytes=56∧z.cells.size=3:=by
 have h:((Tryz.prog.info? 127).bind λ it=>it.zero.map λ z=>(it.size,it.bytes,z.cells.size))=some (3,56,3):=by kernel_rfl
 cases hi:Tryz.prog.info? 127 with
 | none=>rw [hi] at h; simp at h
 | some it =>
  rw [hi] at h
  cases hz:it.zero with
  | none=>simp [hz] at h
  | some z =>
   simp [hz] at h
   exact ⟨it,z,rfl,hz,h.1,h.2.1,h.2.2⟩
def newS (v:Value)(xs:List Nat)(n:Nat):Slot:=⟨v,xs,v,xs,.slice none 0 0,n⟩
def BkE (L:List Slot):As where
 n:=17
 ag:=true
 p B cs w:=∃ vr,(BkA vr L).p B cs w
 deps:=[127,U32]
 len:=λ B cs w ⟨vr,h⟩=>(BkA vr L).len B cs w h
 one:=λ B cs w ⟨vr,h⟩=>(BkA vr L).one B cs w h
 ag1:=λ h=>by cases h
 cg:=λ B cs w w' hg ⟨vr,h⟩=>⟨vr,(BkA vr L).cg B cs w w' hg h⟩
 wr:=λ B cs w w' g c T fz h1 h2 h3 h4 ⟨vr,h⟩=>⟨vr,(BkA vr L).wr B cs w w' g c T fz h1 h2 h3 h4 h⟩
theorem mg_own {xs:List Nat}(h:(MgN xs).va.p B v w):w.ownsRow B U32 1 v xs.length (xs.map lv):=by
 obtain ⟨cs,⟨h0,⟨rfl,rfl⟩ | ⟨g,ext,rfl,e1,e2,e3⟩⟩,hv⟩:=h
 ·have hv':v=.slice none 0 0:=hv
  subst hv'
  exact ⟨rfl,.inl ⟨rfl,rfl⟩⟩
 ·have hv':v=.slice (some ⟨g,0,none⟩) xs.length (xs++ext).length:=hv
  subst hv'
  refine ⟨by simp,.inr ⟨g,(xs++ext).length,_,rfl,e2,e3,by simp,e1,by simp,?_⟩⟩
  rw [zT]
  show (List.map _ (xs++ext)).take xs.length=_
  rw [zF,zN (by simp),qB (by simp)]
  rfl
theorem yH {n B:Nat}{xs:List Nat}{ds:List Value}(h:(cat [EqS v,EqS (.slice none 0 0),NumA .i64 (n:Nat)]).p B ds w):ds=(newS v xs n).cells:=by
 obtain ⟨ps,rfl,hp⟩:=h
 cases hp with
 | cons h1 hp=>cases hp with
  | cons h2 hp=>cases hp with
   | cons h3 hp =>
    cases hp
    have h3':=h3
    obtain ⟨rfl,_⟩:=h1
    obtain ⟨rfl,_⟩:=h2
    have:_=[Value.int .i64 (n:Nat)]:=h3'
    subst this
    rfl
theorem pin_eq {xs:List Nat}:Wk (PinA v (MgN xs)).va (EqS v).va:=λ B u w ⟨cs,⟨h1,h2⟩,h3⟩=>by
 have h4:u=v:=h3.trans h2
 subst h4
 have hl:=(MgN xs).len _ _ _ h1
 have h5:=(MgN xs).one _ _ _ h1
 match cs,hl with
 | [x],_ =>
  have h6:u=x:=h3
  subst h6
  exact ⟨[u],⟨rfl,h5 u (by simp)⟩,rfl⟩
theorem Dw {v u:Value}{xs:List Nat}(h:(PinA v (MgN xs)).va.p B u w):(MgN xs).va.p B v w:=by
 obtain ⟨cs,⟨h1,h2⟩,_⟩:=h
 exact ⟨cs,h1,h2.symm⟩
section
open Rg
variable {P:Program} {Q:Exit→Act→World→Prop} {R:Rg} {B i:Nat} {w0:Bs}
theorem ib {x:Operand}{g o:Nat}(hx:Has R B w0 i x (EqV (.pointer (some ⟨g,o,none⟩)))):Wv P Q R B w0 i (.nilCheck x) (EqV (.pointer (some ⟨g,o,none⟩))) :=
 bm λ d T ps af gd a w av=>by
  have h:a.eval x=.pointer (some ⟨g,o,none⟩):=hx a w av
  exact ⟨_,w,by simp [execOp,h],Grow.refl w,rfl⟩
theorem ic {x:Operand}{f k n g o:Nat}(hx:Has R B w0 i x (EqV (.pointer (some ⟨g,o,none⟩))))(hf:Fld P T f k n):Wv P Q R B w0 i (.fieldAddr T x f) (EqV (.pointer (some ⟨g,o+k,none⟩))) :=
 bm λ d T ps af gd a w av=>by
  have h:a.eval x=.pointer (some ⟨g,o,none⟩):=hx a w av
  exact ⟨_,w,by simp [execOp,h,da hf],Grow.refl w,rfl⟩
end
end Go.Proofs.YtkpifdpdeanjfaaGreatDoor
