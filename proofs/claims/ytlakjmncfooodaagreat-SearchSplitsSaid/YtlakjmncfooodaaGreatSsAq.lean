import Derived.Test.YtlakjmncfooodaaGreatSsAn
import Derived.Test.YtlakjmncfooodaaGreatSsAo
import Derived.Test.YtlakjmncfooodaaGreatSsAp
import Derived.Deep.DeepAppendRoom
import Derived.Maps.Own
import Derived.Maps.OwnSet
import Derived.Maps.Views
import Derived.Carry
import Derived.StringKeys
set_option linter.all false
set_option maxRecDepth 100000
namespace Go.Proofs.YtlakjmncfooodaaGreat
open Go Go.RowKit
variable {w:World}{B:Nat}{a:Act}{v:Value}{T:TypeId}{w0:Bs}{Γ:List (Nat × VA)}{Λ:List Lc}{ps:String}{af:Array Edge}{vr:Value}{H:Hd}{cs:List Value}{w':World}{P:Program}{D:List TypeId}
section
open Rg
variable {P:Program} {Q:Exit→Act→World→Prop} {B N:Nat} {w0:Bs} {Γ:List (Nat × VA)} {Λ:List Lc} {a:Act} {w:World}
theorem kw {R:Rg}{n:Nat}(hles:∀ l'∈Λ,∃ st,(⟨l'.s,l'.T,l'.H,none,l'.A,st⟩:Le)∈R.les)(hles2:∀ y∈R.les,∀ i A,y.st=some (i,A)→n≤i)(hinv:R.Inv B w0 (λ k=>decide (k<n)) a w)(src:List Src)
  (hsrc:src.all (λ s=>match s with | .g k=>(match R.Γ[k]? with | some x=>Rg.outG R x.1 | none=>false) | .o i=>decide (i<n))=true):St B w0 R.N (src.filterMap (takeS R)) Λ a w:=by
 have hcl:∀ deps,Rg.clash R (λ k=>decide (k<n)) deps=false:=λ deps=>by
  unfold Rg.clash
  rw [xK]
  intro y hy
  cases U:y.st with
  | none=>simp
  | some x =>
   obtain ⟨i,B'⟩:=x
   have:=hles2 y hy i B' U
   have hno:¬ i<n:=by omega
   simp [hno]
 have hcur:∀ y∈R.les,y.cr=none→Rg.cur (λ k=>decide (k<n)) y=some y.A0:=λ y hy h0=>by
  unfold Rg.cur
  rw [h0]
  simp only [Rg.crOk,if_true]
  cases U:y.st with
  | none=>rfl
  | some x =>
   obtain ⟨i,B'⟩:=x
   have:=hles2 y hy i B' U
   have hno:¬ i<n:=by omega
   simp [hno]
 refine ⟨hinv.lo,hinv.defers,hinv.size,hinv.base,λ x hx=>?_,λ l' hl'=>?_,λ l1 h1 l2 h2 hne=>?_⟩
 rotate_left
 ·obtain ⟨st,hy⟩:=hles l' hl'
  exact hinv.c _ hy l'.A (hcur _ hy G)
 ·obtain ⟨s1,hy1⟩:=hles l1 h1
  obtain ⟨s2,hy2⟩:=hles l2 h2
  exact hinv.x _ hy1 _ hy2 hne (by rw [hcur _ hy1 rfl]; rfl) (by rw [hcur _ hy2 rfl]; rfl)
 obtain ⟨s,hs1,hs2⟩:=q9.1 hx
 have ho:=qd.1 hsrc s hs1
 cases s with
 | g k =>
  simp only [takeS] at hs2
  simp only [hs2] at ho
  refine hinv.g x (qb hs2) (λ q hq hdq=>?_) (hcl _)
  cases h2:R.ops[q]? with
  | none=>unfold Rg.dst at hdq; rw [h2] at hdq; cases hdq
  | some v =>
   have:=qd.1 ho q (by simpa using (Array.getElem?_eq_some_iff.1 h2).1)
   exact absurd hdq (by simpa using this)
 | o i =>
  simp only [takeS] at hs2
  cases hy:R.sp[i]? with
  | none=>rw [hy] at hs2; cases hs2
  | some y =>
   rw [hy] at hs2
   exact hinv.v i y x.1 x.2 hy hs2 ho (hcl _)
theorem go_headD {id:Nat}{ops:Array Oper}{sp:List Sp}(anc:List (List Nat))(n m e j:Nat)(A:As)(src:List Src)(hmx:P.follows .mixedOrders=true)
  (h:St B w0 N Γ Λ a w) (hob:Obs P Q ⟨ops,N,Γ,lesS Λ e j A,sp,λ i=>anc.getD i []⟩ B w0 0 n) (hsz:ops.size=n+m) (hm:0<m) (hj:n≤j) (hanc:Rg.ancOk ⟨ops,N,Γ,lesS Λ e j A,sp,λ i=>anc.getD i []⟩=true) (hall:∀ i,n≤i→i<n+m→∀ j,j<i→(anc.getD i []).contains j=true) (hk:Rg.chk ⟨ops,N,Γ,lesS Λ e j A,sp,λ i=>anc.getD i []⟩=true)
  (hsrc:src.all (λ s=>match s with | .g k=>(match Γ[k]? with | some x=>Rg.outG ⟨ops,N,Γ,lesS Λ e j A,sp,λ i=>anc.getD i []⟩ x.1 | none=>false) | .o i=>decide (i<n))=true)
  (hQ:∀ a' w',St B w0 N (src.filterMap (takeS ⟨ops,N,Γ,lesS Λ e j A,sp,λ i=>anc.getD i []⟩)) Λ a' w'→wpOps P ops Q (List.range' n m) a' w'):(Code.region id ops true).wp P Q a w:=by
 refine Rg.drawK (R:=⟨ops,N,Γ,lesS Λ e j A,sp,λ i=>anc.getD i []⟩) (m:=m) hsz hm hmx hanc hk h (λ y hy _=>?_) (λ i hi=>hob.all i zo zo) (λ i h1 h2 j hj=>hall i h1 h2 j hj) λ a1 w1 hinv=>?_
 ·exact (dU y hy).2.1
 ·exact hQ a1 w1 (kw (λ l' hl'=>by
   obtain ⟨j',hj'⟩:=List.getElem?_of_mem hl'
   exact ⟨_,qp.2 ⟨(l',j'),zi.2 hj',rfl⟩⟩) (λ y hy i B' h1=>by have:=(dU y hy).2.2 i B' h1; omega) hinv src hsrc)
theorem gU {id:Nat}{ops:Array Oper}{sp:List Sp}(n m e j:Nat)(A:As)(src:List Src)
  (h:St B w0 N Γ Λ a w) (hob:Obs P Q ⟨ops,N,Γ,lesS Λ e j A,sp,λ i=>List.range i⟩ B w0 0 n) (hsz:ops.size=n+m) (hj:n≤j) (hk:Rg.chk ⟨ops,N,Γ,lesS Λ e j A,sp,λ i=>List.range i⟩=true)
  (hsrc:src.all (λ s=>match s with | .g k=>(match Γ[k]? with | some x=>Rg.outG ⟨ops,N,Γ,lesS Λ e j A,sp,λ i=>List.range i⟩ x.1 | none=>false) | .o i=>decide (i<n))=true)
  (hQ:∀ a' w',St B w0 N (src.filterMap (takeS ⟨ops,N,Γ,lesS Λ e j A,sp,λ i=>List.range i⟩)) Λ a' w'→wpOps P ops Q (List.range' n m) a' w'):(Code.region id ops false).wp P Q a w:=by
 refine Rg.linK (R:=⟨ops,N,Γ,lesS Λ e j A,sp,λ i=>List.range i⟩) (m:=m) hsz G hk h (λ y hy _=>?_) (λ i hi=>hob.all i zo zo) λ a1 w1 hinv=>?_
 ·exact (dU y hy).2.1
 ·exact hQ a1 w1 (kw (λ l' hl'=>by
   obtain ⟨j',hj'⟩:=List.getElem?_of_mem hl'
   exact ⟨_,qp.2 ⟨(l',j'),zi.2 hj',rfl⟩⟩) (λ y hy i B' h1=>by have:=(dU y hy).2.2 i B' h1; omega) hinv src hsrc)
theorem St.addV {d:Nat}{A:VA}(h:St B w0 N Γ Λ a w)(hd:d<N)(hΓ:Γ.all (λ x=>x.1 != d)=true)(hΛ:Λ.all (λ l=>l.s != d)=true)(hA:A.p B v w):St B w0 N ((d,A)::Γ) Λ (a.put (some d) v) w:=by
 have hdsz:d<a.tmps.size:=by rw [h.size]; exact hd
 have hl:∀ l∈Λ,l.s≠d:=λ l hl=>by simpa using qd.1 hΛ l hl
 refine ⟨h.lo,h.defers.keep G λ _ hD=>hD,by rw [size_put]; exact h.size,h.base,λ x hx=>?_,λ l hl'=>?_,λ l1 h1 l2 h2 hne=>?_⟩
 ·rcases qn.1 hx with rfl | hx
  ·show A.p B ((a.put (some d) v).eval (.tmp d)) w
   rw [aY _ _ _ hdsz]
   exact hA
  ·have:x.1≠d:=by simpa using qd.1 hΓ x hx
   rw [an _ _ _ _ this]
   exact h.vals x hx
 ·exact (h.locs l hl').eval (an _ _ _ _ (hl l hl'))
 ·rw [an _ _ _ _ (hl l1 h1),an _ _ _ _ (hl l2 h2)]
  exact h.dis l1 h1 l2 h2 hne
variable {ops:Array Oper} {i:Nat} {K:Act→World→Prop}
theorem fX {d:Nat}{op:Op}{T':TypeId}{A:VA}(ho:ops[i]?=some ⟨some d,op,T',ps,af,none⟩)(h:St B w0 N Γ Λ a w)(hd:d<N)(hΓ:Γ.all (λ x=>x.1 != d)=true)(hΛ:Λ.all (λ l=>l.s != d)=true)
  (hr:(execOp a.eval ⟨some d,op,T',ps,af,none⟩).run P w=.ok (.value v) w) (hA:A.p B v w) (hK:St B w0 N ((d,A)::Γ) Λ (a.put (some d) v) w→K (a.put (some d) v) w):wpOp P ops Q i K a w:=by
 unfold wpOp
 simp only [ho,Region.wanted,if_true]
 exact .inl (ba hr (hK (h.addV hd hΓ hΛ hA)))
theorem op_idxS {d u y:Nat}{S E:TypeId}{T':TypeId}{g n c k m:Nat}{kd:IntKind}(ku ky:Nat)(ho:ops[i]?=some ⟨some d,.indexAddr S (.tmp u) (.tmp y),T',ps,af,none⟩)(h:St B w0 N Γ Λ a w)(hS:Sl P S E m)(hm:m≠0)
  (hu:Γ[ku]?=some (u,EqV (.slice (some ⟨g,0,none⟩) n c))) (hy:Γ[ky]?=some (y,(NumA kd k).va)) (hk:k<n) (hd:d<N) (hΓ:Γ.all (λ x=>x.1 != d)=true) (hΛ:Λ.all (λ l=>l.s != d)=true)
  (hK:∀ a',St B w0 N ((d,EqV (.pointer (some ⟨g,k*m,none⟩)))::Γ) Λ a' w→K a' w):wpOp P ops Q i K a w:=by
 have h3:a.eval (.tmp u)=.slice (some ⟨g,0,none⟩) n c:=h.vals _ (qb hu)
 have e:=aL (h.vals _ (qb hy))
 obtain ⟨hs1,hs2⟩:=hS
 refine fX (A:=EqV (.pointer (some ⟨g,k*m,none⟩))) ho h hd hΓ hΛ ?_ G (hK _)
 cases hi:P.info? E with
 | none=>rw [hi] at hs2; simp at hs2
 | some it =>
  rw [hi] at hs2
  have hsz:it.size=m:=by simpa using hs2
  by_cases h0:k=0
  ·subst h0; simp [execOp,h3,e,Instr.indexAt,asIntOf,run_underlying hs1,hk,sizeOf,typeInfo,hi,Addr.add]
  ·have:k*m≠0:=Nat.mul_ne_zero h0 hm
   simp [execOp,h3,e,Instr.indexAt,asIntOf,run_underlying hs1,hk,sizeOf,typeInfo,hi,hsz,Addr.add,h0,hm]
   try exact this
theorem op_fldS {d u f k n:Nat}{T T':TypeId}{g o:Nat}(ku:Nat)(ho:ops[i]?=some ⟨some d,.fieldAddr T (.tmp u) f,T',ps,af,none⟩)(h:St B w0 N Γ Λ a w)(hf:Fld P T f k n)
  (hu:Γ[ku]?=some (u,EqV (.pointer (some ⟨g,o,none⟩)))) (hd:d<N) (hΓ:Γ.all (λ x=>x.1 != d)=true) (hΛ:Λ.all (λ l=>l.s != d)=true)
  (hK:∀ a',St B w0 N ((d,EqV (.pointer (some ⟨g,o+k,none⟩)))::Γ) Λ a' w→K a' w):wpOp P ops Q i K a w:=by
 have h3:a.eval (.tmp u)=.pointer (some ⟨g,o,none⟩):=h.vals _ (qb hu)
 exact fX (A:=EqV (.pointer (some ⟨g,o+k,none⟩))) ho h hd hΓ hΛ (by simp [execOp,h3,dR hf]) G (hK _)
theorem op_asgS {d u:Nat}{T':TypeId}{A:VA}(ku:Nat)(ho:ops[i]?=some ⟨some d,.assign (.tmp u),T',ps,af,none⟩)(h:St B w0 N Γ Λ a w)
  (hu:Γ[ku]?=some (u,A)) (hd:d<N) (hΓ:Γ.all (λ x=>x.1 != d)=true) (hΛ:Λ.all (λ l=>l.s != d)=true)
  (hK:∀ a',St B w0 N ((d,A)::Γ) Λ a' w→K a' w):wpOp P ops Q i K a w :=
 fX (A:=A) (v:=a.eval (.tmp u)) ho h hd hΓ hΛ (by simp [execOp]) (h.vals _ (qb hu)) (hK _)
end
section
open Rg
variable {P:Program} {Q:Exit→Act→World→Prop} {B N:Nat} {w0:Bs} {Γ:List (Nat × VA)} {Λ:List Lc} {a:Act} {w:World}
theorem op_newS {ops:Array Oper}{i d x:Nat}{T ty T1 T2:TypeId}{A0 A:As}{ps1 ps2:String}{af1 af2:Array Edge}{rest:List Nat}(kx:Nat)(src:List Nat)
  (ho1:ops[i]?=some ⟨some d,.alloc T,T1,ps1,af1,none⟩) (ho2:ops[i+1]?=some ⟨none,.store ty (.tmp d) (.tmp x),T2,ps2,af2,none⟩)
  (h:St B w0 N Γ Λ a w) (hz:Zero P T A0) (hx:Γ[kx]?=some (x,A.va)) (ht:Ty P ty A.n A.ag) (hn:A0.n=A.n) (hd:d<N) (hdx:(d != x)=true)
  (hsrc:src.all (λ k=>match Γ[k]? with | some y=>y.1 != d | none=>false)=true) (hΛ:Λ.all (λ l=>l.s != d)=true)
  (hK:∀ a' w',St B w0 N (src.filterMap λ k=>Γ[k]?) (Λ++[⟨d,T,ptrH,A⟩]) a' w'→wpOps P ops Q rest a' w'):wpOps P ops Q (i::(i+1)::rest) a w:=by
 obtain ⟨it,z,z1,z2,z3⟩:=hz
 obtain ⟨cs,hp,hv⟩:=h.vals _ (qb hx)
 have hv':a.eval (.tmp x)=shape A.ag cs:=hv
 have l1:=A.len _ _ _ hp
 have l0:=A0.len _ _ _ (z3 B w)
 have hds:d<a.tmps.size:=by rw [h.size]; exact hd
 have hdx':x≠d:=λ e=>by subst e; simp at hdx
 have hΛ':∀ l∈Λ,l.s≠d:=λ l hl=>by
  have:=qd.1 hΛ l hl
  simpa using this
 obtain ⟨W1,hW1⟩:∃ W1,w.alloc (.cells z.cells T)=W1:=⟨_,rfl⟩
 have hg1:Grow w W1:=by rw [← hW1]; exact Grow.alloc _ _
 have hnew:W1.heap[w.heap.size]?=some (.cells z.cells T (0,0)):=by rw [← hW1]; exact heap_alloc_new w _
 rw [qX]
 refine (bt (R:=⟨ops,N,Γ,[],[],λ _=>[]⟩) ho1 G (ba (w':=W1) (v:=ptr w.heap.size) ?_ ?_))
 ·rw [← hW1]; simp [execOp,Instr.alloc,zeroValue,typeInfo,z1,z2,newVar,newRow,ptr]
 obtain ⟨a1,ha1⟩:∃ a1,a.put (some d) (ptr w.heap.size)=a1:=⟨_,rfl⟩
 have ed:a1.eval (.tmp d)=ptr w.heap.size:=by rw [← ha1]; exact aY _ _ _ hds
 have eo:∀ t,t≠d→a1.eval (.tmp t)=a.eval (.tmp t):=λ t ht=>by rw [← ha1]; exact an _ _ _ _ ht
 have ef:a1.defers=a.defers:=by rw [← ha1]; rfl
 have es:a1.tmps.size=N:=by rw [← ha1,size_put]; exact h.size
 rw [ha1]
 have l2:z.cells.size=A0.n:=by simpa using l0
 have hrun:=bx ht W1 w.heap.size 0 T z.cells _ cs (A.cells_shape hp) l1 zo (A.one _ _ _ hp) hnew
 rw [qV (by simp; omega)] at hrun
 simp only [jr,xS,zc] at hrun
 have hW:=Wr.setRow W1 w.heap.size cs.toArray
 have hcell:(W1.setRow w.heap.size cs.toArray).heap[w.heap.size]?=some (.cells cs.toArray T (0,0)):=setRow_heap W1 _ _ _ _ _ hnew
 have hgr:Grow w (W1.setRow w.heap.size cs.toArray):=Kept.grow0 ((hg1.kept).wr hW (.inl (qf _)))
 rw [qX]
 have U:wpOps P ops Q rest a1 (W1.setRow w.heap.size cs.toArray):=by
  refine hK _ _ ⟨h.lo,?_,es,h.base.grow hgr,λ y hy=>?_,λ m hm=>?_,λ m hm m' hm' hne=>?_⟩
  ·exact h.defers.grow hgr ef
  ·obtain ⟨k,hk1,hk2⟩:=q9.1 hy
   have:=qd.1 hsrc k hk1
   rw [hk2] at this
   rw [eo _ (by simpa using this)]
   exact y.2.grow _ _ _ _ hgr (h.vals y (qb hk2))
  ·rcases qm.1 hm with hm | hm
   ·obtain ⟨g,c,q1,q2,q3,q4⟩:=h.locs m hm
    exact ⟨g,c,by rw [eo _ (hΛ' m hm)]; exact q1,q2,hgr.heap q3,m.A.grow _ _ _ _ hgr q4⟩
   ·obtain rfl:=qD.1 hm
    exact ⟨w.heap.size,cs,ed,.inl h.base.size,hcell,A.grow _ _ _ _ hgr hp⟩
  ·have hnm:∀ m∈Λ,∃ g,blk (a1.eval (.tmp m.s))=some g∧g<w.heap.size:=λ m hm=>by
    obtain ⟨g,c,q1,q2,q3,q4⟩:=h.locs m hm
    exact ⟨g,by rw [eo _ (hΛ' m hm),q1]; exact m.H.ok g,(Array.getElem?_eq_some_iff.1 q3).1⟩
   have hd0:blk (a1.eval (.tmp d))=some w.heap.size:=by rw [ed]; rfl
   rcases qm.1 hm with hm | hm <;> rcases qm.1 hm' with hm' | hm'
   ·rw [eo _ (hΛ' m hm),eo _ (hΛ' m' hm')]
    exact h.dis m hm m' hm' hne
   ·obtain rfl:=qD.1 hm'
    obtain ⟨g,q1,q2⟩:=hnm m hm
    rw [q1,hd0]
    intro e
    injection e with e
    omega
   ·obtain rfl:=qD.1 hm
    obtain ⟨g,q1,q2⟩:=hnm m' hm'
    rw [q1,hd0]
    intro e
    injection e with e
    omega
   ·obtain rfl:=qD.1 hm
    obtain rfl:=qD.1 hm'
    exact absurd G hne
 unfold wpOp
 rw [ho2]
 have hwant:Region.wanted (⟨none,.store ty (.tmp d) (.tmp x),T2,ps2,af2,none⟩:Oper) (yielded ops a1.tmps)=true:=rfl
 simp only [hwant,if_true]
 refine .inl (wp_skip' (w':=W1.setRow w.heap.size cs.toArray) ?_ U)
 have e2:a1.eval (.tmp x)=shape A.ag cs:=by rw [eo _ hdx']; exact hv'
 have e1:a1.eval (.tmp d)=.pointer (some ⟨w.heap.size,0,none⟩):=ed
 simp [execOp,e1,e2,Instr.storeAt,Instr.sureAddr,hrun]
end
def TyIn (w:World)(k:Nat)(Ts:List TypeId):Prop:=∃ c T fz,w.heap[k]?=some (.cells c T fz)∧T∈Ts
abbrev Wid (B:Nat)(w:World)(Ts:List TypeId):Bs:=⟨w,λ k=>B≤k∧TyIn w k Ts,false⟩
open Classical in
theorem kept_gen {p:World→Prop}{Ts:List TypeId}(hcg:∀ w w',Grow w w'→p w→p w')(hwr:∀ w w' g c T fz,w.heap[g]?=some (.cells c T fz)→T∈Ts→B≤g→Wr g w w'→p w→p w')
  {w w':World} (hk:Kept (Wid B w Ts) w') (hp:p w):p w':=by
 let W:Nat→World:=λ m=>{ w with heap:=w.heap.mapIdx λ k o=>if k<m∧(Wid B w Ts).F k then (w'.heap[k]?).getD o else o }
 have hW:∀ m k,(W m).heap[k]?=if k<m∧(Wid B w Ts).F k∧k<w.heap.size then w'.heap[k]? else w.heap[k]?:=λ m k=>by
  show (w.heap.mapIdx _)[k]?=_
  rw [Array.getElem?_mapIdx]
  by_cases hlt:k<w.heap.size
  ·rw [Array.getElem?_eq_getElem hlt]
   have hlt':k<w'.heap.size:=qM hlt hk.size
   rw [Array.getElem?_eq_getElem hlt']
   by_cases hc:k<m∧(Wid B w Ts).F k
   ·rw [ql ⟨hc.1,hc.2,hlt⟩,q6,ql hc]
    rfl
   ·rw [qj (λ h=>hc ⟨h.1,h.2.1⟩),q6,qj hc]
  ·have h0:w.heap[k]?=none:=Array.getElem?_eq_none zo
   rw [qj (λ h=>hlt h.2.2),h0]
   rfl
 have hs:∀ m,(W m).heap.size=w.heap.size:=λ m=>by simp [W]
 have key:∀ m,p (W m):=λ m=>by
  induction m with
  | zero=>exact hcg w (W 0) ⟨rfl,rfl,rfl,by rw [hs]; exact qf _,λ k hk=>by rw [hW,qj (λ h=>by omega)]⟩ hp
  | succ m ih =>
   by_cases hF:(Wid B w Ts).F m
   ·obtain ⟨hB,c,T,fz,hc,hT⟩:=hF
    refine hwr (W m) (W (m+1)) m c T fz ?_ hT hB ⟨rfl,rfl,rfl,by rw [hs,hs],λ k hk=>?_⟩ ih
    ·rw [hW,qj (λ h=>by omega)]; exact hc
    ·rw [hW,hW]
     by_cases h1:k<m
     ·simp [h1,jf h1]
     ·have:¬ k<m+1:=by omega
      simp [h1,this]
   ·refine hcg (W m) (W (m+1)) ⟨rfl,rfl,rfl,by rw [hs,hs]; exact qf _,λ k hk=>?_⟩ ih
    rw [hW,hW]
    by_cases h1:k<m
    ·simp [h1,jf h1]
    ·by_cases h2:k=m
     ·subst h2
      rw [qj (λ h=>hF h.2.1),qj (λ h=>by omega)]
     ·have:¬ k<m+1:=by omega
      simp [h1,this]
 refine hcg (W w.heap.size) w' ⟨hk.os,hk.tape,hk.output,by rw [hs]; exact hk.size,λ k hlt=>?_⟩ (key _)
 rw [hs] at hlt
 rw [hW]
 by_cases hF:(Wid B w Ts).F k
 ·rw [ql ⟨hlt,hF,hlt⟩]
 ·rw [qj (λ h=>hF h.2.1)]
  exact hk.block k hlt hF
theorem VA.kept {A:VA}{Ts:List TypeId}(hp:A.p B v w)(hk:Kept (Wid B w Ts) w')(hd:∀ T∈Ts,T ∉ A.deps):A.p B v w' :=
 kept_gen (p:=λ w=>A.p B v w) (λ w w' hg h=>A.grow _ _ _ _ hg h) (λ w w' g c T fz hc hT hB hW h=>A.wr _ _ _ _ _ _ _ _ hc (hd T hT) hB hW h) hk hp
theorem As.kept {A:As}{Ts:List TypeId}(hp:A.p B cs w)(hk:Kept (Wid B w Ts) w')(hd:∀ T∈Ts,T ∉ A.deps):A.p B cs w' :=
 kept_gen (p:=λ w=>A.p B cs w) (λ w w' hg h=>A.grow _ _ _ _ hg h) (λ w w' g c T fz hc hT hB hW h=>A.wr _ _ _ _ _ _ _ _ hc (hd T hT) hB hW h) hk hp
theorem op_ownP {Q:Exit→Act→World→Prop}{B N:Nat}{ops:Array Oper}{i:Nat}{K:Act→World→Prop}{p d g k sx:Nat}{ty T T':TypeId}{A0 A A1:As}(src:List Nat)(kp kd ks e:Nat)(ho:ops[i]?=some ⟨none,.store ty (.tmp p) (.tmp d),T',ps,af,none⟩)(h:St B w0 N Γ Λ a w)
  (hp:Γ[kp]?=some (p,EqV (.pointer (some ⟨g,k,none⟩)))) (hd:Γ[kd]?=some (d,A.va)) (hs:Γ[ks]?=some (sx,EqV (H.f g))) (ht:Ty P ty A.n A.ag) (hl:Λ[e]?=some ⟨sx,T,H,A0⟩)
  (hput:Put A0 k A A1) (hsrc:src.all (λ k=>match Γ[k]? with | some y => !y.2.deps.contains T | none=>false)=true) (hΛ:Λ.zipIdx.all (λ x=>x.2==e || (x.1.s != sx && !x.1.A.deps.contains T))=true) (hT:A1.deps.contains T=false)
  (hK:∀ w',St B w0 N (src.filterMap λ k=>Γ[k]?) (Λ.set e ⟨sx,T,H,A1⟩) a w'→K (a.put none undef) w'):wpOp P ops Q i K a w:=by
 have e1:a.eval (.tmp p)=.pointer (some ⟨g,k,none⟩):=h.vals _ (qb hp)
 obtain ⟨cs',hpA,e2⟩:=h.vals _ (qb hd)
 have e2:a.eval (.tmp d)=shape A.ag cs':=e2
 have e0:a.eval (.tmp sx)=H.f g:=h.vals _ (qb hs)
 obtain ⟨g0,cs,q1,q2,q3,q4⟩:=h.locs _ (qb hl)
 have:g0=g:=by
  have:=qt blk (q1.symm.trans e0)
  rw [H.ok,H.ok] at this
  injection this
 subst this
 obtain ⟨hkc,hp1⟩:=hput B cs cs' w q4 hpA
 have lA:=A.len _ _ _ hpA
 have hrun:=bx ht w g0 k T cs.toArray _ cs' (A.cells_shape hpA) lA (by simpa using hkc) (A.one _ _ _ hpA) q3
 have e3:cs.toArray.toList.take k++cs'++cs.toArray.toList.drop (k+A.n)=splice cs k cs':=by simp [splice,lA]
 rw [e3] at hrun
 have hW:=Wr.setRow w g0 (splice cs k cs').toArray
 have hB:B≤g0:=h.lo g0 q2
 have hTn:T ∉ A1.deps:=by simpa using hT
 unfold wpOp
 simp only [ho,Region.wanted,if_true]
 refine .inl (wp_skip' (w':=w.setRow g0 (splice cs k cs').toArray) ?_ (hK _ ⟨h.lo,h.defers.keep rfl λ D hD=>(hW.block D (λ e=>by subst e; rw [q3] at hD; cases hD)).trans hD,h.size,h.base.wr hW q2,λ x hx=>?_,λ m hm=>?_,λ m1 hm1 m2 hm2 hne=>?_⟩))
 ·simp [execOp,e1,e2,Instr.storeAt,Instr.sureAddr,hrun]
 ·obtain ⟨k',hk1,hk2⟩:=q9.1 hx
  have:=qd.1 hsrc k' hk1
  simp only [hk2,qv,qA,qw] at this
  exact x.2.wr _ _ _ _ _ _ _ _ q3 this hB hW (h.vals x (qb hk2))
 ·obtain ⟨j,hj⟩:=List.getElem?_of_mem hm
  by_cases e5:j=e
  ·subst e5
   have:m=⟨sx,T,H,A1⟩:=by
    rw [List.getElem?_set_self (List.getElem?_eq_some_iff.1 hl).1] at hj
    injection hj with hj
    exact hj.symm
   subst this
   exact ⟨g0,splice cs k cs',q1,q2,setRow_heap w g0 _ _ _ _ q3,A1.wr _ _ _ _ _ _ _ _ q3 hTn hB hW hp1⟩
  ·rw [List.getElem?_set_ne (λ e2=>e5 e2.symm)] at hj
   have hc:=qd.1 hΛ (m,j) (zi.2 hj)
   simp only [qQ,zZ,qh,bne_iff_ne,qv,qA,qw] at hc
   have hc':=hc.resolve_left e5
   obtain ⟨g',cs2,p1,p2,p3,p4⟩:=h.locs m (qb hj)
   have hne:g'≠g0:=λ hh=>h.dis m (qb hj) _ (qb hl) hc'.1 (by rw [p1,q1,hh,m.H.ok,Hd.ok])
   exact ⟨g',cs2,p1,p2,(hW.block g' hne).trans p3,m.A.wr _ _ _ _ _ _ _ _ q3 hc'.2 hB hW p4⟩
 ·have hs:∀ m∈Λ.set e ⟨sx,T,H,A1⟩,∃ m0∈Λ,m0.s=m.s:=λ m hm=>by
   rcases qS hm with hm | rfl
   ·exact ⟨m,hm,rfl⟩
   ·exact ⟨_,qb hl,rfl⟩
  obtain ⟨m3,r1,r2⟩:=hs m1 hm1
  obtain ⟨m4,r3,r4⟩:=hs m2 hm2
  rw [← r2,← r4] at hne ⊢
  exact h.dis m3 r1 m4 r3 hne
def lamT (Λ:List Lc)(e:Nat)(A:As):List Lc:=Λ.zipIdx.map λ x=>⟨x.1.s,x.1.T,x.1.H,if x.2=e then A else x.1.A⟩
section
open Rg
variable {P:Program} {Q:Exit→Act→World→Prop} {B N:Nat} {w0:Bs} {Γ:List (Nat × VA)} {Λ:List Lc} {a:Act} {w:World}
theorem inv_stT {R:Rg}{n:Nat}{Λ':List Lc}(hles:∀ l'∈Λ',∃ y∈R.les,y.s=l'.s∧y.T=l'.T∧y.H=l'.H∧y.cr=none∧Rg.cur (λ k=>decide (k<n)) y=some l'.A)(hinv:R.Inv B w0 (λ k=>decide (k<n)) a w)(src:List Src)
  (hsrc:src.all (λ s=>match s with | .g k=>(match R.Γ[k]? with | some x=>Rg.outG R x.1 && !Rg.clash R (λ k=>decide (k<n)) x.2.deps | none=>false) | .o i=>decide (i<n)&&(match R.sp[i]? with | some y=>(match y.vl with | some z => !Rg.clash R (λ k=>decide (k<n)) z.2.deps | none=>true) | none=>true))=true):St B w0 R.N (src.filterMap (takeS R)) Λ' a w:=by
 refine ⟨hinv.lo,hinv.defers,hinv.size,hinv.base,λ x hx=>?_,λ l' hl'=>?_,λ l1 h1 l2 h2 hne=>?_⟩
 rotate_left
 ·obtain ⟨y,hy,e1,e2,e3,_,e4⟩:=hles l' hl'
  have:=hinv.c _ hy l'.A e4
  rw [e1,e2,e3] at this
  exact this
 ·obtain ⟨y1,hy1,e1,_,_,_,f1⟩:=hles l1 h1
  obtain ⟨y2,hy2,e2,_,_,_,f2⟩:=hles l2 h2
  rw [← e1,← e2] at hne ⊢
  exact hinv.x _ hy1 _ hy2 hne (by rw [f1]; rfl) (by rw [f2]; rfl)
 obtain ⟨s,hs1,hs2⟩:=q9.1 hx
 have ho:=qd.1 hsrc s hs1
 cases s with
 | g k =>
  simp only [takeS] at hs2
  simp only [hs2,qh,qv] at ho
  refine hinv.g x (qb hs2) (λ q hq hdq=>?_) ho.2
  cases h2:R.ops[q]? with
  | none=>unfold Rg.dst at hdq; rw [h2] at hdq; cases hdq
  | some v =>
   have:=qd.1 ho.1 q (by simpa using (Array.getElem?_eq_some_iff.1 h2).1)
   exact absurd hdq (by simpa using this)
 | o i =>
  simp only [takeS] at hs2
  cases hy:R.sp[i]? with
  | none=>rw [hy] at hs2; cases hs2
  | some y =>
   rw [hy] at hs2
   have hs3:y.vl=some x:=hs2
   simp only [hy,hs3,qh,qv] at ho
   exact hinv.v i y x.1 x.2 hy hs3 ho.1 ho.2
theorem go_headT {id:Nat}{ops:Array Oper}{sp:List Sp}(anc:List (List Nat))(n m e j:Nat)(A1:As)(src:List Src)(hmx:P.follows .mixedOrders=true)
  (h:St B w0 N Γ Λ a w) (hob:Obs P Q ⟨ops,N,Γ,lesS Λ e j A1,sp,λ i=>anc.getD i []⟩ B w0 0 n) (hsz:ops.size=n+m) (hm:0<m) (hj:j<n) (hanc:Rg.ancOk ⟨ops,N,Γ,lesS Λ e j A1,sp,λ i=>anc.getD i []⟩=true) (hall:∀ i,n≤i→i<n+m→∀ j,j<i→(anc.getD i []).contains j=true) (hk:Rg.chk ⟨ops,N,Γ,lesS Λ e j A1,sp,λ i=>anc.getD i []⟩=true)
  (hsrc:src.all (λ s=>match s with | .g k=>(match Γ[k]? with | some x=>Rg.outG ⟨ops,N,Γ,lesS Λ e j A1,sp,λ i=>anc.getD i []⟩ x.1 && !Rg.clash ⟨ops,N,Γ,lesS Λ e j A1,sp,λ i=>anc.getD i []⟩ (λ k=>decide (k<n)) x.2.deps | none=>false) | .o i=>decide (i<n)&&(match sp[i]? with | some y=>(match y.vl with | some z => !Rg.clash ⟨ops,N,Γ,lesS Λ e j A1,sp,λ i=>anc.getD i []⟩ (λ k=>decide (k<n)) z.2.deps | none=>true) | none=>true))=true)
  (hQ:∀ a' w',St B w0 N (src.filterMap (takeS ⟨ops,N,Γ,lesS Λ e j A1,sp,λ i=>anc.getD i []⟩)) (lamT Λ e A1) a' w'→wpOps P ops Q (List.range' n m) a' w'):(Code.region id ops true).wp P Q a w:=by
 refine Rg.drawK (R:=⟨ops,N,Γ,lesS Λ e j A1,sp,λ i=>anc.getD i []⟩) (m:=m) hsz hm hmx hanc hk h (λ y hy _=>?_) (λ i hi=>hob.all i zo zo) (λ i h1 h2 j hj=>hall i h1 h2 j hj) λ a1 w1 hinv=>?_
 ·exact (dU y hy).2.1
 ·refine hQ a1 w1 (inv_stT (λ l' hl'=>?_) hinv src hsrc)
  obtain ⟨x,hx,rfl⟩:=qp.1 hl'
  refine ⟨⟨x.1.s,x.1.T,x.1.H,none,x.1.A,if x.2=e then some (j,A1) else none⟩,qp.2 ⟨x,hx,rfl⟩,?_⟩
  by_cases h1:x.2=e
  ·simp only [h1,if_true]
   exact ⟨by trivial,by trivial,by trivial,by trivial,by simp [Rg.cur,Rg.crOk,hj]⟩
  ·simp only [h1,if_false]
   exact ⟨by trivial,by trivial,by trivial,by trivial,by simp [Rg.cur,Rg.crOk]⟩
end
theorem wpOps_sP {ops:Array Oper}{Q:Exit→Act→World→Prop}(h:Q .normal a w):wpOps P ops Q [] (a.put none undef) w:=h
set_option maxHeartbeats 1000000 in
theorem through_q {x:RE}{b:Nat}{m:MQ}(hx:elF x=true)(hm:RepM b m)(hb:b≤1000000):Cn Tryz.prog 56 [(REA x).va,(CoA b m).va] ((CoA (b+4097) (mulQ (elM x) m)).va):=by
 refine Cn.intro Tryz.func56 G zk nq (λ B w0 a U=>?_)
 have U:=zn [(0,(REA x).va),(1,(CoA b m).va)] [] U
 refine qa<|zg [] [⟨2,54,ptrH,some 0,_,none⟩,⟨3,101,ptrH,some 1,_,none⟩,⟨4,101,ptrH,some 2,_,none⟩] [.alc 0,.alc 1,.alc 2] [] U (zW 0 G (zW 1 G (zY G (Str.zero str_ray) o0))) (zz [] [O 2 54 _,O 3 101 _,O 4 101 _] λ a w U=>?_)
 have U:=St.wkL U 0 rfl (el_q (dc hx).1)
 have U:=zn [] [O 2 54 _,O 3 101 _,O 4 101 _] U
 refine zt<|qa<|zg [η,η,η] [] [.adr 5 2 (.some 0) True,.v 6 _] [.o 1] U (zO 0 G cv (zL 0 0 0 G gx o0)) (zz [(6,_)] [O 2 54 _,O 3 101 _,O 4 101 _] λ a w U=>?_)
 refine a4<|qq<|qa<|zg [η,η,η] [] [.v 8 _,.v 7 _] [.g 0,.o 1] U (zv G (bv (gq 0 G) a5) (zA 0 G o0)) (zz [(6,_),(7,_)] [O 2 54 _,O 3 101 _,O 4 101 _] λ a w U=>?_)
 refine a4<|bG (λ a w =>  St B w0 68 [] [⟨2,54,ptrH,QEA 2048 x.k (toQ x.p) (toQ x.q)⟩,⟨3,101,ptrH,CoA (b+4097) (mulQ (elM x) m)⟩,⟨4,101,ptrH,cat [RFA rf0,RFA rf0]⟩] a w) U (zm 1 G) (λ hb0=>?_) (λ hb0=>?_) (λ a w U=>?_)
 ·refine zgd [[],[0],[],[2],[],[4],[2,3,4,5],[0,1,2,3,4,5,6],[0,1,2,3,4,5,6,7],[0,1,2,3,4,5,6,7,8]] [none,some (9,_),none] [] [.adr 9 3 (.some 0) True,.v 10 _,.adr 11 2 (.some 1) True,.v 12 _,.adr 13 3 (.some 4) True,.v 14 _,.v 15 _,.v 16 _,.adr 17 3 (.some 0) True,.sto 1] [] a7 U (zO 1 G bL (zL 0 1 0 G ac (zO 0 G bO (zL 2 0 1 G ac (zO 1 G bK (zL 4 1 1 G ac (zQ G (cB zo) (.p (vq 3 G) (vq 5 G)) (zQ G (plus_q zo) (.p (vq 1 G) (vq 6 G)) (zO 1 G bL (oc (bS 8 G G G G zk (vq 7 G) ac (Put.part 0 G G G)) o0)))))))))) zk zk zk zk (zz [] [O 2 54 _,O 3 101 _,O 4 101 _] λ a w U=>?_)
  refine a4 ?_
  have U:=St.sel U []
  have e:=thr_1 (x:=x) (by simpa using hb0)
  exact St.wkL U 1 G (co_of (by rw [e]; show _=_*m.a+_*m.c; grind) (by rw [e]; show _=_*m.a+_*m.c; grind) (dQ hx hm))
 ·refine qa<|zg [η,η,η] [] [.v 19 _,.v 18 _] [.g 0,.o 1] U (zv G (bv (gq 0 G) a5) (zA 0 G o0)) (zz [(6,_),(18,_)] [O 2 54 _,O 3 101 _,O 4 101 _] λ a w U=>?_)
  refine a4<|bG (λ a w =>  St B w0 68 [] [⟨2,54,ptrH,QEA 2048 x.k (toQ x.p) (toQ x.q)⟩,⟨3,101,ptrH,CoA (b+4097) (mulQ (elM x) m)⟩,⟨4,101,ptrH,cat [RFA rf0,RFA rf0]⟩] a w) U (zm 1 G) (λ hb1=>?_) (λ hb1=>?_) (λ a w U=>?_)
  ·refine zgd [[],[0],[],[2],[],[4],[2,3,4,5],[],[7],[2,3,4,5,6,7,8],[0,1,2,3,4,5,6,7,8,9],[0,1,2,3,4,5,6,7,8,9,10],[0,1,2,3,4,5,6,7,8,9,10,11]] [none,some (12,_),none] [] [.adr 20 3 (.some 0) True,.v 21 _,.adr 22 2 (.some 1) True,.v 23 _,.adr 24 2 (.some 5) True,.v 25 _,.v 26 _,.adr 27 3 (.some 4) True,.v 28 _,.v 29 _,.v 30 _,.adr 31 3 (.some 0) True,.sto 1] [] a7 U (zO 1 rfl bL (zL 0 1 0 rfl ac (zO 0 rfl bO (zL 2 0 1 rfl ac (zO 0 rfl cO (zL 4 0 2 rfl ac (zQ rfl (over_q zo (by rcases (dc hx).2 with h | h | h | h | h <;> simp_all)) (.p (vq 3 rfl) (vq 5 rfl)) (zO 1 rfl bK (zL 7 1 1 rfl ac (zQ rfl (cB zo) (.p (vq 6 rfl) (vq 8 rfl)) (zQ rfl (plus_q zo) (.p (vq 1 rfl) (vq 9 rfl)) (zO 1 rfl bL (oc (bS 11 rfl rfl rfl rfl zk (vq 10 rfl) ac (Put.part 0 rfl rfl rfl)) o0))))))))))))) zk zk zk zk (zz [] [O 2 54 _,O 3 101 _,O 4 101 _] λ a w U=>?_)
   refine a4 ?_
   have U:=St.sel U []
   have e:=thr_3 (x:=x) (by simpa using hb1)
   exact St.wkL U 1 G (co_of (by rw [e]; show _=_*m.a+_*m.c; grind) (by rw [e]; show _=_*m.a+_*m.c; grind) (dQ hx hm))
  ·refine qa<|zg [η,η,η] [] [.v 33 _,.v 32 _] [.g 0,.o 1] U (zv G (bv (gq 0 G) a5) (zA 0 G o0)) (zz [(6,_),(32,_)] [O 2 54 _,O 3 101 _,O 4 101 _] λ a w U=>?_)
   refine a4<|bG (λ a w =>  St B w0 68 [] [⟨2,54,ptrH,QEA 2048 x.k (toQ x.p) (toQ x.q)⟩,⟨3,101,ptrH,CoA (b+4097) (mulQ (elM x) m)⟩,⟨4,101,ptrH,cat [RFA rf0,RFA rf0]⟩] a w) U (zm 1 G) (λ hb2=>?_) (λ hb2=>?_) (λ a w U=>?_)
   ·refine zgd [[],[0],[],[2],[],[4],[2,3,4,5],[0,1,2,3,4,5,6],[0,1,2,3,4,5,6,7],[0,1,2,3,4,5,6,7,8]] [none,some (9,_),none] [] [.adr 34 3 (.some 4) True,.v 35 _,.adr 36 2 (.some 1) True,.v 37 _,.adr 38 3 (.some 0) True,.v 39 _,.v 40 _,.v 41 _,.adr 42 3 (.some 4) True,.sto 1] [] a7 U (zO 1 G bK (zL 0 1 1 G ac (zO 0 G bO (zL 2 0 1 G ac (zO 1 G bL (zL 4 1 0 G ac (zQ G (cB zo) (.p (vq 3 G) (vq 5 G)) (zQ G (fB zo) (.p (vq 1 G) (vq 6 G)) (zO 1 G bK (oc (bS 8 G G G G zk (vq 7 G) ac (Put.part 1 G G G)) o0)))))))))) zk zk zk zk (zz [] [O 2 54 _,O 3 101 _,O 4 101 _] λ a w U=>?_)
    refine a4 ?_
    have U:=St.sel U []
    have e:=thr_2 (x:=x) (by simpa using hb2)
    exact St.wkL U 1 G (co_of (by rw [e]; show _=_*m.a+_*m.c; grind) (by rw [e]; show _=_*m.a+_*m.c; grind) (dQ hx hm))
   ·refine qa<|zg [η,η,η] [] [.v 44 _,.v 43 _] [.g 0,.o 1] U (zv G (bv (gq 0 G) a5) (zA 0 G o0)) (zz [(6,_),(43,_)] [O 2 54 _,O 3 101 _,O 4 101 _] λ a w U=>?_)
    refine a4<|bG (λ a w =>  St B w0 68 [] [⟨2,54,ptrH,QEA 2048 x.k (toQ x.p) (toQ x.q)⟩,⟨3,101,ptrH,CoA (b+4097) (mulQ (elM x) m)⟩,⟨4,101,ptrH,cat [RFA rf0,RFA rf0]⟩] a w) U (zm 1 G) (λ hb3=>?_) (λ hb3=>?_) (λ a w U=>?_)
    ·refine zgd [[],[0],[],[2],[],[4],[2,3,4,5],[],[7],[2,3,4,5,6,7,8],[0,1,2,3,4,5,6,7,8,9],[0,1,2,3,4,5,6,7,8,9,10],[0,1,2,3,4,5,6,7,8,9,10,11]] [none,some (12,_),none] [] [.adr 45 3 (.some 4) True,.v 46 _,.adr 47 2 (.some 1) True,.v 48 _,.adr 49 2 (.some 5) True,.v 50 _,.v 51 _,.adr 52 3 (.some 0) True,.v 53 _,.v 54 _,.v 55 _,.adr 56 3 (.some 4) True,.sto 1] [] a7 U (zO 1 G bK (zL 0 1 1 G ac (zO 0 G bO (zL 2 0 1 G ac (zO 0 G cO (zL 4 0 2 G ac (zQ G (cB zo) (.p (vq 3 G) (vq 5 G)) (zO 1 G bL (zL 7 1 0 G ac (zQ G (cB zo) (.p (vq 6 G) (vq 8 G)) (zQ G (fB zo) (.p (vq 1 G) (vq 9 G)) (zO 1 G bK (oc (bS 11 G G G G zk (vq 10 G) ac (Put.part 1 G G G)) o0))))))))))))) zk zk zk zk (zz [] [O 2 54 _,O 3 101 _,O 4 101 _] λ a w U=>?_)
     refine a4 ?_
     have U:=St.sel U []
     have e:=thr_4 (x:=x) (by simpa using hb3)
     exact St.wkL U 1 G (co_of (by rw [e]; show _=_*m.a+_*m.c; grind) (by rw [e]; show _=_*m.a+_*m.c; grind) (dQ hx hm))
    ·refine qa<|zg [η,η,η] [] [.v 58 _,.v 57 _] [.o 1] U (zv G (bv (gq 0 G) a5) (zA 0 G o0)) (zz [(57,_)] [O 2 54 _,O 3 101 _,O 4 101 _] λ a w U=>?_)
     refine a4<|bG (λ a w =>  St B w0 68 [] [⟨2,54,ptrH,QEA 2048 x.k (toQ x.p) (toQ x.q)⟩,⟨3,101,ptrH,CoA (b+4097) (mulQ (elM x) m)⟩,⟨4,101,ptrH,cat [RFA rf0,RFA rf0]⟩] a w) U (zm 0 G) (λ hb4=>?_) (λ hb4=>?_) (λ a w U=>?_)
     ·obtain ⟨q3,U⟩:=St.nm U 1 rfl
      refine go_headT (sp:=[.adr 59 3 (.some 0) True,.v 60 _,.v 61 _,.adr 62 3 (.some 4) True,.v 63 _,.v 64 _,.adr 65 3 (.some 0) True,.sto 1,.skp,.skp]) [[],[0],[0,1],[],[3],[0,1,2,3,4],[0,1,2,3,4],[0,1,2,3,4,5,6],[0,1,2,3,4,5,6,7],[0,1,2,3,4,5,6,7,8]] 8 2 1 7 (cat [QA b (-m.a),QA b m.c]) [.g 0,.o 5] a7 U (zO 1 G bL (zL 0 1 0 G ac (zQ G (e8 zo) (.o (vq 1 G)) (zO 1 G bK (zL 3 1 1 G ac (zQ G (e8 zo) (.o (vq 4 G)) (zO 1 G bL (oc (bS 6 G G G G zk (vq 2 G) ac (Put.part 0 G G G)) o0)))))))) G zd zd zk (anc_all zk) zk zk (zz [(3,_),(64,_)] [O 2 54 _,O 3 101 _,O 4 101 _] λ a w U=>?_)
      rw [show List.range' 8 2=[8,9] from rfl]
      rw [qX]
      refine op_fldS 0 G U bK G zd zk zk (λ a U=>?_)
      rw [qX]
      refine op_ownP (A:=QA b (-m.c)) (A1:=cat [QA b (-m.a),QA b (-m.c)]) [] 0 2 1 1 G U G G G ac G (Put.part 1 G G G) zk zk zk (λ w U=>?_)
      refine wpOps_sP ?_
      have U:St B w0 68 [] [O 2 54 _,O 3 101 _,O 4 101 _] _ w:=U
      refine a4 ?_
      have U:=St.sel U []
      have e:=thr_5 (x:=x) (by simpa using hb4)
      exact St.wkL U 1 G (co_of (by rw [e]; show _=_*m.a+_*m.c; grind) (by rw [e]; show _=_*m.a+_*m.c; grind) (dQ hx hm))
     ·refine qk<|a4 ?_
      have U:=St.sel U []
      exact absurd (dc hx).2 (by simp at hb0 hb1 hb2 hb3 hb4; simp [hb0,hb1,hb2,hb3,hb4])
     refine a4 ?_
     have U:=St.sel U []
     exact U
    refine a4 ?_
    have U:=St.sel U []
    exact U
   refine a4 ?_
   have U:=St.sel U []
   exact U
  refine a4 ?_
  have U:=St.sel U []
  exact U
 refine al ?_
 refine zt<|zg [η,η,some (1,_)] [] [.v 67 _,.sto 2] [] U (zl 1 G ty_101 (zS 0 G ty_101 o0)) (zz [] [O 2 54 _,O 3 101 _,O 4 101 _] λ a w U=>?_)
 refine a4<|qe<|aj ?_ (au G U (zm 2 G) ty_101)
 exact ay
abbrev ky (s:ByteArray):Lit:=.string s.data.toList
def dupB (ns:List ByteArray):Bool := !decide (ns.map λ s=>s.data.toList).Nodup
def MpI (P:Program)(K E:TypeId)(w:World)(b:Nat)(ns:List ByteArray):Prop :=
 ∃ D:DataW Unit,w.ownsMap P K (plainElem P E) b ns.length D∧Maps.Tidy D∧(∀ s:ByteArray,Maps.has D (ky s)=(ns.map λ s=>s.data.toList).contains s.data.toList)∧decide (Maps.size D<ns.length)=dupB ns
section
variable {P:Program} {K E T:TypeId} {w:World} {b:Nat} {ns:List ByteArray}
theorem mp_new:MpI P K E (w.alloc (.map #[] 0)) w.heap.size [] :=
 ⟨.map [],World.ownsMap_made w P K _,Maps.tidy_empty,λ s=>rfl,rfl⟩
theorem MpI.at_ (h:MpI P K E w b ns):∃ es clock,w.heap[b]?=some (.map es clock):=by
 obtain ⟨D,⟨es,clock,hb,_⟩,_⟩:=h
 exact ⟨es,clock,hb⟩
theorem MpI.kept (h:MpI P K E w b ns)(hk:w'.heap[b]?=w.heap[b]?):MpI P K E w' b ns:=by
 obtain ⟨D,⟨es,clock,hb,F,hs,hD⟩,h2,h3,h4⟩:=h
 exact ⟨D,⟨es,clock,hk.trans hb,F,hs,hD⟩,h2,h3,h4⟩
theorem MpI.len (h:MpI P K E w b ns)(ht:P.underlying T=some (.map K E))(ty:TypeId):∃ n:Nat,(Builtin.len_ #[T] ty #[.map (some b)]).run P w=.ok (.int .i64 n) w∧decide ((n:Int)<(ns.length:Int))=dupB ns:=by
 obtain ⟨D,h1,h2,h3,h4⟩:=h
 exact ⟨_,h1.len ht ty,by rw [← h4,qJ]; omega⟩
theorem dup_snoc (ns:List ByteArray)(s:ByteArray):dupB (ns++[s])=(dupB ns || (ns.map λ s=>s.data.toList).contains s.data.toList):=by
 unfold dupB
 rw [zx,jW]
 by_cases h1:(ns.map λ s=>s.data.toList).Nodup
 ·by_cases h2:s.data.toList∈ns.map λ s=>s.data.toList
  ·have:¬ ((ns.map λ s=>s.data.toList)++[s.data.toList]).Nodup:=λ h=>(xJ.1 h).2.2 _ h2 _ (by simp) rfl
   rw [zJ this,qA,qK h2]; simp
  ·have:((ns.map λ s=>s.data.toList)++[s.data.toList]).Nodup:=xJ.2 ⟨h1,by simp,λ a ha c hc e=>by
    obtain rfl:=qD.1 hc
    exact h2 (e▸ha)⟩
   rw [qK this,qK h1,qA,zJ h2]; rfl
 ·have:¬ ((ns.map λ s=>s.data.toList)++[s.data.toList]).Nodup:=λ h=>h1 (xJ.1 h).1
  rw [zJ this,zJ h1]; rfl
theorem MpI.add (h:MpI P K E w b ns)(hK:P.underlying K=some .string)(ht:P.underlying T=some (.map K E))(hE:P.underlying E=some (.int .i64))(hz:(zeroValue E).run P w=.ok (.int .i64 0) w)(hn:ns.length<4096){s:ByteArray}(hs:s.size≤4096) :
  ∃ c:Int,(Instr.lookup T (.map (some b)) (.string s) false).run P w=.ok (.int .i64 c) w∧∃ w',(Instr.mapUpdate T (.map (some b)) (.string s) (.int .i64 (IntKind.i64.wrap (c+1)))).run P w=.ok () w'∧MpI P K E w' b (ns++[s])∧w.grownBy w' (some b):=by
 obtain ⟨D,h1,h2,h3,h4⟩:=h
 have hkey:keyOf P K (.string s)=some (ky s):=WideMaps.keyOf_string_mk hK (by unfold maxLen; omega)
 have hkl:WideAt.IsKeyLit (ky s):=by trivial
 obtain ⟨c,hr,_,_⟩:=h1.lookup_int (Maps.string_keyed hK) ht hE hz hkey
 have hwf:(Lit.int .i64 (IntKind.i64.wrap (c+1))).wf=true:=wf_wrap _ _
 obtain ⟨w',hr',ho,hg⟩:=h1.update (Maps.string_keyed hK) ht (by unfold maxLen; omega) hkey (plainElem_int (H:=Unit) hE hwf)
 refine ⟨c,hr,w',hr',⟨_,by rw [qy]; exact ho,h2.put hkl _,λ s'=>?_,?_⟩,hg⟩
 ·rw [zx,jW]
  by_cases e:s'.data.toList=s.data.toList
  ·rw [show ky s'=ky s from qt Lit.string e,Maps.has_put_same h2.isMap hkl,e]; simp
  ·rw [Maps.has_put_other (λ h=>e (by injection h)),h3]
   simp [qA,e]
 ·rw [dup_snoc,Maps.size_put h2,h3 s,← h4]
  have hle:=h1.size_le
  rw [qy,zE]
  by_cases e:(ns.map λ s=>s.data.toList).contains s.data.toList=true
  ·rw [ql e,e,Bool.or_true]
   exact qK zo
  ·rw [qj e,zD.2 e,Bool.or_false,qJ]
   omega
end
def locV (Λ:List Lc)(a:Act)(k:Nat):Prop:=∃ l∈Λ,blk (a.eval (.tmp l.s))=some k
def defV (w0:Bs)(w:World)(k:Nat):Prop:=w0.may k∧w.heap[k]?=some (.deferred (some []))
theorem St.frameM {B N:Nat}(h:St B w0 N Γ Λ a w):∃ w1:Bs,St B w1 N Γ Λ a w∧∀ {N':Nat} {Γ':List (Nat × VA)} {Λ':List Lc} {a':Act} {w':World},St B w1 N' Γ' Λ' a' w' →
  St B w0 N' Γ' Λ' a' w'∧∀ (k:Nat) (es:Array MapEntry) (clock:Nat),w.heap[k]?=some (.map es clock)→w'.heap[k]?=some (.map es clock):=by
 have hloc:∀ k,locV Λ a k→w0.may k∧∃ l∈Λ,blk (a.eval (.tmp l.s))=some k∧∃ cs,w.heap[k]?=some (.cells cs l.T (0,0)):=λ k ⟨l,hl,hb⟩=>by
  obtain ⟨g,cs,e1,e2,e3,_⟩:=h.locs l hl
  have:g=k:=by rw [e1,l.H.ok] at hb; injection hb
  subst this
  exact ⟨e2,l,hl,hb,_,e3⟩
 have hmay:∀ k,(⟨w,λ k=>locV Λ a k∨defV w0 w k,w0.nd⟩:Bs).may k→w0.may k:=λ k hk=>by
  rcases hk with hk | hk | hk
  ·exact .inl (qg h.base.size hk)
  ·exact (hloc k hk).1
  ·exact hk.1
 refine ⟨⟨w,λ k=>locV Λ a k∨defV w0 w k,w0.nd⟩,⟨?_,⟨λ d hd=>?_,h.defers.nodup,h.defers.none⟩,h.size,Kept.refl _,h.vals,λ l hl=>?_,h.dis⟩,λ {N' Γ' Λ' a' w'} h'=>⟨⟨h.lo,⟨λ d hd=>?_,h'.defers.nodup,h'.defers.none⟩,h'.size,?_,h'.vals,λ l hl=>?_,h'.dis⟩,?_⟩⟩
 ·exact λ g hg=>h.lo g (hmay g hg)
 ·obtain ⟨D,e1,e2,e3⟩:=h.defers.all d hd
  exact ⟨D,e1,.inr (.inr ⟨e2,e3⟩),e3⟩
 ·obtain ⟨g,cs,e1,e2,e3,e4⟩:=h.locs l hl
  exact ⟨g,cs,e1,.inr (.inl ⟨l,hl,by rw [e1]; exact l.H.ok g⟩),e3,e4⟩
 ·obtain ⟨D,e1,e2,e3⟩:=h'.defers.all d hd
  exact ⟨D,e1,hmay D e2,e3⟩
 ·refine ⟨h'.base.os.trans h.base.os,h'.base.tape.trans h.base.tape,h'.base.output.trans h.base.output,qg h.base.size h'.base.size,λ k hk hf=>?_⟩
  refine (h'.base.block k (qM hk h.base.size) (λ hF=>?_)).trans (h.base.block k hk hf)
  rcases hmay k (.inr hF) with h1 | h1
  ·omega
  ·exact hf h1
 ·obtain ⟨g,cs,e1,e2,e3,e4⟩:=h'.locs l hl
  exact ⟨g,cs,e1,hmay g e2,e3,e4⟩
 ·intro k es clock hk
  refine (h'.base.block k (Array.getElem?_eq_some_iff.1 hk).1 λ hF=>?_).trans hk
  rcases hF with hF | hF
  ·obtain ⟨_,_,_,_,cs,hc⟩:=hloc k hF
   rw [hk] at hc
   cases hc
  ·rw [hF.2] at hk
   cases hk
theorem MpI.kept2 {K E:TypeId}{b:Nat}{ns:List ByteArray}(h:MpI P K E w b ns)(hk:∀ (k:Nat) (es:Array MapEntry) (clock:Nat),w.heap[k]?=some (.map es clock)→w'.heap[k]?=some (.map es clock)):MpI P K E w' b ns:=by
 obtain ⟨es,clock,hb⟩:=h.at_
 exact h.kept ((hk b es clock hb).trans hb.symm)
section
variable {P:Program} {Q:Exit→Act→World→Prop} {B N:Nat} {w0:Bs} {Γ:List (Nat × VA)} {Λ:List Lc} {a:Act} {w:World}
theorem St.growM (h:St B w0 N Γ Λ a w)(hg:Grow w w'):St B w0 N Γ Λ a w':=⟨h.lo,h.defers.grow hg rfl,h.size,h.base.grow hg,λ x hx=>x.2.grow _ _ _ _ hg (h.vals x hx),λ l hl=>(h.locs l hl).grow hg,h.dis⟩
theorem St.turnM {b:Nat}{es:Array MapEntry}{clock:Nat}(h:St B w0 N Γ Λ a w)(hb:w.heap[b]?=some (.map es clock))(hge:w0.w.heap.size≤b)(hg:w.grownBy w' (some b)):St B w0 N Γ Λ a w':=by
 have hblk:∀ k,k<w.heap.size→k≠b→w'.heap[k]?=w.heap[k]?:=λ k hk hne=>hg.block k hk (λ e=>hne (by injection e))
 have hc:Cg w w':=⟨hg.size,λ k c T fz hk=>(hblk k (Array.getElem?_eq_some_iff.1 hk).1 (λ e=>by subst e; rw [hb] at hk; cases hk)).trans hk⟩
 refine ⟨h.lo,h.defers.keep rfl λ D hD=>(hblk D (Array.getElem?_eq_some_iff.1 hD).1 (λ e=>by subst e; rw [hb] at hD; cases hD)).trans hD,h.size,⟨hg.os.trans h.base.os,hg.tape.trans h.base.tape,hg.output.trans h.base.output,qg h.base.size hg.size,λ k hk hf=>(hblk k (qM hk h.base.size) zo).trans (h.base.block k hk hf)⟩,
  λ x hx=>x.2.cg _ _ _ _ hc (h.vals x hx),λ l hl=>?_,h.dis⟩
 obtain ⟨g,cs,e1,e2,e3,e4⟩:=h.locs l hl
 exact ⟨g,cs,e1,e2,hc.heap e3,l.A.cg _ _ _ _ hc e4⟩
theorem kz {id n:Nat}{ops:Array Oper}(hsz:ops.size=n)(h:wpOps P ops Q (List.range' 0 n) a w):(Code.region id ops false).wp P Q a w:=by
 refine wp_region ?_
 rw [List.range_eq_range',hsz]
 exact h
variable {ops:Array Oper} {i:Nat} {K:Act→World→Prop}
theorem op_mkMap {d:Nat}{T KT E T':TypeId}(ho:ops[i]?=some ⟨some d,.makeMap T none,T',ps,af,none⟩)(h:St B w0 N Γ Λ a w)(hd:d<N)(hΓ:Γ.all (λ x=>x.1 != d)=true)(hΛ:Λ.all (λ l=>l.s != d)=true)
  (hK:∀ a' w' b,St B w0 N ((d,EqV (.map (some b)))::Γ) Λ a' w'→MpI P KT E w' b []→w0.w.heap.size≤b→K a' w'):wpOp P ops Q i K a w:=by
 unfold wpOp
 simp only [ho,Region.wanted,if_true]
 refine .inl (ba (w':=w.alloc (.map #[] 0)) (v:=.map (some w.heap.size)) (by simp [execOp,run_makeMap]) (hK _ _ _ ((h.growM (Grow.alloc _ _)).addV hd hΓ hΛ (show (EqV (.map (some w.heap.size))).p _ _ _ from G)) mp_new h.base.size))
theorem op_count {m s u:Nat}{T KT E T1:TypeId}{ps1:String}{af1:Array Edge}{b:Nat}{ns:List ByteArray}{x:ByteArray}(km ks:Nat)
  (h:St B w0 N Γ Λ a w) (hM:MpI P KT E w b ns) (hge:w0.w.heap.size≤b) (hKT:P.underlying KT=some .string) (ht:P.underlying T=some (.map KT E)) (hE:P.underlying E=some (.int .i64)) (hz:∀ w,(zeroValue E).run P w=.ok (.int .i64 0) w) (hn:ns.length<4096) (hs:x.size≤4096)
  (hm:Γ[km]?=some (m,EqV (.map (some b)))) (hx:Γ[ks]?=some (s,EqV (.string x))) (ho:ops[i]?=some ⟨some u,.lookup T (.tmp m) (.tmp s) false,T1,ps1,af1,none⟩) (hu:u<N) (hΓ:Γ.all (λ x=>x.1 != u)=true) (hΛ:Λ.all (λ l=>l.s != u)=true)
  (hK:∀ (c:Int) (a':Act),St B w0 N ((u,In c)::Γ) Λ a' w→(∃ w',(Instr.mapUpdate T (.map (some b)) (.string x) (.int .i64 (IntKind.i64.wrap (c+1)))).run P w=.ok () w'∧MpI P KT E w' b (ns++[x])∧w.grownBy w' (some b))→K a' w):wpOp P ops Q i K a w:=by
 obtain ⟨c,hr,hup⟩:=hM.add hKT ht hE (hz w) hn hs
 have e1:a.eval (.tmp m)=.map (some b):=h.vals _ (qb hm)
 have e2:a.eval (.tmp s)=.string x:=h.vals _ (qb hx)
 exact fX (A:=In c) (v:=.int .i64 c) ho h hu hΓ hΛ (by simp [execOp,e1,e2,hr]) (bm _ _ _ _) λ U=>hK c _ U hup
theorem op_mupd {m s v:Nat}{T KT E T1:TypeId}{ps1:String}{af1:Array Edge}{b:Nat}{ns:List ByteArray}{x:ByteArray}{c:Int}(km ks kv:Nat)
  (h:St B w0 N Γ Λ a w) (hM:MpI P KT E w b ns) (hge:w0.w.heap.size≤b) (hup:∃ w',(Instr.mapUpdate T (.map (some b)) (.string x) (.int .i64 c)).run P w=.ok () w'∧MpI P KT E w' b (ns++[x])∧w.grownBy w' (some b))
  (hm:Γ[km]?=some (m,EqV (.map (some b)))) (hx:Γ[ks]?=some (s,EqV (.string x))) (hv:Γ[kv]?=some (v,In c)) (ho:ops[i]?=some ⟨none,.mapUpdate T (.tmp m) (.tmp s) (.tmp v),T1,ps1,af1,none⟩)
  (hK:∀ w',St B w0 N Γ Λ a w'→MpI P KT E w' b (ns++[x])→K (a.put none undef) w'):wpOp P ops Q i K a w:=by
 obtain ⟨w',hr,hM',hg⟩:=hup
 obtain ⟨es,clock,hb⟩:=hM.at_
 have e1:a.eval (.tmp m)=.map (some b):=h.vals _ (qb hm)
 have e2:a.eval (.tmp s)=.string x:=h.vals _ (qb hx)
 have e3:a.eval (.tmp v)=.int .i64 c:=aL (h.vals _ (qb hv))
 unfold wpOp
 simp only [ho,Region.wanted,if_true]
 refine .inl ?_
 unfold Oper.wp
 simp [execOp,e1,e2,e3,hr,Result.andThen]
 exact hK w' (h.turnM hb hge hg) hM'
end
theorem slo_A {E:TypeId}{l:List As}:WkA (SlO E D l True) (SlA E D l):=⟨rfl,rfl,λ B cs w ⟨_,hD,A,c,ds,e,h1,h2,h3,h4⟩=>⟨hD,A,c,ds,e,h1,h2,h3,λ hn=>by
 obtain ⟨b,o,e1,e2,e3,e4⟩:=h4 hn
 exact ⟨b,o,e1,e2,.inl e3,e4⟩⟩⟩
theorem up_eqA (v:Value):UpA (EqA v) (EqA v):=⟨rfl,rfl,λ _ _ _ _ h=>h⟩
theorem upA_pt (x:RPt):UpA (PtA x) (PtA x):=eR (.cons (up_eqA _) (.cons (upA_re _) (.cons (up_num _ _) .nil)))
def TkO (t:RTk):As:=cat [SlO 28 [U32] (t.sp.map RFA) True,SlO 56 [U32] (t.ps.map PtA) True,RFA t.tg]
theorem upA_tk (t:RTk):UpA (TkA t) (TkO t):=eR (.cons (up_sl (λ A hA=>by obtain ⟨x,_,rfl⟩:=qp.1 hA; exact ik x)) (.cons (up_sl (λ A hA=>by obtain ⟨x,_,rfl⟩:=qp.1 hA; exact upA_pt x)) (.cons (ik _) .nil)))
theorem tko_A {t:RTk}:WkA (TkO t) (TkA t):=aS (.cons slo_A (.cons slo_A (.cons (.refl _) .nil)))
def spF (x:RF):Bool := !(((if okX x then (0:Int) else 1) != 0) || decide ((toQ x).num.sign<0))
def ptF (p:RPt):Bool := !(((!namF p.nm || (chF [p.e] != 0)) || decide (p.c<0)) || decide (p.c>1073741824))
def hdF (t:RTk):Bool:=(((decide ((t.sp.length:Int)<2) || decide ((t.sp.length:Int)>13)) || decide ((t.ps.length:Int)<1)) || decide ((t.ps.length:Int)>64)) || ((if okX t.tg then (0:Int) else 1) != 0)
def wayB (p:Nat):Nat→Bool
 | 0=>false
 | k+1=>wayB p k || decide (p^(k+1)>65536)
def ckF (t:RTk):Int:=if hdF t then 1 else if !t.sp.all spF then 1 else if !t.ps.all ptF then 1 else if dupB (t.ps.map RPt.nm) then 10 else if wayB t.ps.length (t.sp.length-1) then 4 else 0
theorem nm_ok {p:RPt}(h:ptF p=true):p.nm.size≤32:=by
 unfold ptF at h
 simp only [qv,qI,xG] at h
 have h1:=h.1.1.1
 unfold namF at h1
 split at h1
 ·cases h1
 ·rename_i h2
  exact nm_sz (by simpa using h2)
theorem sgn_s {x:RF}(h:((if okX x then (0:Int) else 1) != 0)=false):Cn Tryz.prog 46 [(RFA x).va] (In (toQ x).num.sign):=by
 have hx:okX x=true:=by
  by_cases h1:okX x=true
  ·exact h1
  ·rw [qj h1] at h; exact absurd h zd
 exact sign_q.wk (.cons (qa_x hx (qf _)).va .nil)
section
open Rg
variable {P:Program} {Q:Exit→Act→World→Prop} {B N:Nat} {w0:Bs} {Γ:List (Nat × VA)} {Λ:List Lc} {a:Act} {w:World}
def les0 (Λ:List Lc):List Le:=Λ.map λ l=>⟨l.s,l.T,l.H,none,l.A,none⟩
theorem les0_last:(les0 Λ).map (λ e=>(⟨e.s,e.T,e.H,Rg.last e⟩:Lc))=Λ:=by
 unfold les0
 rw [zH]
 have:(λ e:Le=>(⟨e.s,e.T,e.H,Rg.last e⟩:Lc))∘(λ l:Lc=>(⟨l.s,l.T,l.H,none,l.A,none⟩:Le))=id:=by
  funext l
  rfl
 rw [this,jM]
theorem go_restK {ops:Array Oper}{sp:List Sp}(Γd:List (Nat × VA))(m:Nat)(src:List Src)(h:St B w0 N (Γd++Γ) Λ a w)(h0:sp.take Γd.length=Γd.map λ x=>Sp.v x.1 x.2)(hsz:ops.size=Γd.length+m)
  (hob:Obs P Q ⟨ops,N,Γ,les0 Λ,sp,λ i=>List.range i⟩ B w0 Γd.length m) (hk:Rg.chk ⟨ops,N,Γ,les0 Λ,sp,λ i=>List.range i⟩=true) (hsrc:src.all (okS ⟨ops,N,Γ,les0 Λ,sp,λ i=>List.range i⟩)=true)
  (hQ:∀ a w,St B w0 N (src.filterMap (takeS ⟨ops,N,Γ,les0 Λ,sp,λ i=>List.range i⟩)) Λ a w→Q .normal a w):wpOps P ops Q (List.range' Γd.length m) a w:=by
 have hat:∀ i,i<Γd.length→∃ x,x∈Γd∧sp[i]?=some (.v x.1 x.2):=λ i hi=>by
  have e:(sp.take Γd.length)[i]?=sp[i]?:=by rw [List.getElem?_take,ql hi]
  rw [h0,List.getElem?_map] at e
  refine ⟨Γd[i],qi _,?_⟩
  rw [← e,List.getElem?_eq_getElem hi]; rfl
 have hmem:∀ e∈les0 Λ,e.cr=none∧e.st=none∧(⟨e.s,e.T,e.H,e.A0⟩:Lc)∈Λ:=λ e he=>by
  obtain ⟨l,hl,rfl⟩:=qp.1 he
  exact ⟨rfl,rfl,hl⟩
 have hcur:∀ e∈les0 Λ,∀ L:Nat→Bool,Rg.cur L e=some e.A0:=λ e he L=>by
  obtain ⟨h1,h2,_⟩:=hmem e he
  unfold Rg.cur
  rw [h1,h2]
  rfl
 have hi0:Rg.Inv ⟨ops,N,Γ,les0 Λ,sp,λ i=>List.range i⟩ B w0 (λ j=>decide (j<Γd.length)) a w:=by
  refine ⟨h.lo,h.defers,h.size,h.base,λ x hx _ _=>h.vals x (qm.2 (.inr hx)),λ i y d A hs hv hL _=>?_,λ i d b k c hs hL _=>?_,λ e he A hA=>?_,λ e he f hf hne _ _=>?_⟩
  ·obtain ⟨x,hx,hx2⟩:=hat i (qo hL)
   have hs':sp[i]?=some y:=hs
   rw [hx2] at hs'
   injection hs' with hs'
   subst hs'
   simp only [Sp.vl,Option.some.injEq,Prod.mk.injEq] at hv
   obtain ⟨rfl,rfl⟩:=hv
   exact h.vals x (qm.2 (.inl hx))
  ·obtain ⟨x,hx,hx2⟩:=hat i (qo hL)
   have hs':sp[i]?=some (.adr d b k c):=hs
   rw [hx2] at hs'
   cases hs'
  ·rw [hcur e he] at hA
   injection hA with hA
   subst hA
   exact h.locs _ (hmem e he).2.2
  ·exact h.dis _ (hmem e he).2.2 _ (hmem f hf).2.2 hne
 have key:∀ m k,Γd.length≤k→k+m=ops.size→∀ a w,Rg.Inv ⟨ops,N,Γ,les0 Λ,sp,λ i=>List.range i⟩ B w0 (λ j=>decide (j<k)) a w→wpOps P ops Q (List.range' k m) a w:=by
  intro m
  induction m with
  | zero =>
   intro k hk1 hkm a w hi
   have:k=ops.size:=by omega
   subst this
   have:=dV hk ⟨hi⟩ src hsrc
   rw [show (Rg.mk ops N Γ (les0 Λ) sp (λ i=>List.range i)).les=les0 Λ from rfl,les0_last] at this
   exact hQ a w this
  | succ m ih =>
   intro k hk1 hkm a w hi
   rw [List.range'_succ,qX]
   refine Rg.step hk (hob.all k zo zo) hi ?_ (by simp) ?_ _ λ a' w' hi'=>ih (k+1) zo zo a' w' (hi'.congr λ j=>?_)
   ·intro i hi j hj
    have hj:(List.range i).contains j=true:=hj
    simp at hi hj ⊢
    omega
   ·intro j hj
    have hj:(List.range k).contains j=true:=hj
    simpa using hj
   ·unfold upd
    by_cases h1:j=k
    ·subst h1; simp
    ·have h2:(j==k)=false:=by simpa using h1
     rw [h2,xb,qJ]
     omega
 exact key m Γd.length (qf _) zo a w hi0
variable {ops:Array Oper} {i:Nat} {K:Act→World→Prop}
theorem op_mvS {d u:Nat}{T':TypeId}{A:VA}(ku:Nat)(ho:ops[i]?=some ⟨some d,.move (.tmp u),T',ps,af,none⟩)(h:St B w0 N Γ Λ a w)
  (hu:Γ[ku]?=some (u,A)) (hd:d<N) (hΓ:Γ.all (λ x=>x.1 != d)=true) (hΛ:Λ.all (λ l=>l.s != d)=true)
  (hK:∀ a',St B w0 N ((d,A)::Γ) Λ a' w→K a' w):wpOp P ops Q i K a w :=
 fX (A:=A) (v:=a.eval (.tmp u)) ho h hd hΓ hΛ (by simp [execOp]) (h.vals _ (qb hu)) (hK _)
theorem op_cnS {d:Nat}{k:IntKind}{n:Int}{T':TypeId}(ho:ops[i]?=some ⟨some d,.assign (.const (.int k n)),T',ps,af,none⟩)(h:St B w0 N Γ Λ a w)
  (hd:d<N) (hΓ:Γ.all (λ x=>x.1 != d)=true) (hΛ:Λ.all (λ l=>l.s != d)=true)
  (hK:∀ a',St B w0 N ((d,(NumA k n).va)::Γ) Λ a' w→K a' w):wpOp P ops Q i K a w :=
 fX (A:=(NumA k n).va) (v:=.int k n) ho h hd hΓ hΛ (by simp [execOp,Act.eval]) (bm _ _ _ _) (hK _)
theorem op_adc {d u:Nat}{c n:Int}{xt yt T':TypeId}(ku:Nat)(ho:ops[i]?=some ⟨some d,.binOp .add xt (.tmp u) (.const (.int .i64 n)) yt,T',ps,af,none⟩)(h:St B w0 N Γ Λ a w)
  (hu:Γ[ku]?=some (u,In c)) (hd:d<N) (hΓ:Γ.all (λ x=>x.1 != d)=true) (hΛ:Λ.all (λ l=>l.s != d)=true)
  (hK:∀ a',St B w0 N ((d,In (IntKind.i64.wrap (c+n)))::Γ) Λ a' w→K a' w):wpOp P ops Q i K a w:=by
 have e:a.eval (.tmp u)=.int .i64 c:=aL (h.vals _ (qb hu))
 refine fX (A:=In (IntKind.i64.wrap (c+n))) (v:=.int .i64 (IntKind.i64.wrap (c+n))) ho h hd hΓ hΛ ?_ (bm _ _ _ _) (hK _)
 have e2:a.eval (.const (.int .i64 n))=.int .i64 n:=rfl
 simp only [execOp,e,e2,Sem.run_bind,binOp_add]
 rfl
theorem op_mlen {d m:Nat}{T KT E T':TypeId}{b:Nat}{ns:List ByteArray}(km:Nat)(ho:ops[i]?=some ⟨some d,.call ⟨.builtin .len,#[.tmp m],#[T]⟩,T',ps,af,none⟩)(h:St B w0 N Γ Λ a w)(hM:MpI P KT E w b ns)(ht:P.underlying T=some (.map KT E))
  (hm:Γ[km]?=some (m,EqV (.map (some b)))) (hd:d<N) (hΓ:Γ.all (λ x=>x.1 != d)=true) (hΛ:Λ.all (λ l=>l.s != d)=true)
  (hK:∀ (n:Nat) a',decide ((n:Int)<(ns.length:Int))=dupB ns→St B w0 N ((d,In (n:Nat))::Γ) Λ a' w→K a' w):wpOp P ops Q i K a w:=by
 obtain ⟨n,hr,hn⟩:=hM.len ht T'
 have e1:a.eval (.tmp m)=.map (some b):=h.vals _ (qb hm)
 exact fX (A:=In (n:Nat)) (v:=.int .i64 n) ho h hd hΓ hΛ (by simp [execOp,resolve,invoke,builtin,e1,hr]) (bm _ _ _ _) (hK n _ hn)
end
end Go.Proofs.YtlakjmncfooodaaGreat
