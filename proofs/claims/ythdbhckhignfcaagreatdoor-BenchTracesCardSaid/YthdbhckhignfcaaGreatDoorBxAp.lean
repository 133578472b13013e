import Derived.Test.YthdbhckhignfcaaGreatDoorBxAa
import Derived.Test.YthdbhckhignfcaaGreatDoorBxAc
import Derived.Test.YthdbhckhignfcaaGreatDoorBxAn
import Derived.Test.YthdbhckhignfcaaGreatDoorBxAo
import Derived.Maps.AppendAt
import Derived.Deep.DeepAppendRoom
set_option linter.unusedVariables false
set_option linter.unusedSimpArgs false
set_option linter.unusedSectionVars false
set_option maxRecDepth 100000
namespace Go.Proofs.YthdbhckhignfcaaGreatDoor
open Go Go.RowKit
section
open Rg
variable {P:Program} {Q:Exit→Act→World→Prop} {B N:Nat} {w0:Bs} {Γ:List (Nat × VA)} {Λ:List Lc} {a:Act} {w:World}
theorem zn9 {R:Rg}{n:Nat}(hles:∀ l'∈Λ,∃ st,(⟨l'.s,l'.T,l'.H,none,l'.A,st⟩:Le)∈R.les)(hles2:∀ y∈R.les,∀ i A,y.st=some (i,A)→n≤i)(hinv:R.Inv B w0 (fun k=>decide (k<n)) a w)(src:List Src)
  (hsrc:src.all (fun s=>match s with | .g k=>(match R.Γ[k]? with | some x=>Rg.outG R x.1 | none=>false) | .o i=>decide (i<n))=true):St B w0 R.N (src.filterMap (takeS R)) Λ a w:=by
 have hcl:∀ deps,Rg.clash R (fun k=>decide (k<n)) deps=false:=fun deps=>by
  unfold Rg.clash
  rw [List.any_eq_false]
  intro y hy
  cases O:y.st with
  | none=>simp
  | some x =>
   obtain ⟨i,B'⟩:=x
   have:=hles2 y hy i B' O
   have hno:¬ i<n:=by omega
   simp [hno]
 have hcur:∀ y∈R.les,y.cr=none→Rg.cur (fun k=>decide (k<n)) y=some y.A0:=fun y hy h0=>by
  unfold Rg.cur
  rw [h0]
  simp only [Rg.crOk,if_true]
  cases O:y.st with
  | none=>rfl
  | some x =>
   obtain ⟨i,B'⟩:=x
   have:=hles2 y hy i B' O
   have hno:¬ i<n:=by omega
   simp [hno]
 refine ⟨hinv.lo,hinv.defers,hinv.size,hinv.base,fun x hx=>?_,fun l' hl'=>?_,fun l1 h1 l2 h2 hne=>?_⟩
 rotate_left
 ·obtain ⟨st,hy⟩:=hles l' hl'
  exact hinv.c _ hy l'.A (hcur _ hy rfl)
 ·obtain ⟨s1,hy1⟩:=hles l1 h1
  obtain ⟨s2,hy2⟩:=hles l2 h2
  exact hinv.x _ hy1 _ hy2 hne (by rw [hcur _ hy1 rfl]; rfl) (by rw [hcur _ hy2 rfl]; rfl)
 obtain ⟨s,hs1,hs2⟩:=List.mem_filterMap.1 hx
 have ho:=List.all_eq_true.1 hsrc s hs1
 cases s with
 | g k =>
  simp only [takeS] at hs2
  simp only [hs2] at ho
  refine hinv.g x (List.mem_of_getElem? hs2) (fun q hq hdq=>?_) (hcl _)
  cases h2:R.ops[q]? with
  | none=>unfold Rg.dst at hdq; rw [h2] at hdq; cases hdq
  | some v =>
   have:=List.all_eq_true.1 ho q (by simpa using (Array.getElem?_eq_some_iff.1 h2).1)
   exact absurd hdq (by simpa using this)
 | o i =>
  simp only [takeS] at hs2
  cases hy:R.sp[i]? with
  | none=>rw [hy] at hs2; cases hs2
  | some y =>
   rw [hy] at hs2
   exact hinv.v i y x.1 x.2 hy hs2 ho (hcl _)
theorem run_app1 {P:Program}(w:World)(base:Nat)(t ty e:TypeId)(i:TypeInfo)(z:Value)(size bytes:Nat)(ht:P.underlying t=some (.slice e))(hi:P.info? e=some i)(hz:i.zero=some z)
  (hsize:i.size=size) (hby:i.bytes=bytes) (hzs:z.cells.size=size) (hsz:0<size) (v:Value) (n:Nat) (xs:List Value) (hown:w.ownsRow base e size v n xs)
  (a:Addr) (c:Nat) (news:List Value) (hl:news.length=1*size) (hnews:∀ j u,news[j]?=some u→w.cell? (a.add j)=some u) (h1:∀ u∈news,u.oneCell'=true)
  (h63:n+1≤maxLen) (hbytes:(n+1)*bytes≤140737488355328) (hbase:base≤w.heap.size) :
  ∃ v' w',(Builtin.append_ #[t,t] ty #[v,.slice (some a) 1 c]).run P w=.ok v' w'∧w'.ownsRow base e size v' (n+1) (xs++news)∧w.grownBy w' v.ownBlock∧(v'.ownBlock=v.ownBlock∨(v'.ownBlock=some w.heap.size∧w.grownBy w' none)):=by
 obtain ⟨v',w',hr,r1,r2,_,r3⟩:=run_append_own_at (P:=P) w base t ty e i z size bytes ht hi hz hsize hby hzs hsz v n xs hown a 1 c news hl hnews h1 h63 hbytes hbase
 refine ⟨v',w',hr,r1,r2,?_⟩
 rcases r3 with r3 | r3
 ·exact .inl r3
 ·have hcases:=hown.2
  rcases hcases with ⟨rfl,_⟩ | ⟨g,cap,cur,rfl,hbg,hg,hnc,hcm,hcs,htake⟩
  ·exact .inr ⟨r3,r2⟩
  ·by_cases hroom:n+1≤cap
   ·obtain ⟨w2,hr2,_⟩:=run_append_own_spare (P:=P) w base t ty e i size ht hi hsize g n cap xs hown a 1 c news hl hnews h1 hroom
    rw [hr2] at hr
    injection hr with hr
    subst hr
    exact .inl rfl
   ·subst hsize
    have holds:∀ j u,xs[j]?=some u→w.cell? ((⟨g,0,none⟩:Addr).add j)=some u:=hown.cells (g:=g) rfl
    have hr2:=run_append_grow (P:=P) w t ty e i z ht hi hz ⟨g,0,none⟩ n cap xs hown.1 holds a 1 c news hl hnews zo (by unfold maxLen at h63; omega) (growslice_fits zo (by rw [hby]; exact hbytes))
    rw [hr2] at hr
    injection hr with hr hr'
    subst hr'
    exact .inr ⟨r3,rfl,rfl,rfl,by simp,fun k hk _=>by first | exact Go.heap_alloc_old w.drew _ k hk | exact heap_alloc_old w.drew _ hk⟩
theorem zng {id:Nat}{ops:Array Oper}{sp:List Sp}(anc:List (List Nat))(n m e j:Nat)(A:As)(src:List Src)(hmx:P.follows .mixedOrders=true)
  (h:St B w0 N Γ Λ a w) (hob:Obs P Q ⟨ops,N,Γ,lesS Λ e j A,sp,fun i=>anc.getD i []⟩ B w0 0 n) (hsz:ops.size=n+m) (hm:0<m) (hj:n≤j) (hanc:Rg.ancOk ⟨ops,N,Γ,lesS Λ e j A,sp,fun i=>anc.getD i []⟩=true) (hall:∀ i,n≤i→i<n+m→∀ j,j<i→(anc.getD i []).contains j=true) (hk:Rg.chk ⟨ops,N,Γ,lesS Λ e j A,sp,fun i=>anc.getD i []⟩=true)
  (hsrc:src.all (fun s=>match s with | .g k=>(match Γ[k]? with | some x=>Rg.outG ⟨ops,N,Γ,lesS Λ e j A,sp,fun i=>anc.getD i []⟩ x.1 | none=>false) | .o i=>decide (i<n))=true)
  (hQ:∀ a' w',St B w0 N (src.filterMap (takeS ⟨ops,N,Γ,lesS Λ e j A,sp,fun i=>anc.getD i []⟩)) Λ a' w'→wpOps P ops Q (List.range' n m) a' w'):(Code.region id ops true).wp P Q a w:=by
 refine Rg.drawK (R:=⟨ops,N,Γ,lesS Λ e j A,sp,fun i=>anc.getD i []⟩) (m:=m) hsz hm hmx hanc hk h (fun y hy _=>?_) (fun i hi=>hob.all i zo zo) (fun i h1 h2 j hj=>hall i h1 h2 j hj) fun a1 w1 hinv=>?_
 ·exact (zio y hy).2.1
 ·exact hQ a1 w1 (zn9 (fun l' hl'=>by
   obtain ⟨j',hj'⟩:=List.getElem?_of_mem hl'
   exact ⟨_,List.mem_map.2 ⟨(l',j'),List.mem_zipIdx_iff_getElem?.2 hj',rfl⟩⟩) (fun y hy i B' h1=>by have:=(zio y hy).2.2 i B' h1; omega) hinv src hsrc)
theorem zbs {id:Nat}{ops:Array Oper}{sp:List Sp}(n m e j:Nat)(A:As)(src:List Src)
  (h:St B w0 N Γ Λ a w) (hob:Obs P Q ⟨ops,N,Γ,lesS Λ e j A,sp,fun i=>List.range i⟩ B w0 0 n) (hsz:ops.size=n+m) (hj:n≤j) (hk:Rg.chk ⟨ops,N,Γ,lesS Λ e j A,sp,fun i=>List.range i⟩=true)
  (hsrc:src.all (fun s=>match s with | .g k=>(match Γ[k]? with | some x=>Rg.outG ⟨ops,N,Γ,lesS Λ e j A,sp,fun i=>List.range i⟩ x.1 | none=>false) | .o i=>decide (i<n))=true)
  (hQ:∀ a' w',St B w0 N (src.filterMap (takeS ⟨ops,N,Γ,lesS Λ e j A,sp,fun i=>List.range i⟩)) Λ a' w'→wpOps P ops Q (List.range' n m) a' w'):(Code.region id ops false).wp P Q a w:=by
 refine Rg.linK (R:=⟨ops,N,Γ,lesS Λ e j A,sp,fun i=>List.range i⟩) (m:=m) hsz rfl hk h (fun y hy _=>?_) (fun i hi=>hob.all i zo zo) fun a1 w1 hinv=>?_
 ·exact (zio y hy).2.1
 ·exact hQ a1 w1 (zn9 (fun l' hl'=>by
   obtain ⟨j',hj'⟩:=List.getElem?_of_mem hl'
   exact ⟨_,List.mem_map.2 ⟨(l',j'),List.mem_zipIdx_iff_getElem?.2 hj',rfl⟩⟩) (fun y hy i B' h1=>by have:=(zio y hy).2.2 i B' h1; omega) hinv src hsrc)
theorem St.addV {d:Nat}{v:Value}{A:VA}(h:St B w0 N Γ Λ a w)(hd:d<N)(hΓ:Γ.all (fun x=>x.1 != d)=true)(hΛ:Λ.all (fun l=>l.s != d)=true)(hA:A.p B v w):St B w0 N ((d,A)::Γ) Λ (a.put (some d) v) w:=by
 have hdsz:d<a.tmps.size:=by rw [h.size]; exact hd
 have hl:∀ l∈Λ,l.s≠d:=fun l hl=>by simpa using List.all_eq_true.1 hΛ l hl
 refine ⟨h.lo,h.defers.keep rfl fun _ hD=>hD,by rw [zc3]; exact h.size,h.base,fun x hx=>?_,fun l hl'=>?_,fun l1 h1 l2 h2 hne=>?_⟩
 ·rcases List.mem_cons.1 hx with rfl | hx
  ·show A.p B ((a.put (some d) v).eval (.tmp d)) w
   rw [zb2 _ _ _ hdsz]
   exact hA
  ·have:x.1≠d:=by simpa using List.all_eq_true.1 hΓ x hx
   rw [zaa _ _ _ _ this]
   exact h.vals x hx
 ·exact (h.locs l hl').eval (zaa _ _ _ _ (hl l hl'))
 ·rw [zaa _ _ _ _ (hl l1 h1),zaa _ _ _ _ (hl l2 h2)]
  exact h.dis l1 h1 l2 h2 hne
variable {ops:Array Oper} {i:Nat} {K:Act→World→Prop}
theorem zwt {d:Nat}{op:Op}{T':TypeId}{ps:String}{af:Array Edge}{v:Value}{A:VA}(ho:ops[i]?=some ⟨some d,op,T',ps,af,none⟩)(h:St B w0 N Γ Λ a w)(hd:d<N)(hΓ:Γ.all (fun x=>x.1 != d)=true)(hΛ:Λ.all (fun l=>l.s != d)=true)
  (hr:(execOp a.eval ⟨some d,op,T',ps,af,none⟩).run P w=.ok (.value v) w) (hA:A.p B v w) (hK:St B w0 N ((d,A)::Γ) Λ (a.put (some d) v) w→K (a.put (some d) v) w):wpOp P ops Q i K a w:=by
 unfold wpOp
 simp only [ho,Region.wanted,if_true]
 exact .inl (zbh hr (hK (h.addV hd hΓ hΛ hA)))
theorem zik {d u y:Nat}{S E:TypeId}{T':TypeId}{ps:String}{af:Array Edge}{g n c k m:Nat}{kd:IntKind}(ku ky:Nat)(ho:ops[i]?=some ⟨some d,.indexAddr S (.tmp u) (.tmp y),T',ps,af,none⟩)(h:St B w0 N Γ Λ a w)(hS:Sl P S E m)(hm:m≠0)
  (hu:Γ[ku]?=some (u,EqV (.slice (some ⟨g,0,none⟩) n c))) (hy:Γ[ky]?=some (y,(NumA kd k).va)) (hk:k<n) (hd:d<N) (hΓ:Γ.all (fun x=>x.1 != d)=true) (hΛ:Λ.all (fun l=>l.s != d)=true)
  (hK:∀ a',St B w0 N ((d,EqV (.pointer (some ⟨g,k*m,none⟩)))::Γ) Λ a' w→K a' w):wpOp P ops Q i K a w:=by
 have h3:a.eval (.tmp u)=.slice (some ⟨g,0,none⟩) n c:=h.vals _ (List.mem_of_getElem? hu)
 have e:=zbq (h.vals _ (List.mem_of_getElem? hy))
 obtain ⟨hs1,hs2⟩:=hS
 refine zwt (A:=EqV (.pointer (some ⟨g,k*m,none⟩))) ho h hd hΓ hΛ ?_ rfl (hK _)
 cases hi:P.info? E with
 | none=>rw [hi] at hs2; simp at hs2
 | some it =>
  rw [hi] at hs2
  have hsz:it.size=m:=by simpa using hs2
  by_cases h0:k=0
  ·subst h0; simp [execOp,h3,e,Instr.indexAt,asIntOf,run_underlying hs1,hk,sizeOf,typeInfo,hi,Addr.add]
  ·have:k*m≠0:=Nat.mul_ne_zero h0 hm
   simp [execOp,h3,e,Instr.indexAt,asIntOf,run_underlying hs1,hk,sizeOf,typeInfo,hi,hsz,Addr.add,h0,hm]
   try exact this
theorem zij {d u:Nat}{T':TypeId}{ps:String}{af:Array Edge}{g o:Nat}(ku:Nat)(ho:ops[i]?=some ⟨some d,.nilCheck (.tmp u),T',ps,af,none⟩)(h:St B w0 N Γ Λ a w)
  (hu:Γ[ku]?=some (u,EqV (.pointer (some ⟨g,o,none⟩)))) (hd:d<N) (hΓ:Γ.all (fun x=>x.1 != d)=true) (hΛ:Λ.all (fun l=>l.s != d)=true)
  (hK:∀ a',St B w0 N ((d,EqV (.pointer (some ⟨g,o,none⟩)))::Γ) Λ a' w→K a' w):wpOp P ops Q i K a w:=by
 have h3:a.eval (.tmp u)=.pointer (some ⟨g,o,none⟩):=h.vals _ (List.mem_of_getElem? hu)
 exact zwt (A:=EqV (.pointer (some ⟨g,o,none⟩))) ho h hd hΓ hΛ (by simp [execOp,h3]) rfl (hK _)
theorem zfe {d u f k n:Nat}{T T':TypeId}{ps:String}{af:Array Edge}{g o:Nat}(ku:Nat)(ho:ops[i]?=some ⟨some d,.fieldAddr T (.tmp u) f,T',ps,af,none⟩)(h:St B w0 N Γ Λ a w)(hf:Fld P T f k n)
  (hu:Γ[ku]?=some (u,EqV (.pointer (some ⟨g,o,none⟩)))) (hd:d<N) (hΓ:Γ.all (fun x=>x.1 != d)=true) (hΛ:Λ.all (fun l=>l.s != d)=true)
  (hK:∀ a',St B w0 N ((d,EqV (.pointer (some ⟨g,o+k,none⟩)))::Γ) Λ a' w→K a' w):wpOp P ops Q i K a w:=by
 have h3:a.eval (.tmp u)=.pointer (some ⟨g,o,none⟩):=h.vals _ (List.mem_of_getElem? hu)
 exact zwt (A:=EqV (.pointer (some ⟨g,o+k,none⟩))) ho h hd hΓ hΛ (by simp [execOp,h3,ze9 hf]) rfl (hK _)
theorem zq0 {d u:Nat}{T':TypeId}{ps:String}{af:Array Edge}{A:VA}(ku:Nat)(ho:ops[i]?=some ⟨some d,.assign (.tmp u),T',ps,af,none⟩)(h:St B w0 N Γ Λ a w)
  (hu:Γ[ku]?=some (u,A)) (hd:d<N) (hΓ:Γ.all (fun x=>x.1 != d)=true) (hΛ:Λ.all (fun l=>l.s != d)=true)
  (hK:∀ a',St B w0 N ((d,A)::Γ) Λ a' w→K a' w):wpOp P ops Q i K a w :=
 zwt (A:=A) (v:=a.eval (.tmp u)) ho h hd hΓ hΛ (by simp [execOp]) (h.vals _ (List.mem_of_getElem? hu)) (hK _)
theorem St.turn {w':World}{E sx:Nat}{T:TypeId}{H:Hd}{A0 A1:As}{row:Option Nat}(src:List Nat)(e:Nat)(h:St B w0 N Γ Λ a w)(hg:w.grownBy w' row)(hr:RowOk w B E row)(hrm:RowMay w0 B E)(hl:Λ[e]?=some ⟨sx,T,H,A0⟩)(hTE:(T != E)=true)
  (hsrc:src.all (fun k=>match Γ[k]? with | some y => !y.2.deps.contains E | none=>false)=true) (hΛ:Λ.zipIdx.all (fun x=>x.2==e || (x.1.T != E && !x.1.A.deps.contains E))=true)
  (htr:∀ cs,A0.p B cs w→A1.p B cs w'):St B w0 N (src.filterMap fun k=>Γ[k]?) (Λ.set e ⟨sx,T,H,A1⟩) a w':=by
 have hrow:∀ {g:Nat} {c:Array Value} {T':TypeId} {fz:Nat × Nat},w.heap[g]?=some (.cells c T' fz)→T'≠E→w'.heap[g]?=some (.cells c T' fz):=fun {g c T' fz} hg1 hne =>
  (hg.block g (Array.getElem?_eq_some_iff.1 hg1).1 (fun e5=>by
   obtain ⟨_,c',fz',e6⟩:=hr g e5.symm
   rw [hg1] at e6
   injection e6 with e6
   injection e6 with _ e6 _
   exact hne e6)).trans hg1
 refine ⟨h.lo,h.defers.grown hg hr rfl,h.size,⟨hg.os.trans h.base.os,hg.tape.trans h.base.tape,hg.output.trans h.base.output,Nat.le_trans h.base.size hg.size,fun k hk hf=>?_⟩,fun y hy=>?_,fun m' hm'=>?_,fun m1 hm1 m2 hm2 hne=>?_⟩
 ·refine (hg.block k (Nat.lt_of_lt_of_le hk h.base.size) (fun e=>?_)).trans (h.base.block k hk hf)
  obtain ⟨q1,c,fz,q2⟩:=hr k e.symm
  rcases hrm w k c fz h.base q1 q2 with q3 | q3
  ·omega
  ·exact hf q3
 ·obtain ⟨k,hk1,hk2⟩:=List.mem_filterMap.1 hy
  have hs:=List.all_eq_true.1 hsrc k hk1
  simp only [hk2,Bool.not_eq_true',List.contains_eq_mem,decide_eq_false_iff_not] at hs
  exact VA.grown (h.vals y (List.mem_of_getElem? hk2)) hg hr (Nat.le_refl B) hs
 ·obtain ⟨j,hj⟩:=List.getElem?_of_mem hm'
  by_cases e1:j=e
  ·subst e1
   have:m'=⟨sx,T,H,A1⟩:=by
    rw [List.getElem?_set_self (List.getElem?_eq_some_iff.1 hl).1] at hj
    injection hj with hj
    exact hj.symm
   subst this
   obtain ⟨g,cs,q1,q2,q3,q4⟩:=h.locs _ (List.mem_of_getElem? hl)
   exact ⟨g,cs,q1,q2,hrow q3 (by simpa using hTE),htr cs q4⟩
  ·rw [List.getElem?_set_ne (fun e2=>e1 e2.symm)] at hj
   have hc:=List.all_eq_true.1 hΛ (m',j) (List.mem_zipIdx_iff_getElem?.2 hj)
   simp only [Bool.or_eq_true,beq_iff_eq,Bool.and_eq_true,bne_iff_ne,Bool.not_eq_true',List.contains_eq_mem,decide_eq_false_iff_not] at hc
   have hc':=hc.resolve_left e1
   obtain ⟨g,cs,q1,q2,q3,q4⟩:=h.locs m' (List.mem_of_getElem? hj)
   exact ⟨g,cs,q1,q2,hrow q3 hc'.1,As.grown q4 hg hr (Nat.le_refl B) hc'.2⟩
 ·have hs:∀ m∈Λ.set e ⟨sx,T,H,A1⟩,∃ m0∈Λ,m0.s=m.s:=fun m hm=>by
   rcases List.mem_or_eq_of_mem_set hm with hm | rfl
   ·exact ⟨m,hm,rfl⟩
   ·exact ⟨_,List.mem_of_getElem? hl,rfl⟩
  obtain ⟨m3,q1,q2⟩:=hs m1 hm1
  obtain ⟨m4,q3,q4⟩:=hs m2 hm2
  rw [← q2,← q4] at hne ⊢
  exact h.dis m3 q1 m4 q3 hne
theorem zoz {g:Nat}{cs:Array Value}:w.grownBy (w.setRow g cs) (some g):=⟨rfl,rfl,rfl,by simp,fun k _ hk=>setRow_other w g k cs (fun e=>hk (by rw [e]))⟩
theorem zmp {p d g k sx:Nat}{E ty T T':TypeId}{H:Hd}{A0 A1:As}{ps:String}{af:Array Edge}{v:Value}(src:List Nat)(kp kd e:Nat)(ho:ops[i]?=some ⟨none,.store ty (.tmp p) (.tmp d),T',ps,af,none⟩)(h:St B w0 N Γ Λ a w)
  (hp:Γ[kp]?=some (p,EqV (.pointer (some ⟨g,k,none⟩)))) (hd:Γ[kd]?=some (d,EqV v)) (hv1:v.oneCell'=true) (hvc:v.cells = #[v]) (ht:Ty P ty 1 false) (hl:Λ[e]?=some ⟨sx,T,H,A0⟩) (hTE:(T != E)=true) (hrm:RowMay w0 B E)
  (hsrc:src.all (fun k=>match Γ[k]? with | some y => !y.2.deps.contains E | none=>false)=true) (hΛ:Λ.zipIdx.all (fun x=>x.2==e || (x.1.T != E && !x.1.A.deps.contains E))=true)
  (htr:∀ cs,A0.p B cs w→B≤g∧∃ c:Array Value,w.heap[g]?=some (.cells c E (0,0))∧k<c.size∧A1.p B cs (w.setRow g (c.setIfInBounds k v)))
  (hK:∀ w',St B w0 N (src.filterMap fun k=>Γ[k]?) (Λ.set e ⟨sx,T,H,A1⟩) a w'→K (a.put none undef) w'):wpOp P ops Q i K a w:=by
 have e1:a.eval (.tmp p)=.pointer (some ⟨g,k,none⟩):=h.vals _ (List.mem_of_getElem? hp)
 have e2:a.eval (.tmp d)=v:=h.vals _ (List.mem_of_getElem? hd)
 obtain ⟨g0,cs0,q1,q2,q3,q4⟩:=h.locs _ (List.mem_of_getElem? hl)
 obtain ⟨hB,c,hc,hkc,_⟩:=htr cs0 q4
 have hrun:=zcp ht w g k E c v [v] hvc rfl zo (by simpa using hv1) hc
 have e3:(c.toList.take k++[v]++c.toList.drop (k+1)).toArray=c.setIfInBounds k v:=by
  apply Array.ext'
  rw [Array.toList_setIfInBounds,List.set_eq_take_append_cons_drop,if_pos (by simpa using hkc)]
  simp
 rw [e3] at hrun
 unfold wpOp
 simp only [ho,Region.wanted,if_true]
 refine .inl (wp_skip' (w':=w.setRow g (c.setIfInBounds k v)) ?_ (hK _ (h.turn src e zoz (fun g' e=>?_) hrm hl hTE hsrc hΛ fun cs hp=>?_)))
 ·simp [execOp,e1,e2,Instr.storeAt,Instr.sureAddr,hrun]
 ·injection e with e
  subst e
  exact ⟨hB,_,_,hc⟩
 ·obtain ⟨_,c',hc',_,h5⟩:=htr cs hp
  rw [hc] at hc'
  injection hc' with hc'
  injection hc' with hc'
  subst hc'
  exact h5
theorem zff {d s u sx:Nat}{S E T1 T:TypeId}{H:Hd}{A0:As}{ps:String}{af:Array Edge}{v:Value}{X:As}{xs:List Value}{n m bytes:Nat}{D':List TypeId}{it:TypeInfo}{z:Value}(A1:Value→As)(F:List Value→Prop)(src:List Nat)(ks ku e:Nat)
  (ho:ops[i]?=some ⟨some d,.call ⟨.builtin .append,#[.tmp s,.tmp u],#[S,S]⟩,T1,ps,af,none⟩) (h:St B w0 N Γ Λ a w)
  (hs:Γ[ks]?=some (s,EqV v)) (hu:Γ[ku]?=some (u,(SlA E D' [X]).va)) (hX:∀ ds,X.p B ds w→F ds) (hXn:X.n=m) (hl:Λ[e]?=some ⟨sx,T,H,A0⟩) (hTE:(T != E)=true) (hrm:RowMay w0 B E)
  (hS:P.underlying S=some (.slice E)) (hi:P.info? E=some it) (hz:it.zero=some z) (hsz1:it.size=m) (hby:it.bytes=bytes) (hzs:z.cells.size=m) (hm0:0<m) (hn:(n+1)*bytes≤140737488355328) (hn2:n≤1000000000000000)
  (hd:d<N) (hΓ:Γ.all (fun x=>x.1 != d)=true) (hΛd:Λ.all (fun l=>l.s != d)=true)
  (hsrc:src.all (fun k=>match Γ[k]? with | some y => !y.2.deps.contains E | none=>false)=true) (hΛ:Λ.zipIdx.all (fun x=>x.2==e || (x.1.T != E && !x.1.A.deps.contains E))=true)
  (htr:∀ cs,A0.p B cs w→w.ownsRow B E m v n xs∧∀ v' w' ds,F ds→w'.ownsRow B E m v' (n+1) (xs++ds)→w.grownBy w' v.ownBlock→(v'.ownBlock=v.ownBlock∨(v'.ownBlock=some w.heap.size∧w.grownBy w' none))→(A1 v').p B cs w')
  (hK:∀ v' w',St B w0 N ((d,EqV v')::src.filterMap fun k=>Γ[k]?) (Λ.set e ⟨sx,T,H,A1 v'⟩) (a.put (some d) v') w'→K (a.put (some d) v') w'):wpOp P ops Q i K a w:=by
 have e1:a.eval (.tmp s)=v:=h.vals _ (List.mem_of_getElem? hs)
 obtain ⟨cs1,⟨_,Ad,cap,ds,rfl,_,_,h5,h6⟩,hu'⟩:=h.vals _ (List.mem_of_getElem? hu)
 have e2:a.eval (.tmp u)=.slice Ad 1 cap:=hu'
 obtain ⟨g1,o1,rfl,_,_,h8⟩:=h6 (by simp)
 obtain ⟨g0,cs0,q1,q2,q3,q4⟩:=h.locs _ (List.mem_of_getElem? hl)
 obtain ⟨hown,hnext⟩:=htr cs0 q4
 obtain ⟨ps1,e3,hps⟩:=h5
 have hx1:X.p B ds w:=by
  cases hps with
  | cons h1 h2 =>
   cases h2
   rw [e3]
   simpa using h1
 have hdl:ds.length=1*m:=by rw [X.len _ _ _ hx1,hXn,Nat.one_mul]
 have hBw:B≤w.heap.size:=Nat.le_trans (h.lo _ (.inl (Nat.le_refl _))) h.base.size
 obtain ⟨v',w',hr,r1,r2,r3⟩:=run_app1 (P:=P) w B S T1 E it z m bytes hS hi hz hsz1 hby hzs hm0 v n xs hown ⟨g1,o1,none⟩ cap ds hdl (fun j u hu=>by rw [zqu]; exact h8 j u hu) (X.one _ _ _ hx1) (by unfold maxLen; omega) hn hBw
 have hro:RowOk w B E v.ownBlock:=zfb hown
 have O:=(h.turn (A1:=A1 v') src e r2 hro hrm hl hTE hsrc hΛ fun cs hp=>(htr cs hp).2 v' w' ds (hX ds hx1) r1 r2 r3)
 have hst2:=O.addV (d:=d) (v:=v') (A:=EqV v') hd (List.all_eq_true.2 fun x hx=>by
  obtain ⟨k,hk1,hk2⟩:=List.mem_filterMap.1 hx
  exact List.all_eq_true.1 hΓ x (List.mem_of_getElem? hk2)) (List.all_eq_true.2 fun l hl'=>by
  rcases List.mem_or_eq_of_mem_set hl' with hl' | rfl
  ·exact List.all_eq_true.1 hΛd l hl'
  ·exact List.all_eq_true.1 hΛd (⟨sx,T,H,A0⟩:Lc) (List.mem_of_getElem? hl)) rfl
 unfold wpOp
 simp only [ho,Region.wanted,if_true]
 refine .inl (zbh (w':=w') (v:=v') ?_ (hK v' w' hst2))
 simp only [execOp,resolve,invoke,builtin,Sem.run_bind,Sem.run_pure,Result.andThen_ok,List.map_toArray,List.map_cons,List.map_nil,e1,e2,hr]
theorem zfc {p d g k sx:Nat}{ty T T':TypeId}{H:Hd}{A0 A1:As}{ps:String}{af:Array Edge}{v:Value}(src:List Nat)(kp kd ks e:Nat)(ho:ops[i]?=some ⟨none,.store ty (.tmp p) (.tmp d),T',ps,af,none⟩)(h:St B w0 N Γ Λ a w)
  (hp:Γ[kp]?=some (p,EqV (.pointer (some ⟨g,k,none⟩)))) (hd:Γ[kd]?=some (d,EqV v)) (hs:Γ[ks]?=some (sx,EqV (H.f g))) (hv1:v.oneCell'=true) (hvc:v.cells = #[v]) (ht:Ty P ty 1 false) (hl:Λ[e]?=some ⟨sx,T,H,A0⟩)
  (hsrc:src.all (fun k=>match Γ[k]? with | some y => !y.2.deps.contains T | none=>false)=true) (hΛ:Λ.zipIdx.all (fun x=>x.2==e || (x.1.s != sx && !x.1.A.deps.contains T))=true) (hT:A1.deps.contains T=false)
  (htr:∀ cs,A0.p B cs w→k<cs.length∧A1.p B (cs.set k v) w)
  (hK:∀ w',St B w0 N (src.filterMap fun k=>Γ[k]?) (Λ.set e ⟨sx,T,H,A1⟩) a w'→K (a.put none undef) w'):wpOp P ops Q i K a w:=by
 have e1:a.eval (.tmp p)=.pointer (some ⟨g,k,none⟩):=h.vals _ (List.mem_of_getElem? hp)
 have e2:a.eval (.tmp d)=v:=h.vals _ (List.mem_of_getElem? hd)
 have e0:a.eval (.tmp sx)=H.f g:=h.vals _ (List.mem_of_getElem? hs)
 obtain ⟨g0,cs,q1,q2,q3,q4⟩:=h.locs _ (List.mem_of_getElem? hl)
 have:g0=g:=by
  have:=congrArg blk (q1.symm.trans e0)
  rw [H.ok,H.ok] at this
  injection this
 subst this
 obtain ⟨hkc,hp1⟩:=htr cs q4
 have hrun:=zcp ht w g0 k T cs.toArray v [v] hvc rfl (by simp; omega) (by simpa using hv1) q3
 have e3:(cs.take k++[v]++cs.drop (k+1))=cs.set k v:=by
  rw [List.set_eq_take_append_cons_drop,if_pos hkc]
  simp
 simp only [e3] at hrun
 have hW:=Wr.setRow w g0 (cs.set k v).toArray
 have hB:B≤g0:=h.lo g0 q2
 have hTn:T ∉ A1.deps:=by simpa using hT
 unfold wpOp
 simp only [ho,Region.wanted,if_true]
 refine .inl (wp_skip' (w':=w.setRow g0 (cs.set k v).toArray) ?_ (hK _ ⟨h.lo,h.defers.keep rfl fun D hD=>(hW.block D (fun e=>by subst e; rw [q3] at hD; cases hD)).trans hD,h.size,h.base.wr hW q2,fun x hx=>?_,fun m hm=>?_,fun m1 hm1 m2 hm2 hne=>?_⟩))
 ·simp [execOp,e1,e2,Instr.storeAt,Instr.sureAddr,hrun]
 ·obtain ⟨k',hk1,hk2⟩:=List.mem_filterMap.1 hx
  have:=List.all_eq_true.1 hsrc k' hk1
  simp only [hk2,Bool.not_eq_true',List.contains_eq_mem,decide_eq_false_iff_not] at this
  exact x.2.wr _ _ _ _ _ _ _ _ q3 this hB hW (h.vals x (List.mem_of_getElem? hk2))
 ·obtain ⟨j,hj⟩:=List.getElem?_of_mem hm
  by_cases e5:j=e
  ·subst e5
   have:m=⟨sx,T,H,A1⟩:=by
    rw [List.getElem?_set_self (List.getElem?_eq_some_iff.1 hl).1] at hj
    injection hj with hj
    exact hj.symm
   subst this
   exact ⟨g0,cs.set k v,q1,q2,setRow_heap w g0 _ _ _ _ q3,A1.wr _ _ _ _ _ _ _ _ q3 hTn hB hW hp1⟩
  ·rw [List.getElem?_set_ne (fun e2=>e5 e2.symm)] at hj
   have hc:=List.all_eq_true.1 hΛ (m,j) (List.mem_zipIdx_iff_getElem?.2 hj)
   simp only [Bool.or_eq_true,beq_iff_eq,Bool.and_eq_true,bne_iff_ne,Bool.not_eq_true',List.contains_eq_mem,decide_eq_false_iff_not] at hc
   have hc':=hc.resolve_left e5
   obtain ⟨g',cs2,p1,p2,p3,p4⟩:=h.locs m (List.mem_of_getElem? hj)
   have hne:g'≠g0:=fun hh=>h.dis m (List.mem_of_getElem? hj) _ (List.mem_of_getElem? hl) hc'.1 (by rw [p1,q1,hh,m.H.ok,Hd.ok])
   exact ⟨g',cs2,p1,p2,(hW.block g' hne).trans p3,m.A.wr _ _ _ _ _ _ _ _ q3 hc'.2 hB hW p4⟩
 ·have hs:∀ m∈Λ.set e ⟨sx,T,H,A1⟩,∃ m0∈Λ,m0.s=m.s:=fun m hm=>by
   rcases List.mem_or_eq_of_mem_set hm with hm | rfl
   ·exact ⟨m,hm,rfl⟩
   ·exact ⟨_,List.mem_of_getElem? hl,rfl⟩
  obtain ⟨m3,r1,r2⟩:=hs m1 hm1
  obtain ⟨m4,r3,r4⟩:=hs m2 hm2
  rw [← r2,← r4] at hne ⊢
  exact h.dis m3 r1 m4 r3 hne
end
section
open Rg
variable {P:Program} {Q:Exit→Act→World→Prop} {B N:Nat} {w0:Bs} {Γ:List (Nat × VA)} {Λ:List Lc} {a:Act} {w:World}
theorem zfd {ops:Array Oper}{i d x:Nat}{T ty T1 T2:TypeId}{A0 A:As}{ps1 ps2:String}{af1 af2:Array Edge}{rest:List Nat}(kx:Nat)(src:List Nat)
  (ho1:ops[i]?=some ⟨some d,.alloc T,T1,ps1,af1,none⟩) (ho2:ops[i+1]?=some ⟨none,.store ty (.tmp d) (.tmp x),T2,ps2,af2,none⟩)
  (h:St B w0 N Γ Λ a w) (hz:Zero P T A0) (hx:Γ[kx]?=some (x,A.va)) (ht:Ty P ty A.n A.ag) (hn:A0.n=A.n) (hd:d<N) (hdx:(d != x)=true)
  (hsrc:src.all (fun k=>match Γ[k]? with | some y=>y.1 != d | none=>false)=true) (hΛ:Λ.all (fun l=>l.s != d)=true)
  (hK:∀ a' w',St B w0 N (src.filterMap fun k=>Γ[k]?) (Λ++[⟨d,T,ptrH,A⟩]) a' w'→wpOps P ops Q rest a' w'):wpOps P ops Q (i::(i+1)::rest) a w:=by
 obtain ⟨it,z,z1,z2,z3⟩:=hz
 obtain ⟨cs,hp,hv⟩:=h.vals _ (List.mem_of_getElem? hx)
 have hv':a.eval (.tmp x)=shape A.ag cs:=hv
 have l1:=A.len _ _ _ hp
 have l0:=A0.len _ _ _ (z3 B w)
 have hds:d<a.tmps.size:=by rw [h.size]; exact hd
 have hdx':x≠d:=fun e=>by subst e; simp at hdx
 have hΛ':∀ l∈Λ,l.s≠d:=fun l hl=>by
  have:=List.all_eq_true.1 hΛ l hl
  simpa using this
 obtain ⟨W1,hW1⟩:∃ W1,w.alloc (.cells z.cells T)=W1:=⟨_,rfl⟩
 have hg1:Grow w W1:=by rw [← hW1]; exact Grow.alloc _ _
 have hnew:W1.heap[w.heap.size]?=some (.cells z.cells T (0,0)):=by rw [← hW1]; exact heap_alloc_new w _
 rw [wpOps_cons]
 refine (zbw (R:=⟨ops,N,Γ,[],[],fun _=>[]⟩) ho1 rfl (zbh (w':=W1) (v:=ptr w.heap.size) ?_ ?_))
 ·rw [← hW1]; simp [execOp,Instr.alloc,zeroValue,typeInfo,z1,z2,newVar,newRow,ptr]
 obtain ⟨a1,ha1⟩:∃ a1,a.put (some d) (ptr w.heap.size)=a1:=⟨_,rfl⟩
 have ed:a1.eval (.tmp d)=ptr w.heap.size:=by rw [← ha1]; exact zb2 _ _ _ hds
 have eo:∀ t,t≠d→a1.eval (.tmp t)=a.eval (.tmp t):=fun t ht=>by rw [← ha1]; exact zaa _ _ _ _ ht
 have ef:a1.defers=a.defers:=by rw [← ha1]; rfl
 have es:a1.tmps.size=N:=by rw [← ha1,zc3]; exact h.size
 rw [ha1]
 have l2:z.cells.size=A0.n:=by simpa using l0
 have hrun:=zcp ht W1 w.heap.size 0 T z.cells _ cs (A.cells_shape hp) l1 zo (A.one _ _ _ hp) hnew
 rw [List.drop_of_length_le (by simp; omega)] at hrun
 simp only [List.take_zero,List.nil_append,List.append_nil] at hrun
 have hW:=Wr.setRow W1 w.heap.size cs.toArray
 have hcell:(W1.setRow w.heap.size cs.toArray).heap[w.heap.size]?=some (.cells cs.toArray T (0,0)):=setRow_heap W1 _ _ _ _ _ hnew
 have hgr:Grow w (W1.setRow w.heap.size cs.toArray):=Kept.grow0 ((hg1.kept).wr hW (.inl (Nat.le_refl _)))
 rw [wpOps_cons]
 have O:wpOps P ops Q rest a1 (W1.setRow w.heap.size cs.toArray):=by
  refine hK _ _ ⟨h.lo,?_,es,h.base.grow hgr,fun y hy=>?_,fun m hm=>?_,fun m hm m' hm' hne=>?_⟩
  ·exact h.defers.grow hgr ef
  ·obtain ⟨k,hk1,hk2⟩:=List.mem_filterMap.1 hy
   have:=List.all_eq_true.1 hsrc k hk1
   rw [hk2] at this
   rw [eo _ (by simpa using this)]
   exact y.2.grow _ _ _ _ hgr (h.vals y (List.mem_of_getElem? hk2))
  ·rcases List.mem_append.1 hm with hm | hm
   ·obtain ⟨g,c,q1,q2,q3,q4⟩:=h.locs m hm
    exact ⟨g,c,by rw [eo _ (hΛ' m hm)]; exact q1,q2,hgr.heap q3,m.A.grow _ _ _ _ hgr q4⟩
   ·obtain rfl:=List.mem_singleton.1 hm
    exact ⟨w.heap.size,cs,ed,.inl h.base.size,hcell,A.grow _ _ _ _ hgr hp⟩
  ·have hnm:∀ m∈Λ,∃ g,blk (a1.eval (.tmp m.s))=some g∧g<w.heap.size:=fun m hm=>by
    obtain ⟨g,c,q1,q2,q3,q4⟩:=h.locs m hm
    exact ⟨g,by rw [eo _ (hΛ' m hm),q1]; exact m.H.ok g,(Array.getElem?_eq_some_iff.1 q3).1⟩
   have hd0:blk (a1.eval (.tmp d))=some w.heap.size:=by rw [ed]; rfl
   rcases List.mem_append.1 hm with hm | hm <;> rcases List.mem_append.1 hm' with hm' | hm'
   ·rw [eo _ (hΛ' m hm),eo _ (hΛ' m' hm')]
    exact h.dis m hm m' hm' hne
   ·obtain rfl:=List.mem_singleton.1 hm'
    obtain ⟨g,q1,q2⟩:=hnm m hm
    rw [q1,hd0]
    intro e
    injection e with e
    omega
   ·obtain rfl:=List.mem_singleton.1 hm
    obtain ⟨g,q1,q2⟩:=hnm m' hm'
    rw [q1,hd0]
    intro e
    injection e with e
    omega
   ·obtain rfl:=List.mem_singleton.1 hm
    obtain rfl:=List.mem_singleton.1 hm'
    exact absurd rfl hne
 unfold wpOp
 rw [ho2]
 have hwant:Region.wanted (⟨none,.store ty (.tmp d) (.tmp x),T2,ps2,af2,none⟩:Oper) (yielded ops a1.tmps)=true:=rfl
 simp only [hwant,if_true]
 refine .inl (wp_skip' (w':=W1.setRow w.heap.size cs.toArray) ?_ O)
 have e2:a1.eval (.tmp x)=shape A.ag cs:=by rw [eo _ hdx']; exact hv'
 have e1:a1.eval (.tmp d)=.pointer (some ⟨w.heap.size,0,none⟩):=ed
 simp [execOp,e1,e2,Instr.storeAt,Instr.sureAddr,hrun]
end
end Go.Proofs.YthdbhckhignfcaaGreatDoor
namespace Go.Proofs.YthdbhckhignfcaaGreatDoor
open Go Go.RowKit
def TyIn (w:World)(k:Nat)(Ts:List TypeId):Prop:=∃ c T fz,w.heap[k]?=some (.cells c T fz)∧T∈Ts
abbrev Wid (B:Nat)(w:World)(Ts:List TypeId):Bs:=⟨w,fun k=>B≤k∧TyIn w k Ts,false⟩
open Classical in
theorem zs4 {p:World→Prop}{B:Nat}{Ts:List TypeId}(hcg:∀ w w',Grow w w'→p w→p w')(hwr:∀ w w' g c T fz,w.heap[g]?=some (.cells c T fz)→T∈Ts→B≤g→Wr g w w'→p w→p w')
  {w w':World} (hk:Kept (Wid B w Ts) w') (hp:p w):p w':=by
 let W:Nat→World:=fun m=>{ w with heap:=w.heap.mapIdx fun k o=>if k<m∧(Wid B w Ts).F k then (w'.heap[k]?).getD o else o }
 have hW:∀ m k,(W m).heap[k]?=if k<m∧(Wid B w Ts).F k∧k<w.heap.size then w'.heap[k]? else w.heap[k]?:=fun m k=>by
  show (w.heap.mapIdx _)[k]?=_
  rw [Array.getElem?_mapIdx]
  by_cases hlt:k<w.heap.size
  ·rw [Array.getElem?_eq_getElem hlt]
   have hlt':k<w'.heap.size:=Nat.lt_of_lt_of_le hlt hk.size
   rw [Array.getElem?_eq_getElem hlt']
   by_cases hc:k<m∧(Wid B w Ts).F k
   ·rw [if_pos ⟨hc.1,hc.2,hlt⟩,Option.map_some,if_pos hc]
    rfl
   ·rw [if_neg (fun h=>hc ⟨h.1,h.2.1⟩),Option.map_some,if_neg hc]
  ·have h0:w.heap[k]?=none:=Array.getElem?_eq_none zo
   rw [if_neg (fun h=>hlt h.2.2),h0]
   rfl
 have hs:∀ m,(W m).heap.size=w.heap.size:=fun m=>by simp [W]
 have key:∀ m,p (W m):=fun m=>by
  induction m with
  | zero=>exact hcg w (W 0) ⟨rfl,rfl,rfl,by rw [hs]; exact Nat.le_refl _,fun k hk=>by rw [hW,if_neg (fun h=>by omega)]⟩ hp
  | succ m ih =>
   by_cases hF:(Wid B w Ts).F m
   ·obtain ⟨hB,c,T,fz,hc,hT⟩:=hF
    refine hwr (W m) (W (m+1)) m c T fz ?_ hT hB ⟨rfl,rfl,rfl,by rw [hs,hs],fun k hk=>?_⟩ ih
    ·rw [hW,if_neg (fun h=>by omega)]; exact hc
    ·rw [hW,hW]
     by_cases h1:k<m
     ·simp [h1,Nat.lt_succ_of_lt h1]
     ·have:¬ k<m+1:=by omega
      simp [h1,this]
   ·refine hcg (W m) (W (m+1)) ⟨rfl,rfl,rfl,by rw [hs,hs]; exact Nat.le_refl _,fun k hk=>?_⟩ ih
    rw [hW,hW]
    by_cases h1:k<m
    ·simp [h1,Nat.lt_succ_of_lt h1]
    ·by_cases h2:k=m
     ·subst h2
      rw [if_neg (fun h=>hF h.2.1),if_neg (fun h=>by omega)]
     ·have:¬ k<m+1:=by omega
      simp [h1,this]
 refine hcg (W w.heap.size) w' ⟨hk.os,hk.tape,hk.output,by rw [hs]; exact hk.size,fun k hlt=>?_⟩ (key _)
 rw [hs] at hlt
 rw [hW]
 by_cases hF:(Wid B w Ts).F k
 ·rw [if_pos ⟨hlt,hF,hlt⟩]
 ·rw [if_neg (fun h=>hF h.2.1)]
  exact hk.block k hlt hF
theorem VA.kept {A:VA}{B:Nat}{v:Value}{w w':World}{Ts:List TypeId}(hp:A.p B v w)(hk:Kept (Wid B w Ts) w')(hd:∀ T∈Ts,T ∉ A.deps):A.p B v w' :=
 zs4 (p:=fun w=>A.p B v w) (fun w w' hg h=>A.grow _ _ _ _ hg h) (fun w w' g c T fz hc hT hB hW h=>A.wr _ _ _ _ _ _ _ _ hc (hd T hT) hB hW h) hk hp
theorem As.kept {A:As}{B:Nat}{cs:List Value}{w w':World}{Ts:List TypeId}(hp:A.p B cs w)(hk:Kept (Wid B w Ts) w')(hd:∀ T∈Ts,T ∉ A.deps):A.p B cs w' :=
 zs4 (p:=fun w=>A.p B cs w) (fun w w' hg h=>A.grow _ _ _ _ hg h) (fun w w' g c T fz hc hT hB hW h=>A.wr _ _ _ _ _ _ _ _ hc (hd T hT) hB hW h) hk hp
def CK (P:Program)(f:FuncId)(T:TypeId)(Ts:List TypeId)(A0 A1:As)(pre:List VA)(post:VA):Prop :=
 (∃ fn, P.funcs[f]? = some fn ∧ (fn.name == "runtime.NumGoroutine") = false ∧ fn.body.isNone = false) ∧
 ∀ (B:Nat) (w:World) (g:Nat) (cs:List Value) (args:List Value),B≤g→w.heap[g]?=some (.cells cs.toArray T (0,0))→A0.p B cs w→All2 (fun (A:VA) v=>A.p B v w) pre args →
  Calls P f (ptr g::args).toArray w fun e w'=>∃ v cs',e=.returned v∧post.p B v w'∧Kept (Wid B w Ts) w'∧w'.heap[g]?=some (.cells (List.toArray cs') T (0,0))∧A1.p B cs' w'
theorem may_wid {B:Nat}{w:World}{Ts:List TypeId}{E:TypeId}(hE:E∈Ts):RowMay (Wid B w Ts) B E:=fun w1 g c fz hk hB hc=>by
 by_cases hF:(Wid B w Ts).F g
 ·exact .inr hF
 ·by_cases hlt:g<w.heap.size
  ·exact .inr ⟨hB,c,E,fz,(hk.block g hlt hF).symm.trans hc,hE⟩
  ·exact .inl (Nat.le_of_not_lt hlt)
theorem CK.intro {P : Program} {f : FuncId} {fn : Func} {c : Code} {T : TypeId} {Ts : List TypeId} {A0 A1 : As} {pre : List VA} {post : VA} (hf : P.funcs[f]? = some fn) (hb : fn.body = some c) (hn : (fn.name == "runtime.NumGoroutine") = false) (hsz : pre.length + 1 ≤ fn.ntmps) (hT : Ts.contains T = true)
  (h:∀ (B g:Nat) (w0:Bs) (a:Act),(∀ E,Ts.contains E=true→RowMay w0 B E)→St B w0 fn.ntmps (argΓ (EqV (ptrH.f g)::pre)) [⟨0,T,ptrH,A0⟩] a w0.w→c.wp P (bPost P fn (RQm B w0 g T A1 post)) a w0.w):CK P f T Ts A0 A1 pre post:=by
 refine ⟨⟨fn,hf,hn,by rw [hb]; rfl⟩,fun B w g cs args hB hg hp ha=>(zco hf hb (h B g (Wid B w Ts) _ (fun E hE=>may_wid (by simpa using hE)) ?_)).mono fun _ _ ⟨v,cs',he,hv,hk,h1,h2⟩=>⟨v,cs',he,hv,hk,h1,h2⟩⟩
 have hl:=ha.length
 have hgw:=(Array.getElem?_eq_some_iff.1 hg).1
 have ha':All2 (fun (A:VA) v=>A.p B v w) (EqV (ptrH.f g)::pre) (ptr g::args):=.cons rfl ha
 have h0:(⟨(ptr g::args).toArray++Array.replicate (fn.ntmps-(ptr g::args).toArray.size) undef,[]⟩:Act).eval (.tmp 0)=ptrH.f g:=by
  have:=All2.args (N:=fn.ntmps-(ptr g::args).toArray.size) ha' (0,EqV (ptrH.f g)) (by simp [argΓ])
  exact this
 refine ⟨fun k hk=>?_,DefOk.nil rfl,?_,Kept.refl _,All2.args ha',fun l hl=>?_,fun l hl m hm hne=>?_⟩
 ·rcases hk with hk | hk
  ·exact Nat.le_trans hB (Nat.le_trans (Nat.le_of_lt hgw) hk)
  ·exact hk.1
 ·simp only [Array.size_append,List.size_toArray,Array.size_replicate,List.length_cons]
  omega
 ·simp at hl
  subst hl
  exact ⟨g,cs,h0,.inr ⟨hB,_,_,_,hg,by simpa using hT⟩,hg,hp⟩
 ·simp at hl hm
  subst hl hm
  exact absurd rfl hne
theorem CK.ex {P : Program} {f : FuncId} {T : TypeId} {Ts : List TypeId} {A0 A1 : As} {A : Value → As} {c : Value → Prop} {pre : List VA} {post : VA} (hex : ∃ fn, P.funcs[f]? = some fn ∧ (fn.name == "runtime.NumGoroutine") = false ∧ fn.body.isNone = false) (h : ∀ x, c x → CK P f T Ts (A x) A1 pre post) (hp : ∀ B cs w, A0.p B cs w → ∃ x, c x ∧ (A x).p B cs w) : CK P f T Ts A0 A1 pre post :=
 ⟨hex,fun B w g cs args hB hg hp0 ha=>by
  obtain ⟨x,hc,hx⟩:=hp B cs w hp0
  exact (h x hc).2 B w g cs args hB hg hx ha⟩
theorem CK.wk {P:Program}{f:FuncId}{T:TypeId}{Ts:List TypeId}{A0 A1 A1':As}{pre:List VA}{post:VA}(h:CK P f T Ts A0 A1 pre post)(hp:∀ B cs w,A1.p B cs w→A1'.p B cs w):CK P f T Ts A0 A1' pre post :=
 ⟨h.1,fun B w g cs args hB hg hp0 ha=>(h.2 B w g cs args hB hg hp0 ha).mono fun _ _ ⟨v,cs',he,hv,hk,h1,h2⟩=>⟨v,cs',he,hv,hk,h1,hp _ _ _ h2⟩⟩
theorem CK.wkT {P:Program}{f:FuncId}{T:TypeId}{Ts Ts':List TypeId}{A0 A1:As}{pre:List VA}{post:VA}(h:CK P f T Ts A0 A1 pre post)(hT:∀ E∈Ts,E∈Ts'):CK P f T Ts' A0 A1 pre post :=
 ⟨h.1,fun B w g cs args hB hg hp0 ha=>(h.2 B w g cs args hB hg hp0 ha).mono fun _ _ ⟨v,cs',he,hv,hk,h1,h2⟩=>⟨v,cs',he,hv,⟨hk.os,hk.tape,hk.output,hk.size,fun k h1 h2=>hk.block k h1 fun ⟨q1,c,T,fz,q2,q3⟩=>h2 ⟨q1,c,T,fz,q2,hT T q3⟩⟩,h1,h2⟩⟩
section
open Rg
variable {P:Program} {Q:Exit→Act→World→Prop} {B N:Nat} {w0:Bs} {Γ:List (Nat × VA)} {Λ:List Lc} {a:Act} {w:World} {ops:Array Oper} {i:Nat} {K:Act→World→Prop}
theorem args_of {pre:List VA}{ks:List Nat}{xs:List Operand}(h:St B w0 N Γ Λ a w)(hx:All2 (fun (A:VA) (kx:Nat × Operand)=>∃ t,kx.2=.tmp t∧Γ[kx.1]?=some (t,A)) pre (ks.zip xs))(hl:ks.length=xs.length):All2 (fun (A:VA) v=>A.p B v w) pre (xs.map a.eval):=by
 induction pre generalizing ks xs with
 | nil =>
  cases hk:ks.zip xs with
  | nil =>
   have:xs=[]:=by
    cases xs with
    | nil=>rfl
    | cons x xs=>cases ks with
     | nil=>cases hl
     | cons k ks=>cases hk
   subst this
   exact .nil
  | cons y ys=>rw [hk] at hx; cases hx
 | cons A pre ih =>
  cases ks with
  | nil=>cases hx
  | cons k ks=>cases xs with
   | nil=>cases hx
   | cons x xs =>
    cases hx with
    | cons h1 h2 =>
     obtain ⟨t,e,h3⟩:=h1
     have e:x=.tmp t:=e
     subst e
     exact .cons (h.vals _ (List.mem_of_getElem? h3)) (ih h2 (by simpa using hl))
theorem zd8 {d p f sx:Nat}{T T1:TypeId}{Ts:List TypeId}{A0 A1:As}{pre:List VA}{post:VA}{xs:List Operand}{at_:Array TypeId}{ps:String}{af:Array Edge}(src ks:List Nat)(e:Nat)(ho:ops[i]?=some ⟨some d,.call ⟨.value (.func f),(.tmp p::xs).toArray,at_⟩,T1,ps,af,none⟩)(h:St B w0 N Γ Λ a w)
  (hc:CK P f T Ts A0 A1 pre post) (hl:Λ[e]?=some ⟨sx,T,ptrH,A0⟩) (hp:a.eval (.tmp p)=a.eval (.tmp sx)) (hx:All2 (fun (A:VA) (kx:Nat × Operand)=>∃ t,kx.2=.tmp t∧Γ[kx.1]?=some (t,A)) pre (ks.zip xs)) (hkl:ks.length=xs.length)
  (hrm:∀ E,Ts.contains E=true→RowMay w0 B E) (hd:d<N) (hΓ:Γ.all (fun x=>x.1 != d)=true) (hΛd:Λ.all (fun l=>l.s != d)=true)
  (hsrc:src.all (fun k=>match Γ[k]? with | some y=>Ts.all (fun E => !y.2.deps.contains E) | none=>false)=true) (hΛ:Λ.zipIdx.all (fun x=>x.2==e || (!Ts.contains x.1.T&&Ts.all (fun E => !x.1.A.deps.contains E)))=true)
  (hK:∀ a' w',St B w0 N ((d,post)::src.filterMap fun k=>Γ[k]?) (Λ.set e ⟨sx,T,ptrH,A1⟩) a' w'→K a' w'):wpOp P ops Q i K a w:=by
 obtain ⟨g,cs,q1,q2,q3,q4⟩:=h.locs _ (List.mem_of_getElem? hl)
 have e1:a.eval (.tmp p)=ptr g:=hp.trans q1
 have hargs:=args_of h hx hkl
 obtain ⟨⟨fn,hf,hn,hb⟩,hcall⟩:=hc
 have hrun:(execOp a.eval ⟨some d,.call ⟨.value (.func f),(.tmp p::xs).toArray,at_⟩,T1,ps,af,none⟩).run P w=.ok (.enter f (ptr g::xs.map a.eval).toArray) w:=by
  simp only [execOp,resolve,Act.eval,Deferred.ofValue,Sem.run_bind,Sem.run_pure,Result.andThen_ok,invoke,zbz hf hn hb]
  have e1':a.eval (.tmp p)=ptr g:=e1
  simp [Act.eval] at e1' ⊢
  exact e1'
 have hdsz:d<a.tmps.size:=by rw [h.size]; exact hd
 have hBw:B≤w.heap.size:=Nat.le_trans (h.lo _ (.inl (Nat.le_refl _))) h.base.size
 unfold wpOp
 simp only [ho,Region.wanted,if_true]
 refine .inl ?_
 unfold Oper.wp
 rw [hrun]
 refine (hcall B w g cs _ (h.lo g q2) q3 q4 hargs).mono ?_
 rintro e0 w' ⟨v,cs',rfl,hv,hk,h1,h2⟩
 refine hK _ _ ?_
 have hls:∀ l∈Λ,l.s≠d:=fun l hl=>by simpa using List.all_eq_true.1 hΛd l hl
 have hrow:∀ {g:Nat} {c:Array Value} {T':TypeId} {fz:Nat × Nat},w.heap[g]?=some (.cells c T' fz)→T' ∉ Ts→w'.heap[g]?=some (.cells c T' fz):=fun {g c T' fz} hg1 hne =>
  (hk.block g (Array.getElem?_eq_some_iff.1 hg1).1 (fun ⟨_,c',T2,fz',e5,e6⟩=>by
   rw [hg1] at e5
   injection e5 with e5
   injection e5 with _ e5 _
   subst e5
   exact hne e6)).trans hg1
 have hset:∀ m∈Λ.set e ⟨sx,T,ptrH,A1⟩,∃ m0∈Λ,m0.s=m.s:=fun m hm=>by
  rcases List.mem_or_eq_of_mem_set hm with hm | rfl
  ·exact ⟨m,hm,rfl⟩
  ·exact ⟨_,List.mem_of_getElem? hl,rfl⟩
 refine ⟨h.lo,h.defers.keep rfl fun D hD=>(hk.block D (Array.getElem?_eq_some_iff.1 hD).1 (fun ⟨_,c,T2,fz,e5,_⟩=>by rw [hD] at e5; cases e5)).trans hD,by rw [zc3]; exact h.size,⟨hk.os.trans h.base.os,hk.tape.trans h.base.tape,hk.output.trans h.base.output,Nat.le_trans h.base.size hk.size,fun k h3 h4=>?_⟩,fun y hy=>?_,fun m hm=>?_,fun m1 hm1 m2 hm2 hne=>?_⟩
 ·refine (hk.block k (Nat.lt_of_lt_of_le h3 h.base.size) (fun ⟨q5,c,T2,fz,q6,q7⟩=>?_)).trans (h.base.block k h3 h4)
  rcases hrm T2 (by simpa using q7) w k c fz h.base q5 q6 with q8 | q8
  ·omega
  ·exact h4 q8
 ·rcases List.mem_cons.1 hy with rfl | hy
  ·show post.p B ((a.put (some d) v).eval (.tmp d)) w'
   rw [zb2 _ _ _ hdsz]
   exact hv
  ·obtain ⟨k,hk1,hk2⟩:=List.mem_filterMap.1 hy
   have hs:=List.all_eq_true.1 hsrc k hk1
   simp only [hk2,List.all_eq_true,Bool.not_eq_true',List.contains_eq_mem,decide_eq_false_iff_not] at hs
   have hyd:y.1≠d:=by simpa using List.all_eq_true.1 hΓ y (List.mem_of_getElem? hk2)
   rw [zaa _ _ _ _ hyd]
   exact VA.kept (h.vals y (List.mem_of_getElem? hk2)) hk hs
 ·obtain ⟨j,hj⟩:=List.getElem?_of_mem hm
  by_cases e1:j=e
  ·subst e1
   have:m=⟨sx,T,ptrH,A1⟩:=by
    rw [List.getElem?_set_self (List.getElem?_eq_some_iff.1 hl).1] at hj
    injection hj with hj
    exact hj.symm
   subst this
   exact ⟨g,cs',by rw [zaa _ _ _ _ (hls _ (List.mem_of_getElem? hl))]; exact q1,q2,h1,h2⟩
  ·rw [List.getElem?_set_ne (fun e2=>e1 e2.symm)] at hj
   have hc:=List.all_eq_true.1 hΛ (m,j) (List.mem_zipIdx_iff_getElem?.2 hj)
   simp only [Bool.or_eq_true,beq_iff_eq,Bool.and_eq_true,Bool.not_eq_true',List.contains_eq_mem,decide_eq_false_iff_not,List.all_eq_true] at hc
   have hc':=hc.resolve_left e1
   obtain ⟨g',cs2,p1,p2,p3,p4⟩:=h.locs m (List.mem_of_getElem? hj)
   exact ⟨g',cs2,by rw [zaa _ _ _ _ (hls _ (List.mem_of_getElem? hj))]; exact p1,p2,hrow p3 hc'.1,As.kept p4 hk hc'.2⟩
 ·obtain ⟨m3,r1,r2⟩:=hset m1 hm1
  obtain ⟨m4,r3,r4⟩:=hset m2 hm2
  rw [← r2,← r4] at hne ⊢
  rw [zaa _ _ _ _ (hls _ r1),zaa _ _ _ _ (hls _ r3)]
  exact h.dis m3 r1 m4 r3 hne
end
end Go.Proofs.YthdbhckhignfcaaGreatDoor
