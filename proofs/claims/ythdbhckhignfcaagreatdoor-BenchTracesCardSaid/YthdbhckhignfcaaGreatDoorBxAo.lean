import Derived.Test.YthdbhckhignfcaaGreatDoorBxAa
import Derived.Test.YthdbhckhignfcaaGreatDoorBxAc
import Derived.Test.YthdbhckhignfcaaGreatDoorBxAn
import Derived.Laws.AppendOwn
import Derived.Laws.OwnMore
import Derived.Orders
set_option linter.unusedVariables false
set_option linter.unusedSimpArgs false
set_option linter.unusedSectionVars false
set_option maxRecDepth 100000
namespace Go.Proofs.YthdbhckhignfcaaGreatDoor
open Go Go.RowKit
def fw (o:Option Nat):Fence:={ fn:=fun _=>True,depth:=none,alive:=false,round:=o }
section
variable {P:Program} {R:Rg} {Q:Exit→Act→World→Prop} {B:Nat} {w0:Bs} {a:Act} {w:World} {o:Option Nat}
end
section
variable {P:Program} {R:Rg} {Q:Exit→Act→World→Prop} {B:Nat} {w0:Bs} {a:Act} {w:World} {o:Option Nat}
open Rg in
theorem Rg.drawK {id:Nat}{Λ:List Lc}{n m:Nat}(hsz2:R.ops.size=n+m)(hm0:0<m)(hm:P.follows .mixedOrders=true)(hanc:ancOk R=true)(hk:R.chk=true)(h:St B w0 R.N R.Γ Λ a w)(hles:∀ e∈R.les,e.cr=none→(⟨e.s,e.T,e.H,e.A0⟩:Lc)∈Λ)
  (hob:∀ i,i<n→R.Ob P Q B w0 i) (ha1:∀ i,n≤i→i<n+m→∀ j,j<i→(R.anc i).contains j=true)
  (hQ:∀ a w,R.Inv B w0 (fun k=>decide (k<n)) a w→wpOps P R.ops Q (List.range' n m) a w) :
  (Code.region id R.ops true).wp P Q a w:=by
 refine wp_region_any hm ?_
 have ho:∀ i,i<R.ops.size→∃ o:Oper,R.ops[i]?=some o∧(∀ j,(R.anc i).contains j=true→∃ e∈o.after,Region.binds .any e=true∧(e.on=j∨(R.anc e.on).contains j=true)) ∧
   ∀ e∈o.after,Region.binds .any e=true→e.on<i:=by
  intro i hi
  have:=List.all_eq_true.1 hanc i (by simpa using hi)
  cases hoi:R.ops[i]? with
  | none=>rw [hoi] at this; cases this
  | some o =>
   rw [hoi] at this
   simp only [Bool.and_eq_true] at this
   refine ⟨o,rfl,fun j hj=>?_,fun e he hb=>?_⟩
   ·have hh:=List.all_eq_true.1 this.1 j (by simpa using hj)
    obtain ⟨e,he,h1⟩:=Array.any_eq_true'.1 hh
    simp only [Bool.and_eq_true,Bool.or_eq_true,beq_iff_eq] at h1
    exact ⟨e,he,h1.1,h1.2⟩
   ·have hh:=Array.all_eq_true'.1 this.2 e he
    simpa [hb] using hh
 have hrd:∀ (listed:Array Bool) i,i∈Region.ready .any R.ops listed→i<R.ops.size∧listed.getD i true=false∧∀ o,R.ops[i]?=some o→∀ e∈o.after,Region.binds .any e=true→listed.getD e.on false=true:=by
  intro listed i hi
  unfold Region.ready at hi
  obtain ⟨h1,h2⟩:=List.mem_filter.1 hi
  simp only [Bool.and_eq_true,Bool.not_eq_true'] at h2
  refine ⟨by simpa using h1,h2.1,fun o hoi e he hb=>?_⟩
  have h3:=h2.2
  rw [hoi] at h3
  simp only [Option.map_some,Option.getD_some] at h3
  have:=Array.all_eq_true'.1 h3 e he
  simpa [hb] using this
 have hset:∀ (listed:Array Bool) (i k:Nat),listed.size=R.ops.size→i<R.ops.size→(listed.setIfInBounds i true).getD k false=upd (fun i=>listed.getD i false) i k:=by
  intro listed i k hsz hi
  unfold upd
  by_cases hki:k=i
  ·subst hki
   simp [hsz,hi]
  ·simp [hki,Array.getElem?_setIfInBounds_ne (fun e=>hki e.symm)]
 have hpos:∀ (listed:Array Bool) (i:Nat),i<R.ops.size→listed.getD i false=false→0<(List.range R.ops.size).countP (fun k => !listed.getD k false):=fun listed i hi hl =>
  List.countP_pos_iff.2 ⟨i,by simpa using hi,by simp only [hl]; rfl⟩
 have hlt:∀ (listed:Array Bool) (i:Nat),listed.size=R.ops.size→i<R.ops.size→listed.getD i false=false→(List.range R.ops.size).countP (fun k => !(listed.setIfInBounds i true).getD k false)<(List.range R.ops.size).countP (fun k => !listed.getD k false):=by
  intro listed i hsz hi hLi
  refine zg4 (x:=i) (fun x hx=>?_) (by simpa using hi) (by rw [hLi]; rfl) (by rw [hset listed i i hsz hi,zcu]; rfl)
  have hx':upd (fun i=>listed.getD i false) i x=false:=by
   rw [← hset listed i x hsz hi]
   simpa only [Bool.not_eq_true'] using hx
  rw [(ze7 hx').2]
  rfl
 have hfull:∀ (listed:Array Bool),listed.size=R.ops.size→Region.ready .any R.ops listed=[]→∀ k,k<R.ops.size→listed.getD k false=true:=by
  intro listed hsz hr k
  induction k using Nat.strongRecOn with
  | _ k ih =>
   intro hkn
   cases hl:listed.getD k false with
   | true=>rfl
   | false =>
    exfalso
    obtain ⟨x,ho1,_,ho3⟩:=ho k hkn
    have:k∈Region.ready .any R.ops listed:=by
     unfold Region.ready
     refine List.mem_filter.2 ⟨by simpa using hkn,?_⟩
     have h0:listed.getD k true=false:=by
      simp only [Array.getD,hsz,hkn,dite_true] at hl ⊢
      exact hl
     rw [h0,ho1]
     simp only [Bool.not_false,Bool.true_and,Option.map_some,Option.getD_some]
     refine Array.all_eq_true'.2 fun e he=>?_
     cases hb:Region.binds .any e with
     | false=>rfl
     | true=>simpa using ih e.on (ho3 e he hb) (Nat.lt_trans (ho3 e he hb) hkn)
    rw [hr] at this
    cases this
 have hancL:∀ (listed:Array Bool) i,Closed R (fun i=>listed.getD i false)→i∈Region.ready .any R.ops listed→∀ j,(R.anc i).contains j=true→listed.getD j false=true:=by
  intro listed i hcl hir j hj
  obtain ⟨h1,h2,h3⟩:=hrd listed i hir
  obtain ⟨x,ho1,ho2,_⟩:=ho i h1
  obtain ⟨e,he,hb,hj'⟩:=ho2 j hj
  have hl:=h3 x ho1 e he hb
  rcases hj' with rfl | hj'
  ·exact hl
  ·exact hcl e.on hl j hj'
 have hclN:∀ (listed:Array Bool) i,listed.size=R.ops.size→Closed R (fun i=>listed.getD i false)→i∈Region.ready .any R.ops listed→Closed R (fun k=>(listed.setIfInBounds i true).getD k false):=by
  intro listed i hsz hcl hir k hk' j hj
  obtain ⟨h1,_,_⟩:=hrd listed i hir
  have hk2:upd (fun i=>listed.getD i false) i k=true:=by rw [← hset listed i k hsz h1]; exact hk'
  show (listed.setIfInBounds i true).getD j false=true
  rw [hset listed i j hsz h1]
  rcases zrr hk2 with rfl | h4
  ·exact ze6 _ (hancL listed k hcl hir j hj)
  ·exact ze6 _ (hcl k h4 j hj)
 have tail:∀ q k,k+q=n+m→n≤k→∀ fuel (listed:Array Bool) a w,listed.size=R.ops.size→(List.range R.ops.size).countP (fun i => !listed.getD i false)≤fuel→Closed R (fun i=>listed.getD i false) →
   (∀ j,j<k→listed.getD j false=true)→(∀ j,k≤j→j<n+m→listed.getD j false=false)→wpOps P R.ops Q (List.range' k q) a w→wpAny P .any R.ops Q fuel listed a w:=by
  intro q
  induction q with
  | zero =>
   intro k hkq hnk fuel listed a w hsz hcnt hcl hall _ hwp
   have hr:Region.ready .any R.ops listed=[]:=by
    cases hrr:Region.ready .any R.ops listed with
    | nil=>rfl
    | cons i rest =>
     obtain ⟨h1,h2,_⟩:=hrd listed i (by rw [hrr]; simp)
     have:=hall i zo
     simp only [Array.getD,hsz,h1,dite_true] at h2 this
     rw [h2] at this
     cases this
   cases fuel with
   | zero=>exact ⟨hr,hwp⟩
   | succ fuel=>exact ⟨fun _=>hwp,fun i hir=>by rw [hr] at hir; cases hir⟩
  | succ q ih =>
   intro k hkq hnk fuel listed a w hsz hcnt hcl hall hnone hwp
   have hLk:listed.getD k false=false:=hnone k (Nat.le_refl _) zo
   have hp:=hpos listed k zo hLk
   cases fuel with
   | zero=>omega
   | succ fuel =>
    refine ⟨fun hr=>absurd (hfull listed hsz hr k zo) (by rw [hLk]; decide),fun i hir=>?_⟩
    obtain ⟨h1,h2,h3⟩:=hrd listed i hir
    have hik:i=k:=by
     by_cases e:i=k
     ·exact e
     ·exfalso
      by_cases hlt':i<k
      ·have:=hall i hlt'
       simp only [Array.getD,hsz,h1,dite_true] at h2 this
       rw [h2] at this
       cases this
      ·have:=hancL listed i hcl hir k (ha1 i zo zo k zo)
       rw [hLk] at this
       cases this
    subst hik
    rw [List.range'_succ,wpOps_cons] at hwp
    refine wpOp_mono (fun a' w' hr=>ih (i+1) zo zo fuel _ a' w' (by simpa using hsz) ?_ (hclN listed i hsz hcl hir) (fun j hj=>?_) (fun j hj hj2=>?_) hr) hwp
    ·have:=hlt listed i hsz h1 hLk
     omega
    ·rw [hset listed i j hsz h1]
     by_cases e:j=i
     ·rw [e]; exact zcu _ _
     ·exact ze6 _ (hall j zo)
    ·rw [hset listed i j hsz h1,zdz _ zo]
     exact hnone j zo hj2
 have key:∀ fuel (listed:Array Bool) a w,listed.size=R.ops.size→(List.range R.ops.size).countP (fun i => !listed.getD i false)≤fuel→Closed R (fun i=>listed.getD i false) →
   (∀ j,n≤j→j<n+m→listed.getD j false=false)→R.Inv B w0 (fun i=>listed.getD i false) a w→wpAny P .any R.ops Q fuel listed a w:=by
  intro fuel
  induction fuel with
  | zero =>
   intro listed a w hsz hcnt hcl hn0 hi
   have:=hpos listed n zo (hn0 n (Nat.le_refl _) zo)
   omega
  | succ fuel ih =>
   intro listed a w hsz hcnt hcl hn0 hi
   have hn00:=hn0 n (Nat.le_refl _) zo
   by_cases hdone:∀ j,j<n→listed.getD j false=true
   ·refine tail m n rfl (Nat.le_refl _) (fuel+1) listed a w hsz hcnt hcl hdone hn0 (hQ a w (hi.congr fun k=>?_))
    by_cases hkn:k<n
    ·rw [hdone k hkn]; simp [hkn]
    ·by_cases hkm:k<n+m
     ·rw [hn0 k zo hkm]; simp [hkn]
     ·have:listed.getD k false=false:=by simp [Array.getD,hsz,hsz2,hkm]
      rw [this]; simp [hkn]
   ·refine ⟨fun hr=>absurd (hfull listed hsz hr n zo) (by rw [hn00]; decide),fun i hir=>?_⟩
    obtain ⟨h1,h2,h3⟩:=hrd listed i hir
    have hin:i<n:=by
     by_cases e:i<n
     ·exact e
     ·exact absurd (fun j hj=>hancL listed i hcl hir j (ha1 i zo zo j zo)) hdone
    have hLi:listed.getD i false=false:=by
     simp only [Array.getD,hsz,h1,dite_true] at h2 ⊢
     exact h2
    refine step hk (hob i hin) hi hcl hLi (hancL listed i hcl hir) _ fun a' w' hi'=>ih _ _ _ (by simpa using hsz) ?_ (hclN listed i hsz hcl hir) ?_ (hi'.congr fun k=>hset listed i k hsz h1)
    ·have:=hlt listed i hsz h1 hLi
     omega
    ·intro j hj hj2
     rw [hset listed i j hsz h1,zdz _ zo]
     exact hn0 j hj hj2
 refine key _ _ a _ (by simp) ?_ ?_ ?_ ?_
 ·refine Nat.le_trans (List.countP_le_length) (by simp)
 ·intro i hi
  exfalso
  simp only [Array.getD,Array.size_replicate] at hi
  split at hi <;> simp at hi
 ·intro j hj hj2
  simp only [Array.getD,Array.size_replicate]
  split <;> simp
 ·have hs:=start h hles
  have hd:R.Inv B w0 (fun _=>false) a w.drew:=⟨hs.lo,hs.defers.grow (Grow.drew w) rfl,hs.size,hs.base.drew,fun x hx h1 h2=>x.2.grow _ _ _ _ (Grow.drew w) (hs.g x hx h1 h2),(fun i y d A _ _ hf=>by cases hf),(fun i d b k c _ hf=>by cases hf),
   fun e he A hA=>(hs.c e he A hA).grow (Grow.drew w),hs.x⟩
  refine Inv.congr hd fun k=>?_
  simp only [Array.getD,Array.size_replicate]
  split <;> simp
end
section
variable {P:Program} {Q:Exit→Act→World→Prop} {B N:Nat} {w0:Bs} {Γ:List (Nat × VA)} {Λ:List Lc} {a:Act} {w:World}
end
end Go.Proofs.YthdbhckhignfcaaGreatDoor
namespace Go.Proofs.YthdbhckhignfcaaGreatDoor
open Go Go.RowKit
theorem VA.many {A:VA}{B:Nat}{v:Value}{w':World}:∀ (gs:List Nat) {w:World},A.p B v w→w'.os=w.os→w'.tape=w.tape→w'.output=w.output→w.heap.size≤w'.heap.size→(∀ k c T fz,w.heap[k]?=some (.cells c T fz)→k ∉ gs→w'.heap[k]?=w.heap[k]?)→(∀ g∈gs,B≤g∧∃ c T fz,w.heap[g]?=some (.cells c T fz)∧T ∉ A.deps)→A.p B v w'
 | [],w,hp,h1,h2,h3,h4,h5,_=>A.cg _ _ _ _ ⟨h4,fun g c T fz hg=>(h5 g c T fz hg (by simp)).trans hg⟩ hp
 | g::gs,w,hp,h1,h2,h3,h4,h5,h6=>by
  by_cases hg:g∈gs
  ·exact VA.many gs hp h1 h2 h3 h4 (fun k c T fz hk hn=>h5 k c T fz hk (by simp only [List.mem_cons,not_or]; exact ⟨fun e=>hn (by rw [e]; exact hg),hn⟩)) (fun g' hg'=>h6 g' (List.mem_cons_of_mem _ hg'))
  ·obtain ⟨hB,c,T,fz,hc,hT⟩:=h6 g List.mem_cons_self
   have hlt:g<w.heap.size:=(Array.getElem?_eq_some_iff.1 hc).1
   have hx:w'.heap[g]?=some (w'.heap[g]'zo):=Array.getElem?_eq_getElem _
   generalize w'.heap[g]'zo=x at hx
   have hwr:Wr g w { w with heap:=w.heap.setIfInBounds g x }:=⟨rfl,rfl,rfl,by simp,fun k hk=>by
    show (w.heap.setIfInBounds g x)[k]?=_
    rw [Array.getElem?_setIfInBounds_ne (fun e=>hk e.symm)]⟩
   have hsz:(w.heap.setIfInBounds g x).size=w.heap.size:=by simp
   refine VA.many gs (w:={ w with heap:=w.heap.setIfInBounds g x }) (A.wr _ _ _ _ _ _ _ _ hc hT hB hwr hp) h1 h2 h3 (by rw [hsz]; exact h4) (fun k c' T' fz' hk hn=>?_) (fun g' hg'=>?_)
   ·show _=(w.heap.setIfInBounds g x)[k]?
    replace hk:(w.heap.setIfInBounds g x)[k]?=some (.cells c' T' fz'):=hk
    by_cases e:k=g
    ·subst e
     rw [Array.getElem?_setIfInBounds_self_of_lt hlt]
     exact hx
    ·rw [Array.getElem?_setIfInBounds_ne (fun e'=>e e'.symm)] at hk ⊢
     exact h5 k c' T' fz' hk (by simp only [List.mem_cons,not_or]; exact ⟨e,hn⟩)
   ·obtain ⟨hB',c',T',fz',hc',hT'⟩:=h6 g' (List.mem_cons_of_mem _ hg')
    refine ⟨hB',c',T',fz',?_,hT'⟩
    show (w.heap.setIfInBounds g x)[g']?=_
    rw [Array.getElem?_setIfInBounds_ne (show g≠g' from fun e=>hg (by rw [e]; exact hg'))]
    exact hc'
def rndB (b:Nat)(D:List TypeId)(gs:List Nat)(Ws W:World):Bs:=⟨W,fun k=>b≤k∧(Ws.heap.size≤k∨(k ∉ gs∧∃ c T fz,Ws.heap[k]?=some (.cells c T fz)∧T∈D)),false⟩
abbrev Stp (b:Nat)(D:List TypeId)(gs:List Nat)(W W':World):Prop:=Kept (rndB b D gs W W) W'
theorem Stp.held {b:Nat}{D:List TypeId}{gs:List Nat}{W W':World}(h:Stp b D gs W W'){k:Nat}{o:Obj}(hk:W.heap[k]?=some o)(hg:k∈gs):W'.heap[k]?=some o :=
 (h.block k (Array.getElem?_eq_some_iff.1 hk).1 (fun hF=>by
  rcases hF.2 with h1 | ⟨h1,_⟩
  ·have:=(Array.getElem?_eq_some_iff.1 hk).1; omega
  ·exact h1 hg)).trans hk
def offD (D:List TypeId)(deps:List TypeId):Bool:=deps.all fun T => !D.contains T
def CellsT (Tc:List TypeId)(gs:List Nat)(W:World):Prop:=∀ g∈gs,∃ c T fz,W.heap[g]?=some (.cells c T fz)∧T∈Tc
abbrev StpI (gs:List Nat)(W W':World):Prop:=Kept ⟨W,fun k=>k∈gs,true⟩ W'
theorem St.put {B N:Nat}{w0:Bs}{Γ:List (Nat × VA)}{Λ:List Lc}{a:Act}{W:World}{r:Nat}{o o':Obj}(h:St B w0 N Γ Λ a W)(hr:W.heap[r]?=some o)(ho:o.isCells=false)(hd:o≠.deferred (some []))(hge:w0.w.heap.size≤r):St B w0 N Γ Λ a (W.putObj r o'):=by
 have hc:Cg W (W.putObj r o'):=⟨by simp,fun g c T fz hg=>(World.putObj_heap_other (fun e=>by subst e; rw [hg] at hr; injection hr with hr; subst hr; cases ho)).trans hg⟩
 refine ⟨h.lo,h.defers.keep rfl fun Dm hD=>(World.putObj_heap_other (fun e=>by subst e; rw [hD] at hr; injection hr with hr; exact hd hr.symm)).trans hD,h.size,⟨h.base.os,h.base.tape,h.base.output,by simpa using h.base.size,fun k hk hf=>(World.putObj_heap_other zo).trans (h.base.block k hk hf)⟩,
  fun x hx=>x.2.cg _ _ _ _ hc (h.vals x hx),fun l hl=>?_,h.dis⟩
 obtain ⟨g,cs,e1,e2,e3,e4⟩:=h.locs l hl
 exact ⟨g,cs,e1,e2,hc.heap e3,l.A.cg _ _ _ _ hc e4⟩
def CapsOk (B:Nat)(w:World)(caps:List (TypeId × As))(gs:List Nat):Prop:=All2 (fun (c:TypeId × As) (g:Nat)=>B≤g∧∃ cs,w.heap[g]?=some (.cells (List.toArray cs) c.1 (0,0))∧c.2.p B cs w) caps gs
structure ItH (P:Program) (l B:Nat) (Db Tc:List TypeId) (gs:List Nat) (Y:Nat→List VA) (inf:Bool) (M:Nat) (J:Nat→World→Prop) (Jx:World→Prop):Prop where
 inf':inf=true→∀ W,¬ J M W
 st:∀ k W W',J k W→StpI gs W W'→CellsT Tc gs W'→J k W'
 stx:∀ W W',Jx W→StpI gs W W'→CellsT Tc gs W'→Jx W'
 ct:∀ k W,J k W→CellsT Tc gs W
 ctx:∀ W,Jx W→CellsT Tc gs W
 yd:∀ k W args,k<M→J k W→All2 (fun (A:VA) v=>A.p B v W) (Y k) args→YieldAt Fence.wide 0 P l args.toArray W fun e W'=>(e=.returned (.bool true)∧J (k+1) W'∧Stp B Db gs W W') ∨
  (e=.returned (.bool false)∧Jx W'∧W.heap.size≤W'.heap.size∧∀ D:Nat,W.heap[D]?=some (.deferred (some []))→W'.heap[D]?=some (.deferred (some [])))
def ItCg (P:Program)(f:FuncId)(caps:List (TypeId × As))(gs:List Nat)(Y:Nat→List VA)(inf:Bool)(M:Nat)(Dd:List TypeId):Prop :=
 (∃ fn, P.funcs[f]? = some fn ∧ (fn.name == "runtime.NumGoroutine") = false ∧ fn.body.isNone = false) ∧
 ∀ (l B:Nat) (w:World) (Db:List TypeId) (J:Nat→World→Prop) (Jx:World→Prop),B≤w.heap.size→gs.Nodup→CapsOk B w caps gs→offD Db Dd=true→ItH P l B Db (caps.map Prod.fst) gs Y inf M J Jx→J 0 w →
  Calls P f (.func (.yield l) #[] #[]::gs.map ptr).toArray w fun e W'=>∃ v,e=.returned v∧(J M W'∨Jx W')
theorem zm1 {B:Nat}{w:World}{caps:List (TypeId × As)}{gs:List Nat}(h:CapsOk B w caps gs):CellsT (caps.map Prod.fst) gs w∧∀ g∈gs,B≤g:=by
 induction h with
 | nil=>exact ⟨(fun _ h=>by cases h),(fun _ h=>by cases h)⟩
 | @cons c g cs gs hh _ ih =>
  obtain ⟨hB,ds,h1,_⟩:=hh
  refine ⟨fun g' hg=>?_,fun g' hg=>?_⟩
  ·rcases List.mem_cons.1 hg with rfl | hg
   ·exact ⟨_,_,_,h1,by simp⟩
   ·obtain ⟨c',T,fz,h2,h3⟩:=ih.1 g' hg
    exact ⟨c',T,fz,h2,by simp only [List.map_cons,List.mem_cons]; exact .inr h3⟩
  ·rcases List.mem_cons.1 hg with rfl | hg
   ·exact hB
   ·exact ih.2 g' hg
theorem zst (a:Act)(s:Nat):a.eval (.tmp s)=(a.tmps[s]?).getD undef:=by simp [Act.eval]
section
variable {P:Program} {Q:Exit→Act→World→Prop} {B N:Nat} {w0:Bs} {Γ:List (Nat × VA)} {a:Act} {w:World}
end
end Go.Proofs.YthdbhckhignfcaaGreatDoor
namespace Go.Proofs.YthdbhckhignfcaaGreatDoor
open Go Go.RowKit
theorem zix {anc:List (List Nat)}{n m:Nat}(h:(List.range m).all (fun q=>(List.range (n+q)).all fun j=>(anc.getD (n+q) []).contains j)=true):∀ i,n≤i→i<n+m→∀ j,j<i→(anc.getD i []).contains j=true:=fun i h1 h2 j hj=>by
 have:=List.all_eq_true.1 (List.all_eq_true.1 h (i-n) (by simp; omega)) j (by simp; omega)
 rwa [show n+(i-n)=i by omega] at this
theorem zqo {P:Program}{f:FuncId}{fn:Func}{c:Code}{args:Array Value}{w:World}{R:Ending→World→Prop}(hf:P.funcs[f]?=some fn)(hb:fn.body=some c)
  (h:c.wpIn (fw none) 0 P (bPost P fn R) { tmps:=args++Array.replicate (fn.ntmps-args.size) undef,defers:=[] } w):Calls P f args w R :=
 zco hf hb (wpIn_wide.1 h)
def itB (gs:List Nat)(w:World):Bs:=⟨w,fun k=>k∈gs,true⟩
def capsΛ (caps:List (TypeId × As)):List Lc:=caps.zipIdx.map fun x=>⟨x.2+1,x.1.1,ptrH,x.1.2⟩
def capsΓ (gs:List Nat)(n:Nat):List (Nat × VA):=(List.range n).map fun i=>(i+1,EqV (ptr (gs.getD i 0)))
structure ItG (B:Nat) (gs:List Nat) (Tc:List TypeId) (J:Nat→World→Prop) (k:Nat) (w0:Bs):Prop where
 eq:w0=itB gs w0.w
 j:J k w0.w
 ge:∀ g∈gs,B≤g
theorem zru {α:Type}:∀ {l:List α},l.Nodup→∀ {i j:Nat} {x:α},l[i]?=some x→l[j]?=some x→i=j
 | [],_,_,_,_,h,_=>by cases h
 | y::l,nd,i,j,x,hi,hj=>by
  obtain ⟨n1,n2⟩:=List.nodup_cons.1 nd
  cases i with
  | zero=>cases j with
   | zero=>rfl
   | succ j =>
    have e1:y=x:=by simpa using hi
    have e2:l[j]?=some x:=by simpa using hj
    exact absurd (List.mem_of_getElem? e2) (by rw [← e1]; exact n1)
  | succ i=>cases j with
   | zero =>
    have e1:y=x:=by simpa using hj
    have e2:l[i]?=some x:=by simpa using hi
    exact absurd (List.mem_of_getElem? e2) (by rw [← e1]; exact n1)
   | succ j=>rw [zru n2 (i:=i) (j:=j) (x:=x) (by simpa using hi) (by simpa using hj)]
theorem ItCg.intro {P : Program} {gs : List Nat} {f : FuncId} {fn : Func} {c : Code} {caps : List (TypeId × As)} {Y : Nat → List VA} {inf : Bool} {M : Nat} {Dd : List TypeId} (hf : P.funcs[f]? = some fn) (hb : fn.body = some c) (hn : (fn.name == "runtime.NumGoroutine") = false) (hsz : caps.length + 1 ≤ fn.ntmps)
  (h:∀ (l B:Nat) (Db:List TypeId) (J:Nat→World→Prop) (Jx:World→Prop) (w0:Bs) (a:Act),gs.length=caps.length→offD Db Dd=true→ItH P l B Db (caps.map Prod.fst) gs Y inf M J Jx→ItG B gs (caps.map Prod.fst) J 0 w0 →
   St B w0 fn.ntmps ((0,EqV (.func (.yield l) #[] #[]))::capsΓ gs caps.length) (capsΛ caps) a w0.w→c.wpIn (fw none) 0 P (bPost P fn (fun e W'=>∃ v,e=.returned v∧(J M W'∨Jx W'))) a w0.w):ItCg P f caps gs Y inf M Dd:=by
 refine ⟨⟨fn,hf,hn,by rw [hb]; rfl⟩,fun l B w Db J Jx hB hgn hcaps hoff hI hJ=>zqo hf hb (h l B Db J Jx (itB gs w) _ hcaps.length.symm hoff hI ⟨rfl,hJ,(zm1 hcaps).2⟩ ?_)⟩
 have hlen:=hcaps.length
 have hev:∀ i (hi:i<gs.length),({ tmps:=(Value.func (.yield l) #[] #[]::gs.map ptr).toArray++Array.replicate (fn.ntmps-(Value.func (.yield l) #[] #[]::gs.map ptr).toArray.size) undef,defers:=[] }:Act).eval (.tmp (i+1))=ptr (gs.getD i 0):=fun i hi=>by
  rw [zst]
  have h1:(((Value.func (.yield l) #[] #[]::gs.map ptr).toArray++Array.replicate (fn.ntmps-(Value.func (.yield l) #[] #[]::gs.map ptr).toArray.size) undef:Array Value)[i+1]?)=some (ptr (gs.getD i 0)):=by
   rw [Array.getElem?_append_left (by simp; omega)]
   simp [List.getD,hi]
  show ((_:Array Value)[i+1]?).getD undef=_
  rw [h1]
  rfl
 have hat:∀ {i:Nat} {c:TypeId × As},caps[i]?=some c→∃ g,gs[i]?=some g∧g∈gs∧B≤g∧∃ cs,w.heap[g]?=some (.cells (List.toArray cs) c.1 (0,0))∧c.2.p B cs w:=fun {i c} hc=>by
  obtain ⟨g,h1,h2⟩:=hcaps.get hc
  exact ⟨g,h1,List.mem_of_getElem? h1,h2⟩
 have hΛ:∀ m∈capsΛ caps,∃ i c g,caps[i]?=some c∧gs[i]?=some g∧m=⟨i+1,c.1,ptrH,c.2⟩:=fun m hm=>by
  obtain ⟨x,hx,rfl⟩:=List.mem_map.1 hm
  have hx':=List.mem_zipIdx_iff_getElem?.1 hx
  obtain ⟨g,h1,_⟩:=hat hx'
  exact ⟨x.2,x.1,g,hx',h1,rfl⟩
 have hev':∀ {i g:Nat},gs[i]?=some g→({ tmps:=(Value.func (.yield l) #[] #[]::gs.map ptr).toArray++Array.replicate (fn.ntmps-(Value.func (.yield l) #[] #[]::gs.map ptr).toArray.size) undef,defers:=[] }:Act).eval (.tmp (i+1))=ptr g:=fun {i g} hg=>by
  rw [hev i (List.getElem?_eq_some_iff.1 hg).1]
  simp [List.getD,hg]
 refine ⟨fun g hg=>?_,DefOk.nil rfl,?_,Kept.refl _,fun x hx=>?_,fun m hm=>?_,fun m hm m' hm' hne=>?_⟩
 ·rcases hg with hg | hg
  ·exact Nat.le_trans hB hg
  ·exact (zm1 hcaps).2 g hg
 ·simp only [Array.size_append,List.size_toArray,Array.size_replicate,List.length_cons,List.length_map]
  omega
 ·rcases List.mem_cons.1 hx with rfl | hx
  ·show _=_
   rw [zst]
   show ((_:Array Value)[0]?).getD undef=_
   rw [Array.getElem?_append_left (by simp)]
   simp
  ·obtain ⟨i,hi,rfl⟩:=List.mem_map.1 hx
   exact hev i (by rw [← hlen]; simpa using hi)
 ·obtain ⟨i,c,g,h1,h2,rfl⟩:=hΛ m hm
  obtain ⟨g',h3,h4,_,cs,h5,h6⟩:=hat h1
  rw [h2] at h3
  injection h3 with h3
  subst h3
  exact ⟨g,cs,hev' h2,.inr h4,h5,h6⟩
 ·obtain ⟨i,c,g,h1,h2,rfl⟩:=hΛ m hm
  obtain ⟨j,c',g',h3,h4,rfl⟩:=hΛ m' hm'
  show blk (Act.eval _ (.tmp (i+1)))≠blk (Act.eval _ (.tmp (j+1)))
  rw [hev' h2,hev' h4]
  intro e
  have e':g=g':=by injection e
  subst e'
  exact hne (by rw [zru hgn h2 h4])
section
open Rg
variable {P:Program} {Q:Exit→Act→World→Prop} {B N:Nat} {w0:Bs} {Γ:List (Nat × VA)} {Λ:List Lc} {a:Act} {w:World}
end
end Go.Proofs.YthdbhckhignfcaaGreatDoor
namespace Go.Proofs.YthdbhckhignfcaaGreatDoor
open Go Go.RowKit
def OneC:As where
 n:=1
 ag:=false
 p _ cs _:=∃ v,cs=[v]∧v.oneCell'=true
 deps:=[]
 len:=by rintro B cs w ⟨v,rfl,_⟩; rfl
 one:=by
  rintro B cs w ⟨v,rfl,h⟩ c hc
  obtain rfl:=List.mem_singleton.1 hc
  exact h
 ag1:=fun _=>rfl
 cg:=fun _ _ _ _ _ h=>h
 wr:=fun _ _ _ _ _ _ _ _ _ _ _ _ h=>h
def RowMay (w0:Bs)(B:Nat)(E:TypeId):Prop:=∀ (w:World) (g:Nat) (c:Array Value) (fz:Nat × Nat),Kept w0 w→B≤g→w.heap[g]?=some (.cells c E fz)→w0.may g
section
open Rg
variable {P:Program} {Q:Exit→Act→World→Prop} {B N:Nat} {w0:Bs} {Γ:List (Nat × VA)} {Λ:List Lc} {a:Act} {w:World}
def lesS (Λ:List Lc)(e j:Nat)(A:As):List Le:=Λ.zipIdx.map fun x=>⟨x.1.s,x.1.T,x.1.H,none,x.1.A,if x.2=e then some (j,A) else none⟩
theorem zio {Λ:List Lc}{e j:Nat}{A:As}:∀ y∈lesS Λ e j A,y.cr=none∧(⟨y.s,y.T,y.H,y.A0⟩:Lc)∈Λ∧∀ i B,y.st=some (i,B)→i=j:=fun y hy=>by
 obtain ⟨x,hx,rfl⟩:=List.mem_map.1 hy
 refine ⟨rfl,List.mem_of_getElem? (List.mem_zipIdx_iff_getElem?.1 hx),fun i B h=>?_⟩
 simp only at h
 split at h
 ·injection h with h
  injection h with h _
  exact h.symm
 ·cases h
end
section
open Rg
variable {P:Program} {Q:Exit→Act→World→Prop} {B N:Nat} {w0:Bs} {Γ:List (Nat × VA)} {Λ:List Lc} {a:Act} {w:World}
end
end Go.Proofs.YthdbhckhignfcaaGreatDoor
