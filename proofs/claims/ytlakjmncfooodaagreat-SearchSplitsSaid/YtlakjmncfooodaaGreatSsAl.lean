import Derived.Test.YtlakjmncfooodaaGreatSsAk
import Derived.Laws.AppendOwn
import Derived.Laws.OwnMore
set_option linter.all false
set_option maxRecDepth 100000
namespace Go.Proofs.YtlakjmncfooodaaGreat
open Go Go.RowKit
variable {w:World}{B:Nat}{a:Act}{v:Value}{T:TypeId}{w0:Bs}{Γ:List (Nat × VA)}{Λ:List Lc}{ps:String}{af:Array Edge}{vr:Value}{H:Hd}{cs:List Value}{w':World}{P:Program}{D:List TypeId}
section
variable {P:Program} {R:Rg} {Q:Exit→Act→World→Prop} {B i:Nat} {w0:Bs}
theorem eJ {fn:Func}{RQ':Ending→World→Prop}(h:bPost P fn RQ' .ret a w):bPost P fn RQ' .normal a w:=h
theorem nil_sl {E:TypeId}:Wk (EqV (.slice none 0 0)) (SlA E D []).va:=λ _ v _ h=>by
 have e:v=.slice none 0 0:=h
 subst e
 exact ⟨[.slice none 0 0],⟨(λ A hA=>by cases hA),none,0,[],rfl,qf _,q7 _,⟨[],rfl,.nil⟩,λ h=>by cases h⟩,rfl⟩
theorem iD {b k m:Nat}{T E:TypeId}{l:List As}{y:Operand}{A:As}{kd:IntKind}(hl:Loc R i b T (cat l))(hS:P.underlying T=some (.array l.length E))(hsz:(P.info? E).map (·.size)=some m)(hm:∀ A∈l,A.n=m)(hy:Has R B w0 i y (NumA kd k).va)(hk:l[k]?=some A) :
  Wv P Q R B w0 i (.indexAddr T (.tmp b) y) (ElP T A) :=
 aQ λ d T' ps af gd a w av=>by
  obtain ⟨g,cs,h1,hmay,h3,h4⟩:=hl.ok av
  have h1':a.eval (.tmp b)=.pointer (some ⟨g,0,none⟩):=h1
  have hlt:k<l.length:=(List.getElem?_eq_some_iff.1 hk).1
  obtain ⟨p1,l1⟩:=i7 h4 hk
  have ho:=gL hm (k:=k) zo
  unfold offs at ho
  rw [ho] at p1 l1
  refine ⟨.pointer (some ⟨g,k*m,none⟩),w,?_,Grow.refl w,g,k*m,_,rfl,(Array.getElem?_eq_some_iff.1 h3).1,.inr ⟨_,_,h3⟩,p1,λ j u hu=>?_⟩
  ·cases hi:P.info? E with
   | none=>rw [hi] at hsz; simp at hsz
   | some it =>
    rw [hi] at hsz
    have hs2:it.size=m:=by simpa using hsz
    have e:=aL (hy a w av)
    simp [execOp,h1',e,Instr.indexAt,asIntOf,run_underlying hS,sizeOf,typeInfo,hi,hs2,add_k,hlt,Instr.sureAddr]
  ·rw [List.getElem?_take] at hu
   split at hu
   ·rw [List.getElem?_drop] at hu
    rw [cell_of_row w g (k*m+j) cs.toArray T _ h3]
    simpa using hu
   ·cases hu
theorem gj {f g:Nat→Option (Nat × Nat)}:∀ (ps:List (Nat × Value)) (cells:Array Value),(∀ p∈ps,f p.1=g p.1)→Instr.fill f cells ps=Instr.fill g cells ps
 | [],_,_=>rfl
 | (k,v)::ps,cells,h=>by
  have h1:=h (k,v) (by simp)
  have h2:=λ c=>gj ps c λ p hp=>h p (by simp [hp])
  simp only [Instr.fill]
  simp only at h1
  rw [h1]
  cases g k with
  | none=>rfl
  | some x=>simp only [h2]
def Arr (P:Program)(T:TypeId)(Z:List As):Prop :=
 ∃ it z n E ie,P.info? T=some it∧it.zero=some z∧P.underlying T=some (.array n E)∧P.info? E=some ie∧(∀ f,f<Z.length→some (f*ie.size,ie.size)=(placesOf Z)[f]?)∧∀ B w,(cat Z).p B z.cells.toList w
theorem Arr.zero {Z:List As}(h:Arr P T Z):Zero P T (cat Z):=by
 obtain ⟨it,z,_,_,_,h1,h2,_,_,_,h3⟩:=h
 exact ⟨it,z,h1,h2,h3⟩
theorem all2_right {α β:Type}{R':α→β→Prop}{qs:List α}{ps:List β}(h:All2 R' qs ps){p:β}(hp:p∈ps):∃ q,R' q p:=by
 induction h with
 | nil=>cases hp
 | cons hh _ ih =>
  rcases qn.1 hp with rfl | hp'
  ·exact ⟨_,hh⟩
  ·exact ih hp'
theorem ei {Z:List As}{xs:List (Nat × Operand)}{qs:List (Nat × As)}(hT:Arr P T Z)(hx:All2 (λ (q:Nat × As) (x:Nat × Operand)=>x.1=q.1∧Has R B w0 i x.2 q.2.va∧(Z[q.1]?).map (·.n)=some q.2.n) qs xs):
  Wv P Q R B w0 i (.build T xs.toArray) (cat (setAll Z qs)).va :=
 aQ λ d T' ps af gd a w av=>by
  obtain ⟨it,z,n,E,ie,h1,h2,h3,h4,h6,h5⟩:=hT
  have hps:All2 (λ (q:Nat × As) (p:Nat × Value)=>p.1=q.1∧q.2.va.p B p.2 w∧(Z[q.1]?).map (·.n)=some q.2.n) qs (xs.map λ x=>(x.1,a.eval x.2)):=by
   induction hx with
   | nil=>exact .nil
   | cons h _ ih=>exact .cons ⟨h.1,h.2.1 a w av,h.2.2⟩ ih
  obtain ⟨cells',e1,e2⟩:=i4 (places:=placesOf Z) rfl (xs.map λ x=>(x.1,a.eval x.2)) qs Z z.cells rfl (h5 B w) hps
  refine ⟨.agg cells',w,?_,Grow.refl w,cells'.toList,e2,by simp [shape,cat]⟩
  have hin:∀ p∈(xs.map λ x=>(x.1,a.eval x.2)),some (p.1*ie.size,ie.size)=((placesOf Z).toArray[p.1]?:Option (Nat × Nat)):=by
   intro p hp
   have:p.1<Z.length:=by
    obtain ⟨q,hh⟩:=all2_right hps hp
    rw [hh.1]
    cases hz:Z[q.1]? with
    | none=>rw [hz] at hh; simp at hh
    | some y=>exact (List.getElem?_eq_some_iff.1 hz).1
   simpa using h6 p.1 this
  have hb:P.built T (xs.map λ x=>(x.1,a.eval x.2))=some cells':=by
   unfold Program.built
   simp only [h1,h3,h2,h4]
   rw [← e1]
   exact gj _ _ hin
  have:=run_build (P:=P) w T ((xs.map λ x=>(x.1,a.eval x.2)).toArray) cells' (by simpa using hb)
  simp [execOp,this]
end
def asM (e:Int)(m:MQ):RM × Int:=if e=0 then (if [m.a,m.b,m.c,m.d].any longQ then (rm0,4) else (rmOf m,0)) else (rm0,e)
abbrev MR (r:RM × Int):VA:=Tu [(RMA r.1).va,In r.2]
section
variable {P:Program} {R:Rg} {Q:Exit→Act→World→Prop} {B:Nat} {w0:Bs} {a:Act} {w:World}
open Rg in
theorem Rg.draw2 {id:Nat}{n:Nat}(hsz2:R.ops.size=n+2)(hm:P.follows .mixedOrders=true)(hanc:ancOk R=true)(hk:R.chk=true)(h:St B w0 R.N R.Γ Λ a w)(hles:∀ e∈R.les,e.cr=none→(⟨e.s,e.T,e.H,e.A0⟩:Lc)∈Λ)
  (hob:∀ i,i<n→R.Ob P Q B w0 i) (ha1:∀ j,j<n→(R.anc n).contains j=true) (ha2:(R.anc (n+1)).contains n=true)
  (hQ:∀ a w,R.Inv B w0 (λ k=>decide (k<n)) a w→∀ K:Act→World→Prop,(∀ a' w',(∀ K':Act→World→Prop,(∀ a'' w'',Q .normal a'' w''→K' a'' w'')→wpOp P R.ops Q (n+1) K' a' w')→K a' w')→wpOp P R.ops Q n K a w) :
  (Code.region id R.ops true).wp P Q a w:=by
 refine wp_region_any hm ?_
 have ho:∀ i,i<R.ops.size→∃ o,R.ops[i]?=some o∧(∀ j,(R.anc i).contains j=true→∃ e∈o.after,Region.binds .any e=true∧(e.on=j∨(R.anc e.on).contains j=true)) ∧
   ∀ e∈o.after,Region.binds .any e=true→e.on<i:=by
  intro i hi
  have:=qd.1 hanc i (by simpa using hi)
  cases hoi:R.ops[i]? with
  | none=>rw [hoi] at this; cases this
  | some o =>
   rw [hoi] at this
   simp only [qh] at this
   refine ⟨o,rfl,λ j hj=>?_,λ e he hb=>?_⟩
   ·have hh:=qd.1 this.1 j (by simpa using hj)
    obtain ⟨e,he,h1⟩:=jb.1 hh
    simp only [qh,qQ,zZ] at h1
    exact ⟨e,he,h1.1,h1.2⟩
   ·have hh:=zp.1 this.2 e he
    simpa [hb] using hh
 have hrd:∀ (listed:Array Bool) i,i∈Region.ready .any R.ops listed→i<R.ops.size∧listed.getD i true=false∧∀ o,R.ops[i]?=some o→∀ e∈o.after,Region.binds .any e=true→listed.getD e.on false=true:=by
  intro listed i hi
  unfold Region.ready at hi
  obtain ⟨h1,h2⟩:=zb.1 hi
  simp only [qh,qv] at h2
  refine ⟨by simpa using h1,h2.1,λ o hoi e he hb=>?_⟩
  have h3:=h2.2
  rw [hoi] at h3
  simp only [q6,zR] at h3
  have:=zp.1 h3 e he
  simpa [hb] using this
 have hfull:∀ (listed:Array Bool),listed.size=R.ops.size→Region.ready .any R.ops listed=[]→∀ k,k<R.ops.size→listed.getD k false=true:=by
  intro listed hsz hr k
  induction k using Nat.strongRecOn with
  | _ k ih =>
   intro hkn
   cases hl:listed.getD k false with
   | true=>rfl
   | false =>
    exfalso
    obtain ⟨o,ho1,_,ho3⟩:=ho k hkn
    have:k∈Region.ready .any R.ops listed:=by
     unfold Region.ready
     refine zb.2 ⟨by simpa using hkn,?_⟩
     have h0:listed.getD k true=false:=by
      simp only [Array.getD,hsz,hkn,dite_true] at hl ⊢
      exact hl
     rw [h0,ho1]
     simp only [x3,jB,q6,zR]
     refine zp.2 λ e he=>?_
     cases hb:Region.binds .any e with
     | false=>rfl
     | true=>simpa using ih e.on (ho3 e he hb) (zw (ho3 e he hb) hkn)
    rw [hr] at this
    cases this
 have hset:∀ (listed:Array Bool) (i k:Nat),listed.size=R.ops.size→i<R.ops.size→(listed.setIfInBounds i true).getD k false=upd (λ i=>listed.getD i false) i k:=by
  intro listed i k hsz hi
  unfold upd
  by_cases hki:k=i
  ·subst hki
   simp [hsz,hi]
  ·simp [hki,Array.getElem?_setIfInBounds_ne (λ e=>hki e.symm)]
 have hpos:∀ (listed:Array Bool) (i:Nat),i<R.ops.size→listed.getD i false=false→0<(List.range R.ops.size).countP (λ k => !listed.getD k false):=λ listed i hi hl =>
  x6.2 ⟨i,by simpa using hi,by simp only [hl]; rfl⟩
 have hlt:∀ (listed:Array Bool) (i:Nat),listed.size=R.ops.size→i<R.ops.size→listed.getD i false=false→(List.range R.ops.size).countP (λ k => !(listed.setIfInBounds i true).getD k false)<(List.range R.ops.size).countP (λ k => !listed.getD k false):=by
  intro listed i hsz hi hLi
  refine dv (x:=i) (λ x hx=>?_) (by simpa using hi) (by rw [hLi]; rfl) (by rw [hset listed i i hsz hi,bC]; rfl)
  have hx':upd (λ i=>listed.getD i false) i x=false:=by
   rw [← hset listed i x hsz hi]
   simpa only [qv] using hx
  rw [(cA hx').2]
  rfl
 have key:∀ fuel (listed:Array Bool) a w,listed.size=R.ops.size→(List.range R.ops.size).countP (λ i => !listed.getD i false)≤fuel→Closed R (λ i=>listed.getD i false) →
   listed.getD n false=false→listed.getD (n+1) false=false→R.Inv B w0 (λ i=>listed.getD i false) a w→wpAny P .any R.ops Q fuel listed a w:=by
  intro fuel
  induction fuel with
  | zero =>
   intro listed a w hsz hcnt hcl hn0 hn1 hi
   have:=hpos listed n zo hn0
   omega
  | succ fuel ih =>
   intro listed a w hsz hcnt hcl hn0 hn1 hi
   refine ⟨λ hr=>absurd (hfull listed hsz hr n zo) (by rw [hn0]; decide),λ i hir=>?_⟩
   obtain ⟨h1,h2,h3⟩:=hrd listed i hir
   obtain ⟨o,ho1,ho2,_⟩:=ho i h1
   have hLi:listed.getD i false=false:=by
    simp only [Array.getD,hsz,h1,dite_true] at h2 ⊢
    exact h2
   have hanci:∀ j,(R.anc i).contains j=true→listed.getD j false=true:=by
    intro j hj
    obtain ⟨e,he,hb,hj'⟩:=ho2 j hj
    have hl:=h3 o ho1 e he hb
    rcases hj' with rfl | hj'
    ·exact hl
    ·exact hcl e.on hl j hj'
   have hup:=λ k=>hset listed i k hsz h1
   by_cases hin:i<n
   ·refine step hk (hob i hin) hi hcl hLi hanci _ λ a' w' hi'=>ih _ _ _ (by simpa using hsz) (by have:=hlt listed i hsz h1 hLi; omega) ?_ ?_ ?_ (hi'.congr hup)
    ·intro k hk' j hj
     have hk2:upd (λ i=>listed.getD i false) i k=true:=by rw [← hup]; exact hk'
     show (listed.setIfInBounds i true).getD j false=true
     rw [hup]
     rcases of_upd hk2 with rfl | h4
     ·exact cI _ (hanci j hj)
     ·exact cI _ (hcl k h4 j hj)
    ·rw [hup,cJ _ zo]; exact hn0
    ·rw [hup,cJ _ zo]; exact hn1
   ·rcases (show i=n∨i=n+1 by omega) with rfl | rfl
    ·have hinv:R.Inv B w0 (λ k=>decide (k<i)) a w:=by
      refine hi.congr λ k=>?_
      by_cases hki:k<i
      ·rw [qK hki]; exact (hanci k (ha1 k hki)).symm
      ·rw [zJ hki]
       by_cases hk2:k<R.ops.size
       ·rcases (show k=i∨k=i+1 by omega) with rfl | rfl
        ·exact hn0.symm
        ·exact hn1.symm
       ·have:listed.getD k false=false:=by simp [Array.getD,hsz,hk2]
        exact this.symm
     refine hQ a w hinv _ λ a' w' H=>?_
     have hsz':(listed.setIfInBounds i true).size=R.ops.size:=by simpa using hsz
     have hc':=hlt listed i hsz h1 hLi
     have hn1':(listed.setIfInBounds i true).getD (i+1) false=false:=by rw [hup,cJ _ zo]; exact hn1
     have hp':=hpos _ (i+1) zo hn1'
     cases fuel with
     | zero=>omega
     | succ f =>
      refine ⟨λ hr=>absurd (hfull _ hsz' hr (i+1) zo) (by rw [hn1']; decide),λ i' hir'=>?_⟩
      obtain ⟨g1,g2,_⟩:=hrd _ i' hir'
      have hi':i'=i+1:=by
       by_cases hlo:i'≤i
       ·exfalso
        have:(listed.setIfInBounds i true).getD i' false=true:=by
         rw [hup]
         by_cases he:i'=i
         ·subst he; exact bC _ _
         ·exact cI _ (hanci i' (ha1 i' zo))
        simp only [Array.getD,hsz',g1,dite_true] at this g2
        rw [this] at g2
        cases g2
       ·omega
      subst hi'
      refine H _ λ a'' w'' hq=>?_
      have hnone:Region.ready .any R.ops ((listed.setIfInBounds i true).setIfInBounds (i+1) true)=[]:=by
       cases hrr:Region.ready .any R.ops ((listed.setIfInBounds i true).setIfInBounds (i+1) true) with
       | nil=>rfl
       | cons q rest =>
        exfalso
        obtain ⟨q1,q2,_⟩:=hrd _ q (by rw [hrr]; simp)
        have hsz'':((listed.setIfInBounds i true).setIfInBounds (i+1) true).size=R.ops.size:=by simpa using hsz
        have:((listed.setIfInBounds i true).setIfInBounds (i+1) true).getD q false=true:=by
         rw [hset _ (i+1) q hsz' zo]
         by_cases he:q=i+1
         ·subst he; exact bC _ _
         ·refine cI _ ?_
          show (listed.setIfInBounds i true).getD q false=true
          rw [hup]
          by_cases he2:q=i
          ·subst he2; exact bC _ _
          ·exact cI _ (hanci q (ha1 q zo))
        simp only [Array.getD,hsz'',q1,dite_true] at this q2
        rw [this] at q2
        cases q2
      cases f with
      | zero=>exact ⟨hnone,hq⟩
      | succ f=>exact ⟨λ _=>hq,λ j hj=>by rw [hnone] at hj; cases hj⟩
    ·have:=hanci n ha2
     rw [hn0] at this
     cases this
 refine key _ _ a _ (by simp) ?_ ?_ ?_ ?_ ?_
 ·refine qg (xV) (by simp)
 ·intro i hi
  exfalso
  simp only [Array.getD,qB] at hi
  split at hi <;> simp at hi
 ·simp only [Array.getD,qB]; split <;> simp
 ·simp only [Array.getD,qB]; split <;> simp
 ·have hs:=start h hles
  have hd:R.Inv B w0 (λ _=>false) a w.drew:=⟨hs.lo,hs.defers.grow (Grow.drew w) rfl,hs.size,hs.base.drew,λ x hx h1 h2=>x.2.grow _ _ _ _ (Grow.drew w) (hs.g x hx h1 h2),(λ i y d A _ _ hf=>by cases hf),(λ i d b k c _ hf=>by cases hf),
   λ e he A hA=>(hs.c e he A hA).grow (Grow.drew w),hs.x⟩
  refine Inv.congr hd λ k=>?_
  simp only [Array.getD,qB]
  split <;> simp
end
def cutW (w w':World):World:={ w' with heap:=w'.heap.extract 0 w.heap.size }
theorem cut_at (hs:w.heap.size≤w'.heap.size){k:Nat}(hk:k<w.heap.size):(cutW w w').heap[k]?=w'.heap[k]?:=by
 show (w'.heap.extract 0 w.heap.size)[k]?=_
 rw [Array.getElem?_extract]
 simp
 omega
theorem fc (hs:w.heap.size≤w'.heap.size):(cutW w w').heap.size=w.heap.size:=by
 show (w'.heap.extract 0 w.heap.size).size=_
 simp
 omega
theorem cut_wr {g:Nat}(h:w.grownBy w' (some g)):Wr g w (cutW w w') :=
 ⟨h.os,h.tape,h.output,fc h.size,λ k hk=>by
  by_cases hlt:k<w.heap.size
  ·rw [cut_at h.size hlt]
   exact h.block k hlt (λ e=>hk (by injection e))
  ·rw [Array.getElem?_eq_none (by rw [fc h.size]; omega),Array.getElem?_eq_none zo]⟩
theorem cut_grow {row:Option Nat}(h:w.grownBy w' row):Grow (cutW w w') w' :=
 ⟨rfl,rfl,rfl,by rw [fc h.size]; exact h.size,λ k hk=>by
  rw [fc h.size] at hk
  rw [cut_at h.size hk]⟩
theorem iE (h:w.grownBy w' none):Grow w w':=⟨h.os,h.tape,h.output,h.size,λ k hk=>h.block k hk (by simp)⟩
def RowOk (w:World)(b:Nat)(E:TypeId)(row:Option Nat):Prop:=∀ g,row=some g→b≤g∧∃ c fz,w.heap[g]?=some (.cells c E fz)
theorem DefOk.grown {a a':Act}{b:Nat}{E:TypeId}{row:Option Nat}(h:DefOk w0 a w)(hg:w.grownBy w' row)(hr:RowOk w b E row)(e:a'.defers=a.defers):DefOk w0 a' w' :=
 h.keep e λ D hD=>(hg.block D (Array.getElem?_eq_some_iff.1 hD).1 (λ e=>by
  obtain ⟨_,c,fz,hc⟩:=hr D e.symm
  rw [hc] at hD
  cases hD)).trans hD
theorem VA.grown {A:VA}{B b:Nat}{E:TypeId}{row:Option Nat}(hp:A.p B v w)(hg:w.grownBy w' row)(hr:RowOk w b E row)(hb:B≤b)(hE:E ∉ A.deps):A.p B v w':=by
 cases row with
 | none=>exact A.grow _ _ _ _ (iE hg) hp
 | some g =>
  obtain ⟨h1,c,fz,h2⟩:=hr g rfl
  exact A.grow _ _ _ _ (cut_grow hg) (A.wr _ _ _ _ _ _ _ _ h2 hE (qg hb h1) (cut_wr hg) hp)
theorem As.grown {A:As}{B b:Nat}{E:TypeId}{row:Option Nat}(hp:A.p B cs w)(hg:w.grownBy w' row)(hr:RowOk w b E row)(hb:B≤b)(hE:E ∉ A.deps):A.p B cs w':=by
 cases row with
 | none=>exact A.grow _ _ _ _ (iE hg) hp
 | some g =>
  obtain ⟨h1,c,fz,h2⟩:=hr g rfl
  exact A.grow _ _ _ _ (cut_grow hg) (A.wr _ _ _ _ _ _ _ _ h2 hE (qg hb h1) (cut_wr hg) hp)
def OwnR (b:Nat)(E:TypeId)(m:Nat)(D:List TypeId)(l:List As):VA where
 p B v w:=(∀ A∈l,A.n=m)∧(∀ A∈l,∀ T∈A.deps,T∈D)∧∃ ds,(cat l).p B ds w∧w.ownsRow b E m v l.length ds
 deps:=E::D
 cg:=by
  rintro B v w w' hg ⟨h1,h2,ds,h3,h4,h5⟩
  refine ⟨h1,h2,ds,(cat l).cg _ _ _ _ hg h3,h4,?_⟩
  rcases h5 with h5 | ⟨g,cap,cur,e1,e2,e3,e4⟩
  ·exact .inl h5
  ·exact .inr ⟨g,cap,cur,e1,e2,hg.heap e3,e4⟩
 wr:=by
  rintro B v w w' g c T fz hgc hT hB hW ⟨h1,h2,ds,h3,h4,h5⟩
  simp only [qn,not_or] at hT
  refine ⟨h1,h2,ds,(cat l).wr _ _ _ _ _ _ _ _ hgc (iT h2 hT.2) hB hW h3,h4,?_⟩
  rcases h5 with h5 | ⟨g0,cap,cur,e1,e2,e3,e4⟩
  ·exact .inl h5
  ·refine .inr ⟨g0,cap,cur,e1,e2,?_,e4⟩
   have hne:g0≠g:=by
    rintro rfl
    rw [hgc] at e3
    injection e3 with e3
    injection e3 with _ e3 _
    exact hT.1 e3
   rw [hW.block g0 hne]
   exact e3
theorem own_sl {b:Nat}{E:TypeId}{m:Nat}{l:List As}:Wk (OwnR b E m D l) (SlA E D l).va:=λ B v w ⟨_,h2,ds,h3,h4,h5⟩=>by
 rcases h5 with ⟨rfl,h5⟩ | ⟨g,cap,cur,rfl,e2,e3,e4,e5,e6,e7⟩
 ·refine ⟨[.slice none 0 0],⟨h2,none,0,ds,by rw [h5],by omega,q7 _,h3,λ h=>by omega⟩,rfl⟩
 ·refine ⟨[.slice (some ⟨g,0,none⟩) l.length cap],⟨h2,_,cap,ds,rfl,e4,e5,h3,λ _=>⟨g,0,rfl,(Array.getElem?_eq_some_iff.1 e3).1,.inr ⟨_,_,e3⟩,λ j u hu=>?_⟩⟩,rfl⟩
  rw [cell_of_row w g (0+j) cur E _ e3,qC]
  rw [← e7,List.getElem?_take] at hu
  split at hu
  ·simpa using hu
  ·cases hu
theorem own_row {b:Nat}{E:TypeId}{m:Nat}{n:Nat}{ds:List Value}(h:w.ownsRow b E m v n ds):RowOk w b E v.ownBlock:=by
 intro g hg
 obtain ⟨_,⟨rfl,_⟩ | ⟨g',cap,cur,rfl,e2,e3,_⟩⟩:=h
 ·cases hg
 ·have:g'=g:=by injection hg
  subst this
  exact ⟨e2,_,_,e3⟩
theorem all2_app {α β:Type}{R':α→β→Prop}{l1 l2:List α}{m1 m2:List β}(h:All2 R' l1 m1)(h':All2 R' l2 m2):All2 R' (l1++l2) (m1++m2):=by
 induction h with
 | nil=>exact h'
 | cons h1 _ ih=>exact .cons h1 ih
theorem cat_app {l l':List As}{ds ds':List Value}(h:(cat l).p B ds w)(h':(cat l').p B ds' w):(cat (l++l')).p B (ds++ds') w:=by
 obtain ⟨ps,rfl,h1⟩:=h
 obtain ⟨ps',rfl,h2⟩:=h'
 exact ⟨ps++ps',by simp,all2_app h1 h2⟩
def VT:VA:=⟨λ _ _ _=>True,[],λ _ _ _ _ _ _=>trivial,λ _ _ _ _ _ _ _ _ _ _ _ _ _=>trivial⟩
theorem St.wkG {B N:Nat}(h:St B w0 N Γ Λ a w){s:Nat}{A A':VA}(k:Nat)(hm:Γ[k]?=some (s,A))(hw:Wk A A'):St B w0 N (Γ.set k (s,A')) Λ a w :=
 ⟨h.lo,h.defers,h.size,h.base,λ x hx=>by
  rcases qS hx with hx | rfl
  ·exact h.vals x hx
  ·exact hw _ _ _ (h.vals _ (qb hm)),h.locs,h.dis⟩
def lesN (Λ:List Lc):List Le:=Λ.map λ l=>⟨l.s,l.T,l.H,none,l.A,none⟩
section
variable {P:Program} {Q:Exit→Act→World→Prop} {B N:Nat} {w0:Bs} {Γ:List (Nat × VA)} {Λ:List Lc} {a:Act} {w:World}
end
theorem iA (base:Nat)(t ty e:TypeId)(i:TypeInfo)(size:Nat)(ht:P.underlying t=some (.slice e))(hi:P.info? e=some i)
  (v:Value) (n c:Nat) (xs:List Value) (hown:w.ownsRow base e size v n xs):(Builtin.append_ #[t,t] ty #[v,.slice none 0 c]).run P w=.ok v w:=by
 rcases hown.2 with ⟨rfl,rfl⟩ | ⟨g,cap,cur,rfl,_,_,hnc,_⟩
 ·simp [Builtin.append_,run_underlying ht,sizeOf,typeInfo,hi,Builtin.lenOf,Builtin.firstCells]
 ·simp [Builtin.append_,run_underlying ht,sizeOf,typeInfo,hi,Builtin.lenOf,Builtin.firstCells,hnc,storeCells]
theorem cat_len {l:List As}{m:Nat}(hm:∀ A∈l,A.n=m):(cat l).n=l.length*m:=by
 induction l with
 | nil=>simp [cat]
 | cons A l ih =>
  have:=ih λ A' h=>hm A' (ze _ h)
  simp only [cat,qF,zP,zV] at this ⊢
  rw [this,hm A (by simp),xW,jJ,xl]
theorem run_ownM {S E T1:TypeId}{m bytes b B:Nat}{D D':List TypeId}{l xs:List As}{v u:Value}{it:TypeInfo}{z:Value}
  (hS:P.underlying S=some (.slice E)) (hi:P.info? E=some it) (hz:it.zero=some z) (hsz:it.size=m) (hby:it.bytes=bytes) (hzs:z.cells.size=m) (hm0:0<m) (hl:l.length+xs.length≤100000000000) (hb6:bytes≤1000)
  (hv:(OwnR b E m D l).p B v w) (hu:(SlA E D' xs).va.p B u w) (hD':∀ T∈D',T∈D) (hED:E ∉ D) (hxm:∀ x∈xs,x.n=m) (hbw:b≤w.heap.size) (hB:B≤b) :
  ∃ v' w',(Builtin.append_ #[S,S] T1 #[v,u]).run P w=.ok v' w'∧(OwnR b E m D (l++xs)).p B v' w'∧w.grownBy w' v.ownBlock∧RowOk w b E v.ownBlock:=by
 obtain ⟨h1,h2,ds,h3,h4⟩:=hv
 obtain ⟨cs,⟨hD,Ad,c,ds1,rfl,_,_,h5,h6⟩,hu'⟩:=hu
 have hu2:u=.slice Ad xs.length c:=hu'
 subst hu2
 have hl1:ds1.length=xs.length*m:=by rw [(cat xs).len _ _ _ h5,cat_len hxm]
 have hro:=own_row h4
 have hmx:l.length+xs.length≤maxLen:=by unfold maxLen; omega
 have hbt:(l.length+xs.length)*bytes≤140737488355328:=qg (xk hl hb6) zd
 have fin:∀ v' w',w'.ownsRow b E m v' (l.length+xs.length) (ds++ds1)→w.grownBy w' v.ownBlock→(OwnR b E m D (l++xs)).p B v' w':=λ v' w' r1 r2=>by
  refine ⟨λ A hA=>?_,λ A hA=>?_,ds++ds1,cat_app (As.grown h3 r2 hro hB (iT h2 hED)) (As.grown h5 r2 hro hB (iT (λ A hA T hT=>hD' T (hD A hA T hT)) hED)),by rw [qy]; exact r1⟩
  ·rcases qm.1 hA with hA | hA
   ·exact h1 A hA
   ·exact hxm A hA
  ·rcases qm.1 hA with hA | hA
   ·exact h2 A hA
   ·exact λ T hT=>hD' T (hD A hA T hT)
 have some_case:∀ a:Addr,Ad=some a→(∀ (j:Nat) u,ds1[j]?=some u→w.cell? (a.add j)=some u)→∃ v' w',(Builtin.append_ #[S,S] T1 #[v,.slice Ad xs.length c]).run P w=.ok v' w'∧(OwnR b E m D (l++xs)).p B v' w'∧w.grownBy w' v.ownBlock∧RowOk w b E v.ownBlock:=λ a ha hc=>by
  subst ha
  obtain ⟨v',w',hr,r1,r2,_⟩:=run_append_own (P:=P) w b S T1 E it z m bytes hS hi hz hsz hby hzs hm0 v l.length ds h4 a xs.length c ds1 hl1 hc ((cat xs).one _ _ _ h5) hmx hbt hbw
  exact ⟨v',w',hr,fin v' w' r1 r2,r2,hro⟩
 by_cases hx:0<xs.length
 ·obtain ⟨g1,o1,rfl,_,_,h8⟩:=h6 hx
  exact some_case _ rfl λ j u hj=>by rw [add_k]; exact h8 j u hj
 ·have h0:xs.length=0:=by omega
  have hds0:ds1=[]:=jD.1 (by rw [hl1,h0,jF])
  cases Ad with
  | some a=>exact some_case a rfl λ j u hj=>by rw [hds0] at hj; simp at hj
  | none =>
   rw [h0]
   refine ⟨v,w,iA b S T1 E it m hS hi v l.length c ds h4,fin v w ?_ ⟨rfl,rfl,rfl,qf _,λ _ _ _=>rfl⟩,⟨rfl,rfl,rfl,qf _,λ _ _ _=>rfl⟩,hro⟩
   rw [h0,hds0,zc]
   exact h4
section
variable {P:Program} {R:Rg} {Q:Exit→Act→World→Prop} {B:Nat} {w0:Bs} {a:Act} {w:World}
open Rg in
theorem Rg.linK {id:Nat}{n m:Nat}(hsz:R.ops.size=n+m)(hanc:R.anc=λ i=>List.range i)(hk:R.chk=true)(h:St B w0 R.N R.Γ Λ a w)(hles:∀ e∈R.les,e.cr=none→(⟨e.s,e.T,e.H,e.A0⟩:Lc)∈Λ)
  (hob:∀ i,i<n→R.Ob P Q B w0 i) (hQ:∀ a w,R.Inv B w0 (λ k=>decide (k<n)) a w→wpOps P R.ops Q (List.range' n m) a w):(Code.region id R.ops false).wp P Q a w:=by
 refine wp_region ?_
 have key:∀ q k,k+q=n→∀ a w,R.Inv B w0 (λ j=>decide (j<k)) a w→wpOps P R.ops Q (List.range' k (q+m)) a w:=by
  intro q
  induction q with
  | zero =>
   intro k hkm a w hi
   have:k=n:=by omega
   subst this
   rw [qC]
   exact hQ a w hi
  | succ q ih =>
   intro k hkm a w hi
   rw [show q+1+m=(q+m)+1 by omega,List.range'_succ,qX]
   refine step hk (hob k zo) hi ?_ (by simp) ?_ _ λ a' w' hi'=>ih (k+1) zo a' w' (hi'.congr λ j=>?_)
   ·intro i hi j hj
    rw [hanc] at hj
    simp at hi hj ⊢
    omega
   ·intro j hj
    rw [hanc] at hj
    simpa using hj
   ·unfold upd
    by_cases h1:j=k
    ·subst h1; simp
    ·have h2:(j==k)=false:=by simpa using h1
     rw [h2,xb,qJ]
     omega
 rw [List.range_eq_range',hsz]
 exact key n 0 zo a w ((start h hles).congr λ j=>by simp)
end
section
variable {P:Program} {Q:Exit→Act→World→Prop} {B N:Nat} {w0:Bs} {Γ:List (Nat × VA)} {Λ:List Lc} {a:Act} {w:World}
open Rg in
theorem go_appM {id:Nat}{ops:Array Oper}{sp:List Sp}(anc:List (List Nat))(n:Nat)(src:List Nat)(i1 i2:Nat){S E T1 T2:TypeId}{s u d e m bytes:Nat}{ps1 ps2:String}{af1 af2:Array Edge}{D D':List TypeId}{l xs:List As}{A2:VA}{it:TypeInfo}{z:Value}
  (hm:P.follows .mixedOrders=true) (h:St B w0 N Γ Λ a w)
  (hob:Obs P Q ⟨ops,N,Γ,lesN Λ,sp,λ i=>anc.getD i []⟩ B w0 0 n) (hn2:ops.size=n+2)
  (hanc:Rg.ancOk ⟨ops,N,Γ,lesN Λ,sp,λ i=>anc.getD i []⟩=true) (hk:Rg.chk ⟨ops,N,Γ,lesN Λ,sp,λ i=>anc.getD i []⟩=true)
  (ha1:(List.range n).all (λ j=>(anc.getD n []).contains j)=true) (ha2:(anc.getD (n+1) []).contains n=true)
  (ho1:ops[n]?=some ⟨some d,.call ⟨.builtin .append,#[.tmp s,.tmp u],#[S,S]⟩,T1,ps1,af1,none⟩) (ho2:ops[n+1]?=some ⟨some e,.assign (.tmp d),T2,ps2,af2,none⟩)
  (hi1:i1<n) (h1:sp[i1]?=some (.v s (OwnR w0.w.heap.size E m D l))) (hi2:i2<n) (h2:sp[i2]?=some (.v u A2)) (hA2:∀ w u,A2.p B u w→Kept w0 w→(SlA E D' xs).va.p B u w)
  (hS:P.underlying S=some (.slice E)) (hi:P.info? E=some it) (hz:it.zero=some z) (hsz:it.size=m) (hby:it.bytes=bytes) (hzs:z.cells.size=m) (hm0:0<m) (hl:l.length+xs.length≤100000000000) (hb6:bytes≤1000)
  (hD':∀ T∈D',T∈D) (hED:E ∉ D) (hxm:∀ x∈xs,x.n=m) (hde:(d != e)=true) (hd:d<N) (he:e<N)
  (hsrc:src.all (λ k=>match Γ[k]? with | some y => !y.2.deps.contains E&&Rg.outG ⟨ops,N,Γ,lesN Λ,sp,λ i=>anc.getD i []⟩ y.1 | none=>false)=true)
  (hΛ:Λ.all (λ l=>l.T != E && !l.A.deps.contains E&&l.s != d&&l.s != e)=true)
  (hQ:∀ a w,St B w0 N ((e,OwnR w0.w.heap.size E m D (l++xs))::src.filterMap (λ k=>Γ[k]?)) Λ a w→Q .normal a w):(Code.region id ops true).wp P Q a w:=by
 have hles0:∀ y∈lesN Λ,y.cr=none∧y.st=none∧(⟨y.s,y.T,y.H,y.A0⟩:Lc)∈Λ:=λ y hy=>by
  obtain ⟨l',hl',rfl⟩:=qp.1 hy
  exact ⟨rfl,rfl,hl'⟩
 refine Rg.draw2 (R:=⟨ops,N,Γ,lesN Λ,sp,λ i=>anc.getD i []⟩) hn2 hm hanc hk h (λ y hy _=>(hles0 y hy).2.2) (λ i hi=>hob.all i zo zo) (λ j hj=>qd.1 ha1 j (by simpa using hj)) ha2 λ a1 w1 hinv K hK=>?_
 have hcl:∀ deps,Rg.clash ⟨ops,N,Γ,lesN Λ,sp,λ i=>anc.getD i []⟩ (λ k=>decide (k<n)) deps=false:=λ deps=>by
  unfold Rg.clash
  rw [xK]
  intro y hy
  rw [(hles0 y hy).2.1]
  simp
 have hv:=hinv.v i1 _ s _ h1 rfl (qK hi1) (hcl _)
 have hu:=hA2 _ _ (hinv.v i2 _ u _ h2 rfl (qK hi2) (hcl _)) hinv.base
 have hB:B≤w0.w.heap.size:=hinv.lo _ (.inl (qf _))
 obtain ⟨v',w',hr,r1,r2,r3⟩:=run_ownM (T1:=T1) hS hi hz hsz hby hzs hm0 hl hb6 hv hu hD' hED hxm hinv.base.size hB
 have hdsz:d<a1.tmps.size:=by rw [hinv.size]; exact hd
 have hesz:e<(a1.put (some d) v').tmps.size:=by rw [size_put,hinv.size]; exact he
 have hne:d≠e:=by simpa using hde
 refine bt (R:=⟨ops,N,Γ,lesN Λ,sp,λ i=>anc.getD i []⟩) ho1 G (ba (w':=w') (v:=v') (by simp [execOp,resolve,invoke,builtin,hr,Result.andThen]) (hK _ _ λ K' hK'=>?_))
 refine bt (R:=⟨ops,N,Γ,lesN Λ,sp,λ i=>anc.getD i []⟩) ho2 G (ba (w':=w') (v:=v') ?_ (hK' _ _ (hQ _ _ ?_)))
 ·have:=aY a1 d v' hdsz
  simp [execOp,this]
 ·have hother:∀ t,t≠d→t≠e→((a1.put (some d) v').put (some e) v').eval (.tmp t)=a1.eval (.tmp t):=λ t h3 h4=>by
   rw [an _ _ _ _ h4,an _ _ _ _ h3]
  have hlc:∀ l'∈Λ,l'.T≠E∧E ∉ l'.A.deps∧l'.s≠d∧l'.s≠e:=λ l' hl'=>by
   have:=qd.1 hΛ l' hl'
   simp only [qh,bne_iff_ne,qv,qA,qw] at this
   exact ⟨this.1.1.1,this.1.1.2,this.1.2,this.2⟩
  have hcur:∀ l'∈Λ,(⟨l'.s,l'.T,l'.H,none,l'.A,none⟩:Le)∈lesN Λ:=λ l' hl'=>qp.2 ⟨l',hl',rfl⟩
  refine ⟨hinv.lo,hinv.defers.grown r2 r3 rfl,by rw [size_put,size_put]; exact hinv.size,?_,?_,?_,?_⟩
  ·exact ⟨r2.os.trans hinv.base.os,r2.tape.trans hinv.base.tape,r2.output.trans hinv.base.output,qg hinv.base.size r2.size,λ k hk hf =>
    (r2.block k (qM hk hinv.base.size) (λ e=>by have:=(r3 k e.symm).1; omega)).trans (hinv.base.block k hk hf)⟩
  ·intro y hy
   rcases qn.1 hy with rfl | hy
   ·show (OwnR w0.w.heap.size E m D (l++xs)).p B (((a1.put (some d) v').put (some e) v').eval (.tmp e)) w'
    rw [aY _ _ _ hesz]
    exact r1
   ·obtain ⟨k,hk1,hk2⟩:=q9.1 hy
    have hs:=qd.1 hsrc k hk1
    simp only [hk2,qh,qv,qA,qw] at hs
    have hout:∀ q,q<ops.size→Rg.dst ⟨ops,N,Γ,lesN Λ,sp,λ i=>anc.getD i []⟩ q≠some y.1:=λ q hq=>by
     have:=qd.1 hs.2 q (by simpa using hq)
     simpa using this
    have g1:y.1≠d:=λ e1=>hout n zo (by unfold Rg.dst; rw [ho1,e1]; rfl)
    have g2:y.1≠e:=λ e1=>hout (n+1) zo (by unfold Rg.dst; rw [ho2,e1]; rfl)
    rw [hother _ g1 g2]
    exact VA.grown (hinv.g y (qb hk2) (λ q hq hdq=>absurd hdq (hout q hq)) (hcl _)) r2 r3 hB hs.1
  ·intro l' hl'
   obtain ⟨g1,g2,g3,g4⟩:=hlc l' hl'
   obtain ⟨g,cs,e1,e2,e3,e4⟩:=hinv.c _ (hcur l' hl') l'.A rfl
   refine ⟨g,cs,by rw [hother _ g3 g4]; exact e1,e2,?_,As.grown e4 r2 r3 hB g2⟩
   rw [r2.block g (Array.getElem?_eq_some_iff.1 e3).1 (λ e5=>by
    obtain ⟨_,c,fz,e6⟩:=r3 g e5.symm
    rw [e3] at e6
    injection e6 with e6
    injection e6 with _ e6 _
    exact g1 e6)]
   exact e3
  ·intro l1 hl1 l2 hl2 hne'
   obtain ⟨_,_,g3,g4⟩:=hlc l1 hl1
   obtain ⟨_,_,g5,g6⟩:=hlc l2 hl2
   rw [hother _ g3 g4,hother _ g5 g6]
   exact hinv.x _ (hcur l1 hl1) _ (hcur l2 hl2) hne' G rfl
end
theorem Cn.introF {f : FuncId} {fn : Func} {c : Code} {pre : List VA} {post : VA} (hf : P.funcs[f]? = some fn) (hb : fn.body = some c) (hn : (fn.name == "runtime.NumGoroutine") = false) (hsz : pre.length ≤ fn.ntmps)
  (h:∀ (B:Nat) (w0:Bs) (a:Act),NoF w0→St B w0 fn.ntmps (argΓ pre) [] a w0.w→c.wp P (bPost P fn (RQ B w0 post)) a w0.w):Cn P f pre post:=by
 refine ⟨⟨fn,hf,hn,by rw [hb]; rfl⟩,λ B w args hB ha=>(bu hf hb (h B ⟨w,λ _=>False,false⟩ _ (λ _ h=>h.elim) ?_)).mono λ _ _ ⟨v,he,hv,hk⟩=>⟨v,he,hv,hk.grow0⟩⟩
 have hl:=ha.length
 refine ⟨λ g hg=>qg hB (hg.resolve_right λ h=>h),DefOk.nil rfl,?_,Kept.refl _,All2.args ha,(λ l hl=>by cases hl),(λ l hl=>by cases hl)⟩
 simp only [zu,zr,qB]
 omega
theorem iI {R:Rg}{B i:Nat}{x:Operand}{A:VA}(hF:NoF w0)(hv:A.p B v w0.w)(h:Has R B w0 i x (EqV v)):Has R B w0 i x A:=λ a w av=>by
 have e:a.eval x=v:=h a w av
 rw [e]
 exact A.cg _ _ _ _ (hF.cg av.base) hv
theorem St.eqv {B N:Nat}(h:St B w0 N Γ Λ a w0.w){s:Nat}{A:VA}(k:Nat)(hm:Γ[k]?=some (s,A)):∃ v,A.p B v w0.w∧St B w0 N (Γ.set k (s,EqV v)) Λ a w0.w :=
 ⟨a.eval (.tmp s),h.vals _ (qb hm),h.lo,h.defers,h.size,h.base,λ x hx=>by
  rcases qS hx with hx | rfl
  ·exact h.vals x hx
  ·exact rfl,h.locs,h.dis⟩
theorem free_all {l l':List VA}(h:All2 Free l l'){B B':Nat}(hB:B'≤B):∀ {vs:List Value},All2 (λ (A:VA) x=>A.p B x w) l vs→All2 (λ (A:VA) x=>A.p B' x w) l' vs:=by
 induction h with
 | nil=>intro vs hv; cases hv; exact .nil
 | cons h _ ih=>intro vs hv; cases hv with | cons h1 h2=>exact .cons (h _ _ _ _ hB h1) (ih h2)
theorem free_tu {l l':List VA}(h:All2 Free l l'):Free (Tu l) (Tu l'):=λ _ _ _ _ hB ⟨vs,e,hv⟩=>⟨vs,e,free_all h hB hv⟩
def CnI (P:Program)(f:FuncId)(pre:List VA)(mk:Nat→VA):Prop :=
 (∃ fn, P.funcs[f]? = some fn ∧ (fn.name == "runtime.NumGoroutine") = false ∧ fn.body.isNone = false) ∧
 ∀ (B:Nat) (w:World) (args:List Value),B≤w.heap.size→All2 (λ A v=>A.p B v w) pre args →
  Calls P f args.toArray w λ e w'=>∃ v,e=.returned v∧(mk w.heap.size).p B v w'∧Grow w w'
theorem CnI.introF {f : FuncId} {fn : Func} {c : Code} {pre : List VA} {mk : Nat → VA} (hf : P.funcs[f]? = some fn) (hb : fn.body = some c) (hn : (fn.name == "runtime.NumGoroutine") = false) (hsz : pre.length ≤ fn.ntmps)
  (h:∀ (B:Nat) (w0:Bs) (a:Act),(∀ g,¬ w0.F g)→NoF w0→St B w0 fn.ntmps (argΓ pre) [] a w0.w→c.wp P (bPost P fn (RQ B w0 (mk w0.w.heap.size))) a w0.w):CnI P f pre mk:=by
 refine ⟨⟨fn,hf,hn,by rw [hb]; rfl⟩,λ B w args hB ha=>(bu hf hb (h B ⟨w,λ _=>False,false⟩ _ (λ _ h=>h) (λ _ h=>h.elim) ?_)).mono λ _ _ ⟨v,he,hv,hk⟩=>⟨v,he,hv,hk.grow0⟩⟩
 have hl:=ha.length
 refine ⟨λ g hg=>qg hB (hg.resolve_right λ h=>h),DefOk.nil rfl,?_,Kept.refl _,All2.args ha,(λ l hl=>by cases hl),(λ l hl=>by cases hl)⟩
 simp only [zu,zr,qB]
 omega
def p4 (m:MQ)(j:Nat):Rat:=[m.a,m.b,m.c,m.d].getD j 0
def mulQ (m q:MQ):MQ:=⟨m.a*q.a+m.b*q.c,m.a*q.b+m.b*q.d,m.c*q.a+m.d*q.c,m.c*q.b+m.d*q.d⟩
theorem Cm.introK {f : FuncId} {fn : Func} {c : Code} {T : TypeId} {A0 A1 : As} {H : Hd} {pre : List Ar} {post : VA} (p : Nat) (hf : P.funcs[f]? = some fn) (hb : fn.body = some c) (hn : (fn.name == "runtime.NumGoroutine") = false) (hsz : pre.length ≤ fn.ntmps)
  (hm:∀ g,(p,EqV (H.f g))∈argΓ (pre.map (Ar.va g)))
  (h:∀ (B g:Nat) (w0:Bs) (a:Act),St B w0 fn.ntmps (argΓ (pre.map (Ar.va g))) [⟨p,T,H,A0⟩] a w0.w→c.wp P (bPost P fn (RQm B w0 g T A1 post)) a w0.w):Cm P f T A0 A1 pre post:=by
 refine ⟨⟨fn,hf,hn,by rw [hb]; rfl⟩,λ B w g cs args hB hg hp ha=>(bu hf hb (h B g ⟨w,λ k=>k=g,false⟩ _ ?_)).mono λ _ _ ⟨v,cs',he,hv,hk,h1,h2⟩=>⟨v,cs',he,hv,hk,h1,h2⟩⟩
 have hl:=ha.length
 have hgw:=(Array.getElem?_eq_some_iff.1 hg).1
 have ha':All2 (λ (A:VA) v=>A.p B v w) (pre.map (Ar.va g)) args:=by
  clear hl hm h hsz
  induction ha with
  | nil=>exact .nil
  | @cons x y xs ys h1 _ ih =>
   refine .cons ?_ ih
   cases x with
   | v A=>exact h1
   | w H=>exact h1
 have h0:(⟨args.toArray++Array.replicate (fn.ntmps-args.toArray.size) undef,[]⟩:Act).eval (.tmp p)=H.f g :=
  All2.args (N:=fn.ntmps-args.toArray.size) ha' (p,EqV (H.f g)) (hm g)
 refine ⟨λ k hk=>?_,DefOk.nil rfl,?_,Kept.refl _,All2.args ha',λ l hl=>?_,λ l hl m hm hne=>?_⟩
 ·rcases hk with hk | hk
  ·exact qg hB (qg (xC hgw) hk)
  ·have:k=g:=hk
   omega
 ·simp only [zu,zr,qB]
  omega
 ·simp at hl
  subst hl
  exact ⟨g,cs,h0,.inr rfl,hg,hp⟩
 ·simp at hl hm
  subst hl hm
  exact absurd G hne
theorem ret_mK {fn:Func}{B N g p:Nat}{A1:As}{post:VA}(h:St B w0 N Γ Λ a w)(hm:(p,EqV (H.f g))∈Γ)(hl:(⟨p,T,H,A1⟩:Lc)∈Λ)
  (hb:bPost P fn (RQ B w0 post) .ret a w):bPost P fn (RQm B w0 g T A1 post) .ret a w:=by
 refine fS h hb λ v w h ⟨v',e1,e2,e3⟩=>?_
 obtain ⟨g',cs,f1,_,f3,f4⟩:=h.locs _ hl
 replace f1:a.eval (.tmp p)=H.f g':=f1
 have f0:a.eval (.tmp p)=H.f g:=h.vals _ hm
 have:g'=g:=Rg.Hd.inj (H:=H) (H':=H) (by rw [← f1,← f0])
 subst this
 exact ⟨v',cs,e1,e2,e3,f3,f4⟩
theorem sub_self {A:As}:Sub A 0 A:=λ B cs w h=>by
 have hl:=A.len B cs w h
 refine ⟨?_,by omega⟩
 rw [xZ,qE zo]
 exact h
def bQ (k:Nat)(r:Rat):Prop:=lz r.num≤k∧lz (r.den:Int)≤k
theorem bQ_mul {c d:Nat}{x y:Rat}(hx:bQ c x)(hy:bQ d y):bQ (c+d) (x*y):=by
 obtain ⟨x1,x2⟩:=hx
 obtain ⟨y1,y2⟩:=hy
 rw [← rat_mul]
 obtain ⟨h1,h2⟩:=dT (p:=x.num*y.num) (q:=(x.den:Int)*(y.den:Int)) (den_nz x y)
 have h4:=eP x.num y.num
 have h6:=eP x.den y.den
 exact ⟨by omega,by omega⟩
theorem nd_eq (x:Rat):x=(x.num:Rat)/((x.den:Int):Rat):=by rw [← xi]; exact (x7 x).symm
theorem den_ne (x:Rat):((x.den:Int):Rat)≠0:=by
 have:=x.den_nz
 intro h
 exact this (by exact_mod_cast h)
section
variable {P:Program} {R:Rg} {Q:Exit→Act→World→Prop} {B i:Nat} {w0:Bs}
end
theorem ec {c d e f:Nat}{x y z u:Rat}(hk:c+d+e+f≤137438953472):Cn Tryz.prog 103 [Qs c x,Qs d y,Qs e z,Qs f u] (Qs (c+d+(e+f)+1) (x*y+z*u)):=by
 refine Cn.intro Tryz.func103 G zk nq (λ B w0 a U=>?_)
 have U:=zn [(0,Qs c x),(1,Qs d y),(2,Qs e z),(3,Qs f u)] [] U
 refine qa<|zg [] [⟨4,28,ptrH,some 0,_,none⟩,⟨5,28,ptrH,some 1,_,none⟩,⟨6,28,ptrH,some 2,_,none⟩,⟨7,28,ptrH,some 3,_,none⟩,⟨8,28,ptrH,some 4,_,none⟩] [.alc 0,.alc 1,.alc 2,.alc 3,.alc 4] [] U (zW 0 G (zW 1 G (zW 2 G (zW 3 G (zY G (Str.zero aA) o0))))) (zz [] [O 4 28 _,O 5 28 _,O 6 28 _,O 7 28 _,O 8 28 _] λ a w U=>?_)
 refine zt<|zgd [[],[],[0,1],[],[],[0,1,2,3,4],[0,1,2,3,4,5],[0,1,2,3,4,5,6]] [none,none,none,none,some (7,_)] [] [.v 9 _,.v 10 _,.v 11 _,.v 12 _,.v 13 _,.v 14 _,.v 15 _,.sto 4] [] a7 U (zl 0 G ac (zl 1 G ac (zQ G (cB zo) (.p (vq 0 G) (vq 1 G)) (zl 2 G ac (zl 3 G ac (zQ G (cB zo) (.p (vq 3 G) (vq 4 G)) (zQ G (plus_q zo) (.p (vq 2 G) (vq 5 G)) (zS 6 G ac o0)))))))) zk zk zk zk (zz [] [O 4 28 _,O 5 28 _,O 6 28 _,O 7 28 _,O 8 28 _] λ a w U=>?_)
 refine a4<|qe<|aj ?_ (au G U (zm 4 G) ac)
 exact ay
theorem rowTimes_q {c d:Nat}{m q:MQ}(hk:c+d≤68719476736):Cn Tryz.prog 92 [(QMA c m).va,(QMA d q).va] ((QMA (c+d+(c+d)+1) (mulQ m q)).va):=by
 refine Cn.intro Tryz.func92 G zk nq (λ B w0 a U=>?_)
 have U:=zn [(0,(QMA c m).va),(1,(QMA d q).va)] [] U
 refine qa<|zg [] [⟨2,79,ptrH,some 0,_,none⟩,⟨3,79,ptrH,some 1,_,none⟩,⟨4,79,ptrH,some 2,_,none⟩] [.alc 0,.alc 1,.alc 2] [] U (zW 0 G (zW 1 G (zY G (Str.zero aF) o0))) (zz [] [O 2 79 _,O 3 79 _,O 4 79 _] λ a w U=>?_)
 refine zt<|gV (anc:=[[],[0],[],[2],[],[4],[],[6],[0,1,2,3,4,5,6,7],[],[9],[],[11],[],[13],[],[15],[0,1,2,3,4,5,6,7,8,9,10,11,12,13,14,15,16],[],[18],[],[20],[],[22],[],[24],[0,1,2,3,4,5,6,7,8,9,10,11,12,13,14,15,16,17,18,19,20,21,22,23,24,25],[],[27],[],[29],[],[31],[],[33],[0,1,2,3,4,5,6,7,8,9,10,11,12,13,14,15,16,17,18,19,20,21,22,23,24,25,26,27,28,29,30,31,32,33,34],[0,1,2,3,4,5,6,7,8,9,10,11,12,13,14,15,16,17,18,19,20,21,22,23,24,25,26,27,28,29,30,31,32,33,34,35],[0,1,2,3,4,5,6,7,8,9,10,11,12,13,14,15,16,17,18,19,20,21,22,23,24,25,26,27,28,29,30,31,32,33,34,35,36]]) (sts:=[none,none,some (37,_)]) (news:=[]) (sp:=((.adr 5 2 (.some 0) True:Sp)::(.v 6 _)::(.adr 7 3 (.some 0) True)::(.v 8 _)::(.adr 9 2 (.some 4) True)::(.v 10 _)::(.adr 11 3 (.some 8) True)::(.v 12 _)::(.v 13 _)::(.adr 14 2 (.some 0) True)::(.v 15 _)::(.adr 16 3 (.some 4) True)::(.v 17 _)::(.adr 18 2 (.some 4) True)::(.v 19 _)::(.adr 20 3 (.some 12) True)::(.v 21 _)::(.v 22 _)::(.adr 23 2 (.some 8) True)::(.v 24 _)::(.adr 25 3 (.some 0) True)::(.v 26 _)::(.adr 27 2 (.some 12) True)::(.v 28 _)::(.adr 29 3 (.some 8) True)::(.v 30 _)::(.v 31 _)::(.adr 32 2 (.some 8) True)::(.v 33 _)::(.adr 34 3 (.some 4) True)::(.v 35 _)::(.adr 36 2 (.some 12) True)::(.v 37 _)::(.adr 38 3 (.some 12) True)::(.v 39 _)::(.v 40 _)::(.v 41 _)::(.sto 2)::[])) [] a7 U (zO 0 G cN (zL 0 0 0 G ac (zO 1 G cN (zL 2 1 0 G ac (zO 0 G cc (zL 4 0 1 G ac (zO 1 G c4 (zL 6 1 2 G ac (zQ G (ec zo) (.cons (vq 1 G) (.cons (vq 3 G) (.p (vq 5 G) (vq 7 G)))) (zO 0 G cN (zL 9 0 0 G ac (zO 1 G cc (zL 11 1 1 G ac (zO 0 G cc (zL 13 0 1 G ac (zO 1 G cM (zL 15 1 3 G ac (zQ G (ec zo) (.cons (vq 10 G) (.cons (vq 12 G) (.p (vq 14 G) (vq 16 G)))) (zO 0 G c4 (zL 18 0 2 G ac (zO 1 G cN (zL 20 1 0 G ac (zO 0 G cM (zL 22 0 3 G ac (zO 1 G c4 (zL 24 1 2 G ac (zQ G (ec zo) (.cons (vq 19 G) (.cons (vq 21 G) (.p (vq 23 G) (vq 25 G)))) (zO 0 G c4 (zL 27 0 2 G ac (zO 1 G cc (zL 29 1 1 G ac (zO 0 G cM (zL 31 0 3 G ac (zO 1 G cM (zL 33 1 3 G ac (zQ G (ec zo) (.cons (vq 28 G) (.cons (vq 30 G) (.p (vq 32 G) (vq 34 G)))) (zv G (aI (qs:=[(0,_),(1,_),(2,_),(3,_)]) aF (.cons ⟨rfl,vq 8 rfl,rfl⟩ (.cons ⟨rfl,vq 17 rfl,rfl⟩ (.cons ⟨rfl,vq 26 rfl,rfl⟩ (.cons ⟨rfl,vq 35 rfl,rfl⟩ .nil))))) (zS 36 G bf o0)))))))))))))))))))))))))))))))))))))) zk zk zk zk (zz [] [O 2 79 _,O 3 79 _,O 4 79 _] λ a w U=>?_)
 refine a4<|qe<|aj ?_ (au G U (zm 2 G) bf)
 exact ay
theorem dA  : Cn Tryz.prog 91 [] ((QMA 2 ⟨1,0,0,1⟩).va):=by
 refine Cn.intro Tryz.func91 G zk nq (λ B w0 a U=>?_)
 have U:=zn [] [] U
 refine qa<|zg [] [⟨0,79,ptrH,some 0,_,none⟩] [.alc 0] [] U (zY G (Str.zero aF) o0) (zz [] [O 0 79 _] λ a w U=>?_)
 refine zt<|zg [some (5,_)] [] [.v 1 _,.v 2 _,.v 3 _,.v 4 _,.v 5 _,.sto 0] [] U (zQ G one_q .nil (zQ G ej .nil (zQ G ej .nil (zQ G one_q .nil (zv G (aI (qs:=[(0,_),(1,_),(2,_),(3,_)]) aF (.cons ⟨rfl,vq 0 rfl,rfl⟩ (.cons ⟨rfl,vq 1 rfl,rfl⟩ (.cons ⟨rfl,vq 2 rfl,rfl⟩ (.cons ⟨rfl,vq 3 rfl,rfl⟩ .nil))))) (zS 4 G bf o0)))))) (zz [] [O 0 79 _] λ a w U=>?_)
 refine a4<|qe<|aj ?_ (au G U (zm 0 G) bf)
 exact ay
end Go.Proofs.YtlakjmncfooodaaGreat
