import Derived.Test.YtlakjmncfooodaaSnAj
import Derived.Laws.AppendOwn
import Derived.Laws.OwnMore
set_option linter.all false
set_option maxRecDepth 100000
namespace Go.Proofs.Ytlakjmncfooodaa
open Go Go.RowKit
variable {w:World}{B:Nat}{a:Act}{v:Value}{T:TypeId}{w0:Bs}{Γ:List (Nat × VA)}{Λ:List Lc}{ps:String}{af:Array Edge}{vr:Value}{H:Hd}{cs:List Value}{w':World}{P:Program}{D:List TypeId}
section
variable {P:Program} {R:Rg} {Q:Exit→Act→World→Prop} {B i:Nat} {w0:Bs}
theorem nrm_ret {fn:Func}{RQ':Ending→World→Prop}(h:bPost P fn RQ' .ret a w):bPost P fn RQ' .normal a w:=h
theorem nil_sl {E:TypeId}:Wk (EqV (.slice none 0 0)) (SlA E D []).va:=λ _ v _ h=>by
 have e:v=.slice none 0 0:=h
 subst e
 exact ⟨[.slice none 0 0],⟨(λ A hA=>by cases hA),none,0,[],rfl,qf _,zi _,⟨[],rfl,.nil⟩,λ h=>by cases h⟩,rfl⟩
def Arr (P:Program)(T:TypeId)(Z:List As):Prop :=
 ∃ it z n E ie,P.info? T=some it∧it.zero=some z∧P.underlying T=some (.array n E)∧P.info? E=some ie∧(∀ f,f<Z.length→some (f*ie.size,ie.size)=(placesOf Z)[f]?)∧∀ B w,(cat Z).p B z.cells.toList w
theorem Arr.zero {Z:List As}(h:Arr P T Z):Zero P T (cat Z):=by
 obtain ⟨it,z,_,_,_,h1,h2,_,_,_,h3⟩:=h
 exact ⟨it,z,h1,h2,h3⟩
end
section
variable {P:Program} {R:Rg} {Q:Exit→Act→World→Prop} {B:Nat} {w0:Bs} {a:Act} {w:World}
open Rg in
theorem Rg.draw2 {id:Nat}{n:Nat}(hsz2:R.ops.size=n+2)(hm:P.follows .mixedOrders=true)(hanc:ancOk R=true)(hk:R.chk=true)(h:St B w0 R.N R.Γ Λ a w)(hles:∀ e∈R.les,e.cr=none→(⟨e.s,e.T,e.H,e.A0⟩:Lc)∈Λ)
  (hob:∀ i,i<n→R.Ob P Q B w0 i) (ha1:∀ j,j<n→(R.anc n).contains j=true) (ha2:(R.anc (n+1)).contains n=true)
  (hQ:∀ a w,R.Inv B w0 (λ k=>decide (k<n)) a w→∀ K:Act→World→Prop,(∀ a' w',(∀ K':Act→World→Prop,(∀ a'' w'',Q .normal a'' w''→K' a'' w'')→wpOp P R.ops Q (n+1) K' a' w')→K a' w')→wpOp P R.ops Q n K a w) :
  (Code.region id R.ops true).wp P Q a w:=by
 refine wp_region_any hm ?_
 have ho:∀ i,i<R.ops.size→∃ o,R.ops[i]?=some o∧(∀ j,(R.anc i).contains j=true→∃ e∈o.after,Region.binds .any e=true∧(e.on=j∨(R.anc e.on).contains j=true)) ∧
   ∀ e∈o.after,Region.binds .any e=true→e.on<i:=by
  intro i hi
  have:=qc.1 hanc i (by simpa using hi)
  cases hoi:R.ops[i]? with
  | none=>rw [hoi] at this; cases this
  | some o =>
   rw [hoi] at this
   simp only [qi] at this
   refine ⟨o,rfl,λ j hj=>?_,λ e he hb=>?_⟩
   ·have hh:=qc.1 this.1 j (by simpa using hj)
    obtain ⟨e,he,h1⟩:=xY.1 hh
    simp only [qi,zy,zX] at h1
    exact ⟨e,he,h1.1,h1.2⟩
   ·have hh:=zp.1 this.2 e he
    simpa [hb] using hh
 have hrd:∀ (listed:Array Bool) i,i∈Region.ready .any R.ops listed→i<R.ops.size∧listed.getD i true=false∧∀ o,R.ops[i]?=some o→∀ e∈o.after,Region.binds .any e=true→listed.getD e.on false=true:=by
  intro listed i hi
  unfold Region.ready at hi
  obtain ⟨h1,h2⟩:=q7.1 hi
  simp only [qi,qq] at h2
  refine ⟨by simpa using h1,h2.1,λ o hoi e he hb=>?_⟩
  have h3:=h2.2
  rw [hoi] at h3
  simp only [qV,zN] at h3
  have:=zp.1 h3 e he
  simpa [hb] using this
 have hfull:∀ (listed:Array Bool),listed.size=R.ops.size→Region.ready .any R.ops listed=[]→∀ k,k<R.ops.size→listed.getD k false=true:=by
  intro listed hsz hr k
  induction k using Nat.strongRecOn with
  | _ k ih =>
   intro hkn
   cases hl:listed.getD k false with
   | true=>rfl
   | false =>
    exfalso
    obtain ⟨o,ho1,_,ho3⟩:=ho k hkn
    have:k∈Region.ready .any R.ops listed:=by
     unfold Region.ready
     refine q7.2 ⟨by simpa using hkn,?_⟩
     have h0:listed.getD k true=false:=by
      simp only [Array.getD,hsz,hkn,dite_true] at hl ⊢
      exact hl
     rw [h0,ho1]
     simp only [xS,jt,qV,zN]
     refine zp.2 λ e he=>?_
     cases hb:Region.binds .any e with
     | false=>rfl
     | true=>simpa using ih e.on (ho3 e he hb) (zx (ho3 e he hb) hkn)
    rw [hr] at this
    cases this
 have hset:∀ (listed:Array Bool) (i k:Nat),listed.size=R.ops.size→i<R.ops.size→(listed.setIfInBounds i true).getD k false=upd (λ i=>listed.getD i false) i k:=by
  intro listed i k hsz hi
  unfold upd
  by_cases hki:k=i
  ·subst hki
   simp [hsz,hi]
  ·simp [hki,Array.getElem?_setIfInBounds_ne (λ e=>hki e.symm)]
 have hpos:∀ (listed:Array Bool) (i:Nat),i<R.ops.size→listed.getD i false=false→0<(List.range R.ops.size).countP (λ k => !listed.getD k false):=λ listed i hi hl =>
  xV.2 ⟨i,by simpa using hi,by simp only [hl]; rfl⟩
 have hlt:∀ (listed:Array Bool) (i:Nat),listed.size=R.ops.size→i<R.ops.size→listed.getD i false=false→(List.range R.ops.size).countP (λ k => !(listed.setIfInBounds i true).getD k false)<(List.range R.ops.size).countP (λ k => !listed.getD k false):=by
  intro listed i hsz hi hLi
  refine d8 (x:=i) (λ x hx=>?_) (by simpa using hi) (by rw [hLi]; rfl) (by rw [hset listed i i hsz hi,bA]; rfl)
  have hx':upd (λ i=>listed.getD i false) i x=false:=by
   rw [← hset listed i x hsz hi]
   simpa only [qq] using hx
  rw [(co hx').2]
  rfl
 have key:∀ fuel (listed:Array Bool) a w,listed.size=R.ops.size→(List.range R.ops.size).countP (λ i => !listed.getD i false)≤fuel→Closed R (λ i=>listed.getD i false) →
   listed.getD n false=false→listed.getD (n+1) false=false→R.Inv B w0 (λ i=>listed.getD i false) a w→wpAny P .any R.ops Q fuel listed a w:=by
  intro fuel
  induction fuel with
  | zero =>
   intro listed a w hsz hcnt hcl hn0 hn1 hi
   have:=hpos listed n zo hn0
   omega
  | succ fuel ih =>
   intro listed a w hsz hcnt hcl hn0 hn1 hi
   refine ⟨λ hr=>absurd (hfull listed hsz hr n zo) (by rw [hn0]; decide),λ i hir=>?_⟩
   obtain ⟨h1,h2,h3⟩:=hrd listed i hir
   obtain ⟨o,ho1,ho2,_⟩:=ho i h1
   have hLi:listed.getD i false=false:=by
    simp only [Array.getD,hsz,h1,dite_true] at h2 ⊢
    exact h2
   have hanci:∀ j,(R.anc i).contains j=true→listed.getD j false=true:=by
    intro j hj
    obtain ⟨e,he,hb,hj'⟩:=ho2 j hj
    have hl:=h3 o ho1 e he hb
    rcases hj' with rfl | hj'
    ·exact hl
    ·exact hcl e.on hl j hj'
   have hup:=λ k=>hset listed i k hsz h1
   by_cases hin:i<n
   ·refine step hk (hob i hin) hi hcl hLi hanci _ λ a' w' hi'=>ih _ _ _ (by simpa using hsz) (by have:=hlt listed i hsz h1 hLi; omega) ?_ ?_ ?_ (hi'.congr hup)
    ·intro k hk' j hj
     have hk2:upd (λ i=>listed.getD i false) i k=true:=by rw [← hup]; exact hk'
     show (listed.setIfInBounds i true).getD j false=true
     rw [hup]
     rcases of_upd hk2 with rfl | h4
     ·exact cA _ (hanci j hj)
     ·exact cA _ (hcl k h4 j hj)
    ·rw [hup,cB _ zo]; exact hn0
    ·rw [hup,cB _ zo]; exact hn1
   ·rcases (show i=n∨i=n+1 by omega) with rfl | rfl
    ·have hinv:R.Inv B w0 (λ k=>decide (k<i)) a w:=by
      refine hi.congr λ k=>?_
      by_cases hki:k<i
      ·rw [zw hki]; exact (hanci k (ha1 k hki)).symm
      ·rw [zH hki]
       by_cases hk2:k<R.ops.size
       ·rcases (show k=i∨k=i+1 by omega) with rfl | rfl
        ·exact hn0.symm
        ·exact hn1.symm
       ·have:listed.getD k false=false:=by simp [Array.getD,hsz,hk2]
        exact this.symm
     refine hQ a w hinv _ λ a' w' H=>?_
     have hsz':(listed.setIfInBounds i true).size=R.ops.size:=by simpa using hsz
     have hc':=hlt listed i hsz h1 hLi
     have hn1':(listed.setIfInBounds i true).getD (i+1) false=false:=by rw [hup,cB _ zo]; exact hn1
     have hp':=hpos _ (i+1) zo hn1'
     cases fuel with
     | zero=>omega
     | succ f =>
      refine ⟨λ hr=>absurd (hfull _ hsz' hr (i+1) zo) (by rw [hn1']; decide),λ i' hir'=>?_⟩
      obtain ⟨g1,g2,_⟩:=hrd _ i' hir'
      have hi':i'=i+1:=by
       by_cases hlo:i'≤i
       ·exfalso
        have:(listed.setIfInBounds i true).getD i' false=true:=by
         rw [hup]
         by_cases he:i'=i
         ·subst he; exact bA _ _
         ·exact cA _ (hanci i' (ha1 i' zo))
        simp only [Array.getD,hsz',g1,dite_true] at this g2
        rw [this] at g2
        cases g2
       ·omega
      subst hi'
      refine H _ λ a'' w'' hq=>?_
      have hnone:Region.ready .any R.ops ((listed.setIfInBounds i true).setIfInBounds (i+1) true)=[]:=by
       cases hrr:Region.ready .any R.ops ((listed.setIfInBounds i true).setIfInBounds (i+1) true) with
       | nil=>rfl
       | cons q rest =>
        exfalso
        obtain ⟨q1,q2,_⟩:=hrd _ q (by rw [hrr]; simp)
        have hsz'':((listed.setIfInBounds i true).setIfInBounds (i+1) true).size=R.ops.size:=by simpa using hsz
        have:((listed.setIfInBounds i true).setIfInBounds (i+1) true).getD q false=true:=by
         rw [hset _ (i+1) q hsz' zo]
         by_cases he:q=i+1
         ·subst he; exact bA _ _
         ·refine cA _ ?_
          show (listed.setIfInBounds i true).getD q false=true
          rw [hup]
          by_cases he2:q=i
          ·subst he2; exact bA _ _
          ·exact cA _ (hanci q (ha1 q zo))
        simp only [Array.getD,hsz'',q1,dite_true] at this q2
        rw [this] at q2
        cases q2
      cases f with
      | zero=>exact ⟨hnone,hq⟩
      | succ f=>exact ⟨λ _=>hq,λ j hj=>by rw [hnone] at hj; cases hj⟩
    ·have:=hanci n ha2
     rw [hn0] at this
     cases this
 refine key _ _ a _ (by simp) ?_ ?_ ?_ ?_ ?_
 ·refine qe (xQ) (by simp)
 ·intro i hi
  exfalso
  simp only [Array.getD,qz] at hi
  split at hi <;> simp at hi
 ·simp only [Array.getD,qz]; split <;> simp
 ·simp only [Array.getD,qz]; split <;> simp
 ·have hs:=start h hles
  have hd:R.Inv B w0 (λ _=>false) a w.drew:=⟨hs.lo,hs.defers.grow (Grow.drew w) rfl,hs.size,hs.base.drew,λ x hx h1 h2=>x.2.grow _ _ _ _ (Grow.drew w) (hs.g x hx h1 h2),(λ i y d A _ _ hf=>by cases hf),(λ i d b k c _ hf=>by cases hf),
   λ e he A hA=>(hs.c e he A hA).grow (Grow.drew w),hs.x⟩
  refine Inv.congr hd λ k=>?_
  simp only [Array.getD,qz]
  split <;> simp
end
def cutW (w w':World):World:={ w' with heap:=w'.heap.extract 0 w.heap.size }
theorem cut_at (hs:w.heap.size≤w'.heap.size){k:Nat}(hk:k<w.heap.size):(cutW w w').heap[k]?=w'.heap[k]?:=by
 show (w'.heap.extract 0 w.heap.size)[k]?=_
 rw [Array.getElem?_extract]
 simp
 omega
theorem eV (hs:w.heap.size≤w'.heap.size):(cutW w w').heap.size=w.heap.size:=by
 show (w'.heap.extract 0 w.heap.size).size=_
 simp
 omega
theorem cut_wr {g:Nat}(h:w.grownBy w' (some g)):Wr g w (cutW w w') :=
 ⟨h.os,h.tape,h.output,eV h.size,λ k hk=>by
  by_cases hlt:k<w.heap.size
  ·rw [cut_at h.size hlt]
   exact h.block k hlt (λ e=>hk (by injection e))
  ·rw [Array.getElem?_eq_none (by rw [eV h.size]; omega),Array.getElem?_eq_none zo]⟩
theorem cut_grow {row:Option Nat}(h:w.grownBy w' row):Grow (cutW w w') w' :=
 ⟨rfl,rfl,rfl,by rw [eV h.size]; exact h.size,λ k hk=>by
  rw [eV h.size] at hk
  rw [cut_at h.size hk]⟩
theorem ic (h:w.grownBy w' none):Grow w w':=⟨h.os,h.tape,h.output,h.size,λ k hk=>h.block k hk (by simp)⟩
def RowOk (w:World)(b:Nat)(E:TypeId)(row:Option Nat):Prop:=∀ g,row=some g→b≤g∧∃ c fz,w.heap[g]?=some (.cells c E fz)
theorem DefOk.grown {a a':Act}{b:Nat}{E:TypeId}{row:Option Nat}(h:DefOk w0 a w)(hg:w.grownBy w' row)(hr:RowOk w b E row)(e:a'.defers=a.defers):DefOk w0 a' w' :=
 h.keep e λ D hD=>(hg.block D (Array.getElem?_eq_some_iff.1 hD).1 (λ e=>by
  obtain ⟨_,c,fz,hc⟩:=hr D e.symm
  rw [hc] at hD
  cases hD)).trans hD
theorem VA.grown {A:VA}{B b:Nat}{E:TypeId}{row:Option Nat}(hp:A.p B v w)(hg:w.grownBy w' row)(hr:RowOk w b E row)(hb:B≤b)(hE:E ∉ A.deps):A.p B v w':=by
 cases row with
 | none=>exact A.grow _ _ _ _ (ic hg) hp
 | some g =>
  obtain ⟨h1,c,fz,h2⟩:=hr g rfl
  exact A.grow _ _ _ _ (cut_grow hg) (A.wr _ _ _ _ _ _ _ _ h2 hE (qe hb h1) (cut_wr hg) hp)
theorem As.grown {A:As}{B b:Nat}{E:TypeId}{row:Option Nat}(hp:A.p B cs w)(hg:w.grownBy w' row)(hr:RowOk w b E row)(hb:B≤b)(hE:E ∉ A.deps):A.p B cs w':=by
 cases row with
 | none=>exact A.grow _ _ _ _ (ic hg) hp
 | some g =>
  obtain ⟨h1,c,fz,h2⟩:=hr g rfl
  exact A.grow _ _ _ _ (cut_grow hg) (A.wr _ _ _ _ _ _ _ _ h2 hE (qe hb h1) (cut_wr hg) hp)
def OwnR (b:Nat)(E:TypeId)(m:Nat)(D:List TypeId)(l:List As):VA where
 p B v w:=(∀ A∈l,A.n=m)∧(∀ A∈l,∀ T∈A.deps,T∈D)∧∃ ds,(cat l).p B ds w∧w.ownsRow b E m v l.length ds
 deps:=E::D
 cg:=by
  rintro B v w w' hg ⟨h1,h2,ds,h3,h4,h5⟩
  refine ⟨h1,h2,ds,(cat l).cg _ _ _ _ hg h3,h4,?_⟩
  rcases h5 with h5 | ⟨g,cap,cur,e1,e2,e3,e4⟩
  ·exact .inl h5
  ·exact .inr ⟨g,cap,cur,e1,e2,hg.heap e3,e4⟩
 wr:=by
  rintro B v w w' g c T fz hgc hT hB hW ⟨h1,h2,ds,h3,h4,h5⟩
  simp only [ql,not_or] at hT
  refine ⟨h1,h2,ds,(cat l).wr _ _ _ _ _ _ _ _ hgc (eG h2 hT.2) hB hW h3,h4,?_⟩
  rcases h5 with h5 | ⟨g0,cap,cur,e1,e2,e3,e4⟩
  ·exact .inl h5
  ·refine .inr ⟨g0,cap,cur,e1,e2,?_,e4⟩
   have hne:g0≠g:=by
    rintro rfl
    rw [hgc] at e3
    injection e3 with e3
    injection e3 with _ e3 _
    exact hT.1 e3
   rw [hW.block g0 hne]
   exact e3
theorem own_sl {b:Nat}{E:TypeId}{m:Nat}{l:List As}:Wk (OwnR b E m D l) (SlA E D l).va:=λ B v w ⟨_,h2,ds,h3,h4,h5⟩=>by
 rcases h5 with ⟨rfl,h5⟩ | ⟨g,cap,cur,rfl,e2,e3,e4,e5,e6,e7⟩
 ·refine ⟨[.slice none 0 0],⟨h2,none,0,ds,by rw [h5],by omega,zi _,h3,λ h=>by omega⟩,rfl⟩
 ·refine ⟨[.slice (some ⟨g,0,none⟩) l.length cap],⟨h2,_,cap,ds,rfl,e4,e5,h3,λ _=>⟨g,0,rfl,(Array.getElem?_eq_some_iff.1 e3).1,.inr ⟨_,_,e3⟩,λ j u hu=>?_⟩⟩,rfl⟩
  rw [cell_of_row w g (0+j) cur E _ e3,qB]
  rw [← e7,List.getElem?_take] at hu
  split at hu
  ·simpa using hu
  ·cases hu
theorem gn {b:Nat}{E:TypeId}{m:Nat}{n:Nat}{ds:List Value}(h:w.ownsRow b E m v n ds):RowOk w b E v.ownBlock:=by
 intro g hg
 obtain ⟨_,⟨rfl,_⟩ | ⟨g',cap,cur,rfl,e2,e3,_⟩⟩:=h
 ·cases hg
 ·have:g'=g:=by injection hg
  subst this
  exact ⟨e2,_,_,e3⟩
theorem all2_app {α β:Type}{R':α→β→Prop}{l1 l2:List α}{m1 m2:List β}(h:All2 R' l1 m1)(h':All2 R' l2 m2):All2 R' (l1++l2) (m1++m2):=by
 induction h with
 | nil=>exact h'
 | cons h1 _ ih=>exact .cons h1 ih
theorem cat_app {l l':List As}{ds ds':List Value}(h:(cat l).p B ds w)(h':(cat l').p B ds' w):(cat (l++l')).p B (ds++ds') w:=by
 obtain ⟨ps,rfl,h1⟩:=h
 obtain ⟨ps',rfl,h2⟩:=h'
 exact ⟨ps++ps',by simp,all2_app h1 h2⟩
def VT:VA:=⟨λ _ _ _=>True,[],λ _ _ _ _ _ _=>trivial,λ _ _ _ _ _ _ _ _ _ _ _ _ _=>trivial⟩
theorem St.wkG {B N:Nat}(h:St B w0 N Γ Λ a w){s:Nat}{A A':VA}(k:Nat)(hm:Γ[k]?=some (s,A))(hw:Wk A A'):St B w0 N (Γ.set k (s,A')) Λ a w :=
 ⟨h.lo,h.defers,h.size,h.base,λ x hx=>by
  rcases qI hx with hx | rfl
  ·exact h.vals x hx
  ·exact hw _ _ _ (h.vals _ (qa hm)),h.locs,h.dis⟩
def lesN (Λ:List Lc):List Le:=Λ.map λ l=>⟨l.s,l.T,l.H,none,l.A,none⟩
section
variable {P:Program} {Q:Exit→Act→World→Prop} {B N:Nat} {w0:Bs} {Γ:List (Nat × VA)} {Λ:List Lc} {a:Act} {w:World}
end
theorem i9 (base:Nat)(t ty e:TypeId)(i:TypeInfo)(size:Nat)(ht:P.underlying t=some (.slice e))(hi:P.info? e=some i)
  (v:Value) (n c:Nat) (xs:List Value) (hown:w.ownsRow base e size v n xs):(Builtin.append_ #[t,t] ty #[v,.slice none 0 c]).run P w=.ok v w:=by
 rcases hown.2 with ⟨rfl,rfl⟩ | ⟨g,cap,cur,rfl,_,_,hnc,_⟩
 ·simp [Builtin.append_,run_underlying ht,sizeOf,typeInfo,hi,Builtin.lenOf,Builtin.firstCells]
 ·simp [Builtin.append_,run_underlying ht,sizeOf,typeInfo,hi,Builtin.lenOf,Builtin.firstCells,hnc,storeCells]
theorem cat_len {l:List As}{m:Nat}(hm:∀ A∈l,A.n=m):(cat l).n=l.length*m:=by
 induction l with
 | nil=>simp [cat]
 | cons A l ih =>
  have:=ih λ A' h=>hm A' (zc _ h)
  simp only [cat,qH,xb,zU] at this ⊢
  rw [this,hm A (by simp),xh,jC,xk]
theorem run_ownM {S E T1:TypeId}{m bytes b B:Nat}{D D':List TypeId}{l xs:List As}{v u:Value}{it:TypeInfo}{z:Value}
  (hS:P.underlying S=some (.slice E)) (hi:P.info? E=some it) (hz:it.zero=some z) (hsz:it.size=m) (hby:it.bytes=bytes) (hzs:z.cells.size=m) (hm0:0<m) (hl:l.length+xs.length≤100000000000) (hb6:bytes≤1000)
  (hv:(OwnR b E m D l).p B v w) (hu:(SlA E D' xs).va.p B u w) (hD':∀ T∈D',T∈D) (hED:E ∉ D) (hxm:∀ x∈xs,x.n=m) (hbw:b≤w.heap.size) (hB:B≤b) :
  ∃ v' w',(Builtin.append_ #[S,S] T1 #[v,u]).run P w=.ok v' w'∧(OwnR b E m D (l++xs)).p B v' w'∧w.grownBy w' v.ownBlock∧RowOk w b E v.ownBlock:=by
 obtain ⟨h1,h2,ds,h3,h4⟩:=hv
 obtain ⟨cs,⟨hD,Ad,c,ds1,rfl,_,_,h5,h6⟩,hu'⟩:=hu
 have hu2:u=.slice Ad xs.length c:=hu'
 subst hu2
 have hl1:ds1.length=xs.length*m:=by rw [(cat xs).len _ _ _ h5,cat_len hxm]
 have hro:=gn h4
 have hmx:l.length+xs.length≤maxLen:=by unfold maxLen; omega
 have hbt:(l.length+xs.length)*bytes≤140737488355328:=qe (xj hl hb6) zd
 have fin:∀ v' w',w'.ownsRow b E m v' (l.length+xs.length) (ds++ds1)→w.grownBy w' v.ownBlock→(OwnR b E m D (l++xs)).p B v' w':=λ v' w' r1 r2=>by
  refine ⟨λ A hA=>?_,λ A hA=>?_,ds++ds1,cat_app (As.grown h3 r2 hro hB (eG h2 hED)) (As.grown h5 r2 hro hB (eG (λ A hA T hT=>hD' T (hD A hA T hT)) hED)),by rw [qE]; exact r1⟩
  ·rcases qj.1 hA with hA | hA
   ·exact h1 A hA
   ·exact hxm A hA
  ·rcases qj.1 hA with hA | hA
   ·exact h2 A hA
   ·exact λ T hT=>hD' T (hD A hA T hT)
 have some_case:∀ a:Addr,Ad=some a→(∀ (j:Nat) u,ds1[j]?=some u→w.cell? (a.add j)=some u)→∃ v' w',(Builtin.append_ #[S,S] T1 #[v,.slice Ad xs.length c]).run P w=.ok v' w'∧(OwnR b E m D (l++xs)).p B v' w'∧w.grownBy w' v.ownBlock∧RowOk w b E v.ownBlock:=λ a ha hc=>by
  subst ha
  obtain ⟨v',w',hr,r1,r2,_⟩:=run_append_own (P:=P) w b S T1 E it z m bytes hS hi hz hsz hby hzs hm0 v l.length ds h4 a xs.length c ds1 hl1 hc ((cat xs).one _ _ _ h5) hmx hbt hbw
  exact ⟨v',w',hr,fin v' w' r1 r2,r2,hro⟩
 by_cases hx:0<xs.length
 ·obtain ⟨g1,o1,rfl,_,_,h8⟩:=h6 hx
  exact some_case _ rfl λ j u hj=>by rw [add_k]; exact h8 j u hj
 ·have h0:xs.length=0:=by omega
  have hds0:ds1=[]:=List.length_eq_zero_iff.1 (by rw [hl1,h0,jw])
  cases Ad with
  | some a=>exact some_case a rfl λ j u hj=>by rw [hds0] at hj; simp at hj
  | none =>
   rw [h0]
   refine ⟨v,w,i9 b S T1 E it m hS hi v l.length c ds h4,fin v w ?_ ⟨rfl,rfl,rfl,qf _,λ _ _ _=>rfl⟩,⟨rfl,rfl,rfl,qf _,λ _ _ _=>rfl⟩,hro⟩
   rw [h0,hds0,q8]
   exact h4
section
variable {P:Program} {R:Rg} {Q:Exit→Act→World→Prop} {B:Nat} {w0:Bs} {a:Act} {w:World}
open Rg in
theorem Rg.linK {id:Nat}{n m:Nat}(hsz:R.ops.size=n+m)(hanc:R.anc=λ i=>List.range i)(hk:R.chk=true)(h:St B w0 R.N R.Γ Λ a w)(hles:∀ e∈R.les,e.cr=none→(⟨e.s,e.T,e.H,e.A0⟩:Lc)∈Λ)
  (hob:∀ i,i<n→R.Ob P Q B w0 i) (hQ:∀ a w,R.Inv B w0 (λ k=>decide (k<n)) a w→wpOps P R.ops Q (List.range' n m) a w):(Code.region id R.ops false).wp P Q a w:=by
 refine wp_region ?_
 have key:∀ q k,k+q=n→∀ a w,R.Inv B w0 (λ j=>decide (j<k)) a w→wpOps P R.ops Q (List.range' k (q+m)) a w:=by
  intro q
  induction q with
  | zero =>
   intro k hkm a w hi
   have:k=n:=by omega
   subst this
   rw [qB]
   exact hQ a w hi
  | succ q ih =>
   intro k hkm a w hi
   rw [show q+1+m=(q+m)+1 by omega,List.range'_succ,qG]
   refine step hk (hob k zo) hi ?_ (by simp) ?_ _ λ a' w' hi'=>ih (k+1) zo a' w' (hi'.congr λ j=>?_)
   ·intro i hi j hj
    rw [hanc] at hj
    simp at hi hj ⊢
    omega
   ·intro j hj
    rw [hanc] at hj
    simpa using hj
   ·unfold upd
    by_cases h1:j=k
    ·subst h1; simp
    ·have h2:(j==k)=false:=by simpa using h1
     rw [h2,xc,qF]
     omega
 rw [List.range_eq_range',hsz]
 exact key n 0 zo a w ((start h hles).congr λ j=>by simp)
end
section
variable {P:Program} {Q:Exit→Act→World→Prop} {B N:Nat} {w0:Bs} {Γ:List (Nat × VA)} {Λ:List Lc} {a:Act} {w:World}
open Rg in
theorem go_appM {id:Nat}{ops:Array Oper}{sp:List Sp}(anc:List (List Nat))(n:Nat)(src:List Nat)(i1 i2:Nat){S E T1 T2:TypeId}{s u d e m bytes:Nat}{ps1 ps2:String}{af1 af2:Array Edge}{D D':List TypeId}{l xs:List As}{A2:VA}{it:TypeInfo}{z:Value}
  (hm:P.follows .mixedOrders=true) (h:St B w0 N Γ Λ a w)
  (hob:Obs P Q ⟨ops,N,Γ,lesN Λ,sp,λ i=>anc.getD i []⟩ B w0 0 n) (hn2:ops.size=n+2)
  (hanc:Rg.ancOk ⟨ops,N,Γ,lesN Λ,sp,λ i=>anc.getD i []⟩=true) (hk:Rg.chk ⟨ops,N,Γ,lesN Λ,sp,λ i=>anc.getD i []⟩=true)
  (ha1:(List.range n).all (λ j=>(anc.getD n []).contains j)=true) (ha2:(anc.getD (n+1) []).contains n=true)
  (ho1:ops[n]?=some ⟨some d,.call ⟨.builtin .append,#[.tmp s,.tmp u],#[S,S]⟩,T1,ps1,af1,none⟩) (ho2:ops[n+1]?=some ⟨some e,.assign (.tmp d),T2,ps2,af2,none⟩)
  (hi1:i1<n) (h1:sp[i1]?=some (.v s (OwnR w0.w.heap.size E m D l))) (hi2:i2<n) (h2:sp[i2]?=some (.v u A2)) (hA2:∀ w u,A2.p B u w→Kept w0 w→(SlA E D' xs).va.p B u w)
  (hS:P.underlying S=some (.slice E)) (hi:P.info? E=some it) (hz:it.zero=some z) (hsz:it.size=m) (hby:it.bytes=bytes) (hzs:z.cells.size=m) (hm0:0<m) (hl:l.length+xs.length≤100000000000) (hb6:bytes≤1000)
  (hD':∀ T∈D',T∈D) (hED:E ∉ D) (hxm:∀ x∈xs,x.n=m) (hde:(d != e)=true) (hd:d<N) (he:e<N)
  (hsrc:src.all (λ k=>match Γ[k]? with | some y => !y.2.deps.contains E&&Rg.outG ⟨ops,N,Γ,lesN Λ,sp,λ i=>anc.getD i []⟩ y.1 | none=>false)=true)
  (hΛ:Λ.all (λ l=>l.T != E && !l.A.deps.contains E&&l.s != d&&l.s != e)=true)
  (hQ:∀ a w,St B w0 N ((e,OwnR w0.w.heap.size E m D (l++xs))::src.filterMap (λ k=>Γ[k]?)) Λ a w→Q .normal a w):(Code.region id ops true).wp P Q a w:=by
 have hles0:∀ y∈lesN Λ,y.cr=none∧y.st=none∧(⟨y.s,y.T,y.H,y.A0⟩:Lc)∈Λ:=λ y hy=>by
  obtain ⟨l',hl',rfl⟩:=qo.1 hy
  exact ⟨rfl,rfl,hl'⟩
 refine Rg.draw2 (R:=⟨ops,N,Γ,lesN Λ,sp,λ i=>anc.getD i []⟩) hn2 hm hanc hk h (λ y hy _=>(hles0 y hy).2.2) (λ i hi=>hob.all i zo zo) (λ j hj=>qc.1 ha1 j (by simpa using hj)) ha2 λ a1 w1 hinv K hK=>?_
 have hcl:∀ deps,Rg.clash ⟨ops,N,Γ,lesN Λ,sp,λ i=>anc.getD i []⟩ (λ k=>decide (k<n)) deps=false:=λ deps=>by
  unfold Rg.clash
  rw [xE]
  intro y hy
  rw [(hles0 y hy).2.1]
  simp
 have hv:=hinv.v i1 _ s _ h1 rfl (zw hi1) (hcl _)
 have hu:=hA2 _ _ (hinv.v i2 _ u _ h2 rfl (zw hi2) (hcl _)) hinv.base
 have hB:B≤w0.w.heap.size:=hinv.lo _ (.inl (qf _))
 obtain ⟨v',w',hr,r1,r2,r3⟩:=run_ownM (T1:=T1) hS hi hz hsz hby hzs hm0 hl hb6 hv hu hD' hED hxm hinv.base.size hB
 have hdsz:d<a1.tmps.size:=by rw [hinv.size]; exact hd
 have hesz:e<(a1.put (some d) v').tmps.size:=by rw [size_put,hinv.size]; exact he
 have hne:d≠e:=by simpa using hde
 refine bB (R:=⟨ops,N,Γ,lesN Λ,sp,λ i=>anc.getD i []⟩) ho1 G (bf (w':=w') (v:=v') (by simp [execOp,resolve,invoke,builtin,hr,Result.andThen]) (hK _ _ λ K' hK'=>?_))
 refine bB (R:=⟨ops,N,Γ,lesN Λ,sp,λ i=>anc.getD i []⟩) ho2 G (bf (w':=w') (v:=v') ?_ (hK' _ _ (hQ _ _ ?_)))
 ·have:=aQ a1 d v' hdsz
  simp [execOp,this]
 ·have hother:∀ t,t≠d→t≠e→((a1.put (some d) v').put (some e) v').eval (.tmp t)=a1.eval (.tmp t):=λ t h3 h4=>by
   rw [ak _ _ _ _ h4,ak _ _ _ _ h3]
  have hlc:∀ l'∈Λ,l'.T≠E∧E ∉ l'.A.deps∧l'.s≠d∧l'.s≠e:=λ l' hl'=>by
   have:=qc.1 hΛ l' hl'
   simp only [qi,bne_iff_ne,qq,qv,qn] at this
   exact ⟨this.1.1.1,this.1.1.2,this.1.2,this.2⟩
  have hcur:∀ l'∈Λ,(⟨l'.s,l'.T,l'.H,none,l'.A,none⟩:Le)∈lesN Λ:=λ l' hl'=>qo.2 ⟨l',hl',rfl⟩
  refine ⟨hinv.lo,hinv.defers.grown r2 r3 rfl,by rw [size_put,size_put]; exact hinv.size,?_,?_,?_,?_⟩
  ·exact ⟨r2.os.trans hinv.base.os,r2.tape.trans hinv.base.tape,r2.output.trans hinv.base.output,qe hinv.base.size r2.size,λ k hk hf =>
    (r2.block k (qD hk hinv.base.size) (λ e=>by have:=(r3 k e.symm).1; omega)).trans (hinv.base.block k hk hf)⟩
  ·intro y hy
   rcases ql.1 hy with rfl | hy
   ·show (OwnR w0.w.heap.size E m D (l++xs)).p B (((a1.put (some d) v').put (some e) v').eval (.tmp e)) w'
    rw [aQ _ _ _ hesz]
    exact r1
   ·obtain ⟨k,hk1,hk2⟩:=qW.1 hy
    have hs:=qc.1 hsrc k hk1
    simp only [hk2,qi,qq,qv,qn] at hs
    have hout:∀ q,q<ops.size→Rg.dst ⟨ops,N,Γ,lesN Λ,sp,λ i=>anc.getD i []⟩ q≠some y.1:=λ q hq=>by
     have:=qc.1 hs.2 q (by simpa using hq)
     simpa using this
    have g1:y.1≠d:=λ e1=>hout n zo (by unfold Rg.dst; rw [ho1,e1]; rfl)
    have g2:y.1≠e:=λ e1=>hout (n+1) zo (by unfold Rg.dst; rw [ho2,e1]; rfl)
    rw [hother _ g1 g2]
    exact VA.grown (hinv.g y (qa hk2) (λ q hq hdq=>absurd hdq (hout q hq)) (hcl _)) r2 r3 hB hs.1
  ·intro l' hl'
   obtain ⟨g1,g2,g3,g4⟩:=hlc l' hl'
   obtain ⟨g,cs,e1,e2,e3,e4⟩:=hinv.c _ (hcur l' hl') l'.A rfl
   refine ⟨g,cs,by rw [hother _ g3 g4]; exact e1,e2,?_,As.grown e4 r2 r3 hB g2⟩
   rw [r2.block g (Array.getElem?_eq_some_iff.1 e3).1 (λ e5=>by
    obtain ⟨_,c,fz,e6⟩:=r3 g e5.symm
    rw [e3] at e6
    injection e6 with e6
    injection e6 with _ e6 _
    exact g1 e6)]
   exact e3
  ·intro l1 hl1 l2 hl2 hne'
   obtain ⟨_,_,g3,g4⟩:=hlc l1 hl1
   obtain ⟨_,_,g5,g6⟩:=hlc l2 hl2
   rw [hother _ g3 g4,hother _ g5 g6]
   exact hinv.x _ (hcur l1 hl1) _ (hcur l2 hl2) hne' G rfl
end
theorem Cn.introF {f : FuncId} {fn : Func} {c : Code} {pre : List VA} {post : VA} (hf : P.funcs[f]? = some fn) (hb : fn.body = some c) (hn : (fn.name == "runtime.NumGoroutine") = false) (hsz : pre.length ≤ fn.ntmps)
  (h:∀ (B:Nat) (w0:Bs) (a:Act),NoF w0→St B w0 fn.ntmps (argΓ pre) [] a w0.w→c.wp P (bPost P fn (RQ B w0 post)) a w0.w):Cn P f pre post:=by
 refine ⟨⟨fn,hf,hn,by rw [hb]; rfl⟩,λ B w args hB ha=>(bz hf hb (h B ⟨w,λ _=>False,false⟩ _ (λ _ h=>h.elim) ?_)).mono λ _ _ ⟨v,he,hv,hk⟩=>⟨v,he,hv,hk.grow0⟩⟩
 have hl:=ha.length
 refine ⟨λ g hg=>qe hB (hg.resolve_right λ h=>h),DefOk.nil rfl,?_,Kept.refl _,All2.args ha,(λ l hl=>by cases hl),(λ l hl=>by cases hl)⟩
 simp only [zu,zr,qz]
 omega
theorem free_all {l l':List VA}(h:All2 Free l l'){B B':Nat}(hB:B'≤B):∀ {vs:List Value},All2 (λ (A:VA) x=>A.p B x w) l vs→All2 (λ (A:VA) x=>A.p B' x w) l' vs:=by
 induction h with
 | nil=>intro vs hv; cases hv; exact .nil
 | cons h _ ih=>intro vs hv; cases hv with | cons h1 h2=>exact .cons (h _ _ _ _ hB h1) (ih h2)
theorem iQ {l l':List VA}(h:All2 Free l l'):Free (Tu l) (Tu l'):=λ _ _ _ _ hB ⟨vs,e,hv⟩=>⟨vs,e,free_all h hB hv⟩
def CnI (P:Program)(f:FuncId)(pre:List VA)(mk:Nat→VA):Prop :=
 (∃ fn, P.funcs[f]? = some fn ∧ (fn.name == "runtime.NumGoroutine") = false ∧ fn.body.isNone = false) ∧
 ∀ (B:Nat) (w:World) (args:List Value),B≤w.heap.size→All2 (λ A v=>A.p B v w) pre args →
  Calls P f args.toArray w λ e w'=>∃ v,e=.returned v∧(mk w.heap.size).p B v w'∧Grow w w'
theorem CnI.introF {f : FuncId} {fn : Func} {c : Code} {pre : List VA} {mk : Nat → VA} (hf : P.funcs[f]? = some fn) (hb : fn.body = some c) (hn : (fn.name == "runtime.NumGoroutine") = false) (hsz : pre.length ≤ fn.ntmps)
  (h:∀ (B:Nat) (w0:Bs) (a:Act),(∀ g,¬ w0.F g)→NoF w0→St B w0 fn.ntmps (argΓ pre) [] a w0.w→c.wp P (bPost P fn (RQ B w0 (mk w0.w.heap.size))) a w0.w):CnI P f pre mk:=by
 refine ⟨⟨fn,hf,hn,by rw [hb]; rfl⟩,λ B w args hB ha=>(bz hf hb (h B ⟨w,λ _=>False,false⟩ _ (λ _ h=>h) (λ _ h=>h.elim) ?_)).mono λ _ _ ⟨v,he,hv,hk⟩=>⟨v,he,hv,hk.grow0⟩⟩
 have hl:=ha.length
 refine ⟨λ g hg=>qe hB (hg.resolve_right λ h=>h),DefOk.nil rfl,?_,Kept.refl _,All2.args ha,(λ l hl=>by cases hl),(λ l hl=>by cases hl)⟩
 simp only [zu,zr,qz]
 omega
def p4 (m:MQ)(j:Nat):Rat:=[m.a,m.b,m.c,m.d].getD j 0
def mulQ (m q:MQ):MQ:=⟨m.a*q.a+m.b*q.c,m.a*q.b+m.b*q.d,m.c*q.a+m.d*q.c,m.c*q.b+m.d*q.d⟩
theorem app_frac:∃ it z,Try.prog.info? 27=some it∧it.zero=some z∧it.size=4∧it.bytes=64∧z.cells.size=4:=by
 have h:((Try.prog.info? 27).bind λ it=>it.zero.map λ z=>(it.size,it.bytes,z.cells.size))=some (4,64,4):=by kernel_rfl
 cases hi:Try.prog.info? 27 with
 | none=>rw [hi] at h; simp at h
 | some it =>
  rw [hi] at h
  cases hz:it.zero with
  | none=>simp [hz] at h
  | some z =>
   simp [hz] at h
   exact ⟨it,z,rfl,hz,h.1,h.2.1,h.2.2⟩
theorem sub_self {A:As}:Sub A 0 A:=λ B cs w h=>by
 have hl:=A.len B cs w h
 refine ⟨?_,by omega⟩
 rw [xl,qA zo]
 exact h
def bQ (k:Nat)(r:Rat):Prop:=lz r.num≤k∧lz (r.den:Int)≤k
theorem bQ_mul {c d:Nat}{x y:Rat}(hx:bQ c x)(hy:bQ d y):bQ (c+d) (x*y):=by
 obtain ⟨x1,x2⟩:=hx
 obtain ⟨y1,y2⟩:=hy
 rw [← rat_mul]
 obtain ⟨h1,h2⟩:=dJ (p:=x.num*y.num) (q:=(x.den:Int)*(y.den:Int)) (den_nz x y)
 have h4:=eE x.num y.num
 have h6:=eE x.den y.den
 exact ⟨by omega,by omega⟩
theorem nd_eq (x:Rat):x=(x.num:Rat)/((x.den:Int):Rat):=by rw [← xi]; exact (xW x).symm
theorem den_ne (x:Rat):((x.den:Int):Rat)≠0:=by
 have:=x.den_nz
 intro h
 exact this (by exact_mod_cast h)
section
variable {P:Program} {R:Rg} {Q:Exit→Act→World→Prop} {B i:Nat} {w0:Bs}
end
def EqA (v:Value):As where
 n:=1
 ag:=false
 p _ cs _:=cs=[v]∧v.oneCell'=true
 deps:=[]
 len:=by rintro B cs w ⟨rfl,_⟩; rfl
 one:=by rintro B cs w ⟨rfl,h⟩ c hc; simp at hc; subst hc; exact h
 ag1:=λ _=>rfl
 cg:=λ _ _ _ _ _ h=>h
 wr:=λ _ _ _ _ _ _ _ _ _ _ _ _ h=>h
theorem kt (h:v.oneCell'=true):(EqA v).va.p B v w:=⟨[v],⟨rfl,h⟩,rfl⟩
theorem fT {v u:Value}(h:(EqA v).va.p B u w):u=v:=by
 obtain ⟨cs,⟨rfl,_⟩,h2⟩:=h
 exact h2
theorem St.nm {B N:Nat}(h:St B w0 N Γ Λ a w){s T:Nat}{A:As}(k:Nat)(hm:Λ[k]?=some ⟨s,T,ptrH,A⟩):∃ g,St B w0 N ((s,EqV (ptr g))::Γ) Λ a w:=by
 obtain ⟨g,cs,e,_⟩:=h.locs _ (qa hm)
 refine ⟨g,h.lo,h.defers,h.size,h.base,λ x hx=>?_,h.locs,h.dis⟩
 rcases ql.1 hx with rfl | hx
 ·exact e
 ·exact h.vals x hx
section
variable {P:Program} {R:Rg} {Q:Exit→Act→World→Prop} {B i:Nat} {w0:Bs}
theorem eqs_all {xs:List Operand}{vs:List Value}(hx:HasL R B w0 i xs (vs.map EqV))(av:R.Av B w0 i a w):xs.map a.eval=vs:=by
 induction vs generalizing xs with
 | nil=>cases hx; rfl
 | cons v vs ih =>
  cases hx with
  | cons h1 h2 =>
   rw [qH,ih h2]
   have:_=v:=h1 a w av
   rw [this]
theorem r_mkE {f:FuncId}{xs:List Operand}{vs:List Value}(hx:HasL R B w0 i xs (vs.map EqV)):Wv P Q R B w0 i (.makeFunc (.func f) #[] xs.toArray) (EqA (.func (.func f) #[] vs.toArray)).va :=
 aK λ _ _ _ _ _ a w av=>by
  have e:=eqs_all hx av
  refine ⟨.func (.func f) #[] vs.toArray,w,?_,Grow.refl w,kt rfl⟩
  simp [execOp,Instr.makeFunc,e]
end
structure RE where
 k:Int
 p:RF
 q:RF
 deriving DecidableEq
def REA (x:RE):As:=cat [NumA .u8 x.k,RFA x.p,RFA x.q]
def QEA (c:Nat)(k:Int)(p q:Rat):As:=cat [NumA .u8 k,QA c p,QA c q]
abbrev re0:RE:=⟨0,rf0,rf0⟩
theorem df:Str Try.prog 50 [NumA .u8 0,RFA rf0,RFA rf0] :=
 Str.of (z:=.agg #[.int .u8 0,.bool false,.slice none 0 0,.bool false,.slice none 0 0,.bool false,.slice none 0 0,.bool false,.slice none 0 0]) zk Try.underlying50 zk λ B w=>⟨[[.int .u8 0],[.bool false,.slice none 0 0,.bool false,.slice none 0 0],[.bool false,.slice none 0 0,.bool false,.slice none 0 0]],rfl,.cons rfl (.cons (et B w) (.cons (et B w) .nil))⟩
def elK (k ps qs:Int):Bool:=if k==1 then decide (ps≥0)&&(qs==0) else if k==2 then (qs==0) else if k==3 then decide (ps≥0)&&decide (qs>0) else if k==4 then true else ((k==5)&&(ps==0))&&(qs==0)
def elF (x:RE):Bool:=[x.p,x.q].all okX&&elK x.k (toQ x.p).num.sign (toQ x.q).num.sign
def elQ (k:Int)(p q:Rat):MQ:=if k=1 then ⟨1,p,0,1⟩ else if k=2 then ⟨1,0,0-p,1⟩ else if k=3 then ⟨1,p/q,0,1⟩ else if k=4 then ⟨1,0,0-p*q,1⟩ else ⟨0-1,0-0,0-0,0-1⟩
def elM (x:RE):MQ:=elQ x.k (toQ x.p) (toQ x.q)
def prodQ (xs:List RE):MQ:=xs.foldl (λ m x=>mulQ (elM x) m) ⟨1,0,0,1⟩
def chF (xs:List RE):Int:=if xs.length>4096 then 4 else if xs.all elF then 0 else 1
theorem elF_no {x:RE}(h:(![x.p,x.q].all okX)=true):elF x=false:=by rw [qq] at h; rw [elF,h]; rfl
theorem elF_ok {x:RE}(h:(![x.p,x.q].all okX)=false):[x.p,x.q].all okX=true∧elF x=elK x.k (toQ x.p).num.sign (toQ x.q).num.sign:=by rw [jS] at h; exact ⟨h,by rw [elF,h]; rfl⟩
theorem el_q {x:RE}(h:[x.p,x.q].all okX=true):WkA (REA x) (QEA 2048 x.k (toQ x.p) (toQ x.q)):=by
 simp only [xF,xK,xG,qi] at h
 exact bc (.cons (WkA.refl _) (.cons (qa_x h.1 (qf _)) (.cons (qa_x h.2 (qf _)) .nil)))
theorem upA_re (x:RE):UpA (REA x) (REA x):=dB (.cons (fL _ _) (.cons (eD _) (.cons (eD _) .nil)))
theorem kd1 {k ps qs:Int}(h:(k==1)=true):elK k ps qs=(decide (ps≥0)&&(qs==0)):=by rw [elK,h]; rfl
theorem kd2 {k ps qs:Int}(h1:(k==1)=false)(h:(k==2)=true):elK k ps qs=(qs==0):=by rw [elK,h1,h]; rfl
theorem kd3 {k ps qs:Int}(h1:(k==1)=false)(h2:(k==2)=false)(h:(k==3)=true):elK k ps qs=(decide (ps≥0)&&decide (qs>0)):=by rw [elK,h1,h2,h]; rfl
theorem kd4 {k ps qs:Int}(h1:(k==1)=false)(h2:(k==2)=false)(h3:(k==3)=false)(h:(k==4)=true):elK k ps qs=true:=by rw [elK,h1,h2,h3,h]; rfl
theorem kd5 {k ps qs:Int}(h1:(k==1)=false)(h2:(k==2)=false)(h3:(k==3)=false)(h4:(k==4)=false):elK k ps qs=(((k==5)&&(ps==0))&&(qs==0)):=by rw [elK,h1,h2,h3,h4]; rfl
theorem elMay_c (x:RE):Cn Try.prog 52 [(REA x).va] (Bo (elF x)):=by
 refine Cn.intro Try.func52 G zk nq (λ B w0 a U=>?_)
 have U:=zn [(0,(REA x).va)] [] U
 refine qb<|zg [] [⟨1,50,ptrH,some 0,_,none⟩] [.alc 0,.v 2 _] [.o 1] U (zW 0 G (zv G (a6 aE) o0)) (zz [(2,_)] [O 1 50 _] λ a w U=>?_)
 refine zt<|qb<|zg [η] [] [.adr 5 1 (.some 1) True,.v 6 _,.adr 7 1 (.some 5) True,.v 8 _,.v 9 _,.v 10 _,.v 11 _] [.g 0,.o 6] U (zO 0 G cV (zL 0 0 1 G ar (zO 0 G dY (zL 2 0 2 G ar (zv G (aV (D:=[U32]) (l:=[_,_]) (xs:=[.tmp 6,.tmp 8]) (bN zk) dF zk (n_ok zk) nq nq nq (.p (vq 1 G) (vq 3 G)) G G) (zQ G (checks_c [x.p,x.q] nq) (.o (vq 4 G)) (zv G (fh (vq 5 G)) o0))))))) (zz [(2,_),(11,_)] [O 1 50 _] λ a w U=>?_)
 refine a4<|aa U (zm 1 G) (λ hb0=>?_) (λ hb0=>?_)
 ·refine qb<|zg [η] [] [.v 2 _] [.o 0] U (zv G (a6 aE) o0) (zz [(2,_)] [O 1 50 _] λ a w U=>?_)
  refine a4<|qh<|ac ?_
  refine an ?_ (ae G U (zm 0 G))
  rw [elF_no hb0]; exact aC
 ·obtain ⟨hx,he⟩:=elF_ok hb0
  have U:=St.wkL U 0 rfl (el_q hx)
  refine qk<|zt<|zgd [[],[0],[0,1],[],[3],[0,1,2,3,4],[0,1,2,3,4,5],[0,1,2,3,4,5,6]] [none] [] [.adr 12 1 (.some 1) True,.v 13 _,.v 14 _,.adr 15 1 (.some 5) True,.v 16 _,.v 17 _,.v 3 _,.v 4 _] [.g 0,.o 6,.o 7] a8 U (zO 0 G cV (zL 0 0 1 G ar (zQ G sign_q (.o (vq 1 G)) (zO 0 G dY (zL 3 0 2 G ar (zQ G sign_q (.o (vq 4 G)) (zA 2 G (zA 5 G o0)))))))) zk zk zk zk (zz [(2,_),(3,_),(4,_)] [O 1 50 _] λ a w U=>?_)
  refine zt<|qb<|zg [η] [] [.adr 18 1 (.some 0) True,.v 19 _] [.g 0,.g 1,.g 2,.o 1] U (zO 0 G dn (zL 0 0 0 G ty_48 o0)) (zz [(2,_),(3,_),(4,_),(19,_)] [O 1 50 _] λ a w U=>?_)
  refine a4<|qt<|qb<|zg [η] [] [.v 21 _,.v 20 _] [.g 0,.g 1,.g 2,.g 3,.o 1] U (zv G (bd (gq 3 G) a5) (zA 0 G o0)) (zz [(2,_),(3,_),(4,_),(19,_),(20,_)] [O 1 50 _] λ a w U=>?_)
  refine a4<|aa U (zm 4 G) (λ hb1=>?_) (λ hb1=>?_)
  ·refine qb<|zg [η] [] [.v 22 _,.v 23 _,.v 24 _,.t 25 _,.t 26 _,.v 27 _,.v 2 _] [.g 1,.g 2,.o 6] U (zM 1 G (zv G (dH (vq 0 G) a5) (zv G (a7 (vq 1 G)) (zB 2 G (λ hg=>a7 (gq 2 G)) (zB 2 G (λ hg=>bd (a9 (vq 3 G) hg) a5) (zv G (bi (vq 2 G) (vq 4 G)) (zA 5 G o0))))))) (zz [(3,_),(4,_),(2,_)] [O 1 50 _] λ a w U=>?_)
   refine a4<|qh<|aA ?_
   refine ac ?_
   refine an ?_ (ae G U (zm 2 G))
   rw [he,kd1 hb1]; exact aC
  ·refine qb<|zg [η] [] [.v 29 _,.v 28 _] [.g 0,.g 1,.g 2,.g 3,.o 1] U (zv G (bd (gq 3 G) a5) (zA 0 G o0)) (zz [(2,_),(3,_),(4,_),(19,_),(28,_)] [O 1 50 _] λ a w U=>?_)
   refine a4<|aa U (zm 4 G) (λ hb2=>?_) (λ hb2=>?_)
   ·refine qb<|zg [η] [] [.v 30 _,.v 31 _,.v 2 _] [.g 1,.g 2,.o 2] U (zM 2 G (zv G (bd (vq 0 G) a5) (zA 1 G o0))) (zz [(3,_),(4,_),(2,_)] [O 1 50 _] λ a w U=>?_)
    refine a4<|qh<|aA ?_
    refine ac ?_
    refine an ?_ (ae G U (zm 2 G))
    rw [he,kd2 hb1 hb2]; exact aC
   ·refine qb<|zg [η] [] [.v 33 _,.v 32 _] [.g 0,.g 1,.g 2,.g 3,.o 1] U (zv G (bd (gq 3 G) a5) (zA 0 G o0)) (zz [(2,_),(3,_),(4,_),(19,_),(32,_)] [O 1 50 _] λ a w U=>?_)
    refine a4<|aa U (zm 4 G) (λ hb3=>?_) (λ hb3=>?_)
    ·refine qb<|zg [η] [] [.v 34 _,.v 35 _,.v 36 _,.t 37 _,.t 38 _,.v 39 _,.v 2 _] [.g 1,.g 2,.o 6] U (zM 1 G (zv G (dH (vq 0 G) a5) (zv G (a7 (vq 1 G)) (zB 2 G (λ hg=>a7 (gq 2 G)) (zB 2 G (λ hg=>cZ (a9 (vq 3 G) hg) a5) (zv G (bi (vq 2 G) (vq 4 G)) (zA 5 G o0))))))) (zz [(3,_),(4,_),(2,_)] [O 1 50 _] λ a w U=>?_)
     refine a4<|qh<|aA ?_
     refine ac ?_
     refine an ?_ (ae G U (zm 2 G))
     rw [he,kd3 hb1 hb2 hb3]; exact aC
    ·refine qb<|zg [η] [] [.v 41 _,.v 40 _] [.g 0,.g 1,.g 2,.o 1] U (zv G (bd (gq 3 G) a5) (zA 0 G o0)) (zz [(2,_),(3,_),(4,_),(40,_)] [O 1 50 _] λ a w U=>?_)
     refine a4<|aa U (zm 3 G) (λ hb4=>?_) (λ hb4=>?_)
     ·refine qb<|zg [η] [] [.v 2 _] [.g 1,.g 2,.o 0] U (zv G (a6 aE) o0) (zz [(3,_),(4,_),(2,_)] [O 1 50 _] λ a w U=>?_)
      refine a4<|qh<|aA ?_
      refine ac ?_
      refine an ?_ (ae G U (zm 2 G))
      rw [he,kd4 hb1 hb2 hb3 hb4]; exact aC
     ·refine qk<|ai ?_
      refine zt<|zg [η] [] [.adr 42 1 (.some 0) True,.v 43 _,.v 44 _,.v 45 _,.t 46 _,.t 47 _,.v 48 _,.v 49 _,.t 50 _,.t 51 _,.v 52 _,.v 2 _] [.o 11] U (zO 0 G dn (zL 0 0 0 G ty_48 (zv G (bd (vq 1 G) a5) (zv G (a7 (vq 2 G)) (zB 3 G (λ hg=>a7 (gq 1 G)) (zB 3 G (λ hg=>bd (a9 (vq 4 G) hg) a5) (zv G (bi (vq 3 G) (vq 5 G)) (zv G (a7 (vq 6 G)) (zB 7 G (λ hg=>a7 (gq 2 G)) (zB 7 G (λ hg=>bd (a9 (vq 8 G) hg) a5) (zv G (bi (vq 7 G) (vq 9 G)) (zA 10 G o0)))))))))))) (zz [(2,_)] [O 1 50 _] λ a w U=>?_)
      refine a4<|qh<|an ?_ (ae G U (zm 0 G))
      rw [he,kd5 hb1 hb2 hb3 hb4]; exact aC
theorem all_so {α:Type}{p:α→Bool}{l:List α}{j:Nat}(h:j<l.length)(h2:p l[j]=false):l.all p=false:=jZ.2 ⟨_,qg h,by simp [h2]⟩
theorem all_nx {α:Type}{p:α→Bool}{l:List α}{j:Nat}(h:j<l.length)(h1:(l.take j).all p=true)(h2:p l[j]=true):(l.take (j+1)).all p=true:=by
 rw [qp h,ki,h1]
 simp [h2]
theorem benCheck_c (xs:List RE):Cn Try.prog 29 [(SlA 50 [U32] (xs.map REA)).va] (In (chF xs)):=by
 refine Cn.introW Try.func29 rfl zk nq (.cons (gZ (λ A hA=>by obtain ⟨x,_,rfl⟩:=qo.1 hA; exact upA_re x)).va .nil) (cT _ _).va (λ B w0 a hB0 U=>?_)
 have U:=zn [(0,(SlO 50 [U32] (xs.map REA) True).va)] [] U
 have hl:=slO_len (U.vals (0,(SlO 50 [U32] (xs.map REA) True).va) (zm 0 rfl))
 rw [qd] at hl
 refine qb<|zh [.v 2 _] [.g 0,.o 0] U (zv G (a6 a5) o0) (zz [(0,_),(2,_)] [] λ a w U=>?_)
 refine zt<|qb<|zh [.v 5 _,.v 6 _,.v 7 _] [.g 0,.g 1,.o 2] U (zM 0 G (zv G (bH Try.underlying40 (bj (ap (vq 0 G)))) (zv G (cZ (vq 1 G) a5) o0))) (zz [(0,_),(2,_),(7,_)] [] λ a w U=>?_)
 refine a4<|aa U (zm 2 G) (λ hb0=>?_) (λ hb0=>?_)
 ·have hbig:xs.length>4096:=by rw [qd] at hb0; have:=qw hb0; omega
  refine qb<|zh [.v 2 _] [.g 0,.o 0] U (zv G (a6 a5) o0) (zz [(0,_),(2,_)] [] λ a w U=>?_)
  refine a4<|qh<|ac ?_
  refine an ?_ (ae G U (zm 1 G))
  rw [chF,qy hbig]; exact aC
 ·have hbig:¬ xs.length>4096:=by rw [qd] at hb0; have:=qx hb0; omega
  refine qk<|zt<|qb<|zh [.v 8 _,.v 9 _,.v 10 _] [.g 1,.o 0,.o 1,.o 2] U (zM 0 G (zv G (bH Try.underlying40 (bj (ap (vq 0 G)))) (zv G (a7 a5) o0))) (zz [(2,_),(8,_),(9,_),(10,_)] [] λ a w U=>?_)
  refine a4<|qt ?_
  have U:=St.sel U [1,2,3]
  refine wp_loop_ghost (λ n a w=>∃ j:Nat,(n+j=xs.length∧(xs.take j).all elF=true)∧St B w0 18 [(8,(SlO 50 [U32] (xs.map REA) True).va),(9,In (xs.length:Nat)),(10,In (j:Nat))] [] a w) (xs.length) ?_ ?_
  ·exact ⟨0,⟨by omega,rfl⟩,by rw [qd] at U; exact U⟩
  intro n a w hI
  obtain ⟨j,⟨hn,hno⟩,U⟩:=hI
  refine qb<|zh [.v 11 _] [.g 0,.g 1,.g 2,.o 0] U (zv G (aY (gq 2 G) (gq 1 G)) o0) (zz [(8,_),(9,_),(10,_),(11,_)] [] λ a w U=>?_)
  refine zt<|aa U (zm 3 G) (λ hb1=>?_) (λ hb1=>?_)
  ·have hj:j<xs.length:=by simp at hb1; omega
   refine qk<|zt<|qt<|qb<|zg [] [⟨4,50,ptrH,some 2,_,some (3,_)⟩] [.v 12 _,.v 13 _,.alc 0,.sto 0] [.g 0,.g 1,.g 2] U (zv G (cy sl_40 (cE λ _=>rfl) (bj (ap (gq 0 G))) (gq 2 G) (cb hj)) (zv G (al (vq 0 G) fZ) (zY G (Str.zero df) (zS 1 G fZ o0)))) (zz [(8,_),(9,_),(10,_)] [O 4 50 _] λ a w U=>?_)
   refine zt<|zg [η] [] [.v 14 _,.v 15 _,.v 16 _] [.g 0,.g 1,.g 2,.o 2] U (zl 0 G fZ (zQ G (elMay_c _) (.o (vq 0 G)) (zv G (fh (vq 1 G)) o0))) (zz [(8,_),(9,_),(10,_),(16,_)] [O 4 50 _] λ a w U=>?_)
   refine a4<|aa U (zm 3 G) (λ hb2=>?_) (λ hb2=>?_)
   ·refine qb<|zg [η] [] [.v 2 _] [.g 0,.g 1,.g 2,.o 0] U (zv G (a6 a5) o0) (zz [(8,_),(9,_),(10,_),(2,_)] [O 4 50 _] λ a w U=>?_)
    refine a4<|qh<|aA ?_
    refine ac ?_
    refine ac ?_
    refine aA ?_
    refine ac ?_
    refine an ?_ (ae G U (zm 3 G))
    rw [chF,qm hbig,all_so hj (by simpa using hb2)]; exact aC
   ·refine qk<|ai ?_
    refine a4<|zg [η] [] [.v 17 _,.v 10 _] [.g 0,.g 1,.o 1] U (zv G (aU (gq 2 G) a5 ((wi64 zo zo).trans (by omega:(_:Int)=((j+1:Nat):Int)))) (zv G (a7 (vq 0 G)) o0)) (zz [(8,_),(9,_),(10,_)] [O 4 50 _] λ a w U=>?_)
    refine a4 ?_
    have U:=St.sel U [0,1,2]
    have U:=St.selL U []
    exact ⟨n-1,by omega,j+1,⟨by omega,all_nx hj hno (by simpa using hb2)⟩,U⟩
  ·obtain rfl:j=xs.length:=by simp at hb1; omega
   refine zf<|aj<|aj<|az<|zt<|zh [.v 2 _] [.o 0] U (zv G (a6 a5) o0) (zz [(2,_)] [] λ a w U=>?_)
   refine a4<|qh<|an ?_ (ae G U (zm 0 G))
   rw [qN] at hno; rw [chF,qm hbig,hno]; exact aC
def RepM (b:Nat)(m:MQ):Prop:=∃ n1 n2 n3 n4 D:Int,D≠0∧m.a=(n1:Rat)/(D:Rat)∧m.b=(n2:Rat)/(D:Rat)∧m.c=(n3:Rat)/(D:Rat)∧m.d=(n4:Rat)/(D:Rat)∧lz n1≤b∧lz n2≤b∧lz n3≤b∧lz n4≤b∧lz D≤b
theorem rep_bQ {b:Nat}{m:MQ}(h:RepM b m):bQ b m.a∧bQ b m.b∧bQ b m.c∧bQ b m.d:=by
 obtain ⟨n1,n2,n3,n4,D,hD,e1,e2,e3,e4,h1,h2,h3,h4,h5⟩:=h
 rw [e1,e2,e3,e4,← xi,← xi,← xi,← xi]
 obtain ⟨a1,a2⟩:=dJ (p:=n1) hD
 obtain ⟨b1,b2⟩:=dJ (p:=n2) hD
 obtain ⟨c1,c2⟩:=dJ (p:=n3) hD
 obtain ⟨d1,d2⟩:=dJ (p:=n4) hD
 exact ⟨⟨by omega,by omega⟩,⟨by omega,by omega⟩,⟨by omega,by omega⟩,⟨by omega,by omega⟩⟩
theorem gy {a b c d D E:Rat}(hD:D≠0)(hE:E≠0):a/D*(c/E)+b/D*(d/E)=(a*c+b*d)/(D*E):=by grind
theorem lz_two {c d:Nat}{a b x y:Int}(ha:lz a≤c)(hb:lz b≤c)(hx:lz x≤d)(hy:lz y≤d):lz (a*x+b*y)≤c+d+1:=by
 have h1:=lz_add (a*x) (b*y)
 have h2:=eE a x
 have h3:=eE b y
 omega
theorem rep_mul {c d:Nat}{m q:MQ}(hm:RepM c m)(hq:RepM d q):RepM (c+d+1) (mulQ m q):=by
 obtain ⟨n1,n2,n3,n4,D,hD,e1,e2,e3,e4,h1,h2,h3,h4,h5⟩:=hm
 obtain ⟨k1,k2,k3,k4,E,hE,f1,f2,f3,f4,g1,g2,g3,g4,g5⟩:=hq
 have hDr:(D:Rat)≠0:=λ e=>hD (by exact_mod_cast e)
 have hEr:(E:Rat)≠0:=λ e=>hE (by exact_mod_cast e)
 refine ⟨n1*k1+n2*k3,n1*k2+n2*k4,n3*k1+n4*k3,n3*k2+n4*k4,D*E,jf hD hE,?_,?_,?_,?_,lz_two h1 h2 g1 g3,lz_two h1 h2 g2 g4,lz_two h3 h4 g1 g3,lz_two h3 h4 g2 g4,?_⟩
 ·simp only [mulQ,e1,e2,f1,f3,xM,xL]
  exact gy hDr hEr
 ·simp only [mulQ,e1,e2,f2,f4,xM,xL]
  exact gy hDr hEr
 ·simp only [mulQ,e3,e4,f1,f3,xM,xL]
  exact gy hDr hEr
 ·simp only [mulQ,e3,e4,f2,f4,xM,xL]
  exact gy hDr hEr
 ·have:=eE D E
  omega
theorem rep_of {b:Nat}{m:MQ}(n1 n2 n3 n4 D:Int)(hD:D≠0)(e1:m.a*(D:Rat)=(n1:Rat))(e2:m.b*(D:Rat)=(n2:Rat))(e3:m.c*(D:Rat)=(n3:Rat))(e4:m.d*(D:Rat)=(n4:Rat))(h1:lz n1≤b)(h2:lz n2≤b)(h3:lz n3≤b)(h4:lz n4≤b)(h5:lz D≤b):RepM b m:=by
 have hDr:(D:Rat)≠0:=λ e=>hD (by exact_mod_cast e)
 have key:∀ {x:Rat} {n:Int},x*(D:Rat)=(n:Rat)→x=(n:Rat)/(D:Rat):=λ h=>by rw [← h]; exact (Rat.mul_div_cancel hDr).symm
 exact ⟨n1,n2,n3,n4,D,hD,key e1,key e2,key e3,key e4,h1,h2,h3,h4,h5⟩
theorem den_mul (x:Rat):x*((x.den:Int):Rat)=(x.num:Rat):=by
 have:=nd_eq x
 have hd:=den_ne x
 generalize ((x.den:Int):Rat)=d at *
 generalize (x.num:Rat)=n at *
 grind
theorem lz_0:lz 0=0:=by kernel_rfl
theorem gB:lz 1≤1:=Nat.le_of_ble_eq_true zk
theorem rep_b {k:Nat}{x:Rat}(h:bQ k x):RepM k ⟨1,x,0,1⟩:=rep_of (x.den:Int) x.num 0 (x.den:Int) (x.den:Int) (by have:=x.den_pos; omega) (xB _) (den_mul x) (jv _) (xB _) h.2 h.1 (by rw [lz_0]; omega) h.2 h.2
theorem rep_c {k:Nat}{x:Rat}(h:bQ k x):RepM k ⟨1,0,x,1⟩:=rep_of (x.den:Int) 0 x.num (x.den:Int) (x.den:Int) (by have:=x.den_pos; omega) (xB _) (jv _) (den_mul x) (xB _) h.2 (by rw [lz_0]; omega) h.1 h.2 h.2
theorem rep_1:RepM 1 ⟨1,0,0,1⟩:=rep_of 1 0 0 1 1 zd (by grind) (by grind) (by grind) (by grind) gB (by rw [lz_0]; omega) (by rw [lz_0]; omega) gB gB
theorem rep_f:RepM 1 ⟨0-1,0-0,0-0,0-1⟩:=rep_of (-1) 0 0 (-1) 1 zd (by grind) (by grind) (by grind) (by grind) nq (by rw [lz_0]; omega) (by rw [lz_0]; omega) nq gB
theorem eO {b c:Nat}{m:MQ}(h:RepM b m)(hc:b≤c):RepM c m:=by
 obtain ⟨n1,n2,n3,n4,D,hD,e1,e2,e3,e4,h1,h2,h3,h4,h5⟩:=h
 exact ⟨n1,n2,n3,n4,D,hD,e1,e2,e3,e4,by omega,by omega,by omega,by omega,by omega⟩
theorem bQ_min {k:Nat}{x:Rat}(h:bQ k x):bQ k (0-x):=by
 have e:0-x = -x:=by grind
 rw [e]
 exact ⟨by rw [Rat.neg_num,fR]; exact h.1,by rw [Rat.neg_den]; exact h.2⟩
theorem bQ_div {c d:Nat}{x y:Rat}(hx:bQ c x)(hy:bQ d y)(h0:y≠0):bQ (c+d) (x/y):=by
 rw [← rat_div]
 obtain ⟨h1,h2⟩:=dJ (p:=x.num*(y.den:Int)) (num_nz x h0)
 have h3:=eE x.num (y.den:Int)
 have h4:=eE (x.den:Int) y.num
 obtain ⟨x1,x2⟩:=hx
 obtain ⟨y1,y2⟩:=hy
 exact ⟨by omega,by omega⟩
theorem okX_bQ {x:RF}(h:okX x=true):bQ 2048 (toQ x):=(okX_q h).2
theorem dq {x:RE}(h:elF x=true):[x.p,x.q].all okX=true∧(x.k=1∨x.k=2∨(x.k=3∧toQ x.q≠0)∨x.k=4∨x.k=5):=by
 unfold elF at h
 rw [qi] at h
 refine ⟨h.1,?_⟩
 have h2:=h.2
 by_cases h1:x.k=1
 ·exact .inl h1
 ·by_cases h3:x.k=2
  ·exact .inr (.inl h3)
  ·by_cases h4:x.k=3
   ·rw [kd3 (by simpa using h1) (by simpa using h3) (by simpa using h4),qi] at h2
    refine .inr (.inr (.inl ⟨h4,λ e=>?_⟩))
    rw [e] at h2
    have:=qw h2.2
    exact absurd this zd
   ·by_cases h5:x.k=4
    ·exact .inr (.inr (.inr (.inl h5)))
    ·rw [kd5 (by simpa using h1) (by simpa using h3) (by simpa using h4) (by simpa using h5)] at h2
     simp only [qi,zX] at h2
     exact .inr (.inr (.inr (.inr h2.1.1)))
theorem el_rep {x:RE}(h:elF x=true):RepM 4096 (elM x):=by
 obtain ⟨hx,hk⟩:=dq h
 simp only [xF,xK,xG,qi] at hx
 have bp:=okX_bQ hx.1
 have bq:=okX_bQ hx.2
 unfold elM
 rcases hk with hk | hk | ⟨hk,h0⟩ | hk | hk <;> rw [hk]
 ·exact eO (rep_b bp) zd
 ·exact eO (rep_c (bQ_min bp)) zd
 ·exact rep_b (bQ_div bp bq h0)
 ·exact rep_c (bQ_min (bQ_mul bp bq))
 ·exact eO rep_f zd
theorem prod_nx {xs:List RE}{j:Nat}(h:j<xs.length):prodQ (xs.take (j+1))=mulQ (elM xs[j]) (prodQ (xs.take j)):=by
 rw [qp h]
 unfold prodQ
 rw [jX]
 rfl
theorem prod_rep {xs:List RE}(h:xs.all elF=true):∀ j,j≤xs.length→RepM (1+4097*j) (prodQ (xs.take j))
 | 0,_=>rep_1
 | j+1,hj=>by
  rw [prod_nx zo]
  exact eO (rep_mul (el_rep (qc.1 h _ (qg zo))) (prod_rep h j zo)) zo
theorem qa_bQ {k k':Nat}{x:Rat}(h:bQ k' x):WkA (QA k x) (QA k' x):=qaA.trans (qa_of h.1 h.2)
theorem ch_ok {xs:List RE}(h:chF xs=0):xs.length≤4096∧xs.all elF=true:=by
 unfold chF at h
 by_cases h1:xs.length>4096
 ·rw [qy h1] at h; exact absurd h zd
 ·rw [qm h1] at h
  cases h2:xs.all elF with
  | true=>exact ⟨by omega,rfl⟩
  | false=>rw [h2] at h; exact absurd h zd
end Go.Proofs.Ytlakjmncfooodaa
