import Derived.Test.YtedfcalhhldijaaGreatDoorRwAi
set_option linter.all false
set_option maxRecDepth 100000
namespace Go.Proofs.YtedfcalhhldijaaGreatDoor
open Go Go.RowKit
variable {w:World}{B:Nat}{a:Act}{v:Value}{T:TypeId}{w0:Bs}{Γ:List (Nat × VA)}{Λ:List Lc}{ps:String}{af:Array Edge}{vr:Value}{H:Hd}{cs:List Value}{w':World}{P:Program}{D:List TypeId}
section
open Rg
variable {P:Program} {Q:Exit→Act→World→Prop} {B N:Nat} {w0:Bs} {Γ:List (Nat × VA)} {Λ:List Lc} {a:Act} {w:World}
theorem Ge {R:Rg}{n:Nat}{L:Nat→Bool}(hL:∀ i,n≤i→L i=false)(hles:∀ l'∈Λ,∃ st,(⟨l'.s,l'.T,l'.H,none,l'.A,st⟩:Le)∈R.les)(hles2:∀ y∈R.les,∀ i A,y.st=some (i,A)→n≤i)(hinv:R.Inv B w0 L a w)(src:List Src)
  (hsrc:src.all (λ s=>match s with | .g k=>(match R.Γ[k]? with | some x=>Rg.outG R x.1 | none=>false) | .o i=>L i)=true):St B w0 R.N (src.filterMap (takeS R)) Λ a w:=by
 have hcl:∀ deps,Rg.clash R L deps=false:=λ deps=>by
  unfold Rg.clash
  rw [xh]
  intro y hy
  cases U:y.st with
  | none=>simp
  | some x =>
   obtain ⟨i,B'⟩:=x
   have:=hles2 y hy i B' U
   have hno:=hL i zo
   simp [hno]
 have hcur:∀ y∈R.les,y.cr=none→Rg.cur L y=some y.A0:=λ y hy h0=>by
  unfold Rg.cur
  rw [h0]
  simp only [Rg.crOk,if_true]
  cases U:y.st with
  | none=>rfl
  | some x =>
   obtain ⟨i,B'⟩:=x
   have:=hles2 y hy i B' U
   have hno:=hL i zo
   simp [hno]
 refine ⟨hinv.lo,hinv.defers,hinv.size,hinv.base,λ x hx=>?_,λ l' hl'=>?_,λ l1 h1 l2 h2 hne=>?_⟩
 rotate_left
 ·obtain ⟨st,hy⟩:=hles l' hl'
  exact hinv.c _ hy l'.A (hcur _ hy G)
 ·obtain ⟨s1,hy1⟩:=hles l1 h1
  obtain ⟨s2,hy2⟩:=hles l2 h2
  exact hinv.x _ hy1 _ hy2 hne (by rw [hcur _ hy1 rfl]; rfl) (by rw [hcur _ hy2 rfl]; rfl)
 obtain ⟨s,hs1,hs2⟩:=qQ.1 hx
 have ho:=qd.1 hsrc s hs1
 cases s with
 | g k =>
  simp only [takeS] at hs2
  simp only [hs2] at ho
  refine hinv.g x (qa hs2) (λ q hq hdq=>?_) (hcl _)
  cases h2:R.ops[q]? with
  | none=>unfold Rg.dst at hdq; rw [h2] at hdq; cases hdq
  | some v =>
   have:=qd.1 ho q (by simpa using (Array.getElem?_eq_some_iff.1 h2).1)
   exact absurd hdq (by simpa using this)
 | o i =>
  simp only [takeS] at hs2
  cases hy:R.sp[i]? with
  | none=>rw [hy] at hs2; cases hs2
  | some y =>
   rw [hy] at hs2
   exact hinv.v i y x.1 x.2 hy hs2 ho (hcl _)
end
section
variable {P:Program} {R:Rg} {Q:Exit→Act→World→Prop} {B:Nat} {w0:Bs} {a:Act} {w:World}
open Rg in
theorem Rg.drawJ {id:Nat}{n m:Nat}(z:Nat)(hz:z<n)(hsz2:R.ops.size=n+m)(hm0:0<m)(hm:P.follows .mixedOrders=true)(hanc:ancOk R=true)(J:(Nat→Bool)→Act→World→Prop)(hJc:∀ {L L':Nat→Bool} {a:Act} {w:World},J L a w→(∀ k,L' k=L k)→J L' a w)(hJ0:J (λ _=>false) a w.drew)
  (hJs:∀ i,i<n→∀ (L:Nat→Bool) (a:Act) (w:World),J L a w→Closed R L→L i=false→(∀ j,(R.anc i).contains j=true→L j=true)→∀ K:Act→World→Prop,(∀ a' w',J (upd L i) a' w'→K a' w')→wpOp P R.ops Q i K a w) (ha0:∀ j,j<n→j≠z→(R.anc n).contains j=true) (ha1:∀ i,n<i→i<n+m→∀ j,j<i→(R.anc i).contains j=true)
  (hQ:∀ a w,J (λ k=>decide (k<n)) a w→wpOps P R.ops Q (List.range' n m) a w) (hQz:∀ a w,J (λ k=>decide (k<n)&&k != z) a w→wpOps P R.ops Q (n::z::List.range' (n+1) (m-1)) a w) :
  (Code.region id R.ops true).wp P Q a w:=by
 refine wp_region_any hm ?_
 have ho:∀ i,i<R.ops.size→∃ o:Oper,R.ops[i]?=some o∧(∀ j,(R.anc i).contains j=true→∃ e∈o.after,Region.binds .any e=true∧(e.on=j∨(R.anc e.on).contains j=true)) ∧
   ∀ e∈o.after,Region.binds .any e=true→e.on<i:=by
  intro i hi
  have:=qd.1 hanc i (by simpa using hi)
  cases hoi:R.ops[i]? with
  | none=>rw [hoi] at this; cases this
  | some o =>
   rw [hoi] at this
   simp only [ql] at this
   refine ⟨o,rfl,λ j hj=>?_,λ e he hb=>?_⟩
   ·have hh:=qd.1 this.1 j (by simpa using hj)
    obtain ⟨e,he,h1⟩:=ju.1 hh
    simp only [ql,zw,xc] at h1
    exact ⟨e,he,h1.1,h1.2⟩
   ·have hh:=zH.1 this.2 e he
    simpa [hb] using hh
 have hrd:∀ (listed:Array Bool) i,i∈Region.ready .any R.ops listed→i<R.ops.size∧listed.getD i true=false∧∀ o,R.ops[i]?=some o→∀ e∈o.after,Region.binds .any e=true→listed.getD e.on false=true:=by
  intro listed i hi
  unfold Region.ready at hi
  obtain ⟨h1,h2⟩:=zE.1 hi
  simp only [ql,qv] at h2
  refine ⟨by simpa using h1,h2.1,λ o hoi e he hb=>?_⟩
  have h3:=h2.2
  rw [hoi] at h3
  simp only [qL,xf] at h3
  have:=zH.1 h3 e he
  simpa [hb] using this
 have hset:∀ (listed:Array Bool) (i k:Nat),listed.size=R.ops.size→i<R.ops.size→(listed.setIfInBounds i true).getD k false=upd (λ i=>listed.getD i false) i k:=by
  intro listed i k hsz hi
  unfold upd
  by_cases hki:k=i
  ·subst hki
   simp [hsz,hi]
  ·simp [hki,Array.getElem?_setIfInBounds_ne (λ e=>hki e.symm)]
 have hpos:∀ (listed:Array Bool) (i:Nat),i<R.ops.size→listed.getD i false=false→0<(List.range R.ops.size).countP (λ k => !listed.getD k false):=λ listed i hi hl =>
  jj.2 ⟨i,by simpa using hi,by simp only [hl]; rfl⟩
 have hlt:∀ (listed:Array Bool) (i:Nat),listed.size=R.ops.size→i<R.ops.size→listed.getD i false=false→(List.range R.ops.size).countP (λ k => !(listed.setIfInBounds i true).getD k false)<(List.range R.ops.size).countP (λ k => !listed.getD k false):=by
  intro listed i hsz hi hLi
  refine dP (x:=i) (λ x hx=>?_) (by simpa using hi) (by rw [hLi]; rfl) (by rw [hset listed i i hsz hi,bP]; rfl)
  have hx':upd (λ i=>listed.getD i false) i x=false:=by
   rw [← hset listed i x hsz hi]
   simpa only [qv] using hx
  rw [(d3 hx').2]
  rfl
 have hfull:∀ (listed:Array Bool),listed.size=R.ops.size→Region.ready .any R.ops listed=[]→∀ k,k<R.ops.size→listed.getD k false=true:=by
  intro listed hsz hr k
  induction k using Nat.strongRecOn with
  | _ k ih =>
   intro hkn
   cases hl:listed.getD k false with
   | true=>rfl
   | false =>
    exfalso
    obtain ⟨x,ho1,_,ho3⟩:=ho k hkn
    have:k∈Region.ready .any R.ops listed:=by
     unfold Region.ready
     refine zE.2 ⟨by simpa using hkn,?_⟩
     have h0:listed.getD k true=false:=by
      simp only [Array.getD,hsz,hkn,dite_true] at hl ⊢
      exact hl
     rw [h0,ho1]
     simp only [jq,jX,qL,xf]
     refine zH.2 λ e he=>?_
     cases hb:Region.binds .any e with
     | false=>rfl
     | true=>simpa using ih e.on (ho3 e he hb) (ze (ho3 e he hb) hkn)
    rw [hr] at this
    cases this
 have hancL:∀ (listed:Array Bool) i,Closed R (λ i=>listed.getD i false)→i∈Region.ready .any R.ops listed→∀ j,(R.anc i).contains j=true→listed.getD j false=true:=by
  intro listed i hcl hir j hj
  obtain ⟨h1,h2,h3⟩:=hrd listed i hir
  obtain ⟨x,ho1,ho2,_⟩:=ho i h1
  obtain ⟨e,he,hb,hj'⟩:=ho2 j hj
  have hl:=h3 x ho1 e he hb
  rcases hj' with rfl | hj'
  ·exact hl
  ·exact hcl e.on hl j hj'
 have hclN:∀ (listed:Array Bool) i,listed.size=R.ops.size→Closed R (λ i=>listed.getD i false)→i∈Region.ready .any R.ops listed→Closed R (λ k=>(listed.setIfInBounds i true).getD k false):=by
  intro listed i hsz hcl hir k hk' j hj
  obtain ⟨h1,_,_⟩:=hrd listed i hir
  have hk2:upd (λ i=>listed.getD i false) i k=true:=by rw [← hset listed i k hsz h1]; exact hk'
  show (listed.setIfInBounds i true).getD j false=true
  rw [hset listed i j hsz h1]
  rcases nT hk2 with rfl | h4
  ·exact cA _ (hancL listed k hcl hir j hj)
  ·exact cA _ (hcl k h4 j hj)
 have tail:∀ q k,k+q=n+m→n≤k→∀ fuel (listed:Array Bool) a w,listed.size=R.ops.size→(List.range R.ops.size).countP (λ i => !listed.getD i false)≤fuel→Closed R (λ i=>listed.getD i false) →
   (∀ j,j<k→listed.getD j false=true)→(∀ j,k≤j→j<n+m→listed.getD j false=false)→wpOps P R.ops Q (List.range' k q) a w→wpAny P .any R.ops Q fuel listed a w:=by
  intro q
  induction q with
  | zero =>
   intro k hkq hnk fuel listed a w hsz hcnt hcl hall _ hwp
   have hr:Region.ready .any R.ops listed=[]:=by
    cases hrr:Region.ready .any R.ops listed with
    | nil=>rfl
    | cons i rest =>
     obtain ⟨h1,h2,_⟩:=hrd listed i (by rw [hrr]; simp)
     have:=hall i zo
     simp only [Array.getD,hsz,h1,dite_true] at h2 this
     rw [h2] at this
     cases this
   cases fuel with
   | zero=>exact ⟨hr,hwp⟩
   | succ fuel=>exact ⟨λ _=>hwp,λ i hir=>by rw [hr] at hir; cases hir⟩
  | succ q ih =>
   intro k hkq hnk fuel listed a w hsz hcnt hcl hall hnone hwp
   have hLk:listed.getD k false=false:=hnone k (qi _) zo
   have hp:=hpos listed k zo hLk
   cases fuel with
   | zero=>omega
   | succ fuel =>
    refine ⟨λ hr=>absurd (hfull listed hsz hr k zo) (by rw [hLk]; decide),λ i hir=>?_⟩
    obtain ⟨h1,h2,h3⟩:=hrd listed i hir
    have hik:i=k:=by
     by_cases e:i=k
     ·exact e
     ·exfalso
      by_cases hlt':i<k
      ·have:=hall i hlt'
       simp only [Array.getD,hsz,h1,dite_true] at h2 this
       rw [h2] at this
       cases this
      ·have:=hancL listed i hcl hir k (ha1 i zo zo k zo)
       rw [hLk] at this
       cases this
    subst hik
    rw [List.range'_succ,qA] at hwp
    refine wpOp_mono (λ a' w' hr=>ih (i+1) zo zo fuel _ a' w' (by simpa using hsz) ?_ (hclN listed i hsz hcl hir) (λ j hj=>?_) (λ j hj hj2=>?_) hr) hwp
    ·have:=hlt listed i hsz h1 hLk
     omega
    ·rw [hset listed i j hsz h1]
     by_cases e:j=i
     ·rw [e]; exact bP _ _
     ·exact cA _ (hall j zo)
    ·rw [hset listed i j hsz h1,cH _ zo]
     exact hnone j zo hj2
 have tailz:∀ fuel (listed:Array Bool) a w,listed.size=R.ops.size→(List.range R.ops.size).countP (λ i => !listed.getD i false)≤fuel→Closed R (λ i=>listed.getD i false) →
   (∀ j,j<n→j≠z→listed.getD j false=true)→listed.getD z false=false→listed.getD n false=true→(∀ j,n+1≤j→j<n+m→listed.getD j false=false)→wpOps P R.ops Q (z::List.range' (n+1) (m-1)) a w→wpAny P .any R.ops Q fuel listed a w:=by
  intro fuel listed a w hsz hcnt hcl hall hzf hnt hnone hwp
  have hp:=hpos listed z zo hzf
  cases fuel with
  | zero=>omega
  | succ fuel =>
   refine ⟨λ hr=>absurd (hfull listed hsz hr z zo) (by rw [hzf]; decide),λ i hir=>?_⟩
   obtain ⟨h1,h2,h3⟩:=hrd listed i hir
   have hLi:listed.getD i false=false:=by
    simp only [Array.getD,hsz,h1,dite_true] at h2 ⊢
    exact h2
   have hiz:i=z:=by
    by_cases e:i=z
    ·exact e
    ·exfalso
     by_cases hlt':i<n
     ·rw [hall i hlt' e] at hLi; cases hLi
     ·by_cases e2:i=n
      ·rw [e2,hnt] at hLi; cases hLi
      ·have:=hancL listed i hcl hir z (ha1 i zo zo z zo)
       rw [hzf] at this
       cases this
   subst hiz
   rw [qA] at hwp
   refine wpOp_mono (λ a' w' hr=>tail (m-1) (n+1) zo zo fuel _ a' w' (by simpa using hsz) ?_ (hclN listed i hsz hcl hir) (λ j hj=>?_) (λ j hj hj2=>?_) hr) hwp
   ·have:=hlt listed i hsz h1 hLi
    omega
   ·rw [hset listed i j hsz h1]
    by_cases e:j=i
    ·rw [e]; exact bP _ _
    ·by_cases e2:j=n
     ·rw [e2]; exact cA _ hnt
     ·exact cA _ (hall j zo e)
   ·rw [hset listed i j hsz h1,cH _ zo]
    exact hnone j zo hj2
 have key:∀ fuel (listed:Array Bool) a w,listed.size=R.ops.size→(List.range R.ops.size).countP (λ i => !listed.getD i false)≤fuel→Closed R (λ i=>listed.getD i false) →
   (∀ j,n≤j→j<n+m→listed.getD j false=false)→J (λ i=>listed.getD i false) a w→wpAny P .any R.ops Q fuel listed a w:=by
  intro fuel
  induction fuel with
  | zero =>
   intro listed a w hsz hcnt hcl hn0 hi
   have:=hpos listed n zo (hn0 n (qi _) zo)
   omega
  | succ fuel ih =>
   intro listed a w hsz hcnt hcl hn0 hi
   have hn00:=hn0 n (qi _) zo
   by_cases hdone:∀ j,j<n→listed.getD j false=true
   ·refine tail m n G (qi _) (fuel+1) listed a w hsz hcnt hcl hdone hn0 (hQ a w (hJc hi λ k=>?_))
    by_cases hkn:k<n
    ·rw [hdone k hkn]; simp [hkn]
    ·by_cases hkm:k<n+m
     ·rw [hn0 k zo hkm]; simp [hkn]
     ·have:listed.getD k false=false:=by simp [Array.getD,hsz,hsz2,hkm]
      rw [this]; simp [hkn]
   ·refine ⟨λ hr=>absurd (hfull listed hsz hr n zo) (by rw [hn00]; decide),λ i hir=>?_⟩
    obtain ⟨h1,h2,h3⟩:=hrd listed i hir
    have hLi:listed.getD i false=false:=by
     simp only [Array.getD,hsz,h1,dite_true] at h2 ⊢
     exact h2
    by_cases hin:i<n
    ·refine hJs i hin _ _ _ hi hcl hLi (hancL listed i hcl hir) _ λ a' w' hi'=>ih _ _ _ (by simpa using hsz) ?_ (hclN listed i hsz hcl hir) ?_ (hJc hi' λ k=>hset listed i k hsz h1)
     ·have:=hlt listed i hsz h1 hLi
      omega
     ·intro j hj hj2
      rw [hset listed i j hsz h1,cH _ zo]
      exact hn0 j hj hj2
    ·by_cases hgt:n<i
     ·exact absurd (λ j hj=>hancL listed i hcl hir j (ha1 i hgt zo j zo)) hdone
     ·have hin':i=n:=by omega
      have hjs:∀ j,j<n→j≠z→listed.getD j false=true:=λ j hj hne=>hancL listed i hcl hir j (by rw [hin']; exact ha0 j hj hne)
      have hzf:listed.getD z false=false:=by
       cases hh:listed.getD z false with
       | false=>rfl
       | true=>exact absurd (λ j hj=>if e:j=z then e▸hh else hjs j hj e) hdone
      have hwp:=hQz a w (hJc hi λ k=>by
       by_cases hkn:k<n
       ·by_cases hkz:k=z
        ·subst hkz; rw [hzf]; simp
        ·rw [hjs k hkn hkz]; simp [hkn,hkz]
       ·by_cases hkm:k<n+m
        ·rw [hn0 k zo hkm]; simp [hkn]
        ·have:listed.getD k false=false:=by simp [Array.getD,hsz,hsz2,hkm]
         rw [this]; simp [hkn])
      rw [qA] at hwp
      rw [hin']
      rw [hin'] at hir hLi h1
      refine wpOp_mono (λ a' w' hr=>tailz fuel _ a' w' (by simpa using hsz) ?_ (hclN listed n hsz hcl hir) (λ j hj hne=>?_) ?_ ?_ (λ j hj hj2=>?_) hr) hwp
      ·have:=hlt listed n hsz h1 hLi
       omega
      ·rw [hset listed n j hsz h1]; exact cA _ (hjs j hj hne)
      ·rw [hset listed n z hsz h1,cH _ zo]; exact hzf
      ·rw [hset listed n n hsz h1]; exact bP _ _
      ·rw [hset listed n j hsz h1,cH _ zo]; exact hn0 j zo hj2
 refine key _ _ a _ (by simp) ?_ ?_ ?_ ?_
 ·refine qe (ja) (by simp)
 ·intro i hi
  exfalso
  simp only [Array.getD,qJ] at hi
  split at hi <;> simp at hi
 ·intro j hj hj2
  simp only [Array.getD,qJ]
  split <;> simp
 ·refine hJc hJ0 λ k=>?_
  simp only [Array.getD,qJ]
  split <;> simp
open Rg in
theorem Rg.drawZ {id:Nat}{n m:Nat}(z:Nat)(hz:z<n)(hsz2:R.ops.size=n+m)(hm0:0<m)(hm:P.follows .mixedOrders=true)(hanc:ancOk R=true)(hk:R.chk=true)(h:St B w0 R.N R.Γ Λ a w)(hles:∀ e∈R.les,e.cr=none→(⟨e.s,e.T,e.H,e.A0⟩:Lc)∈Λ)
  (hob:∀ i,i<n→R.Ob P Q B w0 i) (ha0:∀ j,j<n→j≠z→(R.anc n).contains j=true) (ha1:∀ i,n<i→i<n+m→∀ j,j<i→(R.anc i).contains j=true)
  (hQ:∀ a w,R.Inv B w0 (λ k=>decide (k<n)) a w→wpOps P R.ops Q (List.range' n m) a w) (hQz:∀ a w,R.Inv B w0 (λ k=>decide (k<n)&&k != z) a w→wpOps P R.ops Q (n::z::List.range' (n+1) (m-1)) a w) :
  (Code.region id R.ops true).wp P Q a w:=by
 have hs:=start h hles
 have hd:R.Inv B w0 (λ _=>false) a w.drew:=⟨hs.lo,hs.defers.grow (Grow.drew w) rfl,hs.size,hs.base.drew,λ x hx h1 h2=>x.2.grow _ _ _ _ (Grow.drew w) (hs.g x hx h1 h2),(λ i y d A _ _ hf=>by cases hf),(λ i d b k c _ hf=>by cases hf),
  λ e he A hA=>(hs.c e he A hA).grow (Grow.drew w),hs.x⟩
 exact Rg.drawJ z hz hsz2 hm0 hm hanc (λ L a w=>R.Inv B w0 L a w) (λ h hk'=>h.congr hk') hd (λ i hi L a w hJ hcl hL ha K hK=>step hk (hob i hi) hJ hcl hL ha K hK) ha0 ha1 hQ hQz
end
section
open Rg
variable {P:Program} {Q:Exit→Act→World→Prop} {B N:Nat} {w0:Bs} {Γ:List (Nat × VA)} {Λ:List Lc} {a:Act} {w:World}
theorem BC {id:Nat}{ops:Array Oper}{sp:List Sp}(anc:List (List Nat))(n m e j z:Nat)(A:As)(src srcz:List Src)(hmx:P.follows .mixedOrders=true)
  (h:St B w0 N Γ Λ a w) (hob:Obs P Q ⟨ops,N,Γ,lesS Λ e j A,sp,λ i=>anc.getD i []⟩ B w0 0 n) (hsz:ops.size=n+m) (hm:0<m) (hj:n≤j) (hz:z<n) (hanc:Rg.ancOk ⟨ops,N,Γ,lesS Λ e j A,sp,λ i=>anc.getD i []⟩=true)
  (ha0:(List.range n).all (λ j=>j==z || (anc.getD n []).contains j)=true) (hall:∀ i,n+1≤i→i<n+1+(m-1)→∀ j,j<i→(anc.getD i []).contains j=true) (hk:Rg.chk ⟨ops,N,Γ,lesS Λ e j A,sp,λ i=>anc.getD i []⟩=true)
  (hsrc:src.all (λ s=>match s with | .g k=>(match Γ[k]? with | some x=>Rg.outG ⟨ops,N,Γ,lesS Λ e j A,sp,λ i=>anc.getD i []⟩ x.1 | none=>false) | .o i=>decide (i<n))=true)
  (hsrcz:srcz.all (λ s=>match s with | .g k=>(match Γ[k]? with | some x=>Rg.outG ⟨ops,N,Γ,lesS Λ e j A,sp,λ i=>anc.getD i []⟩ x.1 | none=>false) | .o i=>decide (i<n)&&i != z)=true)
  (hQ:∀ a' w',St B w0 N (src.filterMap (takeS ⟨ops,N,Γ,lesS Λ e j A,sp,λ i=>anc.getD i []⟩)) Λ a' w'→wpOps P ops Q (List.range' n m) a' w')
  (hQz:∀ a' w',St B w0 N (srcz.filterMap (takeS ⟨ops,N,Γ,lesS Λ e j A,sp,λ i=>anc.getD i []⟩)) Λ a' w'→wpOps P ops Q (n::z::List.range' (n+1) (m-1)) a' w'):(Code.region id ops true).wp P Q a w:=by
 have hl1:∀ l'∈Λ,∃ st,(⟨l'.s,l'.T,l'.H,none,l'.A,st⟩:Le)∈lesS Λ e j A:=λ l' hl'=>by
  obtain ⟨j',hj'⟩:=List.getElem?_of_mem hl'
  exact ⟨_,qq.2 ⟨(l',j'),qZ.2 hj',rfl⟩⟩
 have hl2:∀ y∈lesS Λ e j A,∀ i A',y.st=some (i,A')→n≤i:=λ y hy i B' h1=>by have:=(ej y hy).2.2 i B' h1; omega
 refine Rg.drawZ (R:=⟨ops,N,Γ,lesS Λ e j A,sp,λ i=>anc.getD i []⟩) (m:=m) z hz hsz hm hmx hanc hk h (λ y hy _=>(ej y hy).2.1) (λ i hi=>hob.all i zo zo) (λ j hj hne=>?_) (λ i h1 h2 j hj=>hall i zo zo j hj) (λ a1 w1 hinv=>?_) λ a1 w1 hinv=>?_
 ·have:=qd.1 ha0 j (by simpa using hj)
  simpa [hne] using this
 ·exact hQ a1 w1 (iX hl1 hl2 hinv src hsrc)
 ·exact hQz a1 w1 (Ge (n:=n) (λ i hi=>by simp [show ¬ i<n by omega]) hl1 hl2 hinv srcz hsrcz)
theorem Fx {ops:Array Oper}{i:Nat}{K:Act→World→Prop}{d u:Nat}{T':TypeId}{A:VA}(ku:Nat)(ho:ops[i]?=some ⟨some d,.move (.tmp u),T',ps,af,none⟩)(h:St B w0 N Γ Λ a w)
  (hu:Γ[ku]?=some (u,A)) (hd:d<N) (hΓ:Γ.all (λ x=>x.1 != d)=true) (hΛ:Λ.all (λ l=>l.s != d)=true)
  (hK:∀ a',St B w0 N ((d,A)::Γ) Λ a' w→K a' w):wpOp P ops Q i K a w :=
 ia (A:=A) (v:=a.eval (.tmp u)) ho h hd hΓ hΛ (by simp [execOp]) (h.vals _ (qa hu)) (hK _)
end
theorem CE:∃ it z,Tryz.prog.info? 133=some it∧it.zero=some z∧it.size=3∧it.bytes=56∧z.cells.size=3:=by
 have h:((Tryz.prog.info? 133).bind λ it=>it.zero.map λ z=>(it.size,it.bytes,z.cells.size))=some (3,56,3):=by kernel_rfl
 cases hi:Tryz.prog.info? 133 with
 | none=>rw [hi] at h; simp at h
 | some it =>
  rw [hi] at h
  cases hz:it.zero with
  | none=>simp [hz] at h
  | some z =>
   simp [hz] at h
   exact ⟨it,z,rfl,hz,h.1,h.2.1,h.2.2⟩
def BkN (n:Nat)(vr:Value)(L:List Slot):As:=cat [NumA .i64 (n:Nat),HbA vr L,EqS (.slice none 0 0),EqS (.slice none 0 0),EqS (.slice none 0 0),EqS (.slice none 0 0),EqS (.slice none 0 0),EqS (.slice none 0 0),EqS (.slice none 0 0),EqS (.slice none 0 0),EqS (.slice none 0 0),EqS (.slice none 0 0),EqS (.slice none 0 0),EqS (.slice none 0 0),EqS (.slice none 0 0),EqS (.slice none 0 0),EqS (.slice none 0 0)]
def HxA (c vr:Value)(L:List Slot):As where
 n:=1
 ag:=false
 p B cs w:=cs=[c]∧c.oneCell'=true∧(HbA vr L).p B [vr] w
 deps:=[133,U32]
 len:=by rintro B cs w ⟨rfl,_⟩; rfl
 one:=by rintro B cs w ⟨rfl,h,_⟩ x hx; simp at hx; subst hx; exact h
 ag1:=λ _=>rfl
 cg:=λ B cs w w' hg ⟨h1,h2,h3⟩=>⟨h1,h2,(HbA vr L).cg _ _ _ _ hg h3⟩
 wr:=λ B cs w w' g c T fz h1 h2 h3 h4 ⟨h5,h6,h7⟩=>⟨h5,h6,(HbA vr L).wr _ _ _ _ _ _ _ _ h1 h2 h3 h4 h7⟩
def BkX (n:Nat)(c vr:Value)(L:List Slot):As:=cat [NumA .i64 (n:Nat),HxA c vr L,EqS (.slice none 0 0),EqS (.slice none 0 0),EqS (.slice none 0 0),EqS (.slice none 0 0),EqS (.slice none 0 0),EqS (.slice none 0 0),EqS (.slice none 0 0),EqS (.slice none 0 0),EqS (.slice none 0 0),EqS (.slice none 0 0),EqS (.slice none 0 0),EqS (.slice none 0 0),EqS (.slice none 0 0),EqS (.slice none 0 0),EqS (.slice none 0 0)]
def newS (v:Value)(xs:List Nat)(n:Nat):Slot:=⟨v,xs,v,xs,.slice none 0 0,n⟩
def BkE (L:List Slot):As where
 n:=17
 ag:=true
 p B cs w:=∃ vr,(BkA vr L).p B cs w
 deps:=[133,U32]
 len:=λ B cs w ⟨vr,h⟩=>(BkA vr L).len B cs w h
 one:=λ B cs w ⟨vr,h⟩=>(BkA vr L).one B cs w h
 ag1:=λ h=>by cases h
 cg:=λ B cs w w' hg ⟨vr,h⟩=>⟨vr,(BkA vr L).cg B cs w w' hg h⟩
 wr:=λ B cs w w' g c T fz h1 h2 h3 h4 ⟨vr,h⟩=>⟨vr,(BkA vr L).wr B cs w w' g c T fz h1 h2 h3 h4 h⟩
theorem bk_num {n m:Nat}{L:List Slot}(h:(BkN n vr L).p B cs w):0+0<cs.length∧(BkN m vr L).p B (cs.set (0+0) (.int .i64 (m:Nat))) w:=by
 obtain ⟨ps,e,hp⟩:=h
 cases hp with
 | @cons _ c _ ps h1 hp =>
  have h1':c=[.int .i64 (n:Nat)]:=h1
  subst h1' e
  exact ⟨by simp,[.int .i64 (m:Nat)]::ps,by simp,.cons G hp⟩
theorem yZ {n:Nat}{c vr:Value}{L:List Slot}(h:(BkX n c vr L).p B cs w):0+1<cs.length∧(BkN n vr L).p B (cs.set (0+1) vr) w:=by
 obtain ⟨ps,e,hp⟩:=h
 cases hp with
 | @cons _ c1 _ ps h1 hp=>cases hp with
  | @cons _ c2 _ ps h2 hp =>
   have h1':c1=[.int .i64 (n:Nat)]:=h1
   obtain ⟨h3,h4,h5⟩:=h2
   subst h1' h3 e
   refine ⟨by simp,[.int .i64 (n:Nat)]::[vr]::ps,by simp,.cons G (.cons h5 hp)⟩
theorem mg_own {xs:List Nat}(h:(MgN xs).va.p B v w):w.ownsRow B U32 1 v xs.length (xs.map lv):=by
 obtain ⟨cs,⟨h0,⟨rfl,rfl⟩ | ⟨g,ext,rfl,e1,e2,e3⟩⟩,hv⟩:=h
 ·have hv':v=.slice none 0 0:=hv
  subst hv'
  exact ⟨rfl,.inl ⟨rfl,rfl⟩⟩
 ·have hv':v=.slice (some ⟨g,0,none⟩) xs.length (xs++ext).length:=hv
  subst hv'
  refine ⟨by simp,.inr ⟨g,(xs++ext).length,_,rfl,e2,e3,by simp,e1,by simp,?_⟩⟩
  rw [zK]
  show (List.map _ (xs++ext)).take xs.length=_
  rw [zF,z7 (by simp),qD (by simp)]
  rfl
theorem yY {L:List Slot}{xs:List Nat}{n B:Nat}(h:(BkN n vr L).p B cs w)(hm:(MgN xs).va.p B v w)(hsep:∀ t∈L,∀ g,t.has g→v.ownBlock≠some g):
  w.ownsRow B 133 3 vr L.length (L.flatMap Slot.cells)∧∀ v' w' ds,ds=(newS v xs n).cells→w'.ownsRow B 133 3 v' (L.length+1) (L.flatMap Slot.cells++ds)→w.grownBy w' vr.ownBlock→(v'.ownBlock=vr.ownBlock∨(v'.ownBlock=some w.heap.size∧w.grownBy w' none))→(BkX n vr v' (L++[newS v xs n])).p B cs w':=by
 obtain ⟨ps,e,hp⟩:=h
 cases hp with
 | cons h1 hp=>cases hp with
  | cons h2 hp =>
   obtain ⟨q1,q2,q3,q4⟩:=h2
   refine ⟨q2,λ v' w' ds hds hown hg hb=>⟨_,e,?_⟩⟩
   subst hds
   have hkeep:∀ (g:Nat) (c:Array Value),w.heap[g]?=some (Obj.cells c U32 (0,0))→w'.heap[g]?=some (Obj.cells c U32 (0,0)):=λ g c h8=>by
    refine (hg.block g (Array.getElem?_eq_some_iff.1 h8).1 (λ e9=>?_)).trans h8
    rcases q2.2 with ⟨e1,_⟩ | ⟨g',cap,cur,e1,_,e3,_⟩
    ·rw [e1] at e9; cases e9
    ·rw [e1] at e9
     have:g=g':=by simpa [Value.ownBlock] using e9
     subst this
     rw [h8] at e3
     injection e3 with e3
     injection e3 with _ e3 _
     revert e3
     decide
   have hown1:=mg_own hm
   refine .cons h1 (.cons ⟨q1,(eV q2).1,rfl,?_,λ t ht=>?_,λ i j s t hi hj hne g hs ht=>?_⟩ ?_)
   ·rw [qB,kV]
    simpa using hown
   ·rcases qo.1 ht with ht | ht
    ·exact (q3 t ht).keep λ g c _ h8=>hkeep g c h8
    ·obtain rfl:=qn.1 ht
     have h9:w'.ownsRow B U32 1 v xs.length (xs.map lv):=fN hown1 λ g c _ h8=>hkeep g c h8
     exact ⟨h9,vT h9⟩
   ·have hb1:∀ g,(newS v xs n).has g→v.ownBlock=some g:=λ g h=>by
     rcases h with h | h <;> exact h
    have hget:∀ (i:Nat) s,(L++[newS v xs n])[i]?=some s→(L[i]?=some s∧i<L.length)∨(i=L.length∧s=newS v xs n):=λ i s hi=>by
     by_cases h5:i<L.length
     ·rw [List.getElem?_append_left h5] at hi
      exact .inl ⟨hi,h5⟩
     ·rw [List.getElem?_append_right zo] at hi
      have h6:=(List.getElem?_eq_some_iff.1 hi).1
      simp at h6
      have h7:i=L.length:=by omega
      subst h7
      simp at hi
      exact .inr ⟨rfl,hi.symm⟩
    rcases hget i s hi with ⟨h5,h5'⟩ | ⟨h5,rfl⟩ <;> rcases hget j t hj with ⟨h6,h6'⟩ | ⟨h6,rfl⟩
    ·exact q4 i j s t h5 h6 hne g hs ht
    ·exact hsep s (qa h5) g hs (hb1 g ht)
    ·exact hsep t (qa h6) g ht (hb1 g hs)
    ·omega
   ·iterate 15 (cases hp; rename_i h3 hp; refine .cons h3 ?_)
    cases hp
    exact .nil
theorem wR {n B:Nat}{xs:List Nat}{ds:List Value}(h:(cat [EqS v,EqS (.slice none 0 0),NumA .i64 (n:Nat)]).p B ds w):ds=(newS v xs n).cells:=by
 obtain ⟨ps,rfl,hp⟩:=h
 cases hp with
 | cons h1 hp=>cases hp with
  | cons h2 hp=>cases hp with
   | cons h3 hp =>
    cases hp
    have h3':=h3
    obtain ⟨rfl,_⟩:=h1
    obtain ⟨rfl,_⟩:=h2
    have:_=[Value.int .i64 (n:Nat)]:=h3'
    subst this
    rfl
theorem pin_eq {xs:List Nat}:Wk (PinA v (MgN xs)).va (EqS v).va:=λ B u w ⟨cs,⟨h1,h2⟩,h3⟩=>by
 have h4:u=v:=h3.trans h2
 subst h4
 have hl:=(MgN xs).len _ _ _ h1
 have h5:=(MgN xs).one _ _ _ h1
 match cs,hl with
 | [x],_ =>
  have h6:u=x:=h3
  subst h6
  exact ⟨[u],⟨rfl,h5 u (by simp)⟩,rfl⟩
theorem Dk {v u:Value}{xs:List Nat}(h:(PinA v (MgN xs)).va.p B u w):(MgN xs).va.p B v w:=by
 obtain ⟨cs,⟨h1,h2⟩,_⟩:=h
 exact ⟨cs,h1,h2.symm⟩
theorem bkn_e {n:Nat}{L:List Slot}(h:n=L.length):WkA (BkN n vr L) (BkE L):=by subst h; exact ⟨rfl,rfl,λ B cs w h=>⟨vr,h⟩⟩
theorem DY {n:Nat}{c vr:Value}{L:List Slot}{B N:Nat}{s:Nat}(h:St B w0 N Γ Λ a w)(k:Nat)(hm:Λ[k]?=some ⟨s,T,H,BkX n c vr L⟩):vr.oneCell'=true∧vr.cells = #[vr]:=by
 obtain ⟨g,cs,_,_,_,ps,e,hp⟩:=h.locs _ (qa hm)
 cases hp with
 | cons h1 hp=>cases hp with
  | cons h2 hp =>
   obtain ⟨_,_,_,h5,_⟩:=h2
   exact ⟨(eV h5).1,(eV h5).2.cell⟩
section
open Rg
variable {P:Program} {Q:Exit→Act→World→Prop} {R:Rg} {B i:Nat} {w0:Bs}
theorem rB {x:Operand}{g o:Nat}(hx:Has R B w0 i x (EqV (.pointer (some ⟨g,o,none⟩)))):Wv P Q R B w0 i (.nilCheck x) (EqV (.pointer (some ⟨g,o,none⟩))) :=
 bj λ d T ps af gd a w av=>by
  have h:a.eval x=.pointer (some ⟨g,o,none⟩):=hx a w av
  exact ⟨_,w,by simp [execOp,h],Grow.refl w,rfl⟩
theorem rC {x:Operand}{f k n g o:Nat}(hx:Has R B w0 i x (EqV (.pointer (some ⟨g,o,none⟩))))(hf:Fld P T f k n):Wv P Q R B w0 i (.fieldAddr T x f) (EqV (.pointer (some ⟨g,o+k,none⟩))) :=
 bj λ d T ps af gd a w av=>by
  have h:a.eval x=.pointer (some ⟨g,o,none⟩):=hx a w av
  exact ⟨_,w,by simp [execOp,h,dq hf],Grow.refl w,rfl⟩
end
theorem DC (vr v:Value)(xs:List Nat)(L:List Slot)(hsep:∀ t∈L,∀ g,t.has g→v.ownBlock≠some g)(hl:L.length≤1000000):CK Tryz.prog 210 59 [59,133] (BkA vr L) (BkE (L++[newS v xs (L.length+1)])) [(PinA v (MgN xs)).va] (Tu []):=by
 obtain ⟨it0,z0,hi0,hz0,hs0,hb0',hc0⟩:=CE
 refine CK.intro Tryz.func210 G zk nq zk (λ B g w0 a hrm U=>?_)
 have U:=zn [(0,EqV ((ptrH).f g)),(1,(PinA v (MgN xs)).va)] [⟨0,59,ptrH,BkA vr L⟩] U
 have U:St B w0 26 _ [⟨0,59,ptrH,BkN L.length vr L⟩] a w0.w:=U
 refine qb<|cc (sp:=[.v 4 _,.v 5 _,.v 6 _,.v 7 _,.v 8 _,.v 9 _,.v 10 _,.sto 0]) 7 1 0 7 OneC [.g 0,.g 1,.o 4,.o 6] U (zM 0 G (zv G (rB (vq 0 G)) (zv G (rC (vq 1 G) ng) (zv G (cm (vq 2 G) (lz0 0 G) (gq 0 G) (Sub.part 0 G G) ty_3) (zv G (aN (vq 3 G) ab (ba zo)) (zv G (rB (vq 0 G)) (zv G (rC (vq 5 G) ng) o0))))))) G zd zk zk (zz [(0,_),(1,_),(8,_),(10,_)] [O 0 59 _] λ a w U=>?_)
 rw [show List.range' 7 1=[7] from rfl]
 have U:=St.wkG U 2 rfl Hy
 rw [qA]
 refine mx (A1:=BkN (L.length+1) vr L) [0,1] 3 2 0 0 G U G G G G G ty_3 G zk zk G (λ cs hp=>bk_num hp) (λ w U=>?_)
 refine fx ?_
 have U:=zn [(0,_),(1,_)] [⟨0,59,ptrH,BkN (L.length+1) vr L⟩] U
 refine aa<|BC (sp:=[.v 11 _,.v 12 _,.v 13 _,.v 14 _,.v 15 _,.v 16 _,.v 17 _,.v 18 _,.v 19 _,.v 20 _,.v 21 _,.v 22 _,.v 23 VT,.v 24 VT,.v 25 VT,.sto 0]) [[],[],[1],[1,2],[1,2,3],[],[],[6],[6,7],[6,7,8],[5,6,7,8,9],[5,6,7,8,9,10],[1,2,3,4,5,6,7,8,9,10,11],[0,1,2,3,4,5,6,7,8,9,10,11,12],[0,1,2,3,4,5,6,7,8,9,10,11,12,13],[0,1,2,3,4,5,6,7,8,9,10,11,12,13,14]] 12 4 0 15 0 OneC [.g 0,.g 1,.o 0,.o 4,.o 11] [.g 0,.g 1,.o 4,.o 11] ae U (zM 0 G (zM 0 G (zv G (rB (vq 1 G)) (zv G (rC (vq 2 G) cY) (zv G (cm (vq 3 G) (lz0 0 G) (gq 0 G) (Sub.part 1 G G) ly) (zv G (ai (has_wk' (gq 1 G) pin_eq)) (zM 0 G (zv G (rB (vq 6 G)) (zv G (rC (vq 7 G) ng) (zv G (cm (vq 8 G) (lz0 0 G) (gq 0 G) (Sub.part 0 G G) ty_3) (zv G (aU (qs:=[(0,_),(2,_)]) ij (.cons ⟨rfl,vq 5 rfl,rfl⟩ (.cons ⟨rfl,vq 9 rfl,rfl⟩ .nil))) (zv G (bJ (D:=[U32]) (l:=[_]) (xs:=[.tmp 21]) (cT zk) sl_42 zk (n_ok zk) nq nq nq (.o (vq 10 G)) G G) o0)))))))))))) G zd zd zd zk zk (gM zk) zk zk zk (λ a w U=>?_) (λ a w U=>?_)
 ·have U:=zn [(0,_),(1,_),(11,_),(15,_),(22,_)] [O 0 59 _] U
  rw [show List.range' 12 4=[12,13,14,15] from rfl]
  have U:=St.wkG U 3 rfl Gi
  have hm:=U.vals _ (zm 1 rfl)
  rw [qA]
  refine pj (m:=3) (X:=cat [EqS v,EqS (.slice none 0 0),NumA .i64 ((L.length+1:Nat):Int)]) (A1:=λ v'=>BkX (L.length+1) vr v' (L++[newS v xs (L.length+1)])) (F:=λ ds=>ds=(newS v xs (L.length+1)).cells) [0,2] 3 4 0 G U G G (λ ds h=>wR h) G G G (hrm _ zk) Tryz.underlying42 hi0 hz0 hs0 hb0' hc0 zd (n:=L.length) zo zo zd zk zk zk zk (λ cs hp=>yY hp (Dk hm) hsep) (λ v' w' U=>?_)
  rw [qA]
  refine w9 2 G U G zd zk zk (λ a U=>?_)
  rw [qA]
  refine iU 0 G U cY G zd zk zk (λ a U=>?_)
  rw [qA]
  have hv1:=(DY U 0 rfl)
  refine mx (A1:=BkN (L.length+1) v' (L++[newS v xs (L.length+1)])) [3] 0 2 3 0 G U G G G hv1.1 hv1.2 ly G zk zk G (λ cs hp=>yZ hp) (λ w U=>?_)
  refine fx ?_
  have U:=St.wkL (A':=BkE (L++[newS v xs (L.length+1)])) U 0 rfl (bkn_e (by simp))
  have U:=zn [(0,_)] [O 0 59 _] U
  refine ec<|iN U (zm 0 G) (zm 0 G) ?_
  exact bf (rs:=[]) G U .nil zd
 ·have U:=zn [(0,_),(1,_),(15,_),(22,_)] [O 0 59 _] U
  rw [show List.range' (12+1) (4-1)=[13,14,15] from rfl]
  have U:=St.wkG U 2 rfl Gi
  have hm:=U.vals _ (zm 1 rfl)
  rw [qA]
  refine pj (m:=3) (X:=cat [EqS v,EqS (.slice none 0 0),NumA .i64 ((L.length+1:Nat):Int)]) (A1:=λ v'=>BkX (L.length+1) vr v' (L++[newS v xs (L.length+1)])) (F:=λ ds=>ds=(newS v xs (L.length+1)).cells) [0] 2 3 0 G U G G (λ ds h=>wR h) G G G (hrm _ zk) Tryz.underlying42 hi0 hz0 hs0 hb0' hc0 zd (n:=L.length) zo zo zd zk zk zk zk (λ cs hp=>yY hp (Dk hm) hsep) (λ v' w' U=>?_)
  rw [qA]
  refine Fx 1 G U G zd zk zk (λ a U=>?_)
  rw [qA]
  refine w9 0 G U G zd zk zk (λ a U=>?_)
  rw [qA]
  refine iU 0 G U cY G zd zk zk (λ a U=>?_)
  rw [qA]
  have hv1:=(DY U 0 rfl)
  refine mx (A1:=BkN (L.length+1) v' (L++[newS v xs (L.length+1)])) [4] 0 3 4 0 G U G G G hv1.1 hv1.2 ly G zk zk G (λ cs hp=>yZ hp) (λ w U=>?_)
  refine fx ?_
  have U:=St.wkL (A':=BkE (L++[newS v xs (L.length+1)])) U 0 rfl (bkn_e (by simp))
  have U:=zn [(0,_)] [O 0 59 _] U
  refine ec<|iN U (zm 0 G) (zm 0 G) ?_
  exact bf (rs:=[]) G U .nil zd
end Go.Proofs.YtedfcalhhldijaaGreatDoor
