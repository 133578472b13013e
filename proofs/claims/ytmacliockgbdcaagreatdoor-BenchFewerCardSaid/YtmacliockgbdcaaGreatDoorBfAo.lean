import Derived.Test.YtmacliockgbdcaaGreatDoorBfAa
import Derived.Test.YtmacliockgbdcaaGreatDoorBfAc
import Derived.Test.YtmacliockgbdcaaGreatDoorBfAn
set_option linter.unusedVariables false
set_option linter.unusedSimpArgs false
set_option linter.unusedSectionVars false
set_option maxRecDepth 100000
namespace Go.Proofs.YtmacliockgbdcaaGreatDoor
open Go Go.RowKit
section
open Rg
variable {P:Program} {Q:Exit→Act→World→Prop} {B N:Nat} {w0:Bs} {Γ:List (Nat × VA)} {Λ:List Lc} {a:Act} {w:World}
theorem tX {R:Rg}{n:Nat}{L:Nat→Bool}(hL:∀ i,n≤i→L i=false)(hles:∀ l'∈Λ,∃ st,(⟨l'.s,l'.T,l'.H,none,l'.A,st⟩:Le)∈R.les)(hles2:∀ y∈R.les,∀ i A,y.st=some (i,A)→n≤i)(hinv:R.Inv B w0 L a w)(src:List Src)
  (hsrc:src.all (fun s=>match s with | .g k=>(match R.Γ[k]? with | some x=>Rg.outG R x.1 | none=>false) | .o i=>L i)=true):St B w0 R.N (src.filterMap (takeS R)) Λ a w:=by
 have hcl:∀ deps,Rg.clash R L deps=false:=fun deps=>by
  unfold Rg.clash
  rw [List.any_eq_false]
  intro y hy
  cases U:y.st with
  | none=>simp
  | some x =>
   obtain ⟨i,B'⟩:=x
   have:=hles2 y hy i B' U
   have hno:=hL i zo
   simp [hno]
 have hcur:∀ y∈R.les,y.cr=none→Rg.cur L y=some y.A0:=fun y hy h0=>by
  unfold Rg.cur
  rw [h0]
  simp only [Rg.crOk,if_true]
  cases U:y.st with
  | none=>rfl
  | some x =>
   obtain ⟨i,B'⟩:=x
   have:=hles2 y hy i B' U
   have hno:=hL i zo
   simp [hno]
 refine ⟨hinv.lo,hinv.defers,hinv.size,hinv.base,fun x hx=>?_,fun l' hl'=>?_,fun l1 h1 l2 h2 hne=>?_⟩
 rotate_left
 ·obtain ⟨st,hy⟩:=hles l' hl'
  exact hinv.c _ hy l'.A (hcur _ hy G)
 ·obtain ⟨s1,hy1⟩:=hles l1 h1
  obtain ⟨s2,hy2⟩:=hles l2 h2
  exact hinv.x _ hy1 _ hy2 hne (by rw [hcur _ hy1 rfl]; rfl) (by rw [hcur _ hy2 rfl]; rfl)
 obtain ⟨s,hs1,hs2⟩:=List.mem_filterMap.1 hx
 have ho:=List.all_eq_true.1 hsrc s hs1
 cases s with
 | g k =>
  simp only [takeS] at hs2
  simp only [hs2] at ho
  refine hinv.g x (List.mem_of_getElem? hs2) (fun q hq hdq=>?_) (hcl _)
  cases h2:R.ops[q]? with
  | none=>unfold Rg.dst at hdq; rw [h2] at hdq; cases hdq
  | some v =>
   have:=List.all_eq_true.1 ho q (by simpa using (Array.getElem?_eq_some_iff.1 h2).1)
   exact absurd hdq (by simpa using this)
 | o i =>
  simp only [takeS] at hs2
  cases hy:R.sp[i]? with
  | none=>rw [hy] at hs2; cases hs2
  | some y =>
   rw [hy] at hs2
   exact hinv.v i y x.1 x.2 hy hs2 ho (hcl _)
end
section
variable {P:Program} {R:Rg} {Q:Exit→Act→World→Prop} {B:Nat} {w0:Bs} {a:Act} {w:World}
open Rg in
theorem Rg.drawJ {id:Nat}{n m:Nat}(z:Nat)(hz:z<n)(hsz2:R.ops.size=n+m)(hm0:0<m)(hm:P.follows .mixedOrders=true)(hanc:ancOk R=true)(J:(Nat→Bool)→Act→World→Prop)(hJc:∀ {L L':Nat→Bool} {a:Act} {w:World},J L a w→(∀ k,L' k=L k)→J L' a w)(hJ0:J (fun _=>false) a w.drew)
  (hJs:∀ i,i<n→∀ (L:Nat→Bool) (a:Act) (w:World),J L a w→Closed R L→L i=false→(∀ j,(R.anc i).contains j=true→L j=true)→∀ K:Act→World→Prop,(∀ a' w',J (upd L i) a' w'→K a' w')→wpOp P R.ops Q i K a w) (ha0:∀ j,j<n→j≠z→(R.anc n).contains j=true) (ha1:∀ i,n<i→i<n+m→∀ j,j<i→(R.anc i).contains j=true)
  (hQ:∀ a w,J (fun k=>decide (k<n)) a w→wpOps P R.ops Q (List.range' n m) a w) (hQz:∀ a w,J (fun k=>decide (k<n)&&k != z) a w→wpOps P R.ops Q (n::z::List.range' (n+1) (m-1)) a w) :
  (Code.region id R.ops true).wp P Q a w:=by
 refine wp_region_any hm ?_
 have ho:∀ i,i<R.ops.size→∃ o:Oper,R.ops[i]?=some o∧(∀ j,(R.anc i).contains j=true→∃ e∈o.after,Region.binds .any e=true∧(e.on=j∨(R.anc e.on).contains j=true)) ∧
   ∀ e∈o.after,Region.binds .any e=true→e.on<i:=by
  intro i hi
  have:=List.all_eq_true.1 hanc i (by simpa using hi)
  cases hoi:R.ops[i]? with
  | none=>rw [hoi] at this; cases this
  | some o =>
   rw [hoi] at this
   simp only [Bool.and_eq_true] at this
   refine ⟨o,rfl,fun j hj=>?_,fun e he hb=>?_⟩
   ·have hh:=List.all_eq_true.1 this.1 j (by simpa using hj)
    obtain ⟨e,he,h1⟩:=Array.any_eq_true'.1 hh
    simp only [Bool.and_eq_true,Bool.or_eq_true,beq_iff_eq] at h1
    exact ⟨e,he,h1.1,h1.2⟩
   ·have hh:=Array.all_eq_true'.1 this.2 e he
    simpa [hb] using hh
 have hrd:∀ (listed:Array Bool) i,i∈Region.ready .any R.ops listed→i<R.ops.size∧listed.getD i true=false∧∀ o,R.ops[i]?=some o→∀ e∈o.after,Region.binds .any e=true→listed.getD e.on false=true:=by
  intro listed i hi
  unfold Region.ready at hi
  obtain ⟨h1,h2⟩:=List.mem_filter.1 hi
  simp only [Bool.and_eq_true,Bool.not_eq_true'] at h2
  refine ⟨by simpa using h1,h2.1,fun o hoi e he hb=>?_⟩
  have h3:=h2.2
  rw [hoi] at h3
  simp only [Option.map_some,Option.getD_some] at h3
  have:=Array.all_eq_true'.1 h3 e he
  simpa [hb] using this
 have hset:∀ (listed:Array Bool) (i k:Nat),listed.size=R.ops.size→i<R.ops.size→(listed.setIfInBounds i true).getD k false=upd (fun i=>listed.getD i false) i k:=by
  intro listed i k hsz hi
  unfold upd
  by_cases hki:k=i
  ·subst hki
   simp [hsz,hi]
  ·simp [hki,Array.getElem?_setIfInBounds_ne (fun e=>hki e.symm)]
 have hpos:∀ (listed:Array Bool) (i:Nat),i<R.ops.size→listed.getD i false=false→0<(List.range R.ops.size).countP (fun k => !listed.getD k false):=fun listed i hi hl =>
  List.countP_pos_iff.2 ⟨i,by simpa using hi,by simp only [hl]; rfl⟩
 have hlt:∀ (listed:Array Bool) (i:Nat),listed.size=R.ops.size→i<R.ops.size→listed.getD i false=false→(List.range R.ops.size).countP (fun k => !(listed.setIfInBounds i true).getD k false)<(List.range R.ops.size).countP (fun k => !listed.getD k false):=by
  intro listed i hsz hi hLi
  refine f9 (x:=i) (fun x hx=>?_) (by simpa using hi) (by rw [hLi]; rfl) (by rw [hset listed i i hsz hi,cq]; rfl)
  have hx':upd (fun i=>listed.getD i false) i x=false:=by
   rw [← hset listed i x hsz hi]
   simpa only [Bool.not_eq_true'] using hx
  rw [(dy hx').2]
  rfl
 have hfull:∀ (listed:Array Bool),listed.size=R.ops.size→Region.ready .any R.ops listed=[]→∀ k,k<R.ops.size→listed.getD k false=true:=by
  intro listed hsz hr k
  induction k using Nat.strongRecOn with
  | _ k ih =>
   intro hkn
   cases hl:listed.getD k false with
   | true=>rfl
   | false =>
    exfalso
    obtain ⟨x,ho1,_,ho3⟩:=ho k hkn
    have:k∈Region.ready .any R.ops listed:=by
     unfold Region.ready
     refine List.mem_filter.2 ⟨by simpa using hkn,?_⟩
     have h0:listed.getD k true=false:=by
      simp only [Array.getD,hsz,hkn,dite_true] at hl ⊢
      exact hl
     rw [h0,ho1]
     simp only [Bool.not_false,Bool.true_and,Option.map_some,Option.getD_some]
     refine Array.all_eq_true'.2 fun e he=>?_
     cases hb:Region.binds .any e with
     | false=>rfl
     | true=>simpa using ih e.on (ho3 e he hb) (Nat.lt_trans (ho3 e he hb) hkn)
    rw [hr] at this
    cases this
 have hancL:∀ (listed:Array Bool) i,Closed R (fun i=>listed.getD i false)→i∈Region.ready .any R.ops listed→∀ j,(R.anc i).contains j=true→listed.getD j false=true:=by
  intro listed i hcl hir j hj
  obtain ⟨h1,h2,h3⟩:=hrd listed i hir
  obtain ⟨x,ho1,ho2,_⟩:=ho i h1
  obtain ⟨e,he,hb,hj'⟩:=ho2 j hj
  have hl:=h3 x ho1 e he hb
  rcases hj' with rfl | hj'
  ·exact hl
  ·exact hcl e.on hl j hj'
 have hclN:∀ (listed:Array Bool) i,listed.size=R.ops.size→Closed R (fun i=>listed.getD i false)→i∈Region.ready .any R.ops listed→Closed R (fun k=>(listed.setIfInBounds i true).getD k false):=by
  intro listed i hsz hcl hir k hk' j hj
  obtain ⟨h1,_,_⟩:=hrd listed i hir
  have hk2:upd (fun i=>listed.getD i false) i k=true:=by rw [← hset listed i k hsz h1]; exact hk'
  show (listed.setIfInBounds i true).getD j false=true
  rw [hset listed i j hsz h1]
  rcases pb hk2 with rfl | h4
  ·exact dw _ (hancL listed k hcl hir j hj)
  ·exact dw _ (hcl k h4 j hj)
 have tail:∀ q k,k+q=n+m→n≤k→∀ fuel (listed:Array Bool) a w,listed.size=R.ops.size→(List.range R.ops.size).countP (fun i => !listed.getD i false)≤fuel→Closed R (fun i=>listed.getD i false) →
   (∀ j,j<k→listed.getD j false=true)→(∀ j,k≤j→j<n+m→listed.getD j false=false)→wpOps P R.ops Q (List.range' k q) a w→wpAny P .any R.ops Q fuel listed a w:=by
  intro q
  induction q with
  | zero =>
   intro k hkq hnk fuel listed a w hsz hcnt hcl hall _ hwp
   have hr:Region.ready .any R.ops listed=[]:=by
    cases hrr:Region.ready .any R.ops listed with
    | nil=>rfl
    | cons i rest =>
     obtain ⟨h1,h2,_⟩:=hrd listed i (by rw [hrr]; simp)
     have:=hall i zo
     simp only [Array.getD,hsz,h1,dite_true] at h2 this
     rw [h2] at this
     cases this
   cases fuel with
   | zero=>exact ⟨hr,hwp⟩
   | succ fuel=>exact ⟨fun _=>hwp,fun i hir=>by rw [hr] at hir; cases hir⟩
  | succ q ih =>
   intro k hkq hnk fuel listed a w hsz hcnt hcl hall hnone hwp
   have hLk:listed.getD k false=false:=hnone k (Nat.le_refl _) zo
   have hp:=hpos listed k zo hLk
   cases fuel with
   | zero=>omega
   | succ fuel =>
    refine ⟨fun hr=>absurd (hfull listed hsz hr k zo) (by rw [hLk]; decide),fun i hir=>?_⟩
    obtain ⟨h1,h2,h3⟩:=hrd listed i hir
    have hik:i=k:=by
     by_cases e:i=k
     ·exact e
     ·exfalso
      by_cases hlt':i<k
      ·have:=hall i hlt'
       simp only [Array.getD,hsz,h1,dite_true] at h2 this
       rw [h2] at this
       cases this
      ·have:=hancL listed i hcl hir k (ha1 i zo zo k zo)
       rw [hLk] at this
       cases this
    subst hik
    rw [List.range'_succ,wpOps_cons] at hwp
    refine wpOp_mono (fun a' w' hr=>ih (i+1) zo zo fuel _ a' w' (by simpa using hsz) ?_ (hclN listed i hsz hcl hir) (fun j hj=>?_) (fun j hj hj2=>?_) hr) hwp
    ·have:=hlt listed i hsz h1 hLk
     omega
    ·rw [hset listed i j hsz h1]
     by_cases e:j=i
     ·rw [e]; exact cq _ _
     ·exact dw _ (hall j zo)
    ·rw [hset listed i j hsz h1,di _ zo]
     exact hnone j zo hj2
 have tailz:∀ fuel (listed:Array Bool) a w,listed.size=R.ops.size→(List.range R.ops.size).countP (fun i => !listed.getD i false)≤fuel→Closed R (fun i=>listed.getD i false) →
   (∀ j,j<n→j≠z→listed.getD j false=true)→listed.getD z false=false→listed.getD n false=true→(∀ j,n+1≤j→j<n+m→listed.getD j false=false)→wpOps P R.ops Q (z::List.range' (n+1) (m-1)) a w→wpAny P .any R.ops Q fuel listed a w:=by
  intro fuel listed a w hsz hcnt hcl hall hzf hnt hnone hwp
  have hp:=hpos listed z zo hzf
  cases fuel with
  | zero=>omega
  | succ fuel =>
   refine ⟨fun hr=>absurd (hfull listed hsz hr z zo) (by rw [hzf]; decide),fun i hir=>?_⟩
   obtain ⟨h1,h2,h3⟩:=hrd listed i hir
   have hLi:listed.getD i false=false:=by
    simp only [Array.getD,hsz,h1,dite_true] at h2 ⊢
    exact h2
   have hiz:i=z:=by
    by_cases e:i=z
    ·exact e
    ·exfalso
     by_cases hlt':i<n
     ·rw [hall i hlt' e] at hLi; cases hLi
     ·by_cases e2:i=n
      ·rw [e2,hnt] at hLi; cases hLi
      ·have:=hancL listed i hcl hir z (ha1 i zo zo z zo)
       rw [hzf] at this
       cases this
   subst hiz
   rw [wpOps_cons] at hwp
   refine wpOp_mono (fun a' w' hr=>tail (m-1) (n+1) zo zo fuel _ a' w' (by simpa using hsz) ?_ (hclN listed i hsz hcl hir) (fun j hj=>?_) (fun j hj hj2=>?_) hr) hwp
   ·have:=hlt listed i hsz h1 hLi
    omega
   ·rw [hset listed i j hsz h1]
    by_cases e:j=i
    ·rw [e]; exact cq _ _
    ·by_cases e2:j=n
     ·rw [e2]; exact dw _ hnt
     ·exact dw _ (hall j zo e)
   ·rw [hset listed i j hsz h1,di _ zo]
    exact hnone j zo hj2
 have key:∀ fuel (listed:Array Bool) a w,listed.size=R.ops.size→(List.range R.ops.size).countP (fun i => !listed.getD i false)≤fuel→Closed R (fun i=>listed.getD i false) →
   (∀ j,n≤j→j<n+m→listed.getD j false=false)→J (fun i=>listed.getD i false) a w→wpAny P .any R.ops Q fuel listed a w:=by
  intro fuel
  induction fuel with
  | zero =>
   intro listed a w hsz hcnt hcl hn0 hi
   have:=hpos listed n zo (hn0 n (Nat.le_refl _) zo)
   omega
  | succ fuel ih =>
   intro listed a w hsz hcnt hcl hn0 hi
   have hn00:=hn0 n (Nat.le_refl _) zo
   by_cases hdone:∀ j,j<n→listed.getD j false=true
   ·refine tail m n G (Nat.le_refl _) (fuel+1) listed a w hsz hcnt hcl hdone hn0 (hQ a w (hJc hi fun k=>?_))
    by_cases hkn:k<n
    ·rw [hdone k hkn]; simp [hkn]
    ·by_cases hkm:k<n+m
     ·rw [hn0 k zo hkm]; simp [hkn]
     ·have:listed.getD k false=false:=by simp [Array.getD,hsz,hsz2,hkm]
      rw [this]; simp [hkn]
   ·refine ⟨fun hr=>absurd (hfull listed hsz hr n zo) (by rw [hn00]; decide),fun i hir=>?_⟩
    obtain ⟨h1,h2,h3⟩:=hrd listed i hir
    have hLi:listed.getD i false=false:=by
     simp only [Array.getD,hsz,h1,dite_true] at h2 ⊢
     exact h2
    by_cases hin:i<n
    ·refine hJs i hin _ _ _ hi hcl hLi (hancL listed i hcl hir) _ fun a' w' hi'=>ih _ _ _ (by simpa using hsz) ?_ (hclN listed i hsz hcl hir) ?_ (hJc hi' fun k=>hset listed i k hsz h1)
     ·have:=hlt listed i hsz h1 hLi
      omega
     ·intro j hj hj2
      rw [hset listed i j hsz h1,di _ zo]
      exact hn0 j hj hj2
    ·by_cases hgt:n<i
     ·exact absurd (fun j hj=>hancL listed i hcl hir j (ha1 i hgt zo j zo)) hdone
     ·have hin':i=n:=by omega
      have hjs:∀ j,j<n→j≠z→listed.getD j false=true:=fun j hj hne=>hancL listed i hcl hir j (by rw [hin']; exact ha0 j hj hne)
      have hzf:listed.getD z false=false:=by
       cases hh:listed.getD z false with
       | false=>rfl
       | true=>exact absurd (fun j hj=>if e:j=z then e▸hh else hjs j hj e) hdone
      have hwp:=hQz a w (hJc hi fun k=>by
       by_cases hkn:k<n
       ·by_cases hkz:k=z
        ·subst hkz; rw [hzf]; simp
        ·rw [hjs k hkn hkz]; simp [hkn,hkz]
       ·by_cases hkm:k<n+m
        ·rw [hn0 k zo hkm]; simp [hkn]
        ·have:listed.getD k false=false:=by simp [Array.getD,hsz,hsz2,hkm]
         rw [this]; simp [hkn])
      rw [wpOps_cons] at hwp
      rw [hin']
      rw [hin'] at hir hLi h1
      refine wpOp_mono (fun a' w' hr=>tailz fuel _ a' w' (by simpa using hsz) ?_ (hclN listed n hsz hcl hir) (fun j hj hne=>?_) ?_ ?_ (fun j hj hj2=>?_) hr) hwp
      ·have:=hlt listed n hsz h1 hLi
       omega
      ·rw [hset listed n j hsz h1]; exact dw _ (hjs j hj hne)
      ·rw [hset listed n z hsz h1,di _ zo]; exact hzf
      ·rw [hset listed n n hsz h1]; exact cq _ _
      ·rw [hset listed n j hsz h1,di _ zo]; exact hn0 j zo hj2
 refine key _ _ a _ (by simp) ?_ ?_ ?_ ?_
 ·refine Nat.le_trans (List.countP_le_length) (by simp)
 ·intro i hi
  exfalso
  simp only [Array.getD,Array.size_replicate] at hi
  split at hi <;> simp at hi
 ·intro j hj hj2
  simp only [Array.getD,Array.size_replicate]
  split <;> simp
 ·refine hJc hJ0 fun k=>?_
  simp only [Array.getD,Array.size_replicate]
  split <;> simp
open Rg in
theorem Rg.drawZ {id:Nat}{Λ:List Lc}{n m:Nat}(z:Nat)(hz:z<n)(hsz2:R.ops.size=n+m)(hm0:0<m)(hm:P.follows .mixedOrders=true)(hanc:ancOk R=true)(hk:R.chk=true)(h:St B w0 R.N R.Γ Λ a w)(hles:∀ e∈R.les,e.cr=none→(⟨e.s,e.T,e.H,e.A0⟩:Lc)∈Λ)
  (hob:∀ i,i<n→R.Ob P Q B w0 i) (ha0:∀ j,j<n→j≠z→(R.anc n).contains j=true) (ha1:∀ i,n<i→i<n+m→∀ j,j<i→(R.anc i).contains j=true)
  (hQ:∀ a w,R.Inv B w0 (fun k=>decide (k<n)) a w→wpOps P R.ops Q (List.range' n m) a w) (hQz:∀ a w,R.Inv B w0 (fun k=>decide (k<n)&&k != z) a w→wpOps P R.ops Q (n::z::List.range' (n+1) (m-1)) a w) :
  (Code.region id R.ops true).wp P Q a w:=by
 have hs:=start h hles
 have hd:R.Inv B w0 (fun _=>false) a w.drew:=⟨hs.lo,hs.defers.grow (Grow.drew w) rfl,hs.size,hs.base.drew,fun x hx h1 h2=>x.2.grow _ _ _ _ (Grow.drew w) (hs.g x hx h1 h2),(fun i y d A _ _ hf=>by cases hf),(fun i d b k c _ hf=>by cases hf),
  fun e he A hA=>(hs.c e he A hA).grow (Grow.drew w),hs.x⟩
 exact Rg.drawJ z hz hsz2 hm0 hm hanc (fun L a w=>R.Inv B w0 L a w) (fun h hk'=>h.congr hk') hd (fun i hi L a w hJ hcl hL ha K hK=>step hk (hob i hi) hJ hcl hL ha K hK) ha0 ha1 hQ hQz
end
section
open Rg
variable {P:Program} {Q:Exit→Act→World→Prop} {B N:Nat} {w0:Bs} {Γ:List (Nat × VA)} {Λ:List Lc} {a:Act} {w:World}
theorem pw {id:Nat}{ops:Array Oper}{sp:List Sp}(anc:List (List Nat))(n m e j z:Nat)(A:As)(src srcz:List Src)(hmx:P.follows .mixedOrders=true)
  (h:St B w0 N Γ Λ a w) (hob:Obs P Q ⟨ops,N,Γ,lesS Λ e j A,sp,fun i=>anc.getD i []⟩ B w0 0 n) (hsz:ops.size=n+m) (hm:0<m) (hj:n≤j) (hz:z<n) (hanc:Rg.ancOk ⟨ops,N,Γ,lesS Λ e j A,sp,fun i=>anc.getD i []⟩=true)
  (ha0:(List.range n).all (fun j=>j==z || (anc.getD n []).contains j)=true) (hall:∀ i,n+1≤i→i<n+1+(m-1)→∀ j,j<i→(anc.getD i []).contains j=true) (hk:Rg.chk ⟨ops,N,Γ,lesS Λ e j A,sp,fun i=>anc.getD i []⟩=true)
  (hsrc:src.all (fun s=>match s with | .g k=>(match Γ[k]? with | some x=>Rg.outG ⟨ops,N,Γ,lesS Λ e j A,sp,fun i=>anc.getD i []⟩ x.1 | none=>false) | .o i=>decide (i<n))=true)
  (hsrcz:srcz.all (fun s=>match s with | .g k=>(match Γ[k]? with | some x=>Rg.outG ⟨ops,N,Γ,lesS Λ e j A,sp,fun i=>anc.getD i []⟩ x.1 | none=>false) | .o i=>decide (i<n)&&i != z)=true)
  (hQ:∀ a' w',St B w0 N (src.filterMap (takeS ⟨ops,N,Γ,lesS Λ e j A,sp,fun i=>anc.getD i []⟩)) Λ a' w'→wpOps P ops Q (List.range' n m) a' w')
  (hQz:∀ a' w',St B w0 N (srcz.filterMap (takeS ⟨ops,N,Γ,lesS Λ e j A,sp,fun i=>anc.getD i []⟩)) Λ a' w'→wpOps P ops Q (n::z::List.range' (n+1) (m-1)) a' w'):(Code.region id ops true).wp P Q a w:=by
 have hl1:∀ l'∈Λ,∃ st,(⟨l'.s,l'.T,l'.H,none,l'.A,st⟩:Le)∈lesS Λ e j A:=fun l' hl'=>by
  obtain ⟨j',hj'⟩:=List.getElem?_of_mem hl'
  exact ⟨_,List.mem_map.2 ⟨(l',j'),List.mem_zipIdx_iff_getElem?.2 hj',rfl⟩⟩
 have hl2:∀ y∈lesS Λ e j A,∀ i A',y.st=some (i,A')→n≤i:=fun y hy i B' h1=>by have:=(eW y hy).2.2 i B' h1; omega
 refine Rg.drawZ (R:=⟨ops,N,Γ,lesS Λ e j A,sp,fun i=>anc.getD i []⟩) (m:=m) z hz hsz hm hmx hanc hk h (fun y hy _=>(eW y hy).2.1) (fun i hi=>hob.all i zo zo) (fun j hj hne=>?_) (fun i h1 h2 j hj=>hall i zo zo j hj) (fun a1 w1 hinv=>?_) fun a1 w1 hinv=>?_
 ·have:=List.all_eq_true.1 ha0 j (by simpa using hj)
  simpa [hne] using this
 ·exact hQ a1 w1 (gR hl1 hl2 hinv src hsrc)
 ·exact hQz a1 w1 (tX (n:=n) (fun i hi=>by simp [show ¬ i<n by omega]) hl1 hl2 hinv srcz hsrcz)
def lesSF (Λ:List Lc)(e j:Nat)(A:As):List LeF:=Λ.zipIdx.map fun x=>⟨x.1.s,x.1.T,x.1.H,none,x.1.A,if x.2=e then some (j,fun _=>A) else none⟩
theorem l7 {Λ:List Lc}{e j:Nat}{A:As}{ν:Nat→Value}:(lesSF Λ e j A).map (LeF.on ν)=lesS Λ e j A:=by
 unfold lesSF lesS
 rw [List.map_map]
 refine List.map_congr_left fun x _=>?_
 by_cases h:x.2=e <;> simp [LeF.on,h]
theorem uc {id:Nat}{ops:Array Oper}{sp:List ((Nat→Value)→Sp)}(anc:List (List Nat))(n m e j z:Nat)(A:As)(src srcz:List Src)(hmx:P.follows .mixedOrders=true)
  (h:St B w0 N Γ Λ a w) (hob:ObsF P Q ops N Γ (lesSF Λ e j A) sp (fun i=>anc.getD i []) B w0 0 n) (hdS:DepS (fun i=>anc.getD i []) 0 sp) (hsz:ops.size=n+m) (hm:0<m) (hj:n≤j) (hz:z<n) (hanc:Rg.ancOk (fam ops N Γ (lesSF Λ e j A) sp (fun i=>anc.getD i []) (fun _=>undef))=true)
  (ha0:(List.range n).all (fun j=>j==z || (anc.getD n []).contains j)=true) (hall:∀ i,n+1≤i→i<n+1+(m-1)→∀ j,j<i→(anc.getD i []).contains j=true) (hk:∀ ν,Rg.chk (fam ops N Γ (lesSF Λ e j A) sp (fun i=>anc.getD i []) ν)=true)
  (hsrc:∀ ν,src.all (fun s=>match s with | .g k=>(match Γ[k]? with | some x=>Rg.outG (fam ops N Γ (lesSF Λ e j A) sp (fun i=>anc.getD i []) ν) x.1 | none=>false) | .o i=>decide (i<n))=true)
  (hsrcz:∀ ν,srcz.all (fun s=>match s with | .g k=>(match Γ[k]? with | some x=>Rg.outG (fam ops N Γ (lesSF Λ e j A) sp (fun i=>anc.getD i []) ν) x.1 | none=>false) | .o i=>decide (i<n)&&i != z)=true)
  (hQ:∀ ν a' w',St B w0 N (src.filterMap (takeS (fam ops N Γ (lesSF Λ e j A) sp (fun i=>anc.getD i []) ν))) Λ a' w'→wpOps P ops Q (List.range' n m) a' w')
  (hQz:∀ ν a' w',St B w0 N (srcz.filterMap (takeS (fam ops N Γ (lesSF Λ e j A) sp (fun i=>anc.getD i []) ν))) Λ a' w'→wpOps P ops Q (n::z::List.range' (n+1) (m-1)) a' w'):(Code.region id ops true).wp P Q a w:=by
 have hl1:∀ (ν:Nat→Value),∀ l'∈Λ,∃ st,(⟨l'.s,l'.T,l'.H,none,l'.A,st⟩:Le)∈(lesSF Λ e j A).map (LeF.on ν):=fun ν l' hl'=>by
  obtain ⟨j',hj'⟩:=List.getElem?_of_mem hl'
  rw [l7]
  exact ⟨_,List.mem_map.2 ⟨(l',j'),List.mem_zipIdx_iff_getElem?.2 hj',rfl⟩⟩
 have hl2:∀ (ν:Nat→Value),∀ y∈(lesSF Λ e j A).map (LeF.on ν),∀ i A',y.st=some (i,A')→n≤i:=fun ν y hy i B' h1=>by
  rw [l7] at hy
  have:=(eW y hy).2.2 i B' h1; omega
 have hl3:∀ y∈(lesSF Λ e j A).map (LeF.on (fun _=>undef)),y.cr=none→(⟨y.s,y.T,y.H,y.A0⟩:Lc)∈Λ:=fun y hy _=>by
  rw [l7] at hy
  exact (eW y hy).2.1
 have hdL:∀ y∈lesSF Λ e j A,∀ j' f,y.st=some (j',f)→Dep (bef (fun i=>anc.getD i []) j') f:=fun y hy j' f hf=>by
  obtain ⟨x,_,rfl⟩:=List.mem_map.1 hy
  dsimp only at hf
  split at hf
  ·injection hf with hf
   injection hf with _ hf
   subst hf
   exact fun _ _ _=>rfl
  ·cases hf
 have hs:=Rg.start (R:=fam ops N Γ (lesSF Λ e j A) sp (fun i=>anc.getD i []) (fun _=>undef)) h hl3
 have hd:(fam ops N Γ (lesSF Λ e j A) sp (fun i=>anc.getD i []) (fun _=>undef)).Inv B w0 (fun _=>false) a w.drew:=⟨hs.lo,hs.defers.grow (Grow.drew w) rfl,hs.size,hs.base.drew,fun x hx h1 h2=>x.2.grow _ _ _ _ (Grow.drew w) (hs.g x hx h1 h2),(fun i y d A _ _ hf=>by cases hf),(fun i d b k c _ hf=>by cases hf),
  fun e he A hA=>(hs.c e he A hA).grow (Grow.drew w),hs.x⟩
 refine Rg.drawJ (R:=fam ops N Γ (lesSF Λ e j A) sp (fun i=>anc.getD i []) (fun _=>undef)) (m:=m) z hz hsz hm hmx hanc (fun L a w=>∃ ν,(fam ops N Γ (lesSF Λ e j A) sp (fun i=>anc.getD i []) ν).Inv B w0 L a w) (fun ⟨ν,h⟩ hk'=>⟨ν,h.congr hk'⟩) ⟨_,hd⟩ (fun i hi L a w ⟨ν,hJ⟩ hcl hL ha K hK=>stepV hk (fun i f hf=>by have:=hdS.at i f hf; rwa [Nat.zero_add] at this) hdL (hob.all i zo zo) hJ hcl hL ha K fun ν' a' w' hi=>hK a' w' ⟨ν',hi⟩) (fun j hj hne=>?_) (fun i h1 h2 j hj=>hall i zo zo j hj) (fun a1 w1 ⟨ν,hinv⟩=>?_) fun a1 w1 ⟨ν,hinv⟩=>?_
 ·have:=List.all_eq_true.1 ha0 j (by simpa using hj)
  simpa [hne] using this
 ·exact hQ ν a1 w1 (gR (hl1 ν) (hl2 ν) hinv src (hsrc ν))
 ·exact hQz ν a1 w1 (tX (n:=n) (fun i hi=>by simp [show ¬ i<n by omega]) (hl1 ν) (hl2 ν) hinv srcz (hsrcz ν))
theorem ta {ops:Array Oper}{i:Nat}{K:Act→World→Prop}{d u:Nat}{T':TypeId}{ps:String}{af:Array Edge}{A:VA}(ku:Nat)(ho:ops[i]?=some ⟨some d,.move (.tmp u),T',ps,af,none⟩)(h:St B w0 N Γ Λ a w)
  (hu:Γ[ku]?=some (u,A)) (hd:d<N) (hΓ:Γ.all (fun x=>x.1 != d)=true) (hΛ:Λ.all (fun l=>l.s != d)=true)
  (hK:∀ a',St B w0 N ((d,A)::Γ) Λ a' w→K a' w):wpOp P ops Q i K a w :=
 qG (A:=A) (v:=a.eval (.tmp u)) ho h hd hΓ hΛ (by simp [execOp]) (h.vals _ (List.mem_of_getElem? hu)) (hK _)
end
theorem xF:∃ it z,Tryz.prog.info? 108=some it∧it.zero=some z∧it.size=3∧it.bytes=56∧z.cells.size=3:=by
 have h:((Tryz.prog.info? 108).bind fun it=>it.zero.map fun z=>(it.size,it.bytes,z.cells.size))=some (3,56,3):=by kernel_rfl
 cases hi:Tryz.prog.info? 108 with
 | none=>rw [hi] at h; simp at h
 | some it =>
  rw [hi] at h
  cases hz:it.zero with
  | none=>simp [hz] at h
  | some z =>
   simp [hz] at h
   exact ⟨it,z,rfl,hz,h.1,h.2.1,h.2.2⟩
def newS (v:Value)(xs:List Nat)(n:Nat):Slot:=⟨v,xs,v,xs,.slice none 0 0,n⟩
def BkE (L:List Slot):As where
 n:=17
 ag:=true
 p B cs w:=∃ vr,(BkA vr L).p B cs w
 deps:=[108,U32]
 len:=fun B cs w ⟨vr,h⟩=>(BkA vr L).len B cs w h
 one:=fun B cs w ⟨vr,h⟩=>(BkA vr L).one B cs w h
 ag1:=fun h=>by cases h
 cg:=fun B cs w w' hg ⟨vr,h⟩=>⟨vr,(BkA vr L).cg B cs w w' hg h⟩
 wr:=fun B cs w w' g c T fz h1 h2 h3 h4 ⟨vr,h⟩=>⟨vr,(BkA vr L).wr B cs w w' g c T fz h1 h2 h3 h4 h⟩
theorem mg_own {B:Nat}{w:World}{v:Value}{xs:List Nat}(h:(MgN xs).va.p B v w):w.ownsRow B U32 1 v xs.length (xs.map lv):=by
 obtain ⟨cs,⟨h0,⟨rfl,rfl⟩ | ⟨g,ext,rfl,e1,e2,e3⟩⟩,hv⟩:=h
 ·have hv':v=.slice none 0 0:=hv
  subst hv'
  exact ⟨rfl,.inl ⟨rfl,rfl⟩⟩
 ·have hv':v=.slice (some ⟨g,0,none⟩) xs.length (xs++ext).length:=hv
  subst hv'
  refine ⟨by simp,.inr ⟨g,(xs++ext).length,_,rfl,e2,e3,by simp,e1,by simp,?_⟩⟩
  rw [Nat.mul_one]
  show (List.map _ (xs++ext)).take xs.length=_
  rw [List.map_append,List.take_append_of_le_length (by simp),List.take_of_length_le (by simp)]
  rfl
theorem tZ {v:Value}{n B:Nat}{w:World}{xs:List Nat}{ds:List Value}(h:(cat [EqS v,EqS (.slice none 0 0),NumA .i64 (n:Nat)]).p B ds w):ds=(newS v xs n).cells:=by
 obtain ⟨ps,rfl,hp⟩:=h
 cases hp with
 | cons h1 hp=>cases hp with
  | cons h2 hp=>cases hp with
   | cons h3 hp =>
    cases hp
    have h3':=h3
    obtain ⟨rfl,_⟩:=h1
    obtain ⟨rfl,_⟩:=h2
    have:_=[Value.int .i64 (n:Nat)]:=h3'
    subst this
    rfl
theorem pin_eq {v:Value}{xs:List Nat}:Wk (PinA v (MgN xs)).va (EqS v).va:=fun B u w ⟨cs,⟨h1,h2⟩,h3⟩=>by
 have h4:u=v:=h3.trans h2
 subst h4
 have hl:=(MgN xs).len _ _ _ h1
 have h5:=(MgN xs).one _ _ _ h1
 match cs,hl with
 | [x],_ =>
  have h6:u=x:=h3
  subst h6
  exact ⟨[u],⟨rfl,h5 u (by simp)⟩,rfl⟩
theorem ye {v u:Value}{xs:List Nat}{B:Nat}{w:World}(h:(PinA v (MgN xs)).va.p B u w):(MgN xs).va.p B v w:=by
 obtain ⟨cs,⟨h1,h2⟩,_⟩:=h
 exact ⟨cs,h1,h2.symm⟩
section
open Rg
variable {P:Program} {Q:Exit→Act→World→Prop} {R:Rg} {B i:Nat} {w0:Bs}
theorem gX {x:Operand}{g o:Nat}(hx:Has R B w0 i x (EqV (.pointer (some ⟨g,o,none⟩)))):Wv P Q R B w0 i (.nilCheck x) (EqV (.pointer (some ⟨g,o,none⟩))) :=
 bb fun d T ps af gd a w av=>by
  have h:a.eval x=.pointer (some ⟨g,o,none⟩):=hx a w av
  exact ⟨_,w,by simp [execOp,h],Grow.refl w,rfl⟩
theorem gY {x:Operand}{T:TypeId}{f k n g o:Nat}(hx:Has R B w0 i x (EqV (.pointer (some ⟨g,o,none⟩))))(hf:Fld P T f k n):Wv P Q R B w0 i (.fieldAddr T x f) (EqV (.pointer (some ⟨g,o+k,none⟩))) :=
 bb fun d T ps af gd a w av=>by
  have h:a.eval x=.pointer (some ⟨g,o,none⟩):=hx a w av
  exact ⟨_,w,by simp [execOp,h,d3 hf],Grow.refl w,rfl⟩
end
structure Slt where
 v:Value
 xs:List (List Value)
 u:Value
 ys:List (List Value)
 z:Value
 n:Nat
def Slt.cells (s:Slt):List Value:=[s.v,s.z,.int .i64 s.n]
def Slt.has (s:Slt)(g:Nat):Prop:=s.v.ownBlock=some g∨s.u.ownBlock=some g
def AptK (L:List Slt):Prop:=∀ (i j:Nat) (s t:Slt),L[i]?=some s→L[j]?=some t→i≠j→∀ g,s.has g→¬ t.has g
section
variable {H E m:Nat}
def RdyK (E m:Nat)(B:Nat)(w:World)(v:Value)(xs:List (List Value)):Prop:=RowV v xs.length∧(∀ x∈xs,x.length=m)∧∀ g,v.ownBlock=some g→B≤g∧∃ c,w.heap[g]?=some (Obj.cells c E (0,0))∧c.toList.take (xs.length*m)=xs.flatten
def Slt.ok (E m:Nat)(B:Nat)(w:World)(s:Slt):Prop:=w.ownsRow B E m s.u s.ys.length s.ys.flatten∧RdyK E m B w s.v s.xs
theorem ej:∀ {xs:List (List Value)},(∀ x∈xs,x.length=m)→xs.flatten.length=xs.length*m
 | [],_=>by simp
 | x::xs,h=>by
  rw [List.flatten_cons,List.length_append,h x (by simp),ej (fun y hy=>h y (by simp [hy])),List.length_cons,Nat.add_mul,Nat.one_mul,Nat.add_comm]
theorem RdyK.keep {B:Nat}{v:Value}{xs:List (List Value)}{w w':World}(h:RdyK E m B w v xs)(hk:∀ (g:Nat) (c:Array Value),v.ownBlock=some g→w.heap[g]?=some (Obj.cells c E (0,0))→w'.heap[g]?=some (Obj.cells c E (0,0))):RdyK E m B w' v xs :=
 ⟨h.1,h.2.1,fun g hg=>by
  obtain ⟨h1,c,h2,h3⟩:=h.2.2 g hg
  exact ⟨h1,c,hk g c hg h2,h3⟩⟩
theorem Slt.ok.keep {B:Nat}{s:Slt}{w w':World}(h:s.ok E m B w)(hk:∀ (g:Nat) (c:Array Value),s.has g→w.heap[g]?=some (Obj.cells c E (0,0))→w'.heap[g]?=some (Obj.cells c E (0,0))):s.ok E m B w' :=
 ⟨cv h.1 fun g c hg=>hk g c (.inr hg),h.2.keep fun g c hg=>hk g c (.inl hg)⟩
theorem Slt.ok.lt {B:Nat}{s:Slt}{w:World}(h:s.ok E m B w){g:Nat}(hg:s.has g):B≤g∧∃ c,w.heap[g]?=some (Obj.cells c E (0,0)):=by
 rcases hg with hg | hg
 ·obtain ⟨h1,c,h2,_⟩:=h.2.2.2 g hg
  exact ⟨h1,c,h2⟩
 ·rcases h.1.2 with ⟨e,_⟩ | ⟨g',cap,cur,e,h2,h3,_⟩
  ·rw [e] at hg; cases hg
  ·rw [e] at hg
   have:g'=g:=by simpa [Value.ownBlock] using hg
   subst this
   exact ⟨h2,cur,h3⟩
def HkA (H E m:Nat)(vr:Value)(L:List Slt):As where
 n:=1
 ag:=false
 p B cs w:=cs=[vr]∧w.ownsRow B H 3 vr L.length (L.flatMap Slt.cells)∧(∀ s∈L,s.ok E m B w)∧AptK L
 deps:=[H,E]
 len:=by rintro B cs w ⟨rfl,_⟩; rfl
 one:=by
  rintro B cs w ⟨rfl,h,_⟩ c hc
  obtain rfl:=List.mem_singleton.1 hc
  rcases h.2 with ⟨rfl,_⟩ | ⟨g,cap,cur,rfl,_⟩ <;> rfl
 ag1:=fun _=>rfl
 cg:=fun B cs w w' hg ⟨h1,h2,h3,h4⟩=>⟨h1,cv h2 fun g c _ h=>hg.heap h,fun s hs=>(h3 s hs).keep fun g c _ h=>hg.heap h,h4⟩
 wr:=by
  rintro B cs w w' g c T fz hgc hT hB hW ⟨h1,h2,h3,h4⟩
  simp only [List.mem_cons,List.not_mem_nil,or_false,not_or] at hT
  have hne:∀ (g':Nat) (c':Array Value) (E':TypeId),(E'=H∨E'=E)→w.heap[g']?=some (Obj.cells c' E' (0,0))→w'.heap[g']?=some (Obj.cells c' E' (0,0)):=fun g' c' E' hE h=>by
   rw [hW.block g' (fun e=>?_)]
   ·exact h
   ·subst e
    rw [hgc] at h
    injection h with h
    injection h with _ h _
    subst h
    rcases hE with e | e
    ·exact hT.1 e
    ·exact hT.2 e
  exact ⟨h1,cv h2 fun g c _ h=>hne g c _ (.inl G) h,fun s hs=>(h3 s hs).keep fun g c _ h=>hne g c _ (.inr G) h,h4⟩
theorem mQ {α:Type}{f:Slt→List α}:∀ {L:List Slt} {i:Nat} {s s':Slt},L[i]?=some s→f s'=f s→(L.set i s').flatMap f=L.flatMap f
 | x::L,0,s,s',h,e=>by
  simp at h
  subst h
  simp [e]
 | x::L,i+1,s,s',h,e=>by
  simp only [List.set_cons_succ,List.flatMap_cons]
  rw [mQ (by simpa using h) e]
theorem yD {vr:Value}{L:List Slt}{B i:Nat}{s s':Slt}{cs:List Value}{w w':World}(h:(HkA H E m vr L).p B cs w)(hi:L[i]?=some s)(hc:s'.cells=s.cells)(hok:s'.ok E m B w')
  (hrow:∀ (g:Nat) (c:Array Value),w.heap[g]?=some (Obj.cells c H (0,0))→w'.heap[g]?=some (Obj.cells c H (0,0))) (hoth:∀ (g:Nat) (c:Array Value),¬ s.has g→w.heap[g]?=some (Obj.cells c E (0,0))→w'.heap[g]?=some (Obj.cells c E (0,0)))
  (hblk:∀ g,s'.has g→s.has g∨w.heap.size≤g):(HkA H E m vr (L.set i s')).p B cs w':=by
 obtain ⟨h1,h2,h3,h4⟩:=h
 have hlt:i<L.length:=(List.getElem?_eq_some_iff.1 hi).1
 have hfar:∀ (j:Nat) t,L[j]?=some t→j≠i→∀ g,t.has g→¬ s'.has g:=fun j t hj hne g hg hg'=>by
  rcases hblk g hg' with h5 | h5
  ·exact h4 j i t s hj hi hne g hg h5
  ·obtain ⟨_,c,h6⟩:=(h3 t (List.mem_of_getElem? hj)).lt hg
   have:=(Array.getElem?_eq_some_iff.1 h6).1
   omega
 refine ⟨h1,?_,fun t ht=>?_,fun j k t1 t2 hj hk hne g hg hg'=>?_⟩
 ·rw [List.length_set,mQ hi hc]
  exact cv h2 fun g c _ h=>hrow g c h
 ·obtain ⟨j,hj⟩:=List.getElem?_of_mem ht
  by_cases e:j=i
  ·subst e
   rw [List.getElem?_set_self hlt] at hj
   injection hj with hj
   subst hj
   exact hok
  ·rw [List.getElem?_set_ne (fun e2=>e e2.symm)] at hj
   exact (h3 t (List.mem_of_getElem? hj)).keep fun g c hg hh=>hoth g c (fun hs=>h4 j i t s hj hi e g hg hs) hh
 ·by_cases e:j=i
  ·subst e
   rw [List.getElem?_set_self hlt] at hj
   injection hj with hj
   subst hj
   rw [List.getElem?_set_ne hne] at hk
   exact hfar k t2 hk (fun e=>hne e.symm) g hg' hg
  ·rw [List.getElem?_set_ne (fun e2=>e e2.symm)] at hj
   by_cases e2:k=i
   ·subst e2
    rw [List.getElem?_set_self hlt] at hk
    injection hk with hk
    subst hk
    exact hfar j t1 hj e g hg hg'
   ·rw [List.getElem?_set_ne (fun e3=>e2 e3.symm)] at hk
    exact h4 j k t1 t2 hj hk hne g hg hg'
theorem rK {c:List Value}{xs:List (List Value)}{k:Nat}{ds:List Value}(hx:∀ x∈xs,x.length=m)(hk:k<xs.length)(hd:ds.length=m)(h:c.take (xs.length*m)=xs.flatten):(c.take (k*m)++ds++c.drop (k*m+m)).take (xs.length*m)=(xs.set k ds).flatten:=by
 have hl:=ej hx
 have hle:xs.length*m≤c.length:=by
  have:=congrArg List.length h
  rw [hl,List.length_take] at this
  omega
 have hk1:k*m+m≤xs.length*m:=by rw [← Nat.succ_mul]; exact Nat.mul_le_mul_right m hk
 have e1:c.take (k*m)=(xs.take k).flatten:=by
  have h0:=congrArg (List.take (k*m)) h
  rw [List.take_take,Nat.min_eq_left zo] at h0
  rw [h0]
  have h2:xs.flatten=(xs.take k).flatten++(xs.drop k).flatten:=by rw [← List.flatten_append,List.take_append_drop]
  have h3:(xs.take k).flatten.length=k*m:=by
   rw [ej (fun x hx'=>hx x (List.mem_of_mem_take hx')),List.length_take,Nat.min_eq_left (Nat.le_of_lt hk)]
  rw [h2,← h3,List.take_left]
 have e2:(c.drop (k*m+m)).take (xs.length*m-(k*m+m))=(xs.drop (k+1)).flatten:=by
  have h0:=congrArg (List.drop (k*m+m)) h
  rw [List.drop_take] at h0
  rw [h0]
  have h2:xs.flatten=(xs.take (k+1)).flatten++(xs.drop (k+1)).flatten:=by rw [← List.flatten_append,List.take_append_drop]
  have h3:(xs.take (k+1)).flatten.length=k*m+m:=by
   rw [ej (fun x hx'=>hx x (List.mem_of_mem_take hx')),List.length_take,Nat.min_eq_left hk,Nat.succ_mul]
  rw [h2,← h3,List.drop_left]
 have l1:(c.take (k*m)).length=k*m:=by rw [List.length_take]; omega
 rw [List.append_assoc,List.take_append,l1,List.take_take,Nat.min_eq_right (show k*m≤xs.length*m by omega),List.take_append,hd,List.take_of_length_le (l:=ds) (by rw [hd]; omega),Nat.sub_sub,e1,e2,List.set_eq_take_append_cons_drop,if_pos hk]
 simp
theorem tY {vr:Value}{L:List Slt}{B i k g cap:Nat}{s:Slt}{cs ds:List Value}{w:World}(hHE:H≠E)(h:(HkA H E m vr L).p B cs w)(hi:L[i]?=some s)(hu:s.u=s.v)(hy:s.ys=s.xs)(hv:s.v=.slice (some ⟨g,0,none⟩) s.xs.length cap)(hk:k<s.xs.length)(hd:ds.length=m) :
  B≤g∧∃ c:Array Value,w.heap[g]?=some (Obj.cells c E (0,0))∧k*m+m≤c.size∧(HkA H E m vr (L.set i { s with xs:=s.xs.set k ds,ys:=s.xs.set k ds })).p B cs (w.setRow g (c.toList.take (k*m)++ds++c.toList.drop (k*m+m)).toArray):=by
 have hs:=h.2.2.1 s (List.mem_of_getElem? hi)
 have hg:s.v.ownBlock=some g:=by rw [hv]; rfl
 obtain ⟨hB,c,hc,htk⟩:=hs.2.2.2 g hg
 have hown:=hs.1
 rw [hu,hy,hv] at hown
 rcases hown.2 with ⟨e,_⟩ | ⟨g',cap',cur,e,h2,h3,h4,h5,h6,h7⟩
 ·cases e
 ·injection e with e1 e2 e3
  injection e1 with e1
  injection e1 with e1
  subst e1
  subst e3
  rw [hc] at h3
  injection h3 with h3
  injection h3 with h3
  subst h3
  have hk1:k*m+m≤s.xs.length*m:=by rw [← Nat.succ_mul]; exact Nat.mul_le_mul_right m hk
  have hk2:s.xs.length*m≤cap*m:=Nat.mul_le_mul_right m h4
  have hsz:k*m+m≤c.size:=by rw [h6]; omega
  have hnew:(w.setRow g (c.toList.take (k*m)++ds++c.toList.drop (k*m+m)).toArray).heap[g]?=some (Obj.cells (c.toList.take (k*m)++ds++c.toList.drop (k*m+m)).toArray E (0,0)):=setRow_heap w g _ _ _ _ hc
  have hitem:∀ x∈s.xs.set k ds,x.length=m:=fun x hx=>by
   rcases List.mem_or_eq_of_mem_set hx with hx | rfl
   ·exact hs.2.2.1 x hx
   ·exact hd
  have htk2:(c.toList.take (k*m)++ds++c.toList.drop (k*m+m)).take ((s.xs.set k ds).length*m)=(s.xs.set k ds).flatten:=by
   rw [List.length_set]
   exact rK hs.2.2.1 hk hd htk
  refine ⟨hB,c,hc,hsz,yD h hi G ⟨?_,?_⟩ (fun g2 c2 h8=>?_) (fun g2 c2 h8 h9=>?_) fun g2 h8=>.inl h8⟩
  ·show World.ownsRow _ B E m s.u (s.xs.set k ds).length (s.xs.set k ds).flatten
   rw [hu,hv]
   refine ⟨ej hitem,.inr ⟨g,cap,_,by rw [List.length_set],hB,hnew,by rw [List.length_set]; exact h4,h5,?_,htk2⟩⟩
   have hcl:c.toList.length=c.size:=by simp
   simp only [List.size_toArray,List.length_append,List.length_take,List.length_drop,hcl,hd]
   rw [h6] at hsz ⊢
   omega
  ·show RdyK E m B _ s.v (s.xs.set k ds)
   refine ⟨by rw [List.length_set]; exact hs.2.1,hitem,fun g2 h8=>?_⟩
   rw [hg] at h8
   injection h8 with h8
   subst h8
   exact ⟨hB,_,hnew,htk2⟩
  ·rw [setRow_other _ _ _ _ (fun e=>by subst e; rw [hc] at h8; injection h8 with h8; injection h8 with _ h8 _; exact hHE h8.symm)]
   exact h8
  ·rw [setRow_other _ _ _ _ (fun e=>h8 (.inl (by rw [e]; exact hg)))]
   exact h9
theorem hk_app {vr v':Value}{L:List Slt}{B i:Nat}{s:Slt}{cs ds:List Value}{w w':World}(hHE:H≠E)(h:(HkA H E m vr L).p B cs w)(hi:L[i]?=some s)(hown:w'.ownsRow B E m v' (s.ys.length+1) (s.ys.flatten++ds))(hg:w.grownBy w' s.u.ownBlock)
  (hb:v'.ownBlock=s.u.ownBlock∨(v'.ownBlock=some w.heap.size∧w.grownBy w' none)) (hpre:s.u.ownBlock=s.v.ownBlock→s.xs <+: s.ys) (hyl:∀ y∈s.ys,y.length=m):(HkA H E m vr (L.set i { s with u:=v',ys:=s.ys++[ds] })).p B cs w':=by
 have hs:=h.2.2.1 s (List.mem_of_getElem? hi)
 have hlt:∀ (g:Nat) (c:Array Value) (T:TypeId),w.heap[g]?=some (Obj.cells c T (0,0))→g<w.heap.size:=fun g c T h=>(Array.getElem?_eq_some_iff.1 h).1
 refine yD h hi G ⟨by simpa using hown,?_⟩ (fun g c h8=>?_) (fun g c h8 h9=>?_) fun g h8=>?_
 ·refine ⟨hs.2.1,hs.2.2.1,fun g hgv=>?_⟩
  obtain ⟨h1,c,h2,h3⟩:=hs.2.2.2 g hgv
  by_cases e:s.u.ownBlock=some g
  ·rcases hb with hb | ⟨hb,hgn⟩
   ·rcases hown.2 with ⟨e1,_⟩ | ⟨g',cap,cur,e1,h4,h5,h6,h7,h10,h11⟩
    ·rw [e1,e] at hb
     cases hb
    ·have:g'=g:=by
      have:v'.ownBlock=some g':=by rw [e1]; rfl
      rw [hb,e] at this
      injection this with this
      exact this.symm
     subst this
     refine ⟨h1,cur,h5,?_⟩
     obtain ⟨t,ht⟩:=hpre (e.trans hgv.symm)
     have hle:s.xs.length≤s.ys.length:=by rw [← ht]; simp
     have hle2:s.xs.length*m≤(s.ys.length+1)*m:=Nat.mul_le_mul_right m zo
     have h12:=congrArg (List.take (s.xs.length*m)) h11
     rw [List.take_take,Nat.min_eq_left hle2] at h12
     show cur.toList.take (s.xs.length*m)=s.xs.flatten
     rw [h12,← ht,List.flatten_append,List.append_assoc,← ej hs.2.2.1,List.take_left]
   ·exact ⟨h1,c,(hgn.block g (hlt _ _ _ h2) (by simp)).trans h2,h3⟩
  ·exact ⟨h1,c,(hg.block g (hlt _ _ _ h2) (fun e2=>e e2.symm)).trans h2,h3⟩
 ·refine (hg.block g (hlt _ _ _ h8) (fun e=>?_)).trans h8
  obtain ⟨_,c2,h9⟩:=hs.lt (g:=g) (.inr e.symm)
  rw [h8] at h9
  injection h9 with h9
  injection h9 with _ h9 _
  exact hHE h9
 ·exact (hg.block g (hlt _ _ _ h9) (fun e=>h8 (.inr e.symm))).trans h9
 ·rcases h8 with h8 | h8
  ·exact .inl (.inl h8)
  ·rcases hb with hb | ⟨hb,_⟩
   ·exact .inl (.inr (hb.symm.trans h8))
   ·have h8':v'.ownBlock=some g:=h8
    rw [hb] at h8'
    injection h8' with h8'
    exact .inr (Nat.le_of_eq h8')
theorem pH:∀ {L:List Slt} {i:Nat} {s:Slt},L[i]?=some s→∀ z,(L.set i { s with z:=z }).flatMap Slt.cells=(L.flatMap Slt.cells).set (3*i+1) z
 | x::L,0,s,h,z=>by
  simp at h
  subst h
  rfl
 | x::L,i+1,s,h,z=>by
  simp only [List.set_cons_succ,List.flatMap_cons]
  rw [pH (by simpa using h) z,show 3*(i+1)+1=(3*i+1)+3 by omega]
  rfl
theorem flatK3 {L:List Slt}:(L.flatMap Slt.cells).length=L.length*3:=by
 induction L with
 | nil=>rfl
 | cons x L ih=>rw [List.flatMap_cons,List.length_append,ih,List.length_cons]; show 3+_=_; omega
theorem yE {vr:Value}{L:List Slt}{B i g cap:Nat}{s:Slt}{cs:List Value}{w:World}(hHE:H≠E)(z:Value)(h:(HkA H E m vr L).p B cs w)(hi:L[i]?=some s)(hvr:vr=.slice (some ⟨g,0,none⟩) L.length cap) :
  B≤g∧∃ c:Array Value,w.heap[g]?=some (Obj.cells c H (0,0))∧i*3+1<c.size∧(HkA H E m vr (L.set i { s with z:=z })).p B cs (w.setRow g (c.setIfInBounds (i*3+1) z)):=by
 obtain ⟨h1,h2,h3,h4⟩:=h
 have hlt:i<L.length:=(List.getElem?_eq_some_iff.1 hi).1
 rcases h2.2 with ⟨e,_⟩ | ⟨g',cap',cur,e,q2,q3,q4,q5,q6,q7⟩
 ·rw [hvr] at e; cases e
 ·rw [hvr] at e
  injection e with e1 e2 e3
  injection e1 with e1
  injection e1 with e1
  subst e1
  have hsz:i*3+1<cur.size:=by
   rw [q6]
   have:L.length*3≤cap'*3:=Nat.mul_le_mul_right 3 q4
   omega
  have hnew:(w.setRow g (cur.setIfInBounds (i*3+1) z)).heap[g]?=some (Obj.cells (cur.setIfInBounds (i*3+1) z) H (0,0)):=setRow_heap w g _ _ _ _ q3
  refine ⟨q2,cur,q3,hsz,h1,?_,fun t ht=>?_,fun j k t1 t2 hj hk hne g2 hg hg'=>?_⟩
  ·rw [List.length_set,pH hi]
   refine ⟨by rw [List.length_set,flatK3],.inr ⟨g,cap',_,?_,q2,hnew,q4,q5,by simp [q6],?_⟩⟩
   ·rw [hvr,e3]
   ·rw [Array.toList_setIfInBounds,List.take_set,q7,show 3*i+1=i*3+1 by omega]
  ·have hkeep:∀ t':Slt,t'.ok E m B w→t'.ok E m B (w.setRow g (cur.setIfInBounds (i*3+1) z)):=fun t' ht'=>ht'.keep fun g2 c2 hg2 h8=>by
    rw [setRow_other _ _ _ _ (fun e=>by subst e; rw [q3] at h8; injection h8 with h8; injection h8 with _ h8 _; exact hHE h8)]
    exact h8
   rcases List.mem_or_eq_of_mem_set ht with ht | rfl
   ·exact hkeep t (h3 t ht)
   ·exact hkeep _ (h3 s (List.mem_of_getElem? hi))
  ·have hsame:∀ (j:Nat) t,(L.set i { s with z:=z })[j]?=some t→∃ t0,L[j]?=some t0∧∀ g,t.has g→t0.has g:=fun j t hj=>by
    by_cases e:j=i
    ·subst e
     rw [List.getElem?_set_self hlt] at hj
     injection hj with hj
     subst hj
     exact ⟨s,hi,fun g h=>h⟩
    ·rw [List.getElem?_set_ne (fun e2=>e e2.symm)] at hj
     exact ⟨t,hj,fun g h=>h⟩
   obtain ⟨t3,r1,r2⟩:=hsame j t1 hj
   obtain ⟨t4,r3,r4⟩:=hsame k t2 hk
   exact h4 j k t3 t4 r1 r3 hne g2 (r2 g2 hg) (r4 g2 hg')
end
def Slt.view (s:Slt):As:=cat [EqS s.v,EqS s.z,NumA .i64 (s.n:Nat)]
theorem nc {B:Nat}{w:World}:∀ {L:List Slt},(∀ s∈L,s.v.oneCell'=true∧s.z.oneCell'=true)→(cat (L.map Slt.view)).p B (L.flatMap Slt.cells) w
 | [],_=>⟨[],rfl,.nil⟩
 | s::L,h=>by
  obtain ⟨ps,e,hp⟩:=nc (B:=B) (w:=w) (L:=L) fun t ht=>h t (by simp [ht])
  refine ⟨s.cells::ps,by rw [List.flatMap_cons,e]; rfl,.cons ?_ hp⟩
  exact ⟨[[s.v],[s.z],[.int .i64 s.n]],rfl,.cons ⟨rfl,(h s (by simp)).1⟩ (.cons ⟨rfl,(h s (by simp)).2⟩ (.cons G .nil))⟩
abbrev OneK (M:List Slt):Prop:=∀ s∈M,s.v.oneCell'=true∧s.z.oneCell'=true
theorem nY {H E m:Nat}{vr:Value}{L:List Slt}(h:OneK L):Wk (HkA H E m vr L).va (SlA H [] (L.map Slt.view)).va:=fun B v w ⟨cs,⟨e,h2,_⟩,hv⟩=>by
 subst e
 have hv':v=vr:=hv
 subst hv'
 refine eP (b:=B) (m:=3) B v w ⟨fun A hA=>?_,fun A hA T hT=>?_,L.flatMap Slt.cells,nc h,?_⟩
 ·obtain ⟨s,_,rfl⟩:=List.mem_map.1 hA; rfl
 ·obtain ⟨s,_,rfl⟩:=List.mem_map.1 hA; cases (show T∈([]:List TypeId) from hT)
 ·rw [List.length_map]; exact h2
theorem BH {H E m:Nat}{vr:Value}{L:List Slt}:Wk (HkA H E m vr L).va (EqV vr):=fun B v w ⟨cs,⟨e,_⟩,hv⟩=>by
 subst e
 exact hv
theorem kv {L:List Slt}{i:Nat}{s:Slt}(h:L[i]?=some s):(L.map Slt.view)[i]?=some s.view:=by rw [List.getElem?_map,h]; rfl
theorem nn {L:List Slt}:∀ A∈L.map Slt.view,A.n=3:=fun A hA=>by
 obtain ⟨s,_,rfl⟩:=List.mem_map.1 hA; rfl
structure MkP (A:Nat→As) (m:Nat):Prop where
 n:∀ k,(A k).n=m
 d:∀ k,(A k).deps=[]
 any:∀ k B B' w w' cs,(A k).p B cs w→(A k).p B' cs w'
def isMk (A:Nat→As)(k:Nat)(ds:List Value):Prop:=∃ B w,(A k).p B ds w
theorem MkP.len {A:Nat→As}{m k:Nat}(h:MkP A m){ds:List Value}(hd:isMk A k ds):ds.length=m:=by
 obtain ⟨B,w,hd⟩:=hd
 rw [(A k).len _ _ _ hd,h.n]
theorem MkP.cat {A:Nat→As}{m k:Nat}(h:MkP A m){B:Nat}{w:World}:∀ {xs:List (List Value)},(∀ x∈xs,isMk A k x)→(cat (List.replicate xs.length (A k))).p B xs.flatten w
 | [],_=>⟨[],rfl,.nil⟩
 | x::xs,hx=>by
  obtain ⟨ps,e,hp⟩:=h.cat (B:=B) (w:=w) (xs:=xs) fun y hy=>hx y (by simp [hy])
  obtain ⟨B',w',h1⟩:=hx x (by simp)
  refine ⟨x::ps,by rw [List.flatten_cons,List.flatten_cons,e],?_⟩
  rw [List.length_cons,List.replicate_succ]
  exact .cons (h.any _ _ _ _ _ _ h1) hp
theorem sr {A:Nat→As}{E m k B:Nat}{w:World}{v:Value}{xs:List (List Value)}(hA:MkP A m)(h:RdyK E m B w v xs)(hx:∀ x∈xs,isMk A k x):(SlA E [] (List.replicate xs.length (A k))).va.p B v w:=by
 have hdep:∀ A'∈List.replicate xs.length (A k),∀ T∈A'.deps,T∈([]:List TypeId):=fun A' h1 T hT=>by
  rw [(List.mem_replicate.1 h1).2,hA.d] at hT; cases hT
 rcases h.1 with ⟨rfl,e⟩ | ⟨g,cap,rfl,h1,h2⟩
 ·refine ⟨[.slice none 0 0],⟨hdep,none,0,xs.flatten,by rw [List.length_replicate,e],by rw [List.length_replicate,e]; exact Nat.le_refl _,Nat.zero_le _,hA.cat hx,fun h=>by rw [List.length_replicate,e] at h; omega⟩,rfl⟩
 ·obtain ⟨_,c,h3,h4⟩:=h.2.2 g rfl
  refine ⟨[.slice (some ⟨g,0,none⟩) xs.length cap],⟨hdep,_,cap,xs.flatten,by rw [List.length_replicate],by rw [List.length_replicate]; exact h1,h2,hA.cat hx,fun _=>⟨g,0,rfl,(Array.getElem?_eq_some_iff.1 h3).1,.inr ⟨_,_,h3⟩,fun j u hu=>?_⟩⟩,rfl⟩
  rw [cell_of_row w g (0+j) c E _ h3,Nat.zero_add]
  rw [← h4,List.getElem?_take] at hu
  split at hu
  ·simpa using hu
  ·cases hu
theorem p6 {E m B:Nat}{w:World}{v:Value}{ys:List (List Value)}(hy:∀ y∈ys,y.length=m)(h:w.ownsRow B E m v ys.length ys.flatten):RdyK E m B w v ys:=by
 rcases h.2 with ⟨rfl,e⟩ | ⟨g,cap,cur,rfl,h1,h2,h3,h4,h5,h6⟩
 ·exact ⟨.inl ⟨rfl,e⟩,hy,fun g hg=>by cases hg⟩
 ·refine ⟨.inr ⟨g,cap,rfl,h3,h4⟩,hy,fun g' hg=>?_⟩
  have:g=g':=by simpa [Value.ownBlock] using hg
  subst this
  exact ⟨h1,cur,h2,h6⟩
section
open Rg
variable {P:Program} {Q:Exit→Act→World→Prop} {B N:Nat} {w0:Bs} {Γ:List (Nat × VA)} {Λ:List Lc} {a:Act} {w:World} {ops:Array Oper} {i:Nat} {K:Act→World→Prop}
theorem B0 {p d g k n sx:Nat}{ag:Bool}{E ty T T':TypeId}{H:Hd}{A0 A1:As}{ps:String}{af:Array Edge}{v:Value}{ds:List Value}(src:List Nat)(kp kd e:Nat)(ho:ops[i]?=some ⟨none,.store ty (.tmp p) (.tmp d),T',ps,af,none⟩)(h:St B w0 N Γ Λ a w)
  (hp:Γ[kp]?=some (p,EqV (.pointer (some ⟨g,k,none⟩)))) (hd:Γ[kd]?=some (d,EqV v)) (hv1:∀ c∈ds,c.oneCell'=true) (hvc:v.cells=ds.toArray) (hdl:ds.length=n) (ht:Ty P ty n ag) (hl:Λ[e]?=some ⟨sx,T,H,A0⟩) (hTE:(T != E)=true) (hrm:RowMay w0 B E)
  (hsrc:src.all (fun k=>match Γ[k]? with | some y => !y.2.deps.contains E | none=>false)=true) (hΛ:Λ.zipIdx.all (fun x=>x.2==e || (x.1.T != E && !x.1.A.deps.contains E))=true)
  (htr:∀ cs,A0.p B cs w→B≤g∧∃ c:Array Value,w.heap[g]?=some (.cells c E (0,0))∧k+n≤c.size∧A1.p B cs (w.setRow g (c.toList.take k++ds++c.toList.drop (k+n)).toArray))
  (hK:∀ w',St B w0 N (src.filterMap fun k=>Γ[k]?) (Λ.set e ⟨sx,T,H,A1⟩) a w'→K (a.put none undef) w'):wpOp P ops Q i K a w:=by
 have e1:a.eval (.tmp p)=.pointer (some ⟨g,k,none⟩):=h.vals _ (List.mem_of_getElem? hp)
 have e2:a.eval (.tmp d)=v:=h.vals _ (List.mem_of_getElem? hd)
 obtain ⟨g0,cs0,q1,q2,q3,q4⟩:=h.locs _ (List.mem_of_getElem? hl)
 obtain ⟨hB,c,hc,hkc,_⟩:=htr cs0 q4
 have hrun:=bL ht w g k E c v ds hvc hdl hkc hv1 hc
 unfold wpOp
 simp only [ho,Region.wanted,if_true]
 refine .inl (wp_skip' (w':=w.setRow g (c.toList.take k++ds++c.toList.drop (k+n)).toArray) ?_ (hK _ (h.turn src e ga (fun g' e=>?_) hrm hl hTE hsrc hΛ fun cs hp=>?_)))
 ·simp [execOp,e1,e2,Instr.storeAt,Instr.sureAddr,hrun]
 ·injection e with e
  subst e
  exact ⟨hB,_,_,hc⟩
 ·obtain ⟨_,c',hc',_,h5⟩:=htr cs hp
  rw [hc] at hc'
  injection hc' with hc'
  injection hc' with hc'
  subst hc'
  exact h5
theorem St.pinV {s:Nat}{A:As}(h:St B w0 N Γ Λ a w)(k:Nat)(hm:Γ[k]?=some (s,A.va)):∃ v ds,A.p B ds w∧v.cells=ds.toArray∧(∀ c∈ds,c.oneCell'=true)∧St B w0 N (Γ.set k (s,EqV v)) Λ a w:=by
 obtain ⟨ds,h1,h2⟩:=h.vals _ (List.mem_of_getElem? hm)
 exact ⟨a.eval (.tmp s),ds,h1,by rw [show a.eval (.tmp s)=shape A.ag ds from h2]; exact A.cells_shape h1,A.one _ _ _ h1,h.lo,h.defers,h.size,h.base,fun y hy=>by
  rcases List.mem_or_eq_of_mem_set hy with hy | rfl
  ·exact h.vals y hy
  ·exact rfl,h.locs,h.dis⟩
end
end Go.Proofs.YtmacliockgbdcaaGreatDoor
