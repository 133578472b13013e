import Derived.Test.YtmfgafhlaeolgaaGreatDoorBtAa
import Derived.Test.YtmfgafhlaeolgaaGreatDoorBtAc
import Derived.Test.YtmfgafhlaeolgaaGreatDoorBtAm
import Derived.Laws.AppendOwn
import Derived.Laws.OwnMore
import Derived.Orders
set_option linter.unusedVariables false
set_option linter.unusedSimpArgs false
set_option linter.unusedSectionVars false
set_option maxRecDepth 100000
namespace Go.Proofs.YtmfgafhlaeolgaaGreatDoor
open Go Go.RowKit
theorem zjx {Q:Exit→Act→World→Prop}(h:∀ a w,Q .outgrown a w→False):¬ LetsOut Q:=fun ⟨a,w,h'⟩=>h a w h'
def fw (o:Option Nat):Fence:={ fn:=fun _=>True,depth:=none,alive:=false,round:=o }
theorem calls_fw {o:Option Nat}{n:Nat}{P:Program}{f:FuncId}{args:Array Value}{w:World}{R:Ending→World→Prop}(h:Calls P f args w R):CallsIn (fw o) n P f args w R:=by
 have h':CallsIn Fence.wide n P f args w R:=callsIn_wide.2 h
 cases o with
 | none=>exact h'
 | some l=>exact CallsIn.inRound l h'
theorem fw_steps {o:Option Nat}{P:Program}{m m':Machine}:StepsIn (Machine.fenced P (fw o)) P m m'↔Steps P m m':=by
 cases o with
 | none=>exact stepsIn_wide
 | some l=>exact stepsIn_wide
theorem rows_fw {o:Option Nat}{n:Nat}{P:Program}{row:String}{args:Array Value}{w:World}{R:Value→World→Prop}(h:Rows P row args w R):RowsIn (fw o) n P row args w R:=fun c cs _=>by
 obtain ⟨v,w',h1,h2⟩:=h c cs
 exact ⟨v,w',h1,fw_steps.2 h2⟩
def noDefer (ops:Array Oper):Bool:=ops.all fun x=>match x.op with | .defer _=>false | _=>true
theorem zjy {ops:Array Oper}(h:noDefer ops=true){i:Nat}{x:Oper}(hx:ops[i]?=some x):∀ c,x.op≠.defer c:=fun c e=>by
 have:=Array.all_eq_true'.1 h x (Array.mem_of_getElem? hx)
 rw [e] at this
 cases this
theorem zdv {o:Option Nat}{P:Program}{ops:Array Oper}{Q:Exit→Act→World→Prop}{i:Nat}{K:Act→World→Prop}{a:Act}{w:World}(hnd:noDefer ops=true)(hQ0:¬ LetsOut Q)(h:wpOp P ops Q i K a w):wpOpIn (fw o) 0 P ops Q i K a w:=by
 unfold wpOp at h
 unfold wpOpIn
 cases ho:ops[i]? with
 | none=>rw [ho] at h; exact h
 | some x =>
  rw [ho] at h
  simp only at h ⊢
  by_cases hw:Region.wanted x (yielded ops a.tmps)=true
  ·rw [if_pos hw] at h ⊢
   rcases h with h | ⟨_,h⟩
   ·refine ⟨fun _ _=>trivial,?_⟩
    rw [Oper.semAt_eq _ _ _ (zjy hnd ho)]
    unfold Oper.wp at h
    generalize (execOp a.eval x).run P w=r at *
    cases r with
    | ok nx w' =>
     cases nx with
     | value v=>exact h
     | skip=>exact h
     | defer d=>exact h
     | enter f args=>exact ⟨fun hh=>(by cases hh),calls_fw h⟩
     | row r args=>exact ⟨fun hh=>(by cases hh),rows_fw h⟩
     | _=>exact absurd h (fun h=>h)
    | halt e w'=>cases e <;> exact h
   ·exact absurd h hQ0
  ·rw [if_neg hw] at h ⊢
   exact ⟨fun _ _=>trivial,h⟩
section
variable {P:Program} {R:Rg} {Q:Exit→Act→World→Prop} {B:Nat} {w0:Bs} {a:Act} {w:World} {o:Option Nat}
open Rg in
theorem Rg.linF {id:Nat}{Λ:List Lc}(hnd:noDefer R.ops=true)(hQ0:¬ LetsOut Q)(hanc:R.anc=fun i=>List.range i)(hk:R.chk=true)(h:St B w0 R.N R.Γ Λ a w)(hles:∀ e∈R.les,e.cr=none→(⟨e.s,e.T,e.H,e.A0⟩:Lc)∈Λ)
  (hob:∀ i,i<R.ops.size→R.Ob P Q B w0 i) (hQ:∀ a' w',Fin R B w0 a' w'→Q .normal a' w'):(Code.region id R.ops false).wpIn (fw o) 0 P Q a w:=by
 refine wpIn_region ?_
 have key:∀ m k,k+m=R.ops.size→∀ a w,R.Inv B w0 (fun j=>decide (j<k)) a w→wpOpsIn (fw o) 0 P R.ops Q (List.range' k m) a w:=by
  intro m
  induction m with
  | zero =>
   intro k hkm a w hi
   have:k=R.ops.size:=by omega
   subst this
   exact hQ a w ⟨hi⟩
  | succ m ih =>
   intro k hkm a w hi
   rw [List.range'_succ,wpOpsIn_cons]
   refine zdv hnd hQ0 (step hk (hob k zo) hi ?_ (by simp) ?_ _ fun a' w' hi'=>ih (k+1) zo a' w' (hi'.congr fun j=>?_))
   ·intro i hi j hj
    rw [hanc] at hj
    simp at hi hj ⊢
    omega
   ·intro j hj
    rw [hanc] at hj
    simpa using hj
   ·unfold upd
    by_cases h1:j=k
    ·subst h1; simp
    ·have h2:(j==k)=false:=by simpa using h1
     rw [h2,Bool.false_or,decide_eq_decide]
     omega
 rw [List.range_eq_range']
 exact key _ 0 zo a w ((start h hles).congr fun j=>by simp)
end
section
variable {P:Program} {R:Rg} {Q:Exit→Act→World→Prop} {B:Nat} {w0:Bs} {a:Act} {w:World} {o:Option Nat}
open Rg in
theorem Rg.drawK {id:Nat}{Λ:List Lc}{n m:Nat}(hsz2:R.ops.size=n+m)(hm0:0<m)(hm:P.follows .mixedOrders=true)(hanc:ancOk R=true)(hk:R.chk=true)(h:St B w0 R.N R.Γ Λ a w)(hles:∀ e∈R.les,e.cr=none→(⟨e.s,e.T,e.H,e.A0⟩:Lc)∈Λ)
  (hob:∀ i,i<n→R.Ob P Q B w0 i) (ha1:∀ i,n≤i→i<n+m→∀ j,j<i→(R.anc i).contains j=true)
  (hQ:∀ a w,R.Inv B w0 (fun k=>decide (k<n)) a w→wpOps P R.ops Q (List.range' n m) a w) :
  (Code.region id R.ops true).wp P Q a w:=by
 refine wp_region_any hm ?_
 have ho:∀ i,i<R.ops.size→∃ o:Oper,R.ops[i]?=some o∧(∀ j,(R.anc i).contains j=true→∃ e∈o.after,Region.binds .any e=true∧(e.on=j∨(R.anc e.on).contains j=true)) ∧
   ∀ e∈o.after,Region.binds .any e=true→e.on<i:=by
  intro i hi
  have:=List.all_eq_true.1 hanc i (by simpa using hi)
  cases hoi:R.ops[i]? with
  | none=>rw [hoi] at this; cases this
  | some o =>
   rw [hoi] at this
   simp only [Bool.and_eq_true] at this
   refine ⟨o,rfl,fun j hj=>?_,fun e he hb=>?_⟩
   ·have hh:=List.all_eq_true.1 this.1 j (by simpa using hj)
    obtain ⟨e,he,h1⟩:=Array.any_eq_true'.1 hh
    simp only [Bool.and_eq_true,Bool.or_eq_true,beq_iff_eq] at h1
    exact ⟨e,he,h1.1,h1.2⟩
   ·have hh:=Array.all_eq_true'.1 this.2 e he
    simpa [hb] using hh
 have hrd:∀ (listed:Array Bool) i,i∈Region.ready .any R.ops listed→i<R.ops.size∧listed.getD i true=false∧∀ o,R.ops[i]?=some o→∀ e∈o.after,Region.binds .any e=true→listed.getD e.on false=true:=by
  intro listed i hi
  unfold Region.ready at hi
  obtain ⟨h1,h2⟩:=List.mem_filter.1 hi
  simp only [Bool.and_eq_true,Bool.not_eq_true'] at h2
  refine ⟨by simpa using h1,h2.1,fun o hoi e he hb=>?_⟩
  have h3:=h2.2
  rw [hoi] at h3
  simp only [Option.map_some,Option.getD_some] at h3
  have:=Array.all_eq_true'.1 h3 e he
  simpa [hb] using this
 have hset:∀ (listed:Array Bool) (i k:Nat),listed.size=R.ops.size→i<R.ops.size→(listed.setIfInBounds i true).getD k false=upd (fun i=>listed.getD i false) i k:=by
  intro listed i k hsz hi
  unfold upd
  by_cases hki:k=i
  ·subst hki
   simp [hsz,hi]
  ·simp [hki,Array.getElem?_setIfInBounds_ne (fun e=>hki e.symm)]
 have hpos:∀ (listed:Array Bool) (i:Nat),i<R.ops.size→listed.getD i false=false→0<(List.range R.ops.size).countP (fun k => !listed.getD k false):=fun listed i hi hl =>
  List.countP_pos_iff.2 ⟨i,by simpa using hi,by simp only [hl]; rfl⟩
 have hlt:∀ (listed:Array Bool) (i:Nat),listed.size=R.ops.size→i<R.ops.size→listed.getD i false=false→(List.range R.ops.size).countP (fun k => !(listed.setIfInBounds i true).getD k false)<(List.range R.ops.size).countP (fun k => !listed.getD k false):=by
  intro listed i hsz hi hLi
  refine zeh (x:=i) (fun x hx=>?_) (by simpa using hi) (by rw [hLi]; rfl) (by rw [hset listed i i hsz hi,zcb]; rfl)
  have hx':upd (fun i=>listed.getD i false) i x=false:=by
   rw [← hset listed i x hsz hi]
   simpa only [Bool.not_eq_true'] using hx
  rw [(zdn hx').2]
  rfl
 have hfull:∀ (listed:Array Bool),listed.size=R.ops.size→Region.ready .any R.ops listed=[]→∀ k,k<R.ops.size→listed.getD k false=true:=by
  intro listed hsz hr k
  induction k using Nat.strongRecOn with
  | _ k ih =>
   intro hkn
   cases hl:listed.getD k false with
   | true=>rfl
   | false =>
    exfalso
    obtain ⟨x,ho1,_,ho3⟩:=ho k hkn
    have:k∈Region.ready .any R.ops listed:=by
     unfold Region.ready
     refine List.mem_filter.2 ⟨by simpa using hkn,?_⟩
     have h0:listed.getD k true=false:=by
      simp only [Array.getD,hsz,hkn,dite_true] at hl ⊢
      exact hl
     rw [h0,ho1]
     simp only [Bool.not_false,Bool.true_and,Option.map_some,Option.getD_some]
     refine Array.all_eq_true'.2 fun e he=>?_
     cases hb:Region.binds .any e with
     | false=>rfl
     | true=>simpa using ih e.on (ho3 e he hb) (Nat.lt_trans (ho3 e he hb) hkn)
    rw [hr] at this
    cases this
 have hancL:∀ (listed:Array Bool) i,Closed R (fun i=>listed.getD i false)→i∈Region.ready .any R.ops listed→∀ j,(R.anc i).contains j=true→listed.getD j false=true:=by
  intro listed i hcl hir j hj
  obtain ⟨h1,h2,h3⟩:=hrd listed i hir
  obtain ⟨x,ho1,ho2,_⟩:=ho i h1
  obtain ⟨e,he,hb,hj'⟩:=ho2 j hj
  have hl:=h3 x ho1 e he hb
  rcases hj' with rfl | hj'
  ·exact hl
  ·exact hcl e.on hl j hj'
 have hclN:∀ (listed:Array Bool) i,listed.size=R.ops.size→Closed R (fun i=>listed.getD i false)→i∈Region.ready .any R.ops listed→Closed R (fun k=>(listed.setIfInBounds i true).getD k false):=by
  intro listed i hsz hcl hir k hk' j hj
  obtain ⟨h1,_,_⟩:=hrd listed i hir
  have hk2:upd (fun i=>listed.getD i false) i k=true:=by rw [← hset listed i k hsz h1]; exact hk'
  show (listed.setIfInBounds i true).getD j false=true
  rw [hset listed i j hsz h1]
  rcases zma hk2 with rfl | h4
  ·exact zde _ (hancL listed k hcl hir j hj)
  ·exact zde _ (hcl k h4 j hj)
 have tail:∀ q k,k+q=n+m→n≤k→∀ fuel (listed:Array Bool) a w,listed.size=R.ops.size→(List.range R.ops.size).countP (fun i => !listed.getD i false)≤fuel→Closed R (fun i=>listed.getD i false) →
   (∀ j,j<k→listed.getD j false=true)→(∀ j,k≤j→j<n+m→listed.getD j false=false)→wpOps P R.ops Q (List.range' k q) a w→wpAny P .any R.ops Q fuel listed a w:=by
  intro q
  induction q with
  | zero =>
   intro k hkq hnk fuel listed a w hsz hcnt hcl hall _ hwp
   have hr:Region.ready .any R.ops listed=[]:=by
    cases hrr:Region.ready .any R.ops listed with
    | nil=>rfl
    | cons i rest =>
     obtain ⟨h1,h2,_⟩:=hrd listed i (by rw [hrr]; simp)
     have:=hall i zo
     simp only [Array.getD,hsz,h1,dite_true] at h2 this
     rw [h2] at this
     cases this
   cases fuel with
   | zero=>exact ⟨hr,hwp⟩
   | succ fuel=>exact ⟨fun _=>hwp,fun i hir=>by rw [hr] at hir; cases hir⟩
  | succ q ih =>
   intro k hkq hnk fuel listed a w hsz hcnt hcl hall hnone hwp
   have hLk:listed.getD k false=false:=hnone k (Nat.le_refl _) zo
   have hp:=hpos listed k zo hLk
   cases fuel with
   | zero=>omega
   | succ fuel =>
    refine ⟨fun hr=>absurd (hfull listed hsz hr k zo) (by rw [hLk]; decide),fun i hir=>?_⟩
    obtain ⟨h1,h2,h3⟩:=hrd listed i hir
    have hik:i=k:=by
     by_cases e:i=k
     ·exact e
     ·exfalso
      by_cases hlt':i<k
      ·have:=hall i hlt'
       simp only [Array.getD,hsz,h1,dite_true] at h2 this
       rw [h2] at this
       cases this
      ·have:=hancL listed i hcl hir k (ha1 i zo zo k zo)
       rw [hLk] at this
       cases this
    subst hik
    rw [List.range'_succ,wpOps_cons] at hwp
    refine wpOp_mono (fun a' w' hr=>ih (i+1) zo zo fuel _ a' w' (by simpa using hsz) ?_ (hclN listed i hsz hcl hir) (fun j hj=>?_) (fun j hj hj2=>?_) hr) hwp
    ·have:=hlt listed i hsz h1 hLk
     omega
    ·rw [hset listed i j hsz h1]
     by_cases e:j=i
     ·rw [e]; exact zcb _ _
     ·exact zde _ (hall j zo)
    ·rw [hset listed i j hsz h1,zdf _ zo]
     exact hnone j zo hj2
 have key:∀ fuel (listed:Array Bool) a w,listed.size=R.ops.size→(List.range R.ops.size).countP (fun i => !listed.getD i false)≤fuel→Closed R (fun i=>listed.getD i false) →
   (∀ j,n≤j→j<n+m→listed.getD j false=false)→R.Inv B w0 (fun i=>listed.getD i false) a w→wpAny P .any R.ops Q fuel listed a w:=by
  intro fuel
  induction fuel with
  | zero =>
   intro listed a w hsz hcnt hcl hn0 hi
   have:=hpos listed n zo (hn0 n (Nat.le_refl _) zo)
   omega
  | succ fuel ih =>
   intro listed a w hsz hcnt hcl hn0 hi
   have hn00:=hn0 n (Nat.le_refl _) zo
   by_cases hdone:∀ j,j<n→listed.getD j false=true
   ·refine tail m n rfl (Nat.le_refl _) (fuel+1) listed a w hsz hcnt hcl hdone hn0 (hQ a w (hi.congr fun k=>?_))
    by_cases hkn:k<n
    ·rw [hdone k hkn]; simp [hkn]
    ·by_cases hkm:k<n+m
     ·rw [hn0 k zo hkm]; simp [hkn]
     ·have:listed.getD k false=false:=by simp [Array.getD,hsz,hsz2,hkm]
      rw [this]; simp [hkn]
   ·refine ⟨fun hr=>absurd (hfull listed hsz hr n zo) (by rw [hn00]; decide),fun i hir=>?_⟩
    obtain ⟨h1,h2,h3⟩:=hrd listed i hir
    have hin:i<n:=by
     by_cases e:i<n
     ·exact e
     ·exact absurd (fun j hj=>hancL listed i hcl hir j (ha1 i zo zo j zo)) hdone
    have hLi:listed.getD i false=false:=by
     simp only [Array.getD,hsz,h1,dite_true] at h2 ⊢
     exact h2
    refine step hk (hob i hin) hi hcl hLi (hancL listed i hcl hir) _ fun a' w' hi'=>ih _ _ _ (by simpa using hsz) ?_ (hclN listed i hsz hcl hir) ?_ (hi'.congr fun k=>hset listed i k hsz h1)
    ·have:=hlt listed i hsz h1 hLi
     omega
    ·intro j hj hj2
     rw [hset listed i j hsz h1,zdf _ zo]
     exact hn0 j hj hj2
 refine key _ _ a _ (by simp) ?_ ?_ ?_ ?_
 ·refine Nat.le_trans (List.countP_le_length) (by simp)
 ·intro i hi
  exfalso
  simp only [Array.getD,Array.size_replicate] at hi
  split at hi <;> simp at hi
 ·intro j hj hj2
  simp only [Array.getD,Array.size_replicate]
  split <;> simp
 ·have hs:=start h hles
  have hd:R.Inv B w0 (fun _=>false) a w.drew:=⟨hs.lo,hs.defers.grow (Grow.drew w) rfl,hs.size,hs.base.drew,fun x hx h1 h2=>x.2.grow _ _ _ _ (Grow.drew w) (hs.g x hx h1 h2),(fun i y d A _ _ hf=>by cases hf),(fun i d b k c _ hf=>by cases hf),
   fun e he A hA=>(hs.c e he A hA).grow (Grow.drew w),hs.x⟩
  refine Inv.congr hd fun k=>?_
  simp only [Array.getD,Array.size_replicate]
  split <;> simp
open Rg in
theorem Rg.drawKF {id:Nat}{Λ:List Lc}{n m:Nat}(hnd:noDefer R.ops=true)(hQ0:¬ LetsOut Q)(hsz2:R.ops.size=n+m)(hm0:0<m)(hm:P.follows .mixedOrders=true)(hanc:ancOk R=true)(hk:R.chk=true)(h:St B w0 R.N R.Γ Λ a w)(hles:∀ e∈R.les,e.cr=none→(⟨e.s,e.T,e.H,e.A0⟩:Lc)∈Λ)
  (hob:∀ i,i<n→R.Ob P Q B w0 i) (ha1:∀ i,n≤i→i<n+m→∀ j,j<i→(R.anc i).contains j=true)
  (hQ:∀ a w,R.Inv B w0 (fun k=>decide (k<n)) a w→wpOpsIn (fw o) 0 P R.ops Q (List.range' n m) a w) :
  (Code.region id R.ops true).wpIn (fw o) 0 P Q a w:=by
 refine wpIn_region_any hm ?_
 have ho:∀ i,i<R.ops.size→∃ o:Oper,R.ops[i]?=some o∧(∀ j,(R.anc i).contains j=true→∃ e∈o.after,Region.binds .any e=true∧(e.on=j∨(R.anc e.on).contains j=true)) ∧
   ∀ e∈o.after,Region.binds .any e=true→e.on<i:=by
  intro i hi
  have:=List.all_eq_true.1 hanc i (by simpa using hi)
  cases hoi:R.ops[i]? with
  | none=>rw [hoi] at this; cases this
  | some o =>
   rw [hoi] at this
   simp only [Bool.and_eq_true] at this
   refine ⟨o,rfl,fun j hj=>?_,fun e he hb=>?_⟩
   ·have hh:=List.all_eq_true.1 this.1 j (by simpa using hj)
    obtain ⟨e,he,h1⟩:=Array.any_eq_true'.1 hh
    simp only [Bool.and_eq_true,Bool.or_eq_true,beq_iff_eq] at h1
    exact ⟨e,he,h1.1,h1.2⟩
   ·have hh:=Array.all_eq_true'.1 this.2 e he
    simpa [hb] using hh
 have hrd:∀ (listed:Array Bool) i,i∈Region.ready .any R.ops listed→i<R.ops.size∧listed.getD i true=false∧∀ o,R.ops[i]?=some o→∀ e∈o.after,Region.binds .any e=true→listed.getD e.on false=true:=by
  intro listed i hi
  unfold Region.ready at hi
  obtain ⟨h1,h2⟩:=List.mem_filter.1 hi
  simp only [Bool.and_eq_true,Bool.not_eq_true'] at h2
  refine ⟨by simpa using h1,h2.1,fun o hoi e he hb=>?_⟩
  have h3:=h2.2
  rw [hoi] at h3
  simp only [Option.map_some,Option.getD_some] at h3
  have:=Array.all_eq_true'.1 h3 e he
  simpa [hb] using this
 have hset:∀ (listed:Array Bool) (i k:Nat),listed.size=R.ops.size→i<R.ops.size→(listed.setIfInBounds i true).getD k false=upd (fun i=>listed.getD i false) i k:=by
  intro listed i k hsz hi
  unfold upd
  by_cases hki:k=i
  ·subst hki
   simp [hsz,hi]
  ·simp [hki,Array.getElem?_setIfInBounds_ne (fun e=>hki e.symm)]
 have hpos:∀ (listed:Array Bool) (i:Nat),i<R.ops.size→listed.getD i false=false→0<(List.range R.ops.size).countP (fun k => !listed.getD k false):=fun listed i hi hl =>
  List.countP_pos_iff.2 ⟨i,by simpa using hi,by simp only [hl]; rfl⟩
 have hlt:∀ (listed:Array Bool) (i:Nat),listed.size=R.ops.size→i<R.ops.size→listed.getD i false=false→(List.range R.ops.size).countP (fun k => !(listed.setIfInBounds i true).getD k false)<(List.range R.ops.size).countP (fun k => !listed.getD k false):=by
  intro listed i hsz hi hLi
  refine zeh (x:=i) (fun x hx=>?_) (by simpa using hi) (by rw [hLi]; rfl) (by rw [hset listed i i hsz hi,zcb]; rfl)
  have hx':upd (fun i=>listed.getD i false) i x=false:=by
   rw [← hset listed i x hsz hi]
   simpa only [Bool.not_eq_true'] using hx
  rw [(zdn hx').2]
  rfl
 have hfull:∀ (listed:Array Bool),listed.size=R.ops.size→Region.ready .any R.ops listed=[]→∀ k,k<R.ops.size→listed.getD k false=true:=by
  intro listed hsz hr k
  induction k using Nat.strongRecOn with
  | _ k ih =>
   intro hkn
   cases hl:listed.getD k false with
   | true=>rfl
   | false =>
    exfalso
    obtain ⟨x,ho1,_,ho3⟩:=ho k hkn
    have:k∈Region.ready .any R.ops listed:=by
     unfold Region.ready
     refine List.mem_filter.2 ⟨by simpa using hkn,?_⟩
     have h0:listed.getD k true=false:=by
      simp only [Array.getD,hsz,hkn,dite_true] at hl ⊢
      exact hl
     rw [h0,ho1]
     simp only [Bool.not_false,Bool.true_and,Option.map_some,Option.getD_some]
     refine Array.all_eq_true'.2 fun e he=>?_
     cases hb:Region.binds .any e with
     | false=>rfl
     | true=>simpa using ih e.on (ho3 e he hb) (Nat.lt_trans (ho3 e he hb) hkn)
    rw [hr] at this
    cases this
 have hancL:∀ (listed:Array Bool) i,Closed R (fun i=>listed.getD i false)→i∈Region.ready .any R.ops listed→∀ j,(R.anc i).contains j=true→listed.getD j false=true:=by
  intro listed i hcl hir j hj
  obtain ⟨h1,h2,h3⟩:=hrd listed i hir
  obtain ⟨x,ho1,ho2,_⟩:=ho i h1
  obtain ⟨e,he,hb,hj'⟩:=ho2 j hj
  have hl:=h3 x ho1 e he hb
  rcases hj' with rfl | hj'
  ·exact hl
  ·exact hcl e.on hl j hj'
 have hclN:∀ (listed:Array Bool) i,listed.size=R.ops.size→Closed R (fun i=>listed.getD i false)→i∈Region.ready .any R.ops listed→Closed R (fun k=>(listed.setIfInBounds i true).getD k false):=by
  intro listed i hsz hcl hir k hk' j hj
  obtain ⟨h1,_,_⟩:=hrd listed i hir
  have hk2:upd (fun i=>listed.getD i false) i k=true:=by rw [← hset listed i k hsz h1]; exact hk'
  show (listed.setIfInBounds i true).getD j false=true
  rw [hset listed i j hsz h1]
  rcases zma hk2 with rfl | h4
  ·exact zde _ (hancL listed k hcl hir j hj)
  ·exact zde _ (hcl k h4 j hj)
 have tail:∀ q k,k+q=n+m→n≤k→∀ fuel (listed:Array Bool) a w,listed.size=R.ops.size→(List.range R.ops.size).countP (fun i => !listed.getD i false)≤fuel→Closed R (fun i=>listed.getD i false) →
   (∀ j,j<k→listed.getD j false=true)→(∀ j,k≤j→j<n+m→listed.getD j false=false)→wpOpsIn (fw o) 0 P R.ops Q (List.range' k q) a w→wpAnyIn (fw o) 0 P .any R.ops Q fuel listed a w:=by
  intro q
  induction q with
  | zero =>
   intro k hkq hnk fuel listed a w hsz hcnt hcl hall _ hwp
   have hr:Region.ready .any R.ops listed=[]:=by
    cases hrr:Region.ready .any R.ops listed with
    | nil=>rfl
    | cons i rest =>
     obtain ⟨h1,h2,_⟩:=hrd listed i (by rw [hrr]; simp)
     have:=hall i zo
     simp only [Array.getD,hsz,h1,dite_true] at h2 this
     rw [h2] at this
     cases this
   cases fuel with
   | zero=>exact ⟨hr,hwp⟩
   | succ fuel=>exact ⟨fun _=>hwp,fun i hir=>by rw [hr] at hir; cases hir⟩
  | succ q ih =>
   intro k hkq hnk fuel listed a w hsz hcnt hcl hall hnone hwp
   have hLk:listed.getD k false=false:=hnone k (Nat.le_refl _) zo
   have hp:=hpos listed k zo hLk
   cases fuel with
   | zero=>omega
   | succ fuel =>
    refine ⟨fun hr=>absurd (hfull listed hsz hr k zo) (by rw [hLk]; decide),fun i hir=>?_⟩
    obtain ⟨h1,h2,h3⟩:=hrd listed i hir
    have hik:i=k:=by
     by_cases e:i=k
     ·exact e
     ·exfalso
      by_cases hlt':i<k
      ·have:=hall i hlt'
       simp only [Array.getD,hsz,h1,dite_true] at h2 this
       rw [h2] at this
       cases this
      ·have:=hancL listed i hcl hir k (ha1 i zo zo k zo)
       rw [hLk] at this
       cases this
    subst hik
    rw [List.range'_succ,wpOpsIn_cons] at hwp
    refine wpOpIn_mono (fun a' w' hr=>ih (i+1) zo zo fuel _ a' w' (by simpa using hsz) ?_ (hclN listed i hsz hcl hir) (fun j hj=>?_) (fun j hj hj2=>?_) hr) hwp
    ·have:=hlt listed i hsz h1 hLk
     omega
    ·rw [hset listed i j hsz h1]
     by_cases e:j=i
     ·rw [e]; exact zcb _ _
     ·exact zde _ (hall j zo)
    ·rw [hset listed i j hsz h1,zdf _ zo]
     exact hnone j zo hj2
 have key:∀ fuel (listed:Array Bool) a w,listed.size=R.ops.size→(List.range R.ops.size).countP (fun i => !listed.getD i false)≤fuel→Closed R (fun i=>listed.getD i false) →
   (∀ j,n≤j→j<n+m→listed.getD j false=false)→R.Inv B w0 (fun i=>listed.getD i false) a w→wpAnyIn (fw o) 0 P .any R.ops Q fuel listed a w:=by
  intro fuel
  induction fuel with
  | zero =>
   intro listed a w hsz hcnt hcl hn0 hi
   have:=hpos listed n zo (hn0 n (Nat.le_refl _) zo)
   omega
  | succ fuel ih =>
   intro listed a w hsz hcnt hcl hn0 hi
   have hn00:=hn0 n (Nat.le_refl _) zo
   by_cases hdone:∀ j,j<n→listed.getD j false=true
   ·refine tail m n rfl (Nat.le_refl _) (fuel+1) listed a w hsz hcnt hcl hdone hn0 (hQ a w (hi.congr fun k=>?_))
    by_cases hkn:k<n
    ·rw [hdone k hkn]; simp [hkn]
    ·by_cases hkm:k<n+m
     ·rw [hn0 k zo hkm]; simp [hkn]
     ·have:listed.getD k false=false:=by simp [Array.getD,hsz,hsz2,hkm]
      rw [this]; simp [hkn]
   ·refine ⟨fun hr=>absurd (hfull listed hsz hr n zo) (by rw [hn00]; decide),fun i hir=>?_⟩
    obtain ⟨h1,h2,h3⟩:=hrd listed i hir
    have hin:i<n:=by
     by_cases e:i<n
     ·exact e
     ·exact absurd (fun j hj=>hancL listed i hcl hir j (ha1 i zo zo j zo)) hdone
    have hLi:listed.getD i false=false:=by
     simp only [Array.getD,hsz,h1,dite_true] at h2 ⊢
     exact h2
    refine zdv hnd hQ0 (step hk (hob i hin) hi hcl hLi (hancL listed i hcl hir) _ fun a' w' hi'=>ih _ _ _ (by simpa using hsz) ?_ (hclN listed i hsz hcl hir) ?_ (hi'.congr fun k=>hset listed i k hsz h1))
    ·have:=hlt listed i hsz h1 hLi
     omega
    ·intro j hj hj2
     rw [hset listed i j hsz h1,zdf _ zo]
     exact hn0 j hj hj2
 refine key _ _ a _ (by simp) ?_ ?_ ?_ ?_
 ·refine Nat.le_trans (List.countP_le_length) (by simp)
 ·intro i hi
  exfalso
  simp only [Array.getD,Array.size_replicate] at hi
  split at hi <;> simp at hi
 ·intro j hj hj2
  simp only [Array.getD,Array.size_replicate]
  split <;> simp
 ·have hs:=start h hles
  have hd:R.Inv B w0 (fun _=>false) a w.drew:=⟨hs.lo,hs.defers.grow (Grow.drew w) rfl,hs.size,hs.base.drew,fun x hx h1 h2=>x.2.grow _ _ _ _ (Grow.drew w) (hs.g x hx h1 h2),(fun i y d A _ _ hf=>by cases hf),(fun i d b k c _ hf=>by cases hf),
   fun e he A hA=>(hs.c e he A hA).grow (Grow.drew w),hs.x⟩
  refine Inv.congr hd fun k=>?_
  simp only [Array.getD,Array.size_replicate]
  split <;> simp
open Rg in
theorem Rg.linKF {id:Nat}{Λ:List Lc}{n m:Nat}(hnd:noDefer R.ops=true)(hQ0:¬ LetsOut Q)(hsz:R.ops.size=n+m)(hanc:R.anc=fun i=>List.range i)(hk:R.chk=true)(h:St B w0 R.N R.Γ Λ a w)(hles:∀ e∈R.les,e.cr=none→(⟨e.s,e.T,e.H,e.A0⟩:Lc)∈Λ)
  (hob:∀ i,i<n→R.Ob P Q B w0 i) (hQ:∀ a w,R.Inv B w0 (fun k=>decide (k<n)) a w→wpOpsIn (fw o) 0 P R.ops Q (List.range' n m) a w):(Code.region id R.ops false).wpIn (fw o) 0 P Q a w:=by
 refine wpIn_region ?_
 have key:∀ q k,k+q=n→∀ a w,R.Inv B w0 (fun j=>decide (j<k)) a w→wpOpsIn (fw o) 0 P R.ops Q (List.range' k (q+m)) a w:=by
  intro q
  induction q with
  | zero =>
   intro k hkm a w hi
   have:k=n:=by omega
   subst this
   rw [Nat.zero_add]
   exact hQ a w hi
  | succ q ih =>
   intro k hkm a w hi
   rw [show q+1+m=(q+m)+1 by omega,List.range'_succ,wpOpsIn_cons]
   refine zdv hnd hQ0 (step hk (hob k zo) hi ?_ (by simp) ?_ _ fun a' w' hi'=>ih (k+1) zo a' w' (hi'.congr fun j=>?_))
   ·intro i hi j hj
    rw [hanc] at hj
    simp at hi hj ⊢
    omega
   ·intro j hj
    rw [hanc] at hj
    simpa using hj
   ·unfold upd
    by_cases h1:j=k
    ·subst h1; simp
    ·have h2:(j==k)=false:=by simpa using h1
     rw [h2,Bool.false_or,decide_eq_decide]
     omega
 rw [List.range_eq_range',hsz]
 exact key n 0 zo a w ((start h hles).congr fun j=>by simp)
end
section
variable {P:Program} {Q:Exit→Act→World→Prop} {B N:Nat} {w0:Bs} {Γ:List (Nat × VA)} {Λ:List Lc} {a:Act} {w:World}
theorem zoa {o:Option Nat}{id:Nat}{ops:Array Oper}{sts:List (Option (Nat × As))}{news:List Le}{sp:List Sp}(src:List Src)(hnd:noDefer ops=true)(hQ0:¬ LetsOut Q)(h:St B w0 N Γ Λ a w)
  (hob:Obs P Q ⟨ops,N,Γ,lesOf Λ sts news,sp,fun i=>List.range i⟩ B w0 0 ops.size)
  (hn:news.all (fun e=>e.cr.isSome)=true) (hk:Rg.chk ⟨ops,N,Γ,lesOf Λ sts news,sp,fun i=>List.range i⟩=true) (hsrc:src.all (okS ⟨ops,N,Γ,lesOf Λ sts news,sp,fun i=>List.range i⟩)=true)
  (hQ:∀ a w,St B w0 N (src.filterMap (takeS ⟨ops,N,Γ,lesOf Λ sts news,sp,fun i=>List.range i⟩)) ((lesOf Λ sts news).map fun e=>⟨e.s,e.T,e.H,Rg.last e⟩) a w→Q .normal a w):(Code.region id ops false).wpIn (fw o) 0 P Q a w :=
 Rg.linF (R:=⟨ops,N,Γ,lesOf Λ sts news,sp,fun i=>List.range i⟩) hnd hQ0 rfl hk h (zgh hn) (fun i hi=>hob.all i zo (by simpa using hi)) fun a' w' hf=>hQ a' w' (zfd hk hf src hsrc)
theorem zll {o:Option Nat}{t:Nat}{b:Bool}{x y:Code}(h:St B w0 N Γ Λ a w)(hm:(t,Bo b)∈Γ)(ht:b=true→x.wpIn (fw o) 0 P Q a w)(hf:b=false→y.wpIn (fw o) 0 P Q a w):(Code.cond (.tmp t) x y).wpIn (fw o) 0 P Q a w :=
 wpIn_cond_split (zf1 (h.vals _ hm)) ht hf
end
end Go.Proofs.YtmfgafhlaeolgaaGreatDoor
namespace Go.Proofs.YtmfgafhlaeolgaaGreatDoor
open Go Go.RowKit
theorem Cn.introR {P : Program} {f : FuncId} {fn : Func} {c : Code} {pre pre' : List VA} {post post0 : VA} (hf : P.funcs[f]? = some fn) (hb : fn.body = some c) (hn : (fn.name == "runtime.NumGoroutine") = false) (hsz : pre.length ≤ fn.ntmps)
  (hup:All2 Up pre pre') (hfree:Free post0 post)
  (h:∀ (B:Nat) (w0:Bs) (a:Act),B=w0.w.heap.size→w0.nd=false→St B w0 fn.ntmps (argΓ pre') [] a w0.w→c.wp P (bPost P fn (RQ B w0 post0)) a w0.w):Cn P f pre post:=by
 refine ⟨⟨fn,hf,hn,by rw [hb]; rfl⟩,fun B w args hB ha=>(zci hf hb (h w.heap.size ⟨w,fun _=>False,false⟩ _ rfl rfl ?_)).mono fun _ _ ⟨v,he,hv,hk⟩=>⟨v,he,hfree _ _ _ _ hB hv,hk.grow0⟩⟩
 have hl:=ha.length
 have hl2:=hup.length
 have ha':All2 (fun (A:VA) v=>A.p w.heap.size v w) pre' args:=zxa hup B w hB ha
 refine ⟨fun g hg=>hg.resolve_right fun h=>h,DefOk.nil rfl,?_,Kept.refl _,All2.args ha',(fun l hl=>by cases hl),(fun l hl=>by cases hl)⟩
 simp only [Array.size_append,List.size_toArray,Array.size_replicate]
 omega
theorem VA.many {A:VA}{B:Nat}{v:Value}{w':World}:∀ (gs:List Nat) {w:World},A.p B v w→w'.os=w.os→w'.tape=w.tape→w'.output=w.output→w.heap.size≤w'.heap.size→(∀ k c T fz,w.heap[k]?=some (.cells c T fz)→k ∉ gs→w'.heap[k]?=w.heap[k]?)→(∀ g∈gs,B≤g∧∃ c T fz,w.heap[g]?=some (.cells c T fz)∧T ∉ A.deps)→A.p B v w'
 | [],w,hp,h1,h2,h3,h4,h5,_=>A.cg _ _ _ _ ⟨h4,fun g c T fz hg=>(h5 g c T fz hg (by simp)).trans hg⟩ hp
 | g::gs,w,hp,h1,h2,h3,h4,h5,h6=>by
  by_cases hg:g∈gs
  ·exact VA.many gs hp h1 h2 h3 h4 (fun k c T fz hk hn=>h5 k c T fz hk (by simp only [List.mem_cons,not_or]; exact ⟨fun e=>hn (by rw [e]; exact hg),hn⟩)) (fun g' hg'=>h6 g' (List.mem_cons_of_mem _ hg'))
  ·obtain ⟨hB,c,T,fz,hc,hT⟩:=h6 g List.mem_cons_self
   have hlt:g<w.heap.size:=(Array.getElem?_eq_some_iff.1 hc).1
   have hx:w'.heap[g]?=some (w'.heap[g]'zo):=Array.getElem?_eq_getElem _
   generalize w'.heap[g]'zo=x at hx
   have hwr:Wr g w { w with heap:=w.heap.setIfInBounds g x }:=⟨rfl,rfl,rfl,by simp,fun k hk=>by
    show (w.heap.setIfInBounds g x)[k]?=_
    rw [Array.getElem?_setIfInBounds_ne (fun e=>hk e.symm)]⟩
   have hsz:(w.heap.setIfInBounds g x).size=w.heap.size:=by simp
   refine VA.many gs (w:={ w with heap:=w.heap.setIfInBounds g x }) (A.wr _ _ _ _ _ _ _ _ hc hT hB hwr hp) h1 h2 h3 (by rw [hsz]; exact h4) (fun k c' T' fz' hk hn=>?_) (fun g' hg'=>?_)
   ·show _=(w.heap.setIfInBounds g x)[k]?
    replace hk:(w.heap.setIfInBounds g x)[k]?=some (.cells c' T' fz'):=hk
    by_cases e:k=g
    ·subst e
     rw [Array.getElem?_setIfInBounds_self_of_lt hlt]
     exact hx
    ·rw [Array.getElem?_setIfInBounds_ne (fun e'=>e e'.symm)] at hk ⊢
     exact h5 k c' T' fz' hk (by simp only [List.mem_cons,not_or]; exact ⟨e,hn⟩)
   ·obtain ⟨hB',c',T',fz',hc',hT'⟩:=h6 g' (List.mem_cons_of_mem _ hg')
    refine ⟨hB',c',T',fz',?_,hT'⟩
    show (w.heap.setIfInBounds g x)[g']?=_
    rw [Array.getElem?_setIfInBounds_ne (show g≠g' from fun e=>hg (by rw [e]; exact hg'))]
    exact hc'
def rndB (b:Nat)(D:List TypeId)(gs:List Nat)(Ws W:World):Bs:=⟨W,fun k=>b≤k∧(Ws.heap.size≤k∨(k ∉ gs∧∃ c T fz,Ws.heap[k]?=some (.cells c T fz)∧T∈D)),false⟩
abbrev Stp (b:Nat)(D:List TypeId)(gs:List Nat)(W W':World):Prop:=Kept (rndB b D gs W W) W'
theorem Stp.noncell {b:Nat}{D:List TypeId}{gs:List Nat}{W W':World}(h:Stp b D gs W W'){k:Nat}{o:Obj}(hk:W.heap[k]?=some o)(ho:o.isCells=false):W'.heap[k]?=some o :=
 (h.block k (Array.getElem?_eq_some_iff.1 hk).1 (fun hF=>by
  rcases hF.2 with h1 | ⟨_,c,T,fz,hc,_⟩
  ·have:=(Array.getElem?_eq_some_iff.1 hk).1; omega
  ·have hc':W.heap[k]?=_:=hc
   rw [hc'] at hk
   injection hk with hk
   subst hk
   cases ho)).trans hk
theorem Stp.held {b:Nat}{D:List TypeId}{gs:List Nat}{W W':World}(h:Stp b D gs W W'){k:Nat}{o:Obj}(hk:W.heap[k]?=some o)(hg:k∈gs):W'.heap[k]?=some o :=
 (h.block k (Array.getElem?_eq_some_iff.1 hk).1 (fun hF=>by
  rcases hF.2 with h1 | ⟨h1,_⟩
  ·have:=(Array.getElem?_eq_some_iff.1 hk).1; omega
  ·exact h1 hg)).trans hk
theorem VA.stp {A:VA}{B b:Nat}{v:Value}{D:List TypeId}{W W':World}{gs:List Nat}(hp:A.p B v W)(h:Stp b D gs W W')(hb:B≤b)(hD:∀ T∈D,T ∉ A.deps):A.p B v W':=by
 refine VA.many ((List.range W.heap.size).filter fun k=>match W.heap[k]? with | some (.cells _ T _)=>D.contains T&&decide (b≤k) | _=>false) hp h.os h.tape h.output h.size (fun k c T fz hk hn=>?_) (fun g hg=>?_)
 ·refine h.block k (Array.getElem?_eq_some_iff.1 hk).1 fun hF=>hn (List.mem_filter.2 ⟨by simpa using (Array.getElem?_eq_some_iff.1 hk).1,?_⟩)
  rcases hF.2 with h1 | ⟨_,c',T',fz',hc,hD'⟩
  ·have:=(Array.getElem?_eq_some_iff.1 hk).1; omega
  ·have hc':W.heap[k]?=_:=hc
   rw [hc'] at hk
   injection hk with hk
   injection hk with _ hk _
   subst hk
   rw [hc']
   simp only [Bool.and_eq_true,List.contains_eq_mem,decide_eq_true_eq]
   exact ⟨hD',hF.1⟩
 ·obtain ⟨_,h2⟩:=List.mem_filter.1 hg
  split at h2
  ·rename_i c T fz hc
   simp only [Bool.and_eq_true,List.contains_eq_mem,decide_eq_true_eq] at h2
   exact ⟨Nat.le_trans hb h2.2,c,T,fz,hc,hD T h2.1⟩
  ·cases h2
def As.vaC (A:As)(cs:List Value):VA where
 p B _ w:=A.p B cs w
 deps:=A.deps
 cg:=fun B _ w w' h hp=>A.cg B cs w w' h hp
 wr:=fun B _ w w' g c T fz h1 h2 h3 h4 hp=>A.wr B cs w w' g c T fz h1 h2 h3 h4 hp
theorem As.stp {A:As}{B b:Nat}{cs:List Value}{D:List TypeId}{gs:List Nat}{W W':World}(hp:A.p B cs W)(h:Stp b D gs W W')(hb:B≤b)(hD:∀ T∈D,T ∉ A.deps):A.p B cs W':=VA.stp (A:=As.vaC A cs) (v:=undef) hp h hb hD
def offD (D:List TypeId)(deps:List TypeId):Bool:=deps.all fun T => !D.contains T
theorem zkq {D deps:List TypeId}(h:offD D deps=true):∀ T∈D,T ∉ deps:=fun T hT hd=>by
 have:=List.all_eq_true.1 h T hd
 simp only [Bool.not_eq_true',List.contains_eq_mem,decide_eq_false_iff_not] at this
 exact this hT
def CellsT (Tc:List TypeId)(gs:List Nat)(W:World):Prop:=∀ g∈gs,∃ c T fz,W.heap[g]?=some (.cells c T fz)∧T∈Tc
abbrev StpI (gs:List Nat)(W W':World):Prop:=Kept ⟨W,fun k=>k∈gs,true⟩ W'
theorem VA.stpI {A:VA}{B:Nat}{v:Value}{gs:List Nat}{Tc:List TypeId}{W W':World}(hp:A.p B v W)(h:StpI gs W W')(hc:CellsT Tc gs W)(hb:∀ g∈gs,B≤g)(hD:∀ T∈Tc,T ∉ A.deps):A.p B v W' :=
 VA.many gs hp h.os h.tape h.output h.size (fun k c T fz hk hn=>h.block k (Array.getElem?_eq_some_iff.1 hk).1 hn) fun g hg=>by
  obtain ⟨c,T,fz,h1,h2⟩:=hc g hg
  exact ⟨hb g hg,c,T,fz,h1,hD T h2⟩
theorem As.stpI {A:As}{B:Nat}{cs:List Value}{gs:List Nat}{Tc:List TypeId}{W W':World}(hp:A.p B cs W)(h:StpI gs W W')(hc:CellsT Tc gs W)(hb:∀ g∈gs,B≤g)(hD:∀ T∈Tc,T ∉ A.deps):A.p B cs W':=VA.stpI (A:=As.vaC A cs) (v:=undef) hp h hc hb hD
theorem StpI.noncell {gs:List Nat}{Tc:List TypeId}{W W':World}(h:StpI gs W W')(hc:CellsT Tc gs W){k:Nat}{o:Obj}(hk:W.heap[k]?=some o)(ho:o.isCells=false):W'.heap[k]?=some o :=
 (h.block k (Array.getElem?_eq_some_iff.1 hk).1 (fun hF=>by
  obtain ⟨c,T,fz,h1,_⟩:=hc k hF
  rw [h1] at hk
  injection hk with hk
  subst hk
  cases ho)).trans hk
theorem St.stpI {B N:Nat}{w0:Bs}{Γ:List (Nat × VA)}{Λ:List Lc}{a:Act}{W W':World}{gs:List Nat}{Tc:List TypeId}(h:St B w0 N Γ Λ a W)(hB:B=w0.w.heap.size)(hs:StpI gs W W')(hc:CellsT Tc gs W)(hb:∀ g∈gs,B≤g)(hΓ:Γ.all (fun x=>offD Tc x.2.deps)=true)(hΛ:Λ.all (fun l=>offD Tc l.A.deps)=true)
  (hdis:∀ l∈Λ,∀ g,blk (a.eval (.tmp l.s))=some g→g ∉ gs):St B w0 N Γ Λ a W':=by
 refine ⟨h.lo,h.defers.keep rfl fun Dm hD=>hs.noncell hc hD rfl,h.size,⟨hs.os.trans h.base.os,hs.tape.trans h.base.tape,hs.output.trans h.base.output,Nat.le_trans h.base.size hs.size,fun k hk hf=>(hs.block k (Nat.lt_of_lt_of_le hk h.base.size) (fun hF=>by have:=hb k hF; omega)).trans (h.base.block k hk hf)⟩,
  fun x hx=>VA.stpI (h.vals x hx) hs hc hb (zkq (List.all_eq_true.1 hΓ x hx)),fun l hl=>?_,h.dis⟩
 obtain ⟨g,cs,e1,e2,e3,e4⟩:=h.locs l hl
 exact ⟨g,cs,e1,e2,(hs.block g (Array.getElem?_eq_some_iff.1 e3).1 (hdis l hl g (by rw [e1]; exact l.H.ok g))).trans e3,As.stpI e4 hs hc hb (zkq (List.all_eq_true.1 hΛ l hl))⟩
theorem St.put {B N:Nat}{w0:Bs}{Γ:List (Nat × VA)}{Λ:List Lc}{a:Act}{W:World}{r:Nat}{o o':Obj}(h:St B w0 N Γ Λ a W)(hr:W.heap[r]?=some o)(ho:o.isCells=false)(hd:o≠.deferred (some []))(hge:w0.w.heap.size≤r):St B w0 N Γ Λ a (W.putObj r o'):=by
 have hc:Cg W (W.putObj r o'):=⟨by simp,fun g c T fz hg=>(World.putObj_heap_other (fun e=>by subst e; rw [hg] at hr; injection hr with hr; subst hr; cases ho)).trans hg⟩
 refine ⟨h.lo,h.defers.keep rfl fun Dm hD=>(World.putObj_heap_other (fun e=>by subst e; rw [hD] at hr; injection hr with hr; exact hd hr.symm)).trans hD,h.size,⟨h.base.os,h.base.tape,h.base.output,by simpa using h.base.size,fun k hk hf=>(World.putObj_heap_other zo).trans (h.base.block k hk hf)⟩,
  fun x hx=>x.2.cg _ _ _ _ hc (h.vals x hx),fun l hl=>?_,h.dis⟩
 obtain ⟨g,cs,e1,e2,e3,e4⟩:=h.locs l hl
 exact ⟨g,cs,e1,e2,hc.heap e3,l.A.cg _ _ _ _ hc e4⟩
def CapsOk (B:Nat)(w:World)(caps:List (TypeId × As))(gs:List Nat):Prop:=All2 (fun (c:TypeId × As) (g:Nat)=>B≤g∧∃ cs,w.heap[g]?=some (.cells (List.toArray cs) c.1 (0,0))∧c.2.p B cs w) caps gs
structure ItH (P:Program) (l B:Nat) (Db Tc:List TypeId) (gs:List Nat) (Y:Nat→List VA) (inf:Bool) (M:Nat) (J:Nat→World→Prop) (Jx:World→Prop):Prop where
 inf':inf=true→∀ W,¬ J M W
 st:∀ k W W',J k W→StpI gs W W'→CellsT Tc gs W'→J k W'
 stx:∀ W W',Jx W→StpI gs W W'→CellsT Tc gs W'→Jx W'
 ct:∀ k W,J k W→CellsT Tc gs W
 ctx:∀ W,Jx W→CellsT Tc gs W
 yd:∀ k W args,k<M→J k W→All2 (fun (A:VA) v=>A.p B v W) (Y k) args→YieldAt Fence.wide 0 P l args.toArray W fun e W'=>(e=.returned (.bool true)∧J (k+1) W'∧Stp B Db gs W W') ∨
  (e=.returned (.bool false)∧Jx W'∧W.heap.size≤W'.heap.size∧∀ D:Nat,W.heap[D]?=some (.deferred (some []))→W'.heap[D]?=some (.deferred (some [])))
def ItCg (P:Program)(f:FuncId)(caps:List (TypeId × As))(gs:List Nat)(Y:Nat→List VA)(inf:Bool)(M:Nat)(Dd:List TypeId):Prop :=
 (∃ fn, P.funcs[f]? = some fn ∧ (fn.name == "runtime.NumGoroutine") = false ∧ fn.body.isNone = false) ∧
 ∀ (l B:Nat) (w:World) (Db:List TypeId) (J:Nat→World→Prop) (Jx:World→Prop),B≤w.heap.size→gs.Nodup→CapsOk B w caps gs→offD Db Dd=true→ItH P l B Db (caps.map Prod.fst) gs Y inf M J Jx→J 0 w →
  Calls P f (.func (.yield l) #[] #[]::gs.map ptr).toArray w fun e W'=>∃ v,e=.returned v∧(J M W'∨Jx W')
def ItC (P:Program)(f:FuncId)(caps:List (TypeId × As))(Y:Nat→List VA)(inf:Bool)(M:Nat)(Dd:List TypeId):Prop:=∀ gs,ItCg P f caps gs Y inf M Dd
theorem zfr {B:Nat}{w:World}{caps:List (TypeId × As)}{gs:List Nat}(h:CapsOk B w caps gs):CellsT (caps.map Prod.fst) gs w∧∀ g∈gs,B≤g:=by
 induction h with
 | nil=>exact ⟨(fun _ h=>by cases h),(fun _ h=>by cases h)⟩
 | @cons c g cs gs hh _ ih =>
  obtain ⟨hB,ds,h1,_⟩:=hh
  refine ⟨fun g' hg=>?_,fun g' hg=>?_⟩
  ·rcases List.mem_cons.1 hg with rfl | hg
   ·exact ⟨_,_,_,h1,by simp⟩
   ·obtain ⟨c',T,fz,h2,h3⟩:=ih.1 g' hg
    exact ⟨c',T,fz,h2,by simp only [List.map_cons,List.mem_cons]; exact .inr h3⟩
  ·rcases List.mem_cons.1 hg with rfl | hg
   ·exact hB
   ·exact ih.2 g' hg
def ItV (f:FuncId)(caps:List (TypeId × As))(gs:List Nat):VA where
 p B v w:=v=.func (.func f) #[] (gs.map ptr).toArray∧gs.Nodup∧CapsOk B w caps gs
 deps:=caps.map Prod.fst++caps.flatMap (·.2.deps)
 cg:=by
  rintro B v w w' hg ⟨e,h1,h2⟩
  exact ⟨e,h1,h2.mono fun c g ⟨h3,cs,h4,h5⟩=>⟨h3,cs,hg.heap h4,c.2.cg _ _ _ _ hg h5⟩⟩
 wr:=by
  rintro B v w w' g c T fz h1 hT h3 h4 ⟨e,hn,h⟩
  refine ⟨e,hn,?_⟩
  clear e hn
  induction h with
  | nil=>exact .nil
  | @cons x y xs ys hh _ ih =>
   simp only [List.map_cons,List.flatMap_cons,List.mem_append,List.mem_cons,not_or] at hT
   obtain ⟨hB,cs,h5,h6⟩:=hh
   refine .cons ⟨hB,cs,?_,x.2.wr _ _ _ _ _ _ _ _ h1 hT.2.1 h3 h4 h6⟩ (ih ?_)
   ·rw [h4.block y (fun e=>by subst e; rw [h1] at h5; injection h5 with h5; injection h5 with _ h5 _; exact hT.1.1 h5)]
    exact h5
   ·simp only [List.mem_append,not_or]
    exact ⟨hT.1.2,hT.2.2⟩
def REnd (B N:Nat)(w1:Bs)(a:Act)(Λ:List Lc)(a':Act)(W:World):Prop:=∃ Γ,St B w1 N Γ Λ a' W∧∀ l∈Λ,a'.eval (.tmp l.s)=a.eval (.tmp l.s)
def rPost (B N:Nat)(w1:Bs)(a:Act)(c:Prop)(Λn:List Lc)(Λr:Option (List Lc))(Λx:Nat→Option (List Lc)):Exit→Act→World→Prop
 | .normal,a',W=>c∧REnd B N w1 a Λn a' W
 | .ret,a',W=>∃ Λ,Λr=some Λ∧REnd B N w1 a Λ a' W
 | .exit id,a',W=>∃ Λ,Λx id=some Λ∧REnd B N w1 a Λ a' W
 | _,_,_=>False
def Bg (l:Nat)(W W':World):Prop:=∃ r r':Loop,W.heap[l]?=some (.loop r)∧W'=W.putObj l (.loop r')
theorem zve {W:World}{l:Nat}{r:Loop}(hr:W.heap[l]?=some (.loop r))(o:Obj):Cg W (W.putObj l o):=⟨by simp,fun g c T fz hg=>(World.putObj_heap_other (fun e=>by subst e; rw [hg] at hr; cases hr)).trans hg⟩
theorem St.begin {B N:Nat}{D:List TypeId}{gs:List Nat}{Ws W0:World}{Γ:List (Nat × VA)}{Λ:List Lc}{a:Act}{W W':World}{l:Nat}(h:St B (rndB B D gs Ws W0) N Γ Λ a W)(hs:Ws.heap.size≤W0.heap.size)(hlo:B≤Ws.heap.size)(hb:Bg l W W'):St B (rndB B D gs Ws W') N Γ Λ a W':=by
 obtain ⟨r,r',hr,rfl⟩:=hb
 have hc:=zve hr (.loop r')
 have hmay:∀ g,(rndB B D gs Ws W0).may g→(rndB B D gs Ws (W.putObj l (.loop r'))).may g:=fun g hg=>by
  rcases hg with hg | hg
  ·have hg':W0.heap.size≤g:=hg
   exact .inr ⟨by omega,.inl zo⟩
  ·exact .inr hg
 refine ⟨fun g hg=>?_,⟨fun d hd=>?_,h.defers.nodup,fun hn=>by cases hn⟩,h.size,Kept.refl _,fun x hx=>x.2.cg _ _ _ _ hc (h.vals x hx),fun m hm=>?_,h.dis⟩
 ·rcases hg with hg | hg
  ·have h1:W0.heap.size≤W.heap.size:=h.base.size
   have h2:(W.putObj l (.loop r')).heap.size≤g:=hg
   simp only [World.putObj_size] at h2
   omega
  ·exact hg.1
 ·obtain ⟨Dm,e1,e2,e3⟩:=h.defers.all d hd
  exact ⟨Dm,e1,hmay Dm e2,(World.putObj_heap_other (fun e=>by subst e; rw [hr] at e3; cases e3)).trans e3⟩
 ·obtain ⟨g,cs,e1,e2,e3,e4⟩:=h.locs m hm
  exact ⟨g,cs,e1,hmay g e2,hc.heap e3,m.A.cg _ _ _ _ hc e4⟩
theorem ztg:∀ (l:List (Nat × Value)) (t:Array Value),(l.foldl (fun t x=>t.setIfInBounds x.1 x.2) t).size=t.size∧(∀ s,s ∉ l.map Prod.fst→(l.foldl (fun t x=>t.setIfInBounds x.1 x.2) t)[s]?=t[s]?)∧((l.map Prod.fst).Nodup→∀ x∈l,x.1<t.size→(l.foldl (fun t x=>t.setIfInBounds x.1 x.2) t)[x.1]?=some x.2)
 | [],t=>⟨rfl,fun _ _=>rfl,fun _ _ h=>by cases h⟩
 | y::l,t=>by
  obtain ⟨h1,h2,h3⟩:=ztg l (t.setIfInBounds y.1 y.2)
  simp only [List.foldl_cons]
  refine ⟨by rw [h1]; simp,fun s hs=>?_,fun nd x hx hlt=>?_⟩
  ·simp only [List.map_cons,List.mem_cons,not_or] at hs
   rw [h2 s hs.2,Array.getElem?_setIfInBounds_ne (fun e=>hs.1 e.symm)]
  ·simp only [List.map_cons,List.nodup_cons] at nd
   rcases List.mem_cons.1 hx with rfl | hx
   ·rw [h2 _ nd.1,Array.getElem?_setIfInBounds_self_of_lt hlt]
   ·exact h3 nd.2 x hx (by simpa using hlt)
theorem zgk (a:Act)(s:Nat):a.eval (.tmp s)=(a.tmps[s]?).getD undef:=by simp [Act.eval]
section
variable {P:Program} {Q:Exit→Act→World→Prop} {B N:Nat} {w0:Bs} {Γ:List (Nat × VA)} {a:Act} {w:World}
theorem zzf {gs k0:Nat}{ps:List Nat}{assign body:Code}(Λ:Nat→List Lc)(Λr:Option (List Lc))(Λx:Nat→Option (List Lc)){f:FuncId}{caps:List (TypeId × As)}{gb:List Nat}{Y:Nat→List VA}{inf:Bool}{M:Nat}{Dd Db:List TypeId}
  (h:St B w0 N Γ (Λ 0) a w) (hB:B=w0.w.heap.size) (hN0:w0.nd=false) (hk0:Γ[k0]?=some (gs,ItV f caps gb)) (hit:ItCg P f caps gb Y inf M Dd) (hM:inf=true→0<M) (hDd:offD Db Dd=true)
  (ks:List Nat) (hΓ:ks.all (fun k=>match Γ[k]? with | some x=>offD (caps.map Prod.fst) x.2.deps&&offD Db x.2.deps && !ps.contains x.1 | none=>false)=true)
  (hΛ:∀ k,(Λ k).all (fun l=>offD (caps.map Prod.fst) l.A.deps && !ps.contains l.s&&Db.contains l.T)=true) (sl:List Nat) (hsl:∀ k,(Λ k).all (fun l=>sl.contains l.s)=true) (hdis:∀ s∈sl,∀ g,blk (a.eval (.tmp s))=some g→g ∉ gb)
  (hΛr:∀ L,Λr=some L→L.all (fun l=>offD (caps.map Prod.fst) l.A.deps&&sl.contains l.s)=true) (hΛx:∀ id L,Λx id=some L→L.all (fun l=>offD (caps.map Prod.fst) l.A.deps&&sl.contains l.s)=true)
  (hps:∀ k,(Y k).length=ps.length) (hnd:ps.Nodup) (hpN:ps.all (fun p=>p<N)=true)
  (hround:∀ l k a1 Ws,k<M→B≤Ws.heap.size→CellsT (caps.map Prod.fst) gb Ws→St B (rndB B Db gb Ws Ws) N (ks.filterMap (fun k=>Γ[k]?)++(ps.zip (Y k)++(Λ k).map fun l=>(l.s,EqV (a.eval (.tmp l.s))))) (Λ k) a1 Ws →
   assign.wpIn (fw (some l)) 0 P (Exit.then (fun a2 W2=>Kept (rndB B Db gb Ws Ws) W2∧∀ W3,Bg l W2 W3→body.wpIn (fw (some l)) 0 P (rPost B N (rndB B Db gb Ws W3) a (inf=true→k+1<M) (Λ (k+1)) Λr Λx) a2 W3) (fun _ _ _=>False)) a1 Ws)
  (hdone:∀ a' W,St B w0 N (ks.filterMap (fun k=>Γ[k]?)) (Λ M) a' W→Q .normal a' W) (hret:∀ L,Λr=some L→∀ a' W,St B w0 N (ks.filterMap (fun k=>Γ[k]?)) L a' W→Q .ret a' W) (hexit:∀ id L,Λx id=some L→∀ a' W,St B w0 N (ks.filterMap (fun k=>Γ[k]?)) L a' W→Q (.exit id) a' W) :
  (Code.rangeFunc (.tmp gs) ps.toArray assign body).wp P Q a w:=by
 refine (wpIn_wide (n:=0)).1 (wpIn_rangeFunc ?_)
 intro fn hfn
 obtain ⟨⟨ff,hf,hn,hb⟩,hcall⟩:=hit
 obtain ⟨hev,hgn,hcaps⟩:=h.vals _ (List.mem_of_getElem? hk0)
 have hev':a.eval (.tmp gs)=.func (.func f) #[] (gb.map ptr).toArray:=hev
 obtain ⟨hct,hcb⟩:=zfr hcaps
 replace h:=h.sel ks
 obtain ⟨Γ,hΓe⟩:∃ Γ',ks.filterMap (fun k=>Γ[k]?)=Γ':=⟨_,rfl⟩
 rw [hΓe] at h hround hdone hret hexit
 replace hΓ:∀ x∈Γ,(offD (caps.map Prod.fst) x.2.deps&&offD Db x.2.deps && !ps.contains x.1)=true:=fun x hx=>by
  rw [← hΓe] at hx
  obtain ⟨k,hk1,hk2⟩:=List.mem_filterMap.1 hx
  have:=List.all_eq_true.1 hΓ k hk1
  rwa [hk2] at this
 clear hΓe
 obtain ⟨rec,hrec⟩:∃ rec:LoopState→Option Code→Loop,rec=fun st pe=>{ state:=st,pending:=pe,fn,tmps:=a.tmps,params:=ps.toArray,assign,body,defers:=w.heap.size }:=⟨_,rfl⟩
 obtain ⟨W1,hW1⟩:∃ W1,(w.alloc (.deferred (some []))).alloc (.loop (rec .ready none))=W1:=⟨_,rfl⟩
 have hgr:Grow w W1:=by rw [← hW1]; exact (Grow.alloc _ _).trans (Grow.alloc _ _)
 have hL1:W1.heap[w.heap.size+1]?=some (.loop (rec .ready none)):=by
  rw [← hW1]; have:=World.alloc_heap_new (w.alloc (.deferred (some []))) (.loop (rec .ready none)); rwa [World.size_alloc] at this
 have hK1:W1.heap[w.heap.size]?=some (.deferred (some [])):=by
  rw [← hW1]; exact (Below.heap_alloc _ _ _ (by simp)).trans (World.alloc_heap_new w _)
 have hws:w0.w.heap.size≤w.heap.size:=h.base.size
 have h1:St B w0 N Γ (Λ 0) a W1:=⟨h.lo,h.defers.grow hgr rfl,h.size,h.base.grow hgr,fun x hx=>x.2.grow _ _ _ _ hgr (h.vals x hx),fun l hl=>(h.locs l hl).grow hgr,h.dis⟩
 have hΓ':∀ x∈Γ,offD (caps.map Prod.fst) x.2.deps=true∧offD Db x.2.deps=true∧x.1 ∉ ps:=fun x hx=>by
  have:=hΓ x hx
  simp only [Bool.and_eq_true,Bool.not_eq_true',List.contains_eq_mem,decide_eq_false_iff_not] at this
  exact ⟨this.1.1,this.1.2,this.2⟩
 have hΛ':∀ k,∀ l∈Λ k,offD (caps.map Prod.fst) l.A.deps=true∧l.s ∉ ps∧l.T∈Db:=fun k l hl=>by
  have:=List.all_eq_true.1 (hΛ k) l hl
  simp only [Bool.and_eq_true,Bool.not_eq_true',List.contains_eq_mem,decide_eq_false_iff_not,decide_eq_true_eq] at this
  exact ⟨this.1.1,this.1.2,this.2⟩
 have stp:∀ {L:List Lc} {W W':World},L.all (fun l=>offD (caps.map Prod.fst) l.A.deps&&sl.contains l.s)=true→St B w0 N Γ L a W→CellsT (caps.map Prod.fst) gb W→StpI gb W W'→St B w0 N Γ L a W':=fun {L W W'} hL hs hc hk=>by
  have hL':∀ l∈L,offD (caps.map Prod.fst) l.A.deps=true∧l.s∈sl:=fun l hl=>by
   have:=List.all_eq_true.1 hL l hl
   simpa using this
  exact St.stpI hs hB hk hc hcb (List.all_eq_true.2 fun x hx=>(hΓ' x hx).1) (List.all_eq_true.2 fun l hl=>(hL' l hl).1) fun l hl g hg=>hdis l.s (hL' l hl).2 g hg
 have hΛi:∀ k,(Λ k).all (fun l=>offD (caps.map Prod.fst) l.A.deps&&sl.contains l.s)=true:=fun k=>List.all_eq_true.2 fun l hl=>by
  have h1:=(hΛ' k l hl).1
  have h2:=List.all_eq_true.1 (hsl k) l hl
  rw [h1,h2]
  rfl
 have back:∀ {L:List Lc} {Ws W3 W:World} {a':Act} (k:Nat) (r:Loop) (st:LoopState) (pe:Option Code),St B w0 N Γ (Λ k) a Ws→Ws.heap[w.heap.size+1]?=some (.loop (rec .ready none))→Ws.heap[w.heap.size]?=some (.deferred (some [])) →
   (∀ j,j<Ws.heap.size→j≠w.heap.size+1→¬ (rndB B Db gb Ws W3).F j→W3.heap[j]?=Ws.heap[j]?)→Ws.heap.size≤W3.heap.size→W3.os=Ws.os∧W3.tape=Ws.tape∧W3.output=Ws.output→W3.heap[w.heap.size+1]?=some (.loop r)→REnd B N (rndB B Db gb Ws W3) a L a' W →
   W.heap[w.heap.size+1]?=some (.loop r)∧St B w0 N Γ L a (W.putObj (w.heap.size+1) (.loop (rec st pe)))∧(W.putObj (w.heap.size+1) (.loop (rec st pe))).heap[w.heap.size+1]?=some (.loop (rec st pe)) ∧
    (W.putObj (w.heap.size+1) (.loop (rec st pe))).heap[w.heap.size]?=some (.deferred (some []))∧(st=.ready→pe=none→Stp B Db gb Ws (W.putObj (w.heap.size+1) (.loop (rec st pe))))∧(∀ g∈gb,g<Ws.heap.size→g≠w.heap.size+1→(W.putObj (w.heap.size+1) (.loop (rec st pe))).heap[g]?=Ws.heap[g]?)∧Ws.heap.size≤(W.putObj (w.heap.size+1) (.loop (rec st pe))).heap.size∧∀ D:Nat,Ws.heap[D]?=some (.deferred (some []))→(W.putObj (w.heap.size+1) (.loop (rec st pe))).heap[D]?=some (.deferred (some [])):=by
  rintro L Ws W3 W a' k r st pe hs hl hd hc0 hsz ho hl3 ⟨Γ3,h3,heq⟩
  have hnF:∀ {j:Nat} {o:Obj},Ws.heap[j]?=some o→o.isCells=false→¬ (rndB B Db gb Ws W3).F j:=fun {j o} hj ho hF=>by
   rcases hF.2 with h4 | ⟨_,c,T,fz,h4,_⟩
   ·have:=(Array.getElem?_eq_some_iff.1 hj).1; omega
   ·rw [hj] at h4; injection h4 with h4; subst h4; cases ho
  have hlt1:=(Array.getElem?_eq_some_iff.1 hl).1
  have hWl:W.heap[w.heap.size+1]?=some (.loop r):=(h3.base.block _ (by show _<W3.heap.size; omega) (hnF hl rfl)).trans hl3
  have hlt2:=(Array.getElem?_eq_some_iff.1 hWl).1
  have hnew:=World.putObj_heap_same (w:=W) (o:=.loop (rec st pe)) hlt2
  have hblk:∀ j,j<Ws.heap.size→j≠w.heap.size+1→¬ (rndB B Db gb Ws W3).F j→(W.putObj (w.heap.size+1) (.loop (rec st pe))).heap[j]?=Ws.heap[j]?:=fun j hj hne hF =>
   (World.putObj_heap_other hne).trans ((h3.base.block j (by show _<W3.heap.size; omega) hF).trans (hc0 j hj hne hF))
  have hD':(W.putObj (w.heap.size+1) (.loop (rec st pe))).heap[w.heap.size]?=some (.deferred (some [])):=(hblk _ (Array.getElem?_eq_some_iff.1 hd).1 zo (hnF hd rfl)).trans hd
  have hsz3:W3.heap.size≤W.heap.size:=h3.base.size
  have hcg:=zve hWl (.loop (rec st pe))
  have hDk:∀ D:Nat,Ws.heap[D]?=some (.deferred (some []))→(W.putObj (w.heap.size+1) (.loop (rec st pe))).heap[D]?=some (.deferred (some [])):=fun D hDd=>by
   have hne:D≠w.heap.size+1:=fun e=>by rw [e,hl] at hDd; cases hDd
   exact (hblk D (Array.getElem?_eq_some_iff.1 hDd).1 hne (hnF hDd rfl)).trans hDd
  refine ⟨hWl,⟨h.lo,hs.defers.keep rfl fun D hDd=>?_,hs.size,?_,fun x hx=>?_,fun m hm=>?_,fun m hm m' hm' hne=>?_⟩,hnew,hD',fun e1 e2=>?_,fun g hg hlt hne=>hblk g hlt hne (fun hF=>by rcases hF.2 with h4 | h4; omega; exact h4.1 hg),by rw [World.putObj_size]; omega,hDk⟩
  ·exact hDk D hDd
  ·refine ⟨(h3.base.os.trans ho.1).trans hs.base.os,(h3.base.tape.trans ho.2.1).trans hs.base.tape,(h3.base.output.trans ho.2.2).trans hs.base.output,?_,fun j hj hf=>?_⟩
   ·have:=hs.base.size
    rw [World.putObj_size]
    omega
   ·have hjs:j<Ws.heap.size:=Nat.lt_of_lt_of_le hj hs.base.size
    exact (hblk j hjs zo (fun hF=>by have:=hF.1; omega)).trans (hs.base.block j hj hf)
  ·
   have hb:=(hΓ' x hx).2.1
   refine VA.many ((List.range Ws.heap.size).filter fun j=>match Ws.heap[j]? with | some (.cells _ T _)=>Db.contains T&&decide (B≤j) | _=>false) (hs.vals x hx) (h3.base.os.trans ho.1) (h3.base.tape.trans ho.2.1) (h3.base.output.trans ho.2.2) (by rw [World.putObj_size]; omega) (fun j c T fz hj hn=>?_) (fun g hg=>?_)
   ·refine hblk j (Array.getElem?_eq_some_iff.1 hj).1 (fun e=>by rw [e,hl] at hj; cases hj) fun hF=>hn (List.mem_filter.2 ⟨by simpa using (Array.getElem?_eq_some_iff.1 hj).1,?_⟩)
    rcases hF.2 with h4 | ⟨_,c',T',fz',hc,hD''⟩
    ·have:=(Array.getElem?_eq_some_iff.1 hj).1; omega
    ·rw [hj] at hc
     injection hc with hc
     injection hc with _ hc _
     subst hc
     rw [hj]
     simp only [Bool.and_eq_true,List.contains_eq_mem,decide_eq_true_eq]
     exact ⟨hD'',hF.1⟩
   ·obtain ⟨_,h2⟩:=List.mem_filter.1 hg
    split at h2
    ·rename_i c T fz hc
     simp only [Bool.and_eq_true,List.contains_eq_mem,decide_eq_true_eq] at h2
     exact ⟨h2.2,c,T,fz,hc,zkq hb T h2.1⟩
    ·cases h2
  ·obtain ⟨g,cs,e1,e2,e3,e4⟩:=h3.locs m hm
   refine ⟨g,cs,(heq m hm).symm.trans e1,.inl ?_,hcg.heap e3,m.A.cg _ _ _ _ hcg e4⟩
   have:=h3.lo g e2
   omega
  ·rw [← heq m hm,← heq m' hm']
   exact h3.dis m hm m' hm' hne
  ·subst e1 e2
   refine ⟨h3.base.os.trans ho.1,h3.base.tape.trans ho.2.1,h3.base.output.trans ho.2.2,by rw [World.putObj_size]; show Ws.heap.size≤_; omega,fun j hj hF=>?_⟩
   have hj':j<Ws.heap.size:=hj
   by_cases e:j=w.heap.size+1
   ·subst e
    show _=Ws.heap[w.heap.size+1]?
    rw [hnew,hl]
   ·exact hblk j hj' e hF
 refine ⟨w.heap.size+1,[mark w.heap.size],W1,{ target:=.fn (.func f) (gb.map ptr).toArray,args := #[.func (.yield (w.heap.size+1)) #[] #[]] },W1,f,
  #[.func (.yield (w.heap.size+1)) #[] #[]]++(gb.map ptr).toArray,W1,?_,?_,fun _ _=>trivial,?_,(fun hh=>by cases hh),?_⟩
 ·rw [← hW1,hrec]; exact run_enterLoop_outer _ _ _ _ _
 ·simp only [resolve,hev']
  simp [go_sem]
 ·simp [invoke,zbj hf hn hb]
 ·refine callsIn_wide.2 ?_
  have hargs:(#[.func (.yield (w.heap.size+1)) #[] #[]]++(gb.map ptr).toArray:Array Value)=(.func (.yield (w.heap.size+1)) #[] #[]::gb.map ptr).toArray:=by simp
  rw [hargs]
  have hcaps1:CapsOk B W1 caps gb:=hcaps.mono fun c g ⟨h3,cs,h4,h5⟩=>⟨h3,cs,hgr.heap h4,c.2.grow _ _ _ _ hgr h5⟩
  have hgl:∀ g∈gb,g≠w.heap.size+1:=fun g hg=>by
   obtain ⟨c,T,fz,h1,_⟩:=hct g hg
   have:=(Array.getElem?_eq_some_iff.1 h1).1
   omega
  refine (hcall (w.heap.size+1) B W1 Db
   (fun k W=>((St B w0 N Γ (Λ k) a W∧W.heap[w.heap.size+1]?=some (.loop (rec .ready none))∧W.heap[w.heap.size]?=some (.deferred (some [])))∧(inf=true→k<M))∧CellsT (caps.map Prod.fst) gb W)
   (fun W=>(∃ c,((c=.ret∧∃ L,Λr=some L∧St B w0 N Γ L a W)∨(∃ id L,c=.exit id∧Λx id=some L∧St B w0 N Γ L a W))∧W.heap[w.heap.size+1]?=some (.loop (rec .done (some c)))∧W.heap[w.heap.size]?=some (.deferred (some [])))∧CellsT (caps.map Prod.fst) gb W)
   (by have:=hgr.size; omega) hgn hcaps1 hDd ⟨fun hi W hJ=>absurd (hJ.1.2 hi) (Nat.lt_irrefl M),?_,?_,fun k W hJ=>hJ.2,fun W hJ=>hJ.2,?_⟩ ⟨⟨⟨h1,hL1,hK1⟩,hM⟩,(zfr hcaps1).1⟩).mono ?_
  ·rintro k W W' ⟨⟨⟨hs,hl,hd⟩,hc⟩,hcc⟩ hk hcc'
   exact ⟨⟨⟨stp (hΛi k) hs hcc hk,hk.noncell hcc hl rfl,hk.noncell hcc hd rfl⟩,hc⟩,hcc'⟩
  ·rintro W W' ⟨⟨c,hc,hl,hd⟩,hcc⟩ hk hcc'
   refine ⟨⟨c,?_,hk.noncell hcc hl rfl,hk.noncell hcc hd rfl⟩,hcc'⟩
   rcases hc with ⟨e,L,hL,hs⟩ | ⟨id,L,e,hL,hs⟩
   ·exact .inl ⟨e,L,hL,stp (hΛr L hL) hs hcc hk⟩
   ·exact .inr ⟨id,L,e,hL,stp (hΛx id L hL) hs hcc hk⟩
  ·rintro k W args hkM ⟨⟨⟨hs,hl,hd⟩,hc⟩,hcc⟩ hargs'
   have hla:args.length=ps.length:=by rw [← hargs'.length,hps k]
   have hy:=run_yield (P:=P) (args:=args.toArray) hl (by rw [hrec]; simpa using hla)
   rw [hrec] at hy
   have hlt:w.heap.size+1<W.heap.size:=(Array.getElem?_eq_some_iff.1 hl).1
   have hBW:B≤W.heap.size:=by have:=hs.base.size; omega
   have hzip:(ps.toArray.zip args.toArray).foldl (fun (t:Array Value) (x:Nat × Value)=>t.setIfInBounds x.1 x.2) a.tmps=(ps.zip args).foldl (fun t x=>t.setIfInBounds x.1 x.2) a.tmps:=by
    rw [List.zip_toArray,List.foldl_toArray]
   obtain ⟨z1,z2,z3⟩:=ztg (ps.zip args) a.tmps
   have hfst:(ps.zip args).map Prod.fst=ps:=by rw [List.map_fst_zip]; omega
   rw [hfst] at z2 z3
   refine ⟨fn,_,assign,body,hy,roundIn_of_wpIn hfn ?_⟩
   have hst1:St B (rndB B Db gb W W) N (Γ++(ps.zip (Y k)++(Λ k).map fun l=>(l.s,EqV (a.eval (.tmp l.s))))) (Λ k) { tmps:=(ps.zip args).foldl (fun t x=>t.setIfInBounds x.1 x.2) a.tmps,defers:=[] } W:=by
    have hold:∀ s,s ∉ ps→({ tmps:=(ps.zip args).foldl (fun t x=>t.setIfInBounds x.1 x.2) a.tmps,defers:=[] }:Act).eval (.tmp s)=a.eval (.tmp s):=fun s hs'=>by
     rw [zgk,zgk]
     show ((_:Array Value)[s]?).getD undef=_
     rw [z2 s hs']
    refine ⟨fun g hg=>?_,DefOk.nil rfl,by rw [z1]; exact hs.size,Kept.refl _,fun x hx=>?_,fun m hm=>?_,fun m hm m' hm' hne=>?_⟩
    ·rcases hg with hg | hg
     ·exact Nat.le_trans hBW hg
     ·exact hg.1
    ·rcases List.mem_append.1 hx with hx | hx
     ·rw [hold _ (hΓ' x hx).2.2]
      exact hs.vals x hx
     ·rcases List.mem_append.1 hx with hx | hx
      ·obtain ⟨i,hi⟩:=List.getElem?_of_mem hx
       obtain ⟨p,A,e1,e2,rfl⟩:∃ p A,ps[i]?=some p∧(Y k)[i]?=some A∧x=(p,A):=by
        rw [List.getElem?_zip_eq_some] at hi
        exact ⟨x.1,x.2,hi.1,hi.2,rfl⟩
       obtain ⟨v,hv1,hv2⟩:=hargs'.get e2
       have hm:(p,v)∈ps.zip args:=List.mem_of_getElem? (i:=i) (by rw [List.getElem?_zip_eq_some]; exact ⟨e1,hv1⟩)
       have hpl:p<a.tmps.size:=by
        rw [hs.size]
        have:=List.all_eq_true.1 hpN p (List.mem_of_getElem? e1)
        simpa using this
       show A.p B _ W
       rw [zgk]
       show A.p B (((_:Array Value)[p]?).getD undef) W
       rw [z3 hnd (p,v) hm hpl]
       exact hv2
      ·obtain ⟨m,hm,rfl⟩:=List.mem_map.1 hx
       exact hold m.s (hΛ' k m hm).2.1
    ·obtain ⟨g,cs,e1,e2,e3,e4⟩:=hs.locs m hm
     exact ⟨g,cs,(hold m.s (hΛ' k m hm).2.1).trans e1,.inr ⟨h.lo g e2,.inr ⟨hdis m.s (by have:=List.all_eq_true.1 (hsl k) m hm; simpa using this) g (by rw [e1]; exact m.H.ok g),_,_,_,e3,(hΛ' k m hm).2.2⟩⟩,e3,e4⟩
    ·rw [hold m.s (hΛ' k m hm).2.1,hold m'.s (hΛ' k m' hm').2.1]
     exact hs.dis m hm m' hm' hne
   have hasg:=hround (w.heap.size+1) k _ W hkM hBW hcc hst1
   rw [← hzip] at hasg
   refine wpIn_mono hasg ?_
   rintro e a2 W2 hq
   cases e with
   | normal =>
    obtain ⟨hk2,hbody⟩:=hq
    have hnF:∀ {j:Nat} {o:Obj},W.heap[j]?=some o→o.isCells=false→¬ (rndB B Db gb W W).F j:=fun {j o} hj ho hF=>by
     rcases hF.2 with h4 | ⟨_,c,T,fz,h4,_⟩
     ·have:=(Array.getElem?_eq_some_iff.1 hj).1; omega
     ·rw [hj] at h4; injection h4 with h4; subst h4; cases ho
    have hl2:W2.heap[w.heap.size+1]?=some (.loop (rec .ready none)):=(hk2.block _ hlt (hnF hl rfl)).trans hl
    have hlt2:=(Array.getElem?_eq_some_iff.1 hl2).1
    refine ⟨_,run_beginRound hl2 (by rw [hrec]),?_⟩
    obtain ⟨W3,hW3⟩:∃ W3,W2.putObj (w.heap.size+1) (.loop { rec .ready none with state:=.busy })=W3:=⟨_,rfl⟩
    rw [hW3]
    have hl3:W3.heap[w.heap.size+1]?=some (.loop { rec .ready none with state:=.busy }):=by rw [← hW3]; exact World.putObj_heap_same hlt2
    have hc0:∀ j,j<W.heap.size→j≠w.heap.size+1→¬ (rndB B Db gb W W3).F j→W3.heap[j]?=W.heap[j]?:=fun j hj hne hF=>by rw [← hW3]; exact (World.putObj_heap_other hne).trans (hk2.block j hj hF)
    have hsz3:W.heap.size≤W3.heap.size:=by rw [← hW3,World.putObj_size]; exact hk2.size
    have ho3:W3.os=W.os∧W3.tape=W.tape∧W3.output=W.output:=by rw [← hW3]; exact ⟨hk2.os,hk2.tape,hk2.output⟩
    refine wpIn_mono (hbody W3 ⟨_,_,hl2,hW3.symm⟩) ?_
    rintro e a3 W4 hp
    have fin:∀ {L:List Lc} (jump:Option Code),REnd B N (rndB B Db gb W W3) a L a3 W4→∃ W5,(Instr.endRound (w.heap.size+1) jump).run P W4=.ok (.bool jump.isNone) W5∧St B w0 N Γ L a W5∧W5.heap[w.heap.size+1]?=some (.loop (rec (if jump.isNone then .ready else .done) jump))∧W5.heap[w.heap.size]?=some (.deferred (some []))∧(jump=none→Stp B Db gb W W5)∧CellsT (caps.map Prod.fst) gb W5∧W.heap.size≤W5.heap.size∧(∀ D:Nat,W.heap[D]?=some (.deferred (some []))→W5.heap[D]?=some (.deferred (some []))):=fun {L} jump hr=>by
     obtain ⟨b1,b2,b3,b4,b5,b6,b7,b8⟩:=back k _ (if jump.isNone then .ready else .done) jump hs hl hd hc0 hsz3 ho3 hl3 hr
     have hrun:=run_endRound (P:=P) jump b1
     refine ⟨_,?_,b2,b3,b4,(fun e=>b5 (by rw [e]; rfl) e),(fun g hg=>?_),b7,b8⟩
     rotate_left
     ·obtain ⟨c,T,fz,h5,h6⟩:=hcc g hg
      exact ⟨c,T,fz,(b6 g hg (Array.getElem?_eq_some_iff.1 h5).1 (hgl g hg)).trans h5,h6⟩
     rw [hrun,hrec]
    cases e with
    | normal =>
     obtain ⟨hci,hr⟩:=hp
     obtain ⟨W5,f1,f2,f3,f4,f5,f6,_⟩:=fin none hr
     exact ⟨_,_,f1,.inl ⟨rfl,⟨⟨⟨f2,f3,f4⟩,hci⟩,f6⟩,f5 rfl⟩⟩
    | ret =>
     obtain ⟨L,hL,hr⟩:=hp
     obtain ⟨W5,f1,f2,f3,f4,_,f6,f7,f8⟩:=fin (some .ret) hr
     exact ⟨_,_,f1,.inr ⟨rfl,⟨⟨.ret,.inl ⟨rfl,L,hL,f2⟩,f3,f4⟩,f6⟩,f7,f8⟩⟩
    | exit id =>
     obtain ⟨L,hL,hr⟩:=hp
     obtain ⟨W5,f1,f2,f3,f4,_,f6,f7,f8⟩:=fin (some (.exit id)) hr
     exact ⟨_,_,f1,.inr ⟨rfl,⟨⟨.exit id,.inr ⟨id,L,rfl,hL,f2⟩,f3,f4⟩,f6⟩,f7,f8⟩⟩
    | goto t=>exact hp.elim
    | panic ch=>exact hp.elim
    | outgrown=>exact hp.elim
   | exit id=>exact hq.elim
   | goto t=>exact hq.elim
   | ret=>exact hq.elim
   | panic ch=>exact hq.elim
   | outgrown=>exact hq.elim
  ·have fin:∀ {L:List Lc} {W:World} {st:LoopState} {pe:Option Code},st≠.busy→St B w0 N Γ L a W→W.heap[w.heap.size+1]?=some (.loop (rec st pe))→W.heap[w.heap.size]?=some (.deferred (some []))→∃ W',(Instr.endLoop (w.heap.size+1)).run P W=.ok pe W'∧St B w0 N Γ L { a with defers:=[mark w.heap.size]++a.defers } W':=fun {L W st pe} O hs hl hd=>by
    have hrun:=run_endLoop (P:=P) hl (by rw [hrec]; exact O)
    have hpe:(rec st pe).pending=pe:=by rw [hrec]
    refine ⟨W.putObj (w.heap.size+1) (.loop { rec st pe with state:=.exhausted }),hrun.trans (congrArg (fun x=>Result.ok x _) hpe),?_⟩
    have h5:=hs.put (o':=.loop { rec st pe with state:=.exhausted }) hl rfl (by simp) zo
    refine ⟨h5.lo,⟨fun d hd'=>?_,?_,fun hn=>by rw [hN0] at hn; cases hn⟩,h5.size,h5.base,h5.vals,h5.locs,h5.dis⟩
    ·rcases List.mem_cons.1 hd' with rfl | hd'
     ·exact ⟨_,rfl,.inl hws,(World.putObj_heap_other zo).trans hd⟩
     ·exact h5.defers.all d hd'
    ·refine List.nodup_cons.2 ⟨fun hm=>?_,h5.defers.nodup⟩
     obtain ⟨D,e1,_,e3⟩:=h.defers.all _ hm
     have e1':w.heap.size=D:=by
      have:=congrArg Deferred.target e1
      simpa using this
     rw [← e1'] at e3
     have:=(Array.getElem?_eq_some_iff.1 e3).1
     omega
   rintro e W ⟨v,rfl,(⟨⟨⟨hs,hl,hd⟩,_⟩,_⟩ | ⟨⟨c,hc,hl,hd⟩,_⟩)⟩
   ·obtain ⟨W',f1,f2⟩:=fin (by simp) hs hl hd
    exact ⟨none,W',f1,hdone _ _ f2⟩
   ·rcases hc with ⟨rfl,L,hL,hs⟩ | ⟨id,L,rfl,hL,hs⟩
    ·obtain ⟨W',f1,f2⟩:=fin (by simp) hs hl hd
     exact ⟨some .ret,W',f1,wpIn_ret (hret L hL _ _ f2)⟩
    ·obtain ⟨W',f1,f2⟩:=fin (by simp) hs hl hd
     exact ⟨some (.exit id),W',f1,wpIn_exit (hexit id L hL _ _ f2)⟩
end
end Go.Proofs.YtmfgafhlaeolgaaGreatDoor
namespace Go.Proofs.YtmfgafhlaeolgaaGreatDoor
open Go Go.RowKit
theorem zj5 {anc:List (List Nat)}{n m:Nat}(h:(List.range m).all (fun q=>(List.range (n+q)).all fun j=>(anc.getD (n+q) []).contains j)=true):∀ i,n≤i→i<n+m→∀ j,j<i→(anc.getD i []).contains j=true:=fun i h1 h2 j hj=>by
 have:=List.all_eq_true.1 (List.all_eq_true.1 h (i-n) (by simp; omega)) j (by simp; omega)
 rwa [show n+(i-n)=i by omega] at this
theorem zon {P:Program}{f:FuncId}{fn:Func}{c:Code}{args:Array Value}{w:World}{R:Ending→World→Prop}(hf:P.funcs[f]?=some fn)(hb:fn.body=some c)
  (h:c.wpIn (fw none) 0 P (bPost P fn R) { tmps:=args++Array.replicate (fn.ntmps-args.size) undef,defers:=[] } w):Calls P f args w R :=
 zci hf hb (wpIn_wide.1 h)
def itB (gs:List Nat)(w:World):Bs:=⟨w,fun k=>k∈gs,true⟩
def capsΛ (caps:List (TypeId × As)):List Lc:=caps.zipIdx.map fun x=>⟨x.2+1,x.1.1,ptrH,x.1.2⟩
def capsΓ (gs:List Nat)(n:Nat):List (Nat × VA):=(List.range n).map fun i=>(i+1,EqV (ptr (gs.getD i 0)))
structure ItG (B:Nat) (gs:List Nat) (Tc:List TypeId) (J:Nat→World→Prop) (k:Nat) (w0:Bs):Prop where
 eq:w0=itB gs w0.w
 j:J k w0.w
 ge:∀ g∈gs,B≤g
theorem zpj {α:Type}:∀ {l:List α},l.Nodup→∀ {i j:Nat} {x:α},l[i]?=some x→l[j]?=some x→i=j
 | [],_,_,_,_,h,_=>by cases h
 | y::l,nd,i,j,x,hi,hj=>by
  obtain ⟨n1,n2⟩:=List.nodup_cons.1 nd
  cases i with
  | zero=>cases j with
   | zero=>rfl
   | succ j =>
    have e1:y=x:=by simpa using hi
    have e2:l[j]?=some x:=by simpa using hj
    exact absurd (List.mem_of_getElem? e2) (by rw [← e1]; exact n1)
  | succ i=>cases j with
   | zero =>
    have e1:y=x:=by simpa using hj
    have e2:l[i]?=some x:=by simpa using hi
    exact absurd (List.mem_of_getElem? e2) (by rw [← e1]; exact n1)
   | succ j=>rw [zpj n2 (i:=i) (j:=j) (x:=x) (by simpa using hi) (by simpa using hj)]
theorem ItCg.intro {P : Program} {gs : List Nat} {f : FuncId} {fn : Func} {c : Code} {caps : List (TypeId × As)} {Y : Nat → List VA} {inf : Bool} {M : Nat} {Dd : List TypeId} (hf : P.funcs[f]? = some fn) (hb : fn.body = some c) (hn : (fn.name == "runtime.NumGoroutine") = false) (hsz : caps.length + 1 ≤ fn.ntmps)
  (h:∀ (l B:Nat) (Db:List TypeId) (J:Nat→World→Prop) (Jx:World→Prop) (w0:Bs) (a:Act),gs.length=caps.length→offD Db Dd=true→ItH P l B Db (caps.map Prod.fst) gs Y inf M J Jx→ItG B gs (caps.map Prod.fst) J 0 w0 →
   St B w0 fn.ntmps ((0,EqV (.func (.yield l) #[] #[]))::capsΓ gs caps.length) (capsΛ caps) a w0.w→c.wpIn (fw none) 0 P (bPost P fn (fun e W'=>∃ v,e=.returned v∧(J M W'∨Jx W'))) a w0.w):ItCg P f caps gs Y inf M Dd:=by
 refine ⟨⟨fn,hf,hn,by rw [hb]; rfl⟩,fun l B w Db J Jx hB hgn hcaps hoff hI hJ=>zon hf hb (h l B Db J Jx (itB gs w) _ hcaps.length.symm hoff hI ⟨rfl,hJ,(zfr hcaps).2⟩ ?_)⟩
 have hlen:=hcaps.length
 have hev:∀ i (hi:i<gs.length),({ tmps:=(Value.func (.yield l) #[] #[]::gs.map ptr).toArray++Array.replicate (fn.ntmps-(Value.func (.yield l) #[] #[]::gs.map ptr).toArray.size) undef,defers:=[] }:Act).eval (.tmp (i+1))=ptr (gs.getD i 0):=fun i hi=>by
  rw [zgk]
  have h1:(((Value.func (.yield l) #[] #[]::gs.map ptr).toArray++Array.replicate (fn.ntmps-(Value.func (.yield l) #[] #[]::gs.map ptr).toArray.size) undef:Array Value)[i+1]?)=some (ptr (gs.getD i 0)):=by
   rw [Array.getElem?_append_left (by simp; omega)]
   simp [List.getD,hi]
  show ((_:Array Value)[i+1]?).getD undef=_
  rw [h1]
  rfl
 have hat:∀ {i:Nat} {c:TypeId × As},caps[i]?=some c→∃ g,gs[i]?=some g∧g∈gs∧B≤g∧∃ cs,w.heap[g]?=some (.cells (List.toArray cs) c.1 (0,0))∧c.2.p B cs w:=fun {i c} hc=>by
  obtain ⟨g,h1,h2⟩:=hcaps.get hc
  exact ⟨g,h1,List.mem_of_getElem? h1,h2⟩
 have hΛ:∀ m∈capsΛ caps,∃ i c g,caps[i]?=some c∧gs[i]?=some g∧m=⟨i+1,c.1,ptrH,c.2⟩:=fun m hm=>by
  obtain ⟨x,hx,rfl⟩:=List.mem_map.1 hm
  have hx':=List.mem_zipIdx_iff_getElem?.1 hx
  obtain ⟨g,h1,_⟩:=hat hx'
  exact ⟨x.2,x.1,g,hx',h1,rfl⟩
 have hev':∀ {i g:Nat},gs[i]?=some g→({ tmps:=(Value.func (.yield l) #[] #[]::gs.map ptr).toArray++Array.replicate (fn.ntmps-(Value.func (.yield l) #[] #[]::gs.map ptr).toArray.size) undef,defers:=[] }:Act).eval (.tmp (i+1))=ptr g:=fun {i g} hg=>by
  rw [hev i (List.getElem?_eq_some_iff.1 hg).1]
  simp [List.getD,hg]
 refine ⟨fun g hg=>?_,DefOk.nil rfl,?_,Kept.refl _,fun x hx=>?_,fun m hm=>?_,fun m hm m' hm' hne=>?_⟩
 ·rcases hg with hg | hg
  ·exact Nat.le_trans hB hg
  ·exact (zfr hcaps).2 g hg
 ·simp only [Array.size_append,List.size_toArray,Array.size_replicate,List.length_cons,List.length_map]
  omega
 ·rcases List.mem_cons.1 hx with rfl | hx
  ·show _=_
   rw [zgk]
   show ((_:Array Value)[0]?).getD undef=_
   rw [Array.getElem?_append_left (by simp)]
   simp
  ·obtain ⟨i,hi,rfl⟩:=List.mem_map.1 hx
   exact hev i (by rw [← hlen]; simpa using hi)
 ·obtain ⟨i,c,g,h1,h2,rfl⟩:=hΛ m hm
  obtain ⟨g',h3,h4,_,cs,h5,h6⟩:=hat h1
  rw [h2] at h3
  injection h3 with h3
  subst h3
  exact ⟨g,cs,hev' h2,.inr h4,h5,h6⟩
 ·obtain ⟨i,c,g,h1,h2,rfl⟩:=hΛ m hm
  obtain ⟨j,c',g',h3,h4,rfl⟩:=hΛ m' hm'
  show blk (Act.eval _ (.tmp (i+1)))≠blk (Act.eval _ (.tmp (j+1)))
  rw [hev' h2,hev' h4]
  intro e
  have e':g=g':=by injection e
  subst e'
  exact hne (by rw [zpj hgn h2 h4])
def CapIx (Γ:List (Nat × VA))(Λ:List Lc)(gs:List Nat):Nat→List TypeId→List (Nat × Nat)→Prop
 | _,[],[]=>True
 | i,c::cs,(x,y)::ix=>Γ[x]?=some (i+1,EqV (ptr (gs.getD i 0)))∧(∃ A:As,Λ[y]?=some (⟨i+1,c,ptrH,A⟩:Lc))∧CapIx Γ Λ gs (i+1) cs ix
 | _,_,_=>False
section
open Rg
variable {P:Program} {Q:Exit→Act→World→Prop} {B N:Nat} {w0:Bs} {Γ:List (Nat × VA)} {Λ:List Lc} {a:Act} {w:World}
theorem zxg {R:Rg}{n m:Nat}{l:Nat}{Db Dd Tc:List TypeId}{gs:List Nat}{Y:Nat→List VA}{inf:Bool}{M k:Nat}{J:Nat→World→Prop}{Jx:World→Prop}(src:List Nat)(ix:List (Nat × Nat)){d c:Nat}{xs:List Operand}{at_:Array TypeId}{T1:TypeId}{ps1:String}{af1:Array Edge}
  (hsz:R.ops.size=n+m) (hm:0<m) (hles:R.les=lesN Λ) (hancB:(List.range (n+1)).all (fun i=>(R.anc i).all fun j=>decide (j<n))=true)
  (ho1:R.ops[n]?=some ⟨some d,.call ⟨.value (.tmp c),xs.toArray,at_⟩,T1,ps1,af1,none⟩) (hyv:Has R B w0 n (.tmp c) (EqV (.func (.yield l) #[] #[]))) (hx:HasL R B w0 n xs (Y k))
  (hoff:offD Db Dd=true) (hI:ItH P l B Db Tc gs Y inf M J Jx) (hG:ItG B gs Tc J k w0) (hkM:k<M) (hix:CapIx R.Γ Λ gs 0 Tc ix) (hgl:gs.length=Tc.length)
  (hixo:ix.all (fun x=>match R.Γ[x.1]? with | some y=>Rg.outG R y.1 | none=>false)=true)
  (hsrc:src.all (fun k=>match R.Γ[k]? with | some y=>y.2.deps.all Dd.contains&&Rg.outG R y.1 | none=>false)=true)
  (hΛ:Λ.all (fun l=>l.A.deps.all Dd.contains&&decide (1≤l.s)&&decide (l.s≤Tc.length)&&l.s != d)=true)
  {a1:Act} {w1:World} (hinv:R.Inv B w0 (fun k=>decide (k<n)) a1 w1) (K:Act→World→Prop) (hd:d<R.N)
  (hK:∀ w0' a' W',ItG B gs Tc J (k+1) w0'→St B w0' R.N ((d,Bo true)::src.filterMap (fun k=>R.Γ[k]?)) Λ a' W'→W'=w0'.w→K a' W') (hKx:∀ w0' a' W',w0'=itB gs W'→Jx W'→St B w0' R.N [(d,Bo false)] [] a' W'→K a' W') :
  wpOpIn (fw none) 0 P R.ops Q n K a1 w1:=by
 have hcl:∀ deps,Rg.clash R (fun k=>decide (k<n)) deps=false:=fun deps=>by
  unfold Rg.clash
  rw [List.any_eq_false]
  intro y hy
  rw [hles] at hy
  obtain ⟨l',_,rfl⟩:=List.mem_map.1 hy
  simp
 have hclo:Rg.Closed R (fun k=>decide (k<n)):=fun i hi j hj=>by
  have hi':i<n:=of_decide_eq_true hi
  have:=List.all_eq_true.1 (List.all_eq_true.1 hancB i (by simp; omega)) j (by simpa using hj)
  simpa using this
 have av:R.Av B w0 n a1 w1:=hinv.av hclo (by simp) fun j hj=>by
  have:=List.all_eq_true.1 (List.all_eq_true.1 hancB n (by simp)) j (by simpa using hj)
  simpa using this
 have hcv:a1.eval (.tmp c)=.func (.yield l) #[] #[]:=hyv a1 w1 av
 have hargs:=hx.all av
 have hout:∀ t,Rg.outG R t=true→∀ q,q<R.ops.size→R.dst q≠some t:=fun t ht q hq=>by
  have:=List.all_eq_true.1 ht q (by simpa using hq)
  simpa using this
 have hg:∀ (k:Nat) (y:Nat × VA),R.Γ[k]?=some y→Rg.outG R y.1=true→y.2.p B (a1.eval (.tmp y.1)) w1:=fun k y hk ho=>hinv.g y (List.mem_of_getElem? hk) (fun q hq hdq=>absurd hdq (hout _ ho q hq)) (hcl _)
 have hcur:∀ l'∈Λ,LcOk B w0.may l'.s l'.T l'.H l'.A a1 w1:=fun l' hl'=>hinv.c ⟨l'.s,l'.T,l'.H,none,l'.A,none⟩ (by rw [hles]; exact List.mem_map.2 ⟨l',hl',rfl⟩) l'.A rfl
 have hixg:∀ {x y:Nat} ,(x,y)∈ix→∀ {z:Nat × VA},R.Γ[x]?=some z→Rg.outG R z.1=true:=fun {x y} hxy {z} hz=>by
  have:=List.all_eq_true.1 hixo (x,y) hxy
  rw [hz] at this
  exact this
 have key:∀ {i:Nat} {cs:List TypeId} {ix':List (Nat × Nat)},CapIx R.Γ Λ gs i cs ix'→(∀ p∈ix',p∈ix)→∀ j,j<cs.length→a1.eval (.tmp (i+j+1))=ptr (gs.getD (i+j) 0)∧∃ c A,(⟨i+j+1,c,ptrH,A⟩:Lc)∈Λ∧c∈cs:=by
  intro i cs ix'
  induction cs generalizing i ix' with
  | nil=>intro _ _ j hj; cases hj
  | cons c cs ih =>
   intro h1 h2 j hj
   cases ix' with
   | nil=>exact h1.elim
   | cons p ix'' =>
    obtain ⟨x,y⟩:=p
    obtain ⟨e1,⟨A,e2⟩,e3⟩:=h1
    cases j with
    | zero=>exact ⟨hg x _ e1 (hixg (h2 (x,y) (by simp)) e1),c,A,List.mem_of_getElem? e2,by simp⟩
    | succ j =>
     obtain ⟨q1,c',A',q2,q3⟩:=ih e3 (fun p hp=>h2 p (List.mem_cons_of_mem _ hp)) j (by simpa using hj)
     rw [show i+1+j=i+(j+1) by omega] at q1 q2
     exact ⟨q1,c',A',q2,by simp [q3]⟩
 have hnm:∀ j,j<Tc.length→a1.eval (.tmp (j+1))=ptr (gs.getD j 0)∧∃ c A,(⟨j+1,c,ptrH,A⟩:Lc)∈Λ∧c∈Tc:=fun j hj=>by
  have:=key hix (fun p hp=>hp) j hj
  simpa using this
 have hct1:CellsT Tc gs w1:=fun g hg'=>by
  obtain ⟨j,hj⟩:=List.getElem?_of_mem hg'
  have hjl:=(List.getElem?_eq_some_iff.1 hj).1
  obtain ⟨e1,c',A',e2,e3⟩:=hnm j zo
  obtain ⟨g2,cs,f1,_,f3,_⟩:=hcur _ e2
  have:g2=g:=by
   have f1':a1.eval (.tmp (j+1))=ptr g2:=f1
   rw [e1] at f1'
   have:gs.getD j 0=g:=by simp [List.getD,hj]
   rw [this] at f1'
   injection f1' with f1'
   injection f1' with f1'
   injection f1' with f1'
   exact f1'.symm
  subst this
  exact ⟨_,_,_,f3,e3⟩
 have hbase:StpI gs w0.w w1:=by
  have:=hinv.base
  rw [hG.eq] at this
  exact this
 have hJ1:J k w1:=hI.st k _ _ hG.j hbase hct1
 obtain ⟨fn,tmps,assign,body,hy,hR⟩:=hI.yd k w1 _ hkM hJ1 hargs
 have hdf:a1.defers=[]:=hinv.defers.none (by rw [hG.eq]; rfl)
 have hB1:B≤w1.heap.size:=Nat.le_trans (hinv.lo _ (.inl (Nat.le_refl _))) hinv.base.size
 have hNs:a1.tmps.size=R.N:=hinv.size
 have hrun:(execOp a1.eval ⟨some d,.call ⟨.value (.tmp c),xs.toArray,at_⟩,T1,ps1,af1,none⟩).run P w1=.ok (.round l fn tmps assign body) w1:=by
  have hy':(Instr.yield l (xs.map a1.eval).toArray).run P w1=.ok (.round l fn tmps assign body) w1:=hy
  simp only [execOp,resolve,hcv,Deferred.ofValue,Sem.run_bind,Sem.run_pure,Result.andThen_ok,invoke]
  simpa using hy'
 have hwant:Region.wanted (⟨some d,.call ⟨.value (.tmp c),xs.toArray,at_⟩,T1,ps1,af1,none⟩:Oper) (yielded R.ops a1.tmps)=true:=rfl
 unfold wpOpIn
 rw [ho1]
 simp only [hwant,if_true]
 refine ⟨fun _ _=>trivial,?_⟩
 rw [show Oper.semAt (fw none).round a1.eval _=execOp a1.eval _ from rfl,hrun]
 refine ⟨fun hh=>(by cases hh),?_⟩
 refine RoundIn.mono hR ?_
 have hsl:∀ l'∈Λ,(∀ T∈l'.A.deps,T∈Dd)∧1≤l'.s∧l'.s≤Tc.length∧l'.s≠d:=fun l' hl'=>by
  have:=List.all_eq_true.1 hΛ l' hl'
  simp only [Bool.and_eq_true,decide_eq_true_eq,bne_iff_ne,List.all_eq_true,List.contains_eq_mem] at this
  exact ⟨this.1.1.1,this.1.1.2,this.1.2,this.2⟩
 have hoffD:∀ {deps:List TypeId},(∀ T∈deps,T∈Dd)→∀ T∈Db,T ∉ deps:=fun {deps} hh T hT hm=>zkq hoff T hT (hh T hm)
 rintro e W' (⟨rfl,hJ',hs⟩ | ⟨rfl,hJx,hsz',hdk⟩)
 ·refine hK (itB gs W') _ W' ⟨rfl,hJ',hG.ge⟩ ⟨fun g hg'=>?_,DefOk.nil hdf,by rw [zbi]; exact hNs,Kept.refl _,fun y hy'=>?_,fun l' hl'=>?_,fun l1 hl1 l2 hl2 hne=>?_⟩ rfl
  ·rcases hg' with hg' | hg'
   ·have h1:w1.heap.size≤W'.heap.size:=hs.size
    have h2:W'.heap.size≤g:=hg'
    omega
   ·exact hG.ge g hg'
  ·rcases List.mem_cons.1 hy' with rfl | hy'
   ·show (BoA true).va.p B ((a1.put (some d) _).eval (.tmp d)) W'
    rw [zaq _ _ _ (by rw [hNs]; exact hd)]
    exact zg7 true _ _
   ·obtain ⟨k',hk1,hk2⟩:=List.mem_filterMap.1 hy'
    have hs':=List.all_eq_true.1 hsrc k' hk1
    simp only [hk2,Bool.and_eq_true,List.all_eq_true,List.contains_eq_mem,decide_eq_true_eq] at hs'
    have hne:y.1≠d:=fun e=>hout y.1 hs'.2 n zo (by unfold Rg.dst; rw [ho1,e]; rfl)
    rw [za6 _ _ _ _ hne]
    exact VA.stp (hg k' y hk2 hs'.2) hs (Nat.le_refl _) (hoffD hs'.1)
  ·obtain ⟨h1,h2,h3,h4⟩:=hsl l' hl'
   obtain ⟨g,cs,f1,f2,f3,f4⟩:=hcur l' hl'
   obtain ⟨e1,_⟩:=hnm (l'.s-1) zo
   rw [show l'.s-1+1=l'.s by omega] at e1
   have hgb:blk (a1.eval (.tmp l'.s))=some g:=by rw [f1]; exact l'.H.ok g
   have hgm:g∈gs:=by
    rw [e1] at hgb
    have:gs.getD (l'.s-1) 0=g:=by injection hgb
    rw [← this]
    simp only [List.getD]
    rw [List.getElem?_eq_getElem zo]
    exact List.getElem_mem _
   exact ⟨g,cs,by rw [za6 _ _ _ _ h4]; exact f1,.inr hgm,hs.held f3 hgm,As.stp f4 hs (Nat.le_refl _) (hoffD h1)⟩
  ·rw [za6 _ _ _ _ (hsl l1 hl1).2.2.2,za6 _ _ _ _ (hsl l2 hl2).2.2.2]
   exact hinv.x ⟨l1.s,l1.T,l1.H,none,l1.A,none⟩ (by rw [hles]; exact List.mem_map.2 ⟨l1,hl1,rfl⟩) ⟨l2.s,l2.T,l2.H,none,l2.A,none⟩ (by rw [hles]; exact List.mem_map.2 ⟨l2,hl2,rfl⟩) hne rfl rfl
 ·refine hKx (itB gs W') _ W' rfl hJx ⟨fun g hg'=>?_,DefOk.nil hdf,by rw [zbi]; exact hNs,Kept.refl _,fun y hy'=>?_,(fun _ h=>by cases h),(fun _ h=>by cases h)⟩
  ·rcases hg' with hg' | hg'
   ·have h2:W'.heap.size≤g:=hg'
    omega
   ·exact hG.ge g hg'
  ·obtain rfl:=List.mem_singleton.1 hy'
   show (BoA false).va.p B ((a1.put (some d) _).eval (.tmp d)) W'
   rw [zaq _ _ _ (by rw [hNs]; exact hd)]
   exact zg7 false _ _
theorem zpf {ops:Array Oper}{i d e:Nat}{op:Op}{T:TypeId}{ps:String}{af:Array Edge}{φ:Bool→Bool}{b:Bool}{K:Act→World→Prop}{L:List Lc}(ho:ops[i]?=some ⟨some e,op,T,ps,af,none⟩)(hop:∀ (a:Act) w b,a.eval (.tmp d)=.bool b→(execOp a.eval ⟨some e,op,T,ps,af,none⟩).run P w=.ok (.value (.bool (φ b))) w)
  (hnd:noDefer ops=true) (he:e<N) (_hed:e≠d) (hΓ:Γ.all (fun x=>x.1 != e)=true) (hL:L.all (fun l=>l.s != e)=true) (h:St B w0 N ((d,Bo b)::Γ) L a w) (hK:∀ a',St B w0 N ((e,Bo (φ b))::Γ) L a' w→K a' w):wpOpIn (fw none) 0 P ops Q i K a w:=by
 unfold wpOpIn
 rw [ho]
 have hwant:Region.wanted (⟨some e,op,T,ps,af,none⟩:Oper) (yielded ops a.tmps)=true:=rfl
 simp only [hwant,if_true]
 refine ⟨fun _ _=>trivial,?_⟩
 rw [Oper.semAt_eq _ _ _ (zjy hnd ho),hop a w b (zf1 (h.vals _ List.mem_cons_self))]
 refine hK _ ⟨h.lo,h.defers.keep rfl (fun _ h=>h),by rw [zbi]; exact h.size,h.base,fun x hx=>?_,fun l hl=>?_,fun l hl m hm hne=>?_⟩
 ·rcases List.mem_cons.1 hx with rfl | hx
  ·show (BoA (φ b)).va.p B ((a.put (some e) _).eval (.tmp e)) w
   rw [zaq _ _ _ (by rw [h.size]; exact he)]
   exact zg7 _ _ _
  ·have:=List.all_eq_true.1 hΓ x hx
   rw [za6 _ _ _ _ (by simpa using this)]
   exact h.vals x (List.mem_cons_of_mem _ hx)
 ·have:=List.all_eq_true.1 hL l hl
  exact (h.locs l hl).eval (za6 _ _ _ _ (by simpa using this))
 ·have h1:=List.all_eq_true.1 hL l hl
  have h2:=List.all_eq_true.1 hL m hm
  rw [za6 _ _ _ _ (by simpa using h1),za6 _ _ _ _ (by simpa using h2)]
  exact h.dis l hl m hm hne
theorem not_op {e d:Nat}{T T':TypeId}{ps:String}{af:Array Edge}:∀ (a:Act) (w:World) (b:Bool),a.eval (.tmp d)=.bool b→(execOp a.eval ⟨some e,.unOp .not T (.tmp d),T',ps,af,none⟩).run P w=.ok (.value (.bool (!b))) w:=fun a w b h=>by
 simp [execOp,h]
 rfl
theorem zvx {id:Nat}{ops:Array Oper}{sp:List Sp}(n:Nat)(src:List Nat)(ix:List (Nat × Nat)){l:Nat}{Db Dd Tc:List TypeId}{gs:List Nat}{Y:Nat→List VA}{inf:Bool}{M k:Nat}{J:Nat→World→Prop}{Jx:World→Prop}{d c e:Nat}{xs:List Operand}{at_:Array TypeId}{T1 T3:TypeId}{ps1 ps2:String}{af1 af2:Array Edge}{op:Op}(φ:Bool→Bool)
  (h:St B w0 N Γ Λ a w) (hob:Obs P Q ⟨ops,N,Γ,lesN Λ,sp,fun i=>List.range i⟩ B w0 0 n) (hsz:ops.size=n+2) (hk:Rg.chk ⟨ops,N,Γ,lesN Λ,sp,fun i=>List.range i⟩=true) (hancB:(List.range (n+1)).all (fun i=>(List.range i).all fun j=>decide (j<n))=true)
  (ho1:ops[n]?=some ⟨some d,.call ⟨.value (.tmp c),xs.toArray,at_⟩,T1,ps1,af1,none⟩) (ho2:ops[n+1]?=some ⟨some e,op,T3,ps2,af2,none⟩) (hop:∀ (a:Act) w b,a.eval (.tmp d)=.bool b→(execOp a.eval ⟨some e,op,T3,ps2,af2,none⟩).run P w=.ok (.value (.bool (φ b))) w) (he:e<N) (hed:e≠d) (hyv:Has ⟨ops,N,Γ,lesN Λ,sp,fun i=>List.range i⟩ B w0 n (.tmp c) (EqV (.func (.yield l) #[] #[]))) (hx:HasL ⟨ops,N,Γ,lesN Λ,sp,fun i=>List.range i⟩ B w0 n xs (Y k))
  (hoff:offD Db Dd=true) (hI:ItH P l B Db Tc gs Y inf M J Jx) (hG:ItG B gs Tc J k w0) (hkM:k<M) (hix:CapIx Γ Λ gs 0 Tc ix) (hgl:gs.length=Tc.length)
  (hixo:ix.all (fun x=>match Γ[x.1]? with | some y=>Rg.outG ⟨ops,N,Γ,lesN Λ,sp,fun i=>List.range i⟩ y.1 | none=>false)=true)
  (hsrc:src.all (fun k=>match Γ[k]? with | some y=>y.2.deps.all Dd.contains&&Rg.outG ⟨ops,N,Γ,lesN Λ,sp,fun i=>List.range i⟩ y.1 | none=>false)=true)
  (hΛ:Λ.all (fun l=>l.A.deps.all Dd.contains&&decide (1≤l.s)&&decide (l.s≤Tc.length)&&l.s != d&&l.s != e)=true) (hnd:noDefer ops=true) (hQ0:¬ LetsOut Q) (hd:d<N)
  (hQ:∀ w0 a w,ItG B gs Tc J (k+1) w0→St B w0 N ((e,Bo (φ true))::src.filterMap (fun k=>Γ[k]?)) Λ a w→w=w0.w→Q .normal a w) (hQx:∀ w0 a w,w0=itB gs w→Jx w→St B w0 N [(e,Bo (φ false))] [] a w→Q .normal a w) :
  (Code.region id ops false).wpIn (fw none) 0 P Q a w:=by
 have hles0:∀ y∈lesN Λ,y.cr=none∧(⟨y.s,y.T,y.H,y.A0⟩:Lc)∈Λ:=fun y hy=>by
  obtain ⟨l',hl',rfl⟩:=List.mem_map.1 hy
  exact ⟨rfl,hl'⟩
 refine Rg.linKF (R:=⟨ops,N,Γ,lesN Λ,sp,fun i=>List.range i⟩) (m:=2) hnd hQ0 hsz rfl hk h (fun y hy _=>(hles0 y hy).2) (fun i hi=>hob.all i zo zo) fun a1 w1 hinv=>?_
 rw [show List.range' n 2=[n,n+1] from rfl]
 rw [wpOpsIn_cons]
 have hout:∀ k',k'∈src→∀ y,Γ[k']?=some y→y.1≠e:=fun k' hk' y hy=>by
  have:=List.all_eq_true.1 hsrc k' hk'
  rw [hy,Bool.and_eq_true] at this
  have h2:=List.all_eq_true.1 this.2 (n+1) (by simp [hsz])
  intro e'
  simp only [Rg.dst,ho2,Option.bind_some,e',bne_self_eq_false] at h2
  exact absurd h2 zd
 have hΛ':Λ.all (fun l=>l.s != e)=true:=List.all_eq_true.2 fun l hl=>by
  have:=List.all_eq_true.1 hΛ l hl
  simp only [Bool.and_eq_true] at this
  exact this.2
 refine zxg (R:=⟨ops,N,Γ,lesN Λ,sp,fun i=>List.range i⟩) (m:=2) src ix hsz zd rfl hancB ho1 hyv hx hoff hI hG hkM hix hgl hixo hsrc (List.all_eq_true.2 fun l hl=>?_) hinv _ hd (fun w0' a' W' hG' O hw=>?_) fun w0' a' W' hw hJx O=>?_
 ·have:=List.all_eq_true.1 hΛ l hl
  simp only [Bool.and_eq_true] at this ⊢
  exact this.1
 ·rw [wpOpsIn_cons]
  refine zpf (φ:=φ) ho2 hop hnd he hed (List.all_eq_true.2 fun x hx=>?_) hΛ' O fun a' O=>hQ w0' a' W' hG' O hw
  obtain ⟨k',hk1,hk2⟩:=List.mem_filterMap.1 hx
  simpa using hout k' hk1 x hk2
 ·rw [wpOpsIn_cons]
  exact zpf (φ:=φ) ho2 hop hnd he hed rfl rfl O fun a' O=>hQx w0' a' W' hw hJx O
end
end Go.Proofs.YtmfgafhlaeolgaaGreatDoor
namespace Go.Proofs.YtmfgafhlaeolgaaGreatDoor
open Go Go.RowKit
def OwnC (E:TypeId)(m:Nat)(D:List TypeId)(l:List As):As where
 n:=1
 ag:=false
 p B cs w:=∃ v,cs=[v]∧(OwnR B E m D l).p B v w
 deps:=E::D
 len:=by rintro B cs w ⟨v,rfl,_⟩; rfl
 one:=by
  rintro B cs w ⟨v,rfl,_,_,ds,_,_,h⟩ c hc
  obtain rfl:=List.mem_singleton.1 hc
  rcases h with ⟨rfl,_⟩ | ⟨g,cap,cur,rfl,_⟩ <;> rfl
 ag1:=fun _=>rfl
 cg:=by
  rintro B cs w w' hg ⟨v,rfl,h⟩
  exact ⟨v,rfl,(OwnR B E m D l).cg _ _ _ _ hg h⟩
 wr:=by
  rintro B cs w w' g c T fz h1 h2 h3 h4 ⟨v,rfl,h⟩
  exact ⟨v,rfl,(OwnR B E m D l).wr _ _ _ _ _ _ _ _ h1 h2 h3 h4 h⟩
theorem ownC_v {E:TypeId}{m:Nat}{D:List TypeId}{l:List As}{B:Nat}{v:Value}{w:World}(h:(OwnC E m D l).va.p B v w):(OwnR B E m D l).p B v w:=by
 obtain ⟨cs,⟨u,rfl,h⟩,hv⟩:=h
 have:v=u:=hv
 subst this
 exact h
def OneC:As where
 n:=1
 ag:=false
 p _ cs _:=∃ v,cs=[v]∧v.oneCell'=true
 deps:=[]
 len:=by rintro B cs w ⟨v,rfl,_⟩; rfl
 one:=by
  rintro B cs w ⟨v,rfl,h⟩ c hc
  obtain rfl:=List.mem_singleton.1 hc
  exact h
 ag1:=fun _=>rfl
 cg:=fun _ _ _ _ _ h=>h
 wr:=fun _ _ _ _ _ _ _ _ _ _ _ _ h=>h
theorem zxe {P:Program}{T E:TypeId}{m:Nat}{D:List TypeId}(h:(P.info? T).bind (·.zero)=some (.slice none 0 0)):Zero P T (OwnC E m D []):=Zero.of h fun B w=>⟨_,rfl,zid B _ w rfl⟩
theorem St.castΓ {B N:Nat}{w0:Bs}{Γ Γ':List (Nat × VA)}{Λ:List Lc}{a:Act}{w:World}(e:Γ=Γ')(h:St B w0 N Γ Λ a w):St B w0 N Γ' Λ a w:=e▸h
theorem St.castΛ {B N:Nat}{w0:Bs}{Γ:List (Nat × VA)}{Λ Λ':List Lc}{a:Act}{w:World}(e:Λ=Λ')(h:St B w0 N Γ Λ a w):St B w0 N Γ Λ' a w:=e▸h
def RowMay (w0:Bs)(B:Nat)(E:TypeId):Prop:=∀ (w:World) (g:Nat) (c:Array Value) (fz:Nat × Nat),Kept w0 w→B≤g→w.heap[g]?=some (.cells c E fz)→w0.may g
theorem zyd {B:Nat}{E:TypeId}{D Tc:List TypeId}{gs:List Nat}{Ws W2 W3:World}{l:Nat}(hk:Kept (rndB B D gs Ws Ws) W2)(hb:Bg l W2 W3)(hc:CellsT Tc gs Ws)(hE:D.contains E=true)(hT:Tc.contains E=false):RowMay (rndB B D gs Ws W3) B E:=fun w g c fz hw hg hcell=>by
 obtain ⟨r,r',hr,rfl⟩:=hb
 have hEm:E∈D:=by simpa using hE
 by_cases hF:(rndB B D gs Ws (W2.putObj l (.loop r'))).F g
 ·exact .inr hF
 ·by_cases hlt:g<W2.heap.size
  ·have h1:(W2.putObj l (.loop r')).heap[g]?=some (.cells c E fz):=(hw.block g (by show g<(W2.putObj l (.loop r')).heap.size; rw [World.putObj_size]; exact hlt) hF).symm.trans hcell
   have hne:g≠l:=fun e=>by
    subst e
    rw [World.putObj_heap_same hlt] at h1
    cases h1
   rw [World.putObj_heap_other hne] at h1
   by_cases hlt2:g<Ws.heap.size
   ·have h2:Ws.heap[g]?=some (.cells c E fz):=(hk.block g hlt2 hF).symm.trans h1
    by_cases hgs:g∈gs
    ·obtain ⟨c',T',fz',h3,h4⟩:=hc g hgs
     rw [h2] at h3
     injection h3 with h3
     injection h3 with _ h3 _
     subst h3
     have:Tc.contains E=true:=by simpa using h4
     rw [hT] at this
     cases this
    ·exact .inr ⟨hg,.inr ⟨hgs,_,_,_,h2,hEm⟩⟩
   ·exact .inr ⟨hg,.inl zo⟩
  ·exact .inl (by show (W2.putObj l (.loop r')).heap.size≤g; simp; omega)
section
open Rg
variable {P:Program} {Q:Exit→Act→World→Prop} {B N:Nat} {w0:Bs} {Γ:List (Nat × VA)} {Λ:List Lc} {a:Act} {w:World}
theorem zyv {ops:Array Oper}{i kd e sx d:Nat}{T ty T':TypeId}{A0 A:As}{ps:String}{af:Array Edge}(src:List Nat)(ho:ops[i]?=some ⟨none,.store ty (.tmp sx) (.tmp d),T',ps,af,none⟩)(h:St B w0 N Γ Λ a w)(hd:Γ[kd]?=some (d,A.va))(hl:Λ[e]?=some ⟨sx,T,ptrH,A0⟩)(ht:Ty P ty A.n A.ag)(hn:A0.n=A.n)(hT:A.deps.contains T=false)
  (hsrc:src.all (fun k=>match Γ[k]? with | some y => !y.2.deps.contains T | none=>false)=true) (hΛ:Λ.zipIdx.all (fun x=>x.2==e || (x.1.s != sx && !x.1.A.deps.contains T))=true) (K:Act→World→Prop)
  (hK:∀ w',(∃ g c fz,blk (a.eval (.tmp sx))=some g∧B≤g∧w.heap[g]?=some (.cells c T fz)∧Wr g w w')→St B w0 N (src.filterMap fun k=>Γ[k]?) (Λ.set e ⟨sx,T,ptrH,A⟩) a w'→K a w'):wpOp P ops Q i K a w:=by
 obtain ⟨g,cs,f1,f2,f3,f4⟩:=h.locs _ (List.mem_of_getElem? hl)
 obtain ⟨cs',hp,hv⟩:=h.vals _ (List.mem_of_getElem? hd)
 have f1':a.eval (.tmp sx)=.pointer (some ⟨g,0,none⟩):=f1
 have hv':a.eval (.tmp d)=shape A.ag cs':=hv
 have l0:=A0.len _ _ _ f4
 have l1:=A.len _ _ _ hp
 have hB:B≤g:=h.lo g f2
 have hTn:T ∉ A.deps:=by simpa using hT
 have hrun:=zc6 ht w g 0 T cs.toArray _ cs' (A.cells_shape hp) l1 (by simp; omega) (A.one _ _ _ hp) f3
 rw [List.drop_of_length_le (by simp; omega)] at hrun
 simp only [List.take_zero,List.nil_append,List.append_nil] at hrun
 have hW:=Wr.setRow w g cs'.toArray
 have hnew:(w.setRow g cs'.toArray).heap[g]?=some (.cells cs'.toArray T (0,0)):=setRow_heap w g _ _ _ _ f3
 have O:∀ a',a'=a→K a' (w.setRow g cs'.toArray):=fun a' ha=>by
  subst ha
  refine hK _ ⟨g,_,_,by rw [f1]; rfl,hB,f3,hW⟩ ⟨h.lo,h.defers.keep rfl fun D hD=>(hW.block D (fun e=>by subst e; rw [f3] at hD; cases hD)).trans hD,h.size,h.base.wr hW f2,fun x hx=>?_,fun m hm=>?_,fun m hm m' hm' hne=>?_⟩
  ·obtain ⟨k,hk1,hk2⟩:=List.mem_filterMap.1 hx
   have:=List.all_eq_true.1 hsrc k hk1
   simp only [hk2,Bool.not_eq_true',List.contains_eq_mem,decide_eq_false_iff_not] at this
   exact x.2.wr _ _ _ _ _ _ _ _ f3 this hB hW (h.vals x (List.mem_of_getElem? hk2))
  ·obtain ⟨j,hj⟩:=List.getElem?_of_mem hm
   by_cases e1:j=e
   ·subst e1
    have:m=⟨sx,T,ptrH,A⟩:=by
     rw [List.getElem?_set_self (List.getElem?_eq_some_iff.1 hl).1] at hj
     injection hj with hj
     exact hj.symm
    subst this
    exact ⟨g,cs',f1,f2,hnew,A.wr _ _ _ _ _ _ _ _ f3 hTn hB hW hp⟩
   ·rw [List.getElem?_set_ne (fun e2=>e1 e2.symm)] at hj
    have hc:=List.all_eq_true.1 hΛ (m,j) (List.mem_zipIdx_iff_getElem?.2 hj)
    simp only [Bool.or_eq_true,beq_iff_eq,Bool.and_eq_true,bne_iff_ne,Bool.not_eq_true',List.contains_eq_mem,decide_eq_false_iff_not] at hc
    have hc':=hc.resolve_left e1
    obtain ⟨g',cs2,q1,q2,q3,q4⟩:=h.locs m (List.mem_of_getElem? hj)
    have hne:g'≠g:=fun hh=>h.dis m (List.mem_of_getElem? hj) _ (List.mem_of_getElem? hl) hc'.1 (by rw [q1,f1,hh,m.H.ok,Hd.ok])
    exact ⟨g',cs2,q1,q2,(hW.block g' hne).trans q3,m.A.wr _ _ _ _ _ _ _ _ f3 hc'.2 hB hW q4⟩
  ·have hs:∀ m∈Λ.set e ⟨sx,T,ptrH,A⟩,∃ m0∈Λ,m0.s=m.s:=fun m hm=>by
    rcases List.mem_or_eq_of_mem_set hm with hm | rfl
    ·exact ⟨m,hm,rfl⟩
    ·exact ⟨_,List.mem_of_getElem? hl,rfl⟩
   obtain ⟨m0,q1,q2⟩:=hs m hm
   obtain ⟨m1,q3,q4⟩:=hs m' hm'
   rw [← q2,← q4]
   exact h.dis m0 q1 m1 q3 (by rw [q2,q4]; exact hne)
 unfold wpOp
 rw [ho]
 have hwant:Region.wanted (⟨none,.store ty (.tmp sx) (.tmp d),T',ps,af,none⟩:Oper) (yielded ops a.tmps)=true:=rfl
 simp only [hwant,if_true]
 refine .inl (wp_skip' (w':=w.setRow g cs'.toArray) ?_ (O _ rfl))
 simp [execOp,f1',hv',Instr.storeAt,Instr.sureAddr,hrun]
def lesS (Λ:List Lc)(e j:Nat)(A:As):List Le:=Λ.zipIdx.map fun x=>⟨x.1.s,x.1.T,x.1.H,none,x.1.A,if x.2=e then some (j,A) else none⟩
theorem zeu {Λ:List Lc}{e j:Nat}{A:As}:∀ y∈lesS Λ e j A,y.cr=none∧(⟨y.s,y.T,y.H,y.A0⟩:Lc)∈Λ∧∀ i B,y.st=some (i,B)→i=j:=fun y hy=>by
 obtain ⟨x,hx,rfl⟩:=List.mem_map.1 hy
 refine ⟨rfl,List.mem_of_getElem? (List.mem_zipIdx_iff_getElem?.1 hx),fun i B h=>?_⟩
 simp only at h
 split at h
 ·injection h with h
  injection h with h _
  exact h.symm
 ·cases h
theorem zo1 {Λ:List Lc}{e j:Nat}{A:As}:∀ l∈Λ,∃ y∈lesS Λ e j A,y.s=l.s∧y.T=l.T∧y.H=l.H∧y.A0=l.A:=fun l hl=>by
 obtain ⟨i,hi⟩:=List.getElem?_of_mem hl
 exact ⟨_,List.mem_map.2 ⟨(l,i),List.mem_zipIdx_iff_getElem?.2 hi,rfl⟩,rfl,rfl,rfl,rfl⟩
theorem zun {R:Rg}{Λ':List Lc}{e':Nat}{n m:Nat}{S E T1 T:TypeId}{s u d sx e q bytes i1 i2:Nat}{ps1:String}{af1:Array Edge}{D D':List TypeId}{l xs:List As}{A2:VA}{it:TypeInfo}{z:Value}(src:List Nat)
  {A1:As} (hsz:R.ops.size=n+m) (hm:0<m) (hles:R.les=lesS Λ e (n+1) A1)
  (ho1:R.ops[n]?=some ⟨some d,.call ⟨.builtin .append,#[.tmp s,.tmp u],#[S,S]⟩,T1,ps1,af1,none⟩)
  (hi1:i1<n) (h1:R.sp[i1]?=some (.v s (OwnC E q D l).va)) (hi2:i2<n) (h2:R.sp[i2]?=some (.v u A2)) (hA2:∀ w u,A2.p B u w→Kept w0 w→(SlA E D' xs).va.p B u w)
  (hsub:∀ l∈Λ',l∈Λ) (hl:Λ'[e']?=some ⟨sx,T,ptrH,OwnC E q D l⟩) (hTE:(T != E)=true) (hrm:RowMay w0 B E)
  (hS:P.underlying S=some (.slice E)) (hi:P.info? E=some it) (hz:it.zero=some z) (hsz1:it.size=q) (hby:it.bytes=bytes) (hzs:z.cells.size=q) (hm0:0<q) (hll:l.length+xs.length≤100000000000) (hb6:bytes≤1000)
  (hD':∀ T∈D',T∈D) (hED:E ∉ D) (hxm:∀ x∈xs,x.n=q) (hd:d<R.N)
  (hsrc:src.all (fun k=>match R.Γ[k]? with | some y => !y.2.deps.contains E&&Rg.outG R y.1 | none=>false)=true)
  (hΛ:Λ'.zipIdx.all (fun x=>x.1.s != d&&(x.2==e' || (x.1.T != E && !x.1.A.deps.contains E)))=true)
  {a1:Act} {w1:World} (hinv:R.Inv B w0 (fun k=>decide (k<n)) a1 w1) (K:Act→World→Prop)
  (hK:∀ a' w',St B w0 R.N ((d,(OwnC E q D (l++xs)).va)::src.filterMap (fun k=>R.Γ[k]?)) (Λ'.set e' ⟨sx,T,ptrH,OneC⟩) a' w'→K a' w'):wpOp P R.ops Q n K a1 w1:=by
 have hcl:∀ deps,Rg.clash R (fun k=>decide (k<n)) deps=false:=fun deps=>by
  unfold Rg.clash
  rw [List.any_eq_false]
  intro y hy
  rw [hles] at hy
  have h3:=(zeu y hy).2.2
  cases O:y.st with
  | none=>simp
  | some x =>
   obtain ⟨i,B'⟩:=x
   have:=h3 i B' O
   subst this
   have hno:¬ n+1<n:=by omega
   simp [hno]
 have hcurE:∀ y∈R.les,Rg.cur (fun k=>decide (k<n)) y=some y.A0:=fun y hy=>by
  rw [hles] at hy
  obtain ⟨h0,_,h3⟩:=zeu y hy
  unfold Rg.cur
  rw [h0]
  simp only [Rg.crOk,if_true]
  cases O:y.st with
  | none=>rfl
  | some x =>
   obtain ⟨i,B'⟩:=x
   have:=h3 i B' O
   subst this
   have hno:¬ n+1<n:=by omega
   simp [hno]
 have hv0:=hinv.v i1 _ s _ h1 rfl (decide_eq_true hi1) (hcl _)
 have hv:=ownC_v hv0
 have hu:=hA2 _ _ (hinv.v i2 _ u _ h2 rfl (decide_eq_true hi2) (hcl _)) hinv.base
 have hBw:B≤w1.heap.size:=Nat.le_trans (hinv.lo _ (.inl (Nat.le_refl _))) hinv.base.size
 obtain ⟨v',w',hr,r1,r2,r3⟩:=zga (T1:=T1) hS hi hz hsz1 hby hzs hm0 hll hb6 hv hu hD' hED hxm hBw (Nat.le_refl B)
 have hdsz:d<a1.tmps.size:=by rw [hinv.size]; exact hd
 have hcur:∀ l'∈Λ,LcOk B w0.may l'.s l'.T l'.H l'.A a1 w1:=fun l' hl'=>by
  obtain ⟨y,hy,e1,e2,e3,e4⟩:=zo1 (e:=e) (j:=n+1) (A:=A1) l' hl'
  have:=hinv.c y (by rw [hles]; exact hy) y.A0 (hcurE y (by rw [hles]; exact hy))
  rw [e1,e2,e3,e4] at this
  exact this
 have hTE':T≠E:=by simpa using hTE
 have hlc:∀ (j:Nat) l',Λ'[j]?=some l'→l'.s≠d∧(j=e'∨(l'.T≠E∧E ∉ l'.A.deps)):=fun j l' hj=>by
  have:=List.all_eq_true.1 hΛ (l',j) (List.mem_zipIdx_iff_getElem?.2 hj)
  simpa using this
 have hrow:∀ {g:Nat} {c:Array Value} {T':TypeId} {fz:Nat × Nat},w1.heap[g]?=some (.cells c T' fz)→T'≠E→w'.heap[g]?=some (.cells c T' fz):=fun {g c T' fz} hg hne =>
  (r2.block g (Array.getElem?_eq_some_iff.1 hg).1 (fun e5=>by
   obtain ⟨_,c',fz',e6⟩:=r3 g e5.symm
   rw [hg] at e6
   injection e6 with e6
   injection e6 with _ e6 _
   exact hne e6)).trans hg
 have hoth:∀ t,t≠d→(a1.put (some d) v').eval (.tmp t)=a1.eval (.tmp t):=fun t ht=>za6 _ _ _ _ ht
 have O:St B w0 R.N ((d,(OwnC E q D (l++xs)).va)::src.filterMap (fun k=>R.Γ[k]?)) (Λ'.set e' ⟨sx,T,ptrH,OneC⟩) (a1.put (some d) v') w':=by
  refine ⟨hinv.lo,hinv.defers.grown r2 r3 rfl,by rw [zbi]; exact hinv.size,?_,fun y hy=>?_,fun m' hm'=>?_,fun m1 hm1 m2 hm2 hne=>?_⟩
  ·refine ⟨r2.os.trans hinv.base.os,r2.tape.trans hinv.base.tape,r2.output.trans hinv.base.output,Nat.le_trans hinv.base.size r2.size,fun k hk hf=>?_⟩
   refine (r2.block k (Nat.lt_of_lt_of_le hk hinv.base.size) (fun e=>?_)).trans (hinv.base.block k hk hf)
   obtain ⟨q1,c,fz,q2⟩:=r3 k e.symm
   rcases hrm w1 k c fz hinv.base q1 q2 with q3 | q3
   ·omega
   ·exact hf q3
  ·rcases List.mem_cons.1 hy with rfl | hy
   ·show (OwnC E q D (l++xs)).va.p B ((a1.put (some d) v').eval (.tmp d)) w'
    rw [zaq _ _ _ hdsz]
    exact ⟨[v'],⟨v',rfl,r1⟩,rfl⟩
   ·obtain ⟨k,hk1,hk2⟩:=List.mem_filterMap.1 hy
    have hs:=List.all_eq_true.1 hsrc k hk1
    simp only [hk2,Bool.and_eq_true,Bool.not_eq_true',List.contains_eq_mem,decide_eq_false_iff_not] at hs
    have hout:∀ q,q<R.ops.size→R.dst q≠some y.1:=fun q hq=>by
     have:=List.all_eq_true.1 hs.2 q (by simpa using hq)
     simpa using this
    have g1:y.1≠d:=fun e1=>hout n zo (by unfold Rg.dst; rw [ho1,e1]; rfl)
    rw [hoth _ g1]
    exact VA.grown (hinv.g y (List.mem_of_getElem? hk2) (fun q hq hdq=>absurd hdq (hout q hq)) (hcl _)) r2 r3 (Nat.le_refl B) hs.1
  ·obtain ⟨j,hj⟩:=List.getElem?_of_mem hm'
   by_cases e1:j=e'
   ·subst e1
    have:m'=⟨sx,T,ptrH,OneC⟩:=by
     rw [List.getElem?_set_self (List.getElem?_eq_some_iff.1 hl).1] at hj
     injection hj with hj
     exact hj.symm
    subst this
    obtain ⟨g,cs,q1,q2,q3,q4⟩:=hcur _ (hsub _ (List.mem_of_getElem? hl))
    have q5:=(OwnC E q D l).one _ _ _ q4
    obtain ⟨v0,rfl,_⟩:=q4
    exact ⟨g,[v0],by rw [hoth _ (hlc j _ hl).1]; exact q1,q2,hrow q3 hTE',v0,rfl,q5 v0 (by simp)⟩
   ·rw [List.getElem?_set_ne (fun e2=>e1 e2.symm)] at hj
    obtain ⟨c1,c2⟩:=hlc j _ hj
    obtain ⟨c3,c4⟩:=c2.resolve_left e1
    obtain ⟨g,cs,q1,q2,q3,q4⟩:=hcur _ (hsub _ (List.mem_of_getElem? hj))
    exact ⟨g,cs,by rw [hoth _ c1]; exact q1,q2,hrow q3 c3,As.grown q4 r2 r3 (Nat.le_refl B) c4⟩
  ·have hs:∀ m∈Λ'.set e' ⟨sx,T,ptrH,OneC⟩,∃ m0∈Λ',m0.s=m.s:=fun m hm=>by
    rcases List.mem_or_eq_of_mem_set hm with hm | rfl
    ·exact ⟨m,hm,rfl⟩
    ·exact ⟨_,List.mem_of_getElem? hl,rfl⟩
   have hsd:∀ m0∈Λ',m0.s≠d:=fun m0 hm0=>by
    obtain ⟨j,hj⟩:=List.getElem?_of_mem hm0
    exact (hlc j _ hj).1
   obtain ⟨p1,q1,q2⟩:=hs m1 hm1
   obtain ⟨p2,q3,q4⟩:=hs m2 hm2
   rw [← q2,← q4,hoth _ (hsd _ q1),hoth _ (hsd _ q3)]
   obtain ⟨y1,hy1,z1,_⟩:=zo1 (e:=e) (j:=n+1) (A:=A1) p1 (hsub _ q1)
   obtain ⟨y2,hy2,z2,_⟩:=zo1 (e:=e) (j:=n+1) (A:=A1) p2 (hsub _ q3)
   rw [← z1,← z2]
   exact hinv.x y1 (by rw [hles]; exact hy1) y2 (by rw [hles]; exact hy2) (by rw [z1,z2,q2,q4]; exact hne) (by rw [hcurE y1 (by rw [hles]; exact hy1)]; rfl) (by rw [hcurE y2 (by rw [hles]; exact hy2)]; rfl)
 exact zbo (R:=R) ho1 rfl (zbc (w':=w') (v:=v') (by simp [execOp,resolve,invoke,builtin,hr,Result.andThen]) (hK _ _ O))
theorem zr6 {α:Type}(y:α):∀ (G:List α),((List.range G.length).map (· + 1)).filterMap (fun k=>(y::G)[k]?)=G:=by
 intro G
 rw [List.filterMap_map]
 have h2:((fun k=>(y::G)[k]?)∘fun x=>x+1)=fun k=>G[k]?:=by
  funext k
  simp
 rw [h2]
 have key:∀ (G H:List α),(List.range' H.length G.length).filterMap (fun k=>(H++G)[k]?)=G:=by
  intro G
  induction G with
  | nil=>intro H; rfl
  | cons x G ih =>
   intro H
   have h3:=ih (H++[x])
   rw [List.length_append,List.length_singleton,List.append_assoc,List.singleton_append] at h3
   rw [List.length_cons,List.range'_succ,List.filterMap_cons,h3]
   simp
 have:=key G []
 rw [List.range_eq_range']
 exact this
theorem zw0 {id:Nat}{ops:Array Oper}{sp:List Sp}{o:Option Nat}(anc:List (List Nat))(n:Nat)(src:List Nat)(i1 i2 e:Nat)(kl:List Nat)(e':Nat){S E T1 T T2 T3:TypeId}{s u d sx q bytes:Nat}{ps1 ps2:String}{af1 af2:Array Edge}{D D':List TypeId}{l xs:List As}{A2:VA}{it:TypeInfo}{z:Value}
  (hmx:P.follows .mixedOrders=true) (hnd:noDefer ops=true) (hQ0:¬ LetsOut Q) (h:St B w0 N Γ Λ a w) (hob:Obs P Q ⟨ops,N,Γ,lesS Λ e (n+1) (OwnC E q D (l++xs)),sp,fun i=>anc.getD i []⟩ B w0 0 n) (hsz:ops.size=n+2) (hanc:Rg.ancOk ⟨ops,N,Γ,lesS Λ e (n+1) (OwnC E q D (l++xs)),sp,fun i=>anc.getD i []⟩=true) (hall:∀ i,n≤i→i<n+2→∀ j,j<i→(anc.getD i []).contains j=true) (hk:Rg.chk ⟨ops,N,Γ,lesS Λ e (n+1) (OwnC E q D (l++xs)),sp,fun i=>anc.getD i []⟩=true)
  (ho1:ops[n]?=some ⟨some d,.call ⟨.builtin .append,#[.tmp s,.tmp u],#[S,S]⟩,T1,ps1,af1,none⟩) (ho2:ops[n+1]?=some ⟨none,.store T2 (.tmp sx) (.tmp d),T3,ps2,af2,none⟩)
  (hi1:i1<n) (h1:sp[i1]?=some (.v s (OwnC E q D l).va)) (hi2:i2<n) (h2:sp[i2]?=some (.v u A2)) (hA2:∀ w u,A2.p B u w→Kept w0 w→(SlA E D' xs).va.p B u w)
  (hl:(kl.filterMap fun k=>Λ[k]?)[e']?=some ⟨sx,T,ptrH,OwnC E q D l⟩) (hTE:(T != E)=true) (hTD:(E::D).contains T=false) (hrm:RowMay w0 B E) (hty:Ty P T2 1 false)
  (hS:P.underlying S=some (.slice E)) (hi:P.info? E=some it) (hz:it.zero=some z) (hsz1:it.size=q) (hby:it.bytes=bytes) (hzs:z.cells.size=q) (hm0:0<q) (hll:l.length+xs.length≤100000000000) (hb6:bytes≤1000)
  (hD':∀ T∈D',T∈D) (hED:E ∉ D) (hxm:∀ x∈xs,x.n=q) (hd:d<N)
  (hsrc:src.all (fun k=>match Γ[k]? with | some y => !y.2.deps.contains E && !y.2.deps.contains T&&Rg.outG ⟨ops,N,Γ,lesS Λ e (n+1) (OwnC E q D (l++xs)),sp,fun i=>anc.getD i []⟩ y.1 | none=>false)=true)
  (hΛ:(kl.filterMap fun k=>Λ[k]?).zipIdx.all (fun x=>x.1.s != d&&(x.2==e' || (x.1.s != sx && !x.1.A.deps.contains T&&(x.1.T != E && !x.1.A.deps.contains E))))=true)
  (hQ:∀ a w,St B w0 N (src.filterMap (fun k=>Γ[k]?)) ((kl.filterMap fun k=>Λ[k]?).set e' ⟨sx,T,ptrH,OwnC E q D (l++xs)⟩) a w→Q .normal a w) :
  (Code.region id ops true).wpIn (fw o) 0 P Q a w:=by
 refine Rg.drawKF (R:=⟨ops,N,Γ,lesS Λ e (n+1) (OwnC E q D (l++xs)),sp,fun i=>anc.getD i []⟩) (m:=2) hnd hQ0 hsz zd hmx hanc hk h (fun y hy _=>(zeu y hy).2.1) (fun i hi=>hob.all i zo zo) (fun i h1 h2 j hj=>hall i h1 h2 j hj) fun a1 w1 hinv=>?_
 rw [show List.range' n 2=[n,n+1] from rfl,wpOpsIn_cons]
 refine zdv hnd hQ0 (zun (R:=⟨ops,N,Γ,lesS Λ e (n+1) (OwnC E q D (l++xs)),sp,fun i=>anc.getD i []⟩) (m:=2) (e:=e) (e':=e') (Λ':=kl.filterMap fun k=>Λ[k]?) src hsz zd rfl ho1 hi1 h1 hi2 h2 hA2 (fun l hl=>by obtain ⟨k,_,hk⟩:=List.mem_filterMap.1 hl; exact List.mem_of_getElem? hk) hl hTE hrm hS hi hz hsz1 hby hzs hm0 hll hb6 hD' hED hxm hd (List.all_eq_true.2 fun k hk=>?_) (List.all_eq_true.2 fun x hx=>?_) hinv _ fun a2 w2 O=>?_)
 ·have:=List.all_eq_true.1 hsrc k hk
  cases hg:Γ[k]? with
  | none=>rw [hg] at this; cases this
  | some y =>
   rw [hg] at this
   simp only [Bool.and_eq_true] at this ⊢
   exact ⟨this.1.1,this.2⟩
 ·have:=List.all_eq_true.1 hΛ x hx
  simp only [Bool.and_eq_true,Bool.or_eq_true] at this ⊢
  exact ⟨this.1,this.2.imp (fun h=>h) fun h=>h.2⟩
 ·rw [wpOpsIn_cons]
  have hlen:=(List.getElem?_eq_some_iff.1 hl).1
  refine zdv hnd hQ0 (zyv (kd:=0) (e:=e') (sx:=sx) (d:=d) (T:=T) (A0:=OneC) (A:=OwnC E q D (l++xs)) ((List.range (src.filterMap fun k=>Γ[k]?).length).map (· + 1)) ho2 O rfl (List.getElem?_set_self hlen) hty rfl hTD (List.all_eq_true.2 fun k hk=>?_) (List.all_eq_true.2 fun x hx=>?_) _ fun w3 _ O=>?_)
  ·obtain ⟨j,hj,rfl⟩:=List.mem_map.1 hk
   have hj':j<(src.filterMap fun k=>Γ[k]?).length:=by simpa using hj
   rw [List.getElem?_cons_succ,List.getElem?_eq_getElem hj']
   obtain ⟨k,hk1,hk2⟩:=List.mem_filterMap.1 (List.getElem_mem hj')
   have:=List.all_eq_true.1 hsrc k hk1
   rw [hk2] at this
   simp only [Bool.and_eq_true] at this
   exact this.1.2
  ·obtain ⟨m,j⟩:=x
   have hj:=List.mem_zipIdx_iff_getElem?.1 hx
   by_cases e1:j=e'
   ·simp [e1]
   ·simp only at hj
    rw [List.getElem?_set_ne (fun e2=>e1 e2.symm)] at hj
    have:=List.all_eq_true.1 hΛ (m,j) (List.mem_zipIdx_iff_getElem?.2 hj)
    simp only [Bool.and_eq_true,Bool.or_eq_true] at this ⊢
    exact this.2.imp (fun h=>h) fun h=>h.1
  ·refine hQ _ _ ?_
   exact St.castΓ (zr6 (d,(OwnC E q D (l++xs)).va) (src.filterMap fun k=>Γ[k]?)) (St.castΛ (List.set_set ..) O)
end
def EqIx (Γ:List (Nat × VA))(a:Act):List Lc→List Nat→Prop
 | [],[]=>True
 | l::ls,i::ix=>Γ[i]?=some (l.s,EqV (a.eval (.tmp l.s)))∧EqIx Γ a ls ix
 | _,_=>False
theorem rend_of {B N:Nat}{w1:Bs}{a a':Act}{Γ:List (Nat × VA)}{Λ:List Lc}{W:World}(ix:List Nat)(h:St B w1 N Γ Λ a' W)(he:EqIx Γ a Λ ix):REnd B N w1 a Λ a' W:=by
 refine ⟨Γ,h,?_⟩
 have key:∀ (L:List Lc) (ix:List Nat),EqIx Γ a L ix→∀ l∈L,a'.eval (.tmp l.s)=a.eval (.tmp l.s):=by
  intro L
  induction L with
  | nil=>intro _ _ l hl; cases hl
  | cons m L ih =>
   intro ix hx l hl
   cases ix with
   | nil=>exact hx.elim
   | cons i ix =>
    obtain ⟨h1,h2⟩:=hx
    rcases List.mem_cons.1 hl with rfl | hl
    ·exact h.vals _ (List.mem_of_getElem? h1)
    ·exact ih ix h2 l hl
 exact key Λ ix he
theorem ct_of {B N:Nat}{w0:Bs}{a:Act}{Γ:List (Nat × VA)}{Λ:List Lc}{w:World}{Tc:List TypeId}{gs:List Nat}{ix:List (Nat × Nat)}(h:St B w0 N Γ Λ a w)(hix:CapIx Γ Λ gs 0 Tc ix)(hgl:gs.length=Tc.length):CellsT Tc gs w:=fun g hg=>by
 have key:∀ {i:Nat} {cs:List TypeId} {ix:List (Nat × Nat)},CapIx Γ Λ gs i cs ix→∀ j,j<cs.length→a.eval (.tmp (i+j+1))=ptr (gs.getD (i+j) 0)∧∃ c A,(⟨i+j+1,c,ptrH,A⟩:Lc)∈Λ∧c∈cs:=by
  intro i cs ix
  induction cs generalizing i ix with
  | nil=>intro _ j hj; cases hj
  | cons c cs ih =>
   intro h1 j hj
   cases ix with
   | nil=>exact h1.elim
   | cons p ix'' =>
    obtain ⟨x,y⟩:=p
    obtain ⟨e1,⟨A,e2⟩,e3⟩:=h1
    cases j with
    | zero=>exact ⟨h.vals _ (List.mem_of_getElem? e1),c,A,List.mem_of_getElem? e2,by simp⟩
    | succ j =>
     obtain ⟨q1,c',A',q2,q3⟩:=ih e3 j (by simpa using hj)
     rw [show i+1+j=i+(j+1) by omega] at q1 q2
     exact ⟨q1,c',A',q2,by simp [q3]⟩
 obtain ⟨j,hj⟩:=List.getElem?_of_mem hg
 have hjl:=(List.getElem?_eq_some_iff.1 hj).1
 obtain ⟨e1,c',A',e2,e3⟩:=key hix j zo
 obtain ⟨g2,cs,f1,_,f3,_⟩:=h.locs _ e2
 have f1':a.eval (.tmp (0+j+1))=ptr g2:=f1
 rw [e1] at f1'
 have h0:gs.getD (0+j) 0=g:=by simp [List.getD,hj]
 rw [h0] at f1'
 have:g=g2:=by
  injection f1' with f1'
  injection f1' with f1'
  injection f1' with f1'
 subst this
 exact ⟨_,_,_,f3,e3⟩
theorem it_done {P:Program}{fn:Func}{B N l M:Nat}{w0:Bs}{a:Act}{Γ:List (Nat × VA)}{Λ:List Lc}{w:World}{Db Tc:List TypeId}{gs:List Nat}{ix:List (Nat × Nat)}{Y:Nat→List VA}{inf:Bool}{J:Nat→World→Prop}{Jx:World→Prop}(hr:fn.results = #[])(h:St B w0 N Γ Λ a w)(hix:CapIx Γ Λ gs 0 Tc ix)(hgl:gs.length=Tc.length)
  (hI:ItH P l B Db Tc gs Y inf M J Jx) (hG:ItG B gs Tc J M w0):bPost P fn (fun e W'=>∃ v,e=.returned v∧(J M W'∨Jx W')) .ret a w:=by
 refine zfs h fun w' h'=>⟨_,results_none hr _ _ _,_,rfl,.inl (hI.st M _ _ hG.j ?_ (ct_of h' hix hgl))⟩
 have:=h'.base
 rw [hG.eq] at this
 exact this
theorem it_stop {P:Program}{fn:Func}{B N l M:Nat}{w0:Bs}{a:Act}{Γ:List (Nat × VA)}{Λ:List Lc}{w:World}{Db Tc:List TypeId}{gs:List Nat}{Y:Nat→List VA}{inf:Bool}{J:Nat→World→Prop}{Jx:World→Prop}(hr:fn.results = #[])(h:St B w0 N Γ Λ a w)(hw:w0=itB gs w)
  (hI:ItH P l B Db Tc gs Y inf M J Jx) (hx:Jx w):bPost P fn (fun e W'=>∃ v,e=.returned v∧(J M W'∨Jx W')) .ret a w:=by
 have hd:a.defers=[]:=h.defers.none (by rw [hw]; rfl)
 refine ⟨[],hd,.nil,(fun _ h=>by cases h),fun w' hs=>⟨_,results_none hr _ _ _,_,rfl,.inr ?_⟩⟩
 have hb:∀ k,w'.heap[k]?=w.heap[k]?:=fun k=>hs.block k (by simp)
 refine hI.stx w w' hx ⟨hs.os,hs.tape,hs.output,by rw [hs.size]; exact Nat.le_refl _,fun k _ _=>hb k⟩ fun g hg=>?_
 obtain ⟨c,T,fz,h1,h2⟩:=hI.ctx w hx g hg
 exact ⟨c,T,fz,(hb g).trans h1,h2⟩
section
open Rg
variable {P:Program} {Q:Exit→Act→World→Prop} {B N:Nat} {w0:Bs} {Γ:List (Nat × VA)} {Λ:List Lc} {a:Act} {w:World}
theorem op_new {ops:Array Oper}{o:Option Nat}{i d x:Nat}{T ty T1 T2:TypeId}{A0 A:As}{ps1 ps2:String}{af1 af2:Array Edge}{rest:List Nat}(kx:Nat)(src:List Nat)
  (ho1:ops[i]?=some ⟨some d,.alloc T,T1,ps1,af1,none⟩) (ho2:ops[i+1]?=some ⟨none,.store ty (.tmp d) (.tmp x),T2,ps2,af2,none⟩) (hnd:noDefer ops=true) (hQ0:¬ LetsOut Q)
  (h:St B w0 N Γ Λ a w) (hz:Zero P T A0) (hx:Γ[kx]?=some (x,A.va)) (ht:Ty P ty A.n A.ag) (hn:A0.n=A.n) (hd:d<N) (hdx:(d != x)=true)
  (hsrc:src.all (fun k=>match Γ[k]? with | some y=>y.1 != d | none=>false)=true) (hΛ:Λ.all (fun l=>l.s != d)=true)
  (hK:∀ a' w',St B w0 N (src.filterMap fun k=>Γ[k]?) (Λ++[⟨d,T,ptrH,A⟩]) a' w'→wpOpsIn (fw o) 0 P ops Q rest a' w'):wpOpsIn (fw o) 0 P ops Q (i::(i+1)::rest) a w:=by
 obtain ⟨it,z,z1,z2,z3⟩:=hz
 obtain ⟨cs,hp,hv⟩:=h.vals _ (List.mem_of_getElem? hx)
 have hv':a.eval (.tmp x)=shape A.ag cs:=hv
 have l1:=A.len _ _ _ hp
 have l0:=A0.len _ _ _ (z3 B w)
 have hds:d<a.tmps.size:=by rw [h.size]; exact hd
 have hdx':x≠d:=fun e=>by subst e; simp at hdx
 have hΛ':∀ l∈Λ,l.s≠d:=fun l hl=>by
  have:=List.all_eq_true.1 hΛ l hl
  simpa using this
 obtain ⟨W1,hW1⟩:∃ W1,w.alloc (.cells z.cells T)=W1:=⟨_,rfl⟩
 have hg1:Grow w W1:=by rw [← hW1]; exact Grow.alloc _ _
 have hnew:W1.heap[w.heap.size]?=some (.cells z.cells T (0,0)):=by rw [← hW1]; exact heap_alloc_new w _
 rw [wpOpsIn_cons]
 refine zdv hnd hQ0 (zbo (R:=⟨ops,N,Γ,[],[],fun _=>[]⟩) ho1 rfl (zbc (w':=W1) (v:=ptr w.heap.size) ?_ ?_))
 ·rw [← hW1]; simp [execOp,Instr.alloc,zeroValue,typeInfo,z1,z2,newVar,newRow,ptr]
 obtain ⟨a1,ha1⟩:∃ a1,a.put (some d) (ptr w.heap.size)=a1:=⟨_,rfl⟩
 have ed:a1.eval (.tmp d)=ptr w.heap.size:=by rw [← ha1]; exact zaq _ _ _ hds
 have eo:∀ t,t≠d→a1.eval (.tmp t)=a.eval (.tmp t):=fun t ht=>by rw [← ha1]; exact za6 _ _ _ _ ht
 have ef:a1.defers=a.defers:=by rw [← ha1]; rfl
 have es:a1.tmps.size=N:=by rw [← ha1,zbi]; exact h.size
 rw [ha1]
 have l2:z.cells.size=A0.n:=by simpa using l0
 have hrun:=zc6 ht W1 w.heap.size 0 T z.cells _ cs (A.cells_shape hp) l1 zo (A.one _ _ _ hp) hnew
 rw [List.drop_of_length_le (by simp; omega)] at hrun
 simp only [List.take_zero,List.nil_append,List.append_nil] at hrun
 have hW:=Wr.setRow W1 w.heap.size cs.toArray
 have hcell:(W1.setRow w.heap.size cs.toArray).heap[w.heap.size]?=some (.cells cs.toArray T (0,0)):=setRow_heap W1 _ _ _ _ _ hnew
 have hgr:Grow w (W1.setRow w.heap.size cs.toArray):=Kept.grow0 ((hg1.kept).wr hW (.inl (Nat.le_refl _)))
 rw [wpOpsIn_cons]
 refine zdv hnd hQ0 ?_
 have O:wpOpsIn (fw o) 0 P ops Q rest a1 (W1.setRow w.heap.size cs.toArray):=by
  refine hK _ _ ⟨h.lo,?_,es,h.base.grow hgr,fun y hy=>?_,fun m hm=>?_,fun m hm m' hm' hne=>?_⟩
  ·exact h.defers.grow hgr ef
  ·obtain ⟨k,hk1,hk2⟩:=List.mem_filterMap.1 hy
   have:=List.all_eq_true.1 hsrc k hk1
   rw [hk2] at this
   rw [eo _ (by simpa using this)]
   exact y.2.grow _ _ _ _ hgr (h.vals y (List.mem_of_getElem? hk2))
  ·rcases List.mem_append.1 hm with hm | hm
   ·obtain ⟨g,c,q1,q2,q3,q4⟩:=h.locs m hm
    exact ⟨g,c,by rw [eo _ (hΛ' m hm)]; exact q1,q2,hgr.heap q3,m.A.grow _ _ _ _ hgr q4⟩
   ·obtain rfl:=List.mem_singleton.1 hm
    exact ⟨w.heap.size,cs,ed,.inl h.base.size,hcell,A.grow _ _ _ _ hgr hp⟩
  ·have hnm:∀ m∈Λ,∃ g,blk (a1.eval (.tmp m.s))=some g∧g<w.heap.size:=fun m hm=>by
    obtain ⟨g,c,q1,q2,q3,q4⟩:=h.locs m hm
    exact ⟨g,by rw [eo _ (hΛ' m hm),q1]; exact m.H.ok g,(Array.getElem?_eq_some_iff.1 q3).1⟩
   have hd0:blk (a1.eval (.tmp d))=some w.heap.size:=by rw [ed]; rfl
   rcases List.mem_append.1 hm with hm | hm <;> rcases List.mem_append.1 hm' with hm' | hm'
   ·rw [eo _ (hΛ' m hm),eo _ (hΛ' m' hm')]
    exact h.dis m hm m' hm' hne
   ·obtain rfl:=List.mem_singleton.1 hm'
    obtain ⟨g,q1,q2⟩:=hnm m hm
    rw [q1,hd0]
    intro e
    injection e with e
    omega
   ·obtain rfl:=List.mem_singleton.1 hm
    obtain ⟨g,q1,q2⟩:=hnm m' hm'
    rw [q1,hd0]
    intro e
    injection e with e
    omega
   ·obtain rfl:=List.mem_singleton.1 hm
    obtain rfl:=List.mem_singleton.1 hm'
    exact absurd rfl hne
 unfold wpOp
 rw [ho2]
 have hwant:Region.wanted (⟨none,.store ty (.tmp d) (.tmp x),T2,ps2,af2,none⟩:Oper) (yielded ops a1.tmps)=true:=rfl
 simp only [hwant,if_true]
 refine .inl (wp_skip' (w':=W1.setRow w.heap.size cs.toArray) ?_ O)
 have e2:a1.eval (.tmp x)=shape A.ag cs:=by rw [eo _ hdx']; exact hv'
 have e1:a1.eval (.tmp d)=.pointer (some ⟨w.heap.size,0,none⟩):=ed
 simp [execOp,e1,e2,Instr.storeAt,Instr.sureAddr,hrun]
theorem zzg {id:Nat}{ops:Array Oper}{o:Option Nat}{d x:Nat}{T ty T1 T2:TypeId}{A0 A:As}{ps1 ps2:String}{af1 af2:Array Edge}(kx:Nat)(src:List Nat)(h:St B w0 N Γ Λ a w)(hsz:ops.size=2)
  (ho1:ops[0]?=some ⟨some d,.alloc T,T1,ps1,af1,none⟩) (ho2:ops[0+1]?=some ⟨none,.store ty (.tmp d) (.tmp x),T2,ps2,af2,none⟩) (hnd:noDefer ops=true) (hQ0:¬ LetsOut Q)
  (hz:Zero P T A0) (hx:Γ[kx]?=some (x,A.va)) (ht:Ty P ty A.n A.ag) (hn:A0.n=A.n) (hd:d<N) (hdx:(d != x)=true)
  (hsrc:src.all (fun k=>match Γ[k]? with | some y=>y.1 != d | none=>false)=true) (hΛ:Λ.all (fun l=>l.s != d)=true)
  (hQ:∀ a' w',St B w0 N (src.filterMap fun k=>Γ[k]?) (Λ++[⟨d,T,ptrH,A⟩]) a' w'→Q .normal a' w'):(Code.region id ops false).wpIn (fw o) 0 P Q a w:=by
 refine wpIn_region ?_
 rw [hsz]
 exact op_new kx src ho1 ho2 hnd hQ0 h hz hx ht hn hd hdx hsrc hΛ fun a' w' O=>hQ _ _ O
end
end Go.Proofs.YtmfgafhlaeolgaaGreatDoor
