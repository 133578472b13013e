import Derived.Test.YtedfcalhhldijaaGreatDoorRwAg
import Derived.Deep.DeepAppendRoom
set_option linter.all false
set_option maxRecDepth 100000
namespace Go.Proofs.YtedfcalhhldijaaGreatDoor
open Go Go.RowKit
variable {w:World}{B:Nat}{a:Act}{v:Value}{T:TypeId}{w0:Bs}{Γ:List (Nat × VA)}{Λ:List Lc}{ps:String}{af:Array Edge}{vr:Value}{H:Hd}{cs:List Value}{w':World}{P:Program}{D:List TypeId}
theorem eC {Q:Exit→Act→World→Prop}(h:∀ a w,Q .outgrown a w→False):¬ LetsOut Q:=λ⟨a,w,h'⟩=>h a w h'
def fw (o:Option Nat):Fence:={ fn:=λ _=>True,depth:=none,alive:=false,round:=o }
theorem Cx {o:Option Nat}{n:Nat}{f:FuncId}{args:Array Value}{R:Ending→World→Prop}(h:Calls P f args w R):CallsIn (fw o) n P f args w R:=by
 have h':CallsIn Fence.wide n P f args w R:=callsIn_wide.2 h
 cases o with
 | none=>exact h'
 | some l=>exact CallsIn.inRound l h'
theorem fw_steps {o:Option Nat}{m m':Machine}:StepsIn (Machine.fenced P (fw o)) P m m'↔Steps P m m':=by
 cases o with
 | none=>exact stepsIn_wide
 | some l=>exact stepsIn_wide
theorem ET {o:Option Nat}{n:Nat}{row:String}{args:Array Value}{R:Value→World→Prop}(h:Rows P row args w R):RowsIn (fw o) n P row args w R:=λ c cs _=>by
 obtain ⟨v,w',h1,h2⟩:=h c cs
 exact ⟨v,w',h1,fw_steps.2 h2⟩
def noDefer (ops:Array Oper):Bool:=ops.all λ x=>match x.op with | .defer _=>false | _=>true
theorem ta {ops:Array Oper}(h:noDefer ops=true){i:Nat}{x:Oper}(hx:ops[i]?=some x):∀ c,x.op≠.defer c:=λ c e=>by
 have:=zH.1 h x (kJ hx)
 rw [e] at this
 cases this
theorem fy {o:Option Nat}{ops:Array Oper}{Q:Exit→Act→World→Prop}{i:Nat}{K:Act→World→Prop}(hnd:noDefer ops=true)(hQ0:¬ LetsOut Q)(h:wpOp P ops Q i K a w):wpOpIn (fw o) 0 P ops Q i K a w:=by
 unfold wpOp at h
 unfold wpOpIn
 cases ho:ops[i]? with
 | none=>rw [ho] at h; exact h
 | some x =>
  rw [ho] at h
  simp only at h ⊢
  by_cases hw:Region.wanted x (yielded ops a.tmps)=true
  ·rw [qz hw] at h ⊢
   rcases h with h | ⟨_,h⟩
   ·refine ⟨λ _ _=>trivial,?_⟩
    rw [Oper.semAt_eq _ _ _ (ta hnd ho)]
    unfold Oper.wp at h
    generalize (execOp a.eval x).run P w=r at *
    cases r with
    | ok nx w' =>
     cases nx with
     | value v=>exact h
     | skip=>exact h
     | defer d=>exact h
     | enter f args=>exact ⟨λ hh=>(by cases hh),Cx h⟩
     | row r args=>exact ⟨λ hh=>(by cases hh),ET h⟩
     | _=>exact absurd h (λ h=>h)
    | halt e w'=>cases e <;> exact h
   ·exact absurd h hQ0
  ·rw [qw hw] at h ⊢
   exact ⟨λ _ _=>trivial,h⟩
section
variable {P:Program} {R:Rg} {Q:Exit→Act→World→Prop} {B:Nat} {w0:Bs} {a:Act} {w:World} {o:Option Nat}
open Rg in
theorem Rg.linF {id:Nat}(hnd:noDefer R.ops=true)(hQ0:¬ LetsOut Q)(hanc:R.anc=λ i=>List.range i)(hk:R.chk=true)(h:St B w0 R.N R.Γ Λ a w)(hles:∀ e∈R.les,e.cr=none→(⟨e.s,e.T,e.H,e.A0⟩:Lc)∈Λ)
  (hob:∀ i,i<R.ops.size→R.Ob P Q B w0 i) (hQ:∀ a' w',Fin R B w0 a' w'→Q .normal a' w'):(Code.region id R.ops false).wpIn (fw o) 0 P Q a w:=by
 refine wpIn_region ?_
 have key:∀ m k,k+m=R.ops.size→∀ a w,R.Inv B w0 (λ j=>decide (j<k)) a w→wpOpsIn (fw o) 0 P R.ops Q (List.range' k m) a w:=by
  intro m
  induction m with
  | zero =>
   intro k hkm a w hi
   have:k=R.ops.size:=by omega
   subst this
   exact hQ a w ⟨hi⟩
  | succ m ih =>
   intro k hkm a w hi
   rw [List.range'_succ,wpOpsIn_cons]
   refine fy hnd hQ0 (step hk (hob k zo) hi ?_ (by simp) ?_ _ λ a' w' hi'=>ih (k+1) zo a' w' (hi'.congr λ j=>?_))
   ·intro i hi j hj
    rw [hanc] at hj
    simp at hi hj ⊢
    omega
   ·intro j hj
    rw [hanc] at hj
    simpa using hj
   ·unfold upd
    by_cases h1:j=k
    ·subst h1; simp
    ·have h2:(j==k)=false:=by simpa using h1
     rw [h2,xB,qS]
     omega
 rw [List.range_eq_range']
 exact key _ 0 zo a w ((start h hles).congr λ j=>by simp)
end
section
variable {P:Program} {R:Rg} {Q:Exit→Act→World→Prop} {B:Nat} {w0:Bs} {a:Act} {w:World} {o:Option Nat}
open Rg in
theorem Rg.drawK {id:Nat}{n m:Nat}(hsz2:R.ops.size=n+m)(hm0:0<m)(hm:P.follows .mixedOrders=true)(hanc:ancOk R=true)(hk:R.chk=true)(h:St B w0 R.N R.Γ Λ a w)(hles:∀ e∈R.les,e.cr=none→(⟨e.s,e.T,e.H,e.A0⟩:Lc)∈Λ)
  (hob:∀ i,i<n→R.Ob P Q B w0 i) (ha1:∀ i,n≤i→i<n+m→∀ j,j<i→(R.anc i).contains j=true)
  (hQ:∀ a w,R.Inv B w0 (λ k=>decide (k<n)) a w→wpOps P R.ops Q (List.range' n m) a w) :
  (Code.region id R.ops true).wp P Q a w:=by
 refine wp_region_any hm ?_
 have ho:∀ i,i<R.ops.size→∃ o:Oper,R.ops[i]?=some o∧(∀ j,(R.anc i).contains j=true→∃ e∈o.after,Region.binds .any e=true∧(e.on=j∨(R.anc e.on).contains j=true)) ∧
   ∀ e∈o.after,Region.binds .any e=true→e.on<i:=by
  intro i hi
  have:=qd.1 hanc i (by simpa using hi)
  cases hoi:R.ops[i]? with
  | none=>rw [hoi] at this; cases this
  | some o =>
   rw [hoi] at this
   simp only [ql] at this
   refine ⟨o,rfl,λ j hj=>?_,λ e he hb=>?_⟩
   ·have hh:=qd.1 this.1 j (by simpa using hj)
    obtain ⟨e,he,h1⟩:=ju.1 hh
    simp only [ql,zw,xc] at h1
    exact ⟨e,he,h1.1,h1.2⟩
   ·have hh:=zH.1 this.2 e he
    simpa [hb] using hh
 have hrd:∀ (listed:Array Bool) i,i∈Region.ready .any R.ops listed→i<R.ops.size∧listed.getD i true=false∧∀ o,R.ops[i]?=some o→∀ e∈o.after,Region.binds .any e=true→listed.getD e.on false=true:=by
  intro listed i hi
  unfold Region.ready at hi
  obtain ⟨h1,h2⟩:=zE.1 hi
  simp only [ql,qv] at h2
  refine ⟨by simpa using h1,h2.1,λ o hoi e he hb=>?_⟩
  have h3:=h2.2
  rw [hoi] at h3
  simp only [qL,xf] at h3
  have:=zH.1 h3 e he
  simpa [hb] using this
 have hset:∀ (listed:Array Bool) (i k:Nat),listed.size=R.ops.size→i<R.ops.size→(listed.setIfInBounds i true).getD k false=upd (λ i=>listed.getD i false) i k:=by
  intro listed i k hsz hi
  unfold upd
  by_cases hki:k=i
  ·subst hki
   simp [hsz,hi]
  ·simp [hki,Array.getElem?_setIfInBounds_ne (λ e=>hki e.symm)]
 have hpos:∀ (listed:Array Bool) (i:Nat),i<R.ops.size→listed.getD i false=false→0<(List.range R.ops.size).countP (λ k => !listed.getD k false):=λ listed i hi hl =>
  jj.2 ⟨i,by simpa using hi,by simp only [hl]; rfl⟩
 have hlt:∀ (listed:Array Bool) (i:Nat),listed.size=R.ops.size→i<R.ops.size→listed.getD i false=false→(List.range R.ops.size).countP (λ k => !(listed.setIfInBounds i true).getD k false)<(List.range R.ops.size).countP (λ k => !listed.getD k false):=by
  intro listed i hsz hi hLi
  refine dP (x:=i) (λ x hx=>?_) (by simpa using hi) (by rw [hLi]; rfl) (by rw [hset listed i i hsz hi,bP]; rfl)
  have hx':upd (λ i=>listed.getD i false) i x=false:=by
   rw [← hset listed i x hsz hi]
   simpa only [qv] using hx
  rw [(d3 hx').2]
  rfl
 have hfull:∀ (listed:Array Bool),listed.size=R.ops.size→Region.ready .any R.ops listed=[]→∀ k,k<R.ops.size→listed.getD k false=true:=by
  intro listed hsz hr k
  induction k using Nat.strongRecOn with
  | _ k ih =>
   intro hkn
   cases hl:listed.getD k false with
   | true=>rfl
   | false =>
    exfalso
    obtain ⟨x,ho1,_,ho3⟩:=ho k hkn
    have:k∈Region.ready .any R.ops listed:=by
     unfold Region.ready
     refine zE.2 ⟨by simpa using hkn,?_⟩
     have h0:listed.getD k true=false:=by
      simp only [Array.getD,hsz,hkn,dite_true] at hl ⊢
      exact hl
     rw [h0,ho1]
     simp only [jq,jX,qL,xf]
     refine zH.2 λ e he=>?_
     cases hb:Region.binds .any e with
     | false=>rfl
     | true=>simpa using ih e.on (ho3 e he hb) (ze (ho3 e he hb) hkn)
    rw [hr] at this
    cases this
 have hancL:∀ (listed:Array Bool) i,Closed R (λ i=>listed.getD i false)→i∈Region.ready .any R.ops listed→∀ j,(R.anc i).contains j=true→listed.getD j false=true:=by
  intro listed i hcl hir j hj
  obtain ⟨h1,h2,h3⟩:=hrd listed i hir
  obtain ⟨x,ho1,ho2,_⟩:=ho i h1
  obtain ⟨e,he,hb,hj'⟩:=ho2 j hj
  have hl:=h3 x ho1 e he hb
  rcases hj' with rfl | hj'
  ·exact hl
  ·exact hcl e.on hl j hj'
 have hclN:∀ (listed:Array Bool) i,listed.size=R.ops.size→Closed R (λ i=>listed.getD i false)→i∈Region.ready .any R.ops listed→Closed R (λ k=>(listed.setIfInBounds i true).getD k false):=by
  intro listed i hsz hcl hir k hk' j hj
  obtain ⟨h1,_,_⟩:=hrd listed i hir
  have hk2:upd (λ i=>listed.getD i false) i k=true:=by rw [← hset listed i k hsz h1]; exact hk'
  show (listed.setIfInBounds i true).getD j false=true
  rw [hset listed i j hsz h1]
  rcases nT hk2 with rfl | h4
  ·exact cA _ (hancL listed k hcl hir j hj)
  ·exact cA _ (hcl k h4 j hj)
 have tail:∀ q k,k+q=n+m→n≤k→∀ fuel (listed:Array Bool) a w,listed.size=R.ops.size→(List.range R.ops.size).countP (λ i => !listed.getD i false)≤fuel→Closed R (λ i=>listed.getD i false) →
   (∀ j,j<k→listed.getD j false=true)→(∀ j,k≤j→j<n+m→listed.getD j false=false)→wpOps P R.ops Q (List.range' k q) a w→wpAny P .any R.ops Q fuel listed a w:=by
  intro q
  induction q with
  | zero =>
   intro k hkq hnk fuel listed a w hsz hcnt hcl hall _ hwp
   have hr:Region.ready .any R.ops listed=[]:=by
    cases hrr:Region.ready .any R.ops listed with
    | nil=>rfl
    | cons i rest =>
     obtain ⟨h1,h2,_⟩:=hrd listed i (by rw [hrr]; simp)
     have:=hall i zo
     simp only [Array.getD,hsz,h1,dite_true] at h2 this
     rw [h2] at this
     cases this
   cases fuel with
   | zero=>exact ⟨hr,hwp⟩
   | succ fuel=>exact ⟨λ _=>hwp,λ i hir=>by rw [hr] at hir; cases hir⟩
  | succ q ih =>
   intro k hkq hnk fuel listed a w hsz hcnt hcl hall hnone hwp
   have hLk:listed.getD k false=false:=hnone k (qi _) zo
   have hp:=hpos listed k zo hLk
   cases fuel with
   | zero=>omega
   | succ fuel =>
    refine ⟨λ hr=>absurd (hfull listed hsz hr k zo) (by rw [hLk]; decide),λ i hir=>?_⟩
    obtain ⟨h1,h2,h3⟩:=hrd listed i hir
    have hik:i=k:=by
     by_cases e:i=k
     ·exact e
     ·exfalso
      by_cases hlt':i<k
      ·have:=hall i hlt'
       simp only [Array.getD,hsz,h1,dite_true] at h2 this
       rw [h2] at this
       cases this
      ·have:=hancL listed i hcl hir k (ha1 i zo zo k zo)
       rw [hLk] at this
       cases this
    subst hik
    rw [List.range'_succ,qA] at hwp
    refine wpOp_mono (λ a' w' hr=>ih (i+1) zo zo fuel _ a' w' (by simpa using hsz) ?_ (hclN listed i hsz hcl hir) (λ j hj=>?_) (λ j hj hj2=>?_) hr) hwp
    ·have:=hlt listed i hsz h1 hLk
     omega
    ·rw [hset listed i j hsz h1]
     by_cases e:j=i
     ·rw [e]; exact bP _ _
     ·exact cA _ (hall j zo)
    ·rw [hset listed i j hsz h1,cH _ zo]
     exact hnone j zo hj2
 have key:∀ fuel (listed:Array Bool) a w,listed.size=R.ops.size→(List.range R.ops.size).countP (λ i => !listed.getD i false)≤fuel→Closed R (λ i=>listed.getD i false) →
   (∀ j,n≤j→j<n+m→listed.getD j false=false)→R.Inv B w0 (λ i=>listed.getD i false) a w→wpAny P .any R.ops Q fuel listed a w:=by
  intro fuel
  induction fuel with
  | zero =>
   intro listed a w hsz hcnt hcl hn0 hi
   have:=hpos listed n zo (hn0 n (qi _) zo)
   omega
  | succ fuel ih =>
   intro listed a w hsz hcnt hcl hn0 hi
   have hn00:=hn0 n (qi _) zo
   by_cases hdone:∀ j,j<n→listed.getD j false=true
   ·refine tail m n G (qi _) (fuel+1) listed a w hsz hcnt hcl hdone hn0 (hQ a w (hi.congr λ k=>?_))
    by_cases hkn:k<n
    ·rw [hdone k hkn]; simp [hkn]
    ·by_cases hkm:k<n+m
     ·rw [hn0 k zo hkm]; simp [hkn]
     ·have:listed.getD k false=false:=by simp [Array.getD,hsz,hsz2,hkm]
      rw [this]; simp [hkn]
   ·refine ⟨λ hr=>absurd (hfull listed hsz hr n zo) (by rw [hn00]; decide),λ i hir=>?_⟩
    obtain ⟨h1,h2,h3⟩:=hrd listed i hir
    have hin:i<n:=by
     by_cases e:i<n
     ·exact e
     ·exact absurd (λ j hj=>hancL listed i hcl hir j (ha1 i zo zo j zo)) hdone
    have hLi:listed.getD i false=false:=by
     simp only [Array.getD,hsz,h1,dite_true] at h2 ⊢
     exact h2
    refine step hk (hob i hin) hi hcl hLi (hancL listed i hcl hir) _ λ a' w' hi'=>ih _ _ _ (by simpa using hsz) ?_ (hclN listed i hsz hcl hir) ?_ (hi'.congr λ k=>hset listed i k hsz h1)
    ·have:=hlt listed i hsz h1 hLi
     omega
    ·intro j hj hj2
     rw [hset listed i j hsz h1,cH _ zo]
     exact hn0 j hj hj2
 refine key _ _ a _ (by simp) ?_ ?_ ?_ ?_
 ·refine qe (ja) (by simp)
 ·intro i hi
  exfalso
  simp only [Array.getD,qJ] at hi
  split at hi <;> simp at hi
 ·intro j hj hj2
  simp only [Array.getD,qJ]
  split <;> simp
 ·have hs:=start h hles
  have hd:R.Inv B w0 (λ _=>false) a w.drew:=⟨hs.lo,hs.defers.grow (Grow.drew w) rfl,hs.size,hs.base.drew,λ x hx h1 h2=>x.2.grow _ _ _ _ (Grow.drew w) (hs.g x hx h1 h2),(λ i y d A _ _ hf=>by cases hf),(λ i d b k c _ hf=>by cases hf),
   λ e he A hA=>(hs.c e he A hA).grow (Grow.drew w),hs.x⟩
  refine Inv.congr hd λ k=>?_
  simp only [Array.getD,qJ]
  split <;> simp
open Rg in
theorem Rg.linKF {id:Nat}{n m:Nat}(hnd:noDefer R.ops=true)(hQ0:¬ LetsOut Q)(hsz:R.ops.size=n+m)(hanc:R.anc=λ i=>List.range i)(hk:R.chk=true)(h:St B w0 R.N R.Γ Λ a w)(hles:∀ e∈R.les,e.cr=none→(⟨e.s,e.T,e.H,e.A0⟩:Lc)∈Λ)
  (hob:∀ i,i<n→R.Ob P Q B w0 i) (hQ:∀ a w,R.Inv B w0 (λ k=>decide (k<n)) a w→wpOpsIn (fw o) 0 P R.ops Q (List.range' n m) a w):(Code.region id R.ops false).wpIn (fw o) 0 P Q a w:=by
 refine wpIn_region ?_
 have key:∀ q k,k+q=n→∀ a w,R.Inv B w0 (λ j=>decide (j<k)) a w→wpOpsIn (fw o) 0 P R.ops Q (List.range' k (q+m)) a w:=by
  intro q
  induction q with
  | zero =>
   intro k hkm a w hi
   have:k=n:=by omega
   subst this
   rw [qO]
   exact hQ a w hi
  | succ q ih =>
   intro k hkm a w hi
   rw [show q+1+m=(q+m)+1 by omega,List.range'_succ,wpOpsIn_cons]
   refine fy hnd hQ0 (step hk (hob k zo) hi ?_ (by simp) ?_ _ λ a' w' hi'=>ih (k+1) zo a' w' (hi'.congr λ j=>?_))
   ·intro i hi j hj
    rw [hanc] at hj
    simp at hi hj ⊢
    omega
   ·intro j hj
    rw [hanc] at hj
    simpa using hj
   ·unfold upd
    by_cases h1:j=k
    ·subst h1; simp
    ·have h2:(j==k)=false:=by simpa using h1
     rw [h2,xB,qS]
     omega
 rw [List.range_eq_range',hsz]
 exact key n 0 zo a w ((start h hles).congr λ j=>by simp)
end
section
variable {P:Program} {Q:Exit→Act→World→Prop} {B N:Nat} {w0:Bs} {Γ:List (Nat × VA)} {Λ:List Lc} {a:Act} {w:World}
theorem eH {o:Option Nat}{id:Nat}{ops:Array Oper}{sts:List (Option (Nat × As))}{news:List Le}{sp:List Sp}(src:List Src)(hnd:noDefer ops=true)(hQ0:¬ LetsOut Q)(h:St B w0 N Γ Λ a w)
  (hob:Obs P Q ⟨ops,N,Γ,lesOf Λ sts news,sp,λ i=>List.range i⟩ B w0 0 ops.size)
  (hn:news.all (λ e=>e.cr.isSome)=true) (hk:Rg.chk ⟨ops,N,Γ,lesOf Λ sts news,sp,λ i=>List.range i⟩=true) (hsrc:src.all (okS ⟨ops,N,Γ,lesOf Λ sts news,sp,λ i=>List.range i⟩)=true)
  (hQ:∀ a w,St B w0 N (src.filterMap (takeS ⟨ops,N,Γ,lesOf Λ sts news,sp,λ i=>List.range i⟩)) ((lesOf Λ sts news).map λ e=>⟨e.s,e.T,e.H,Rg.last e⟩) a w→Q .normal a w):(Code.region id ops false).wpIn (fw o) 0 P Q a w :=
 Rg.linF (R:=⟨ops,N,Γ,lesOf Λ sts news,sp,λ i=>List.range i⟩) hnd hQ0 rfl hk h (fS hn) (λ i hi=>hob.all i zo (by simpa using hi)) λ a' w' hf=>hQ a' w' (eJ hk hf src hsrc)
theorem Co {o:Option Nat}{t:Nat}{b:Bool}{x y:Code}(h:St B w0 N Γ Λ a w)(hm:(t,Bo b)∈Γ)(ht:b=true→x.wpIn (fw o) 0 P Q a w)(hf:b=false→y.wpIn (fw o) 0 P Q a w):(Code.cond (.tmp t) x y).wpIn (fw o) 0 P Q a w :=
 wpIn_cond_split (dg (h.vals _ hm)) ht hf
theorem gL {o:Option Nat}{t:Nat}{b:Bool}{x y:Code}(J:Act→World→Prop)(h:St B w0 N Γ Λ a w)(hm:(t,Bo b)∈Γ)
  (ht:b=true→x.wpIn (fw o) 0 P (Exit.then J Q) a w) (hf:b=false→y.wpIn (fw o) 0 P (Exit.then J Q) a w) (hk:∀ a w,J a w→Q .normal a w):(Code.cond (.tmp t) x y).wpIn (fw o) 0 P Q a w:=by
 have hJ:∀ {z:Code},z.wpIn (fw o) 0 P (Exit.then J Q) a w→z.wpIn (fw o) 0 P Q a w:=λ hz=>wpIn_mono hz λ e a' w' hq=>by
  cases e with
  | normal=>exact hk a' w' hq
  | _=>exact hq
 exact Co h hm (λ hb=>hJ (ht hb)) (λ hb=>hJ (hf hb))
end
theorem Cn.introR {f : FuncId} {fn : Func} {c : Code} {pre pre' : List VA} {post post0 : VA} (hf : P.funcs[f]? = some fn) (hb : fn.body = some c) (hn : (fn.name == "runtime.NumGoroutine") = false) (hsz : pre.length ≤ fn.ntmps)
  (hup:All2 Up pre pre') (hfree:Free post0 post)
  (h:∀ (B:Nat) (w0:Bs) (a:Act),B=w0.w.heap.size→w0.nd=false→St B w0 fn.ntmps (argΓ pre') [] a w0.w→c.wp P (bPost P fn (RQ B w0 post0)) a w0.w):Cn P f pre post:=by
 refine ⟨⟨fn,hf,hn,by rw [hb]; rfl⟩,λ B w args hB ha=>(bS hf hb (h w.heap.size ⟨w,λ _=>False,false⟩ _ G G ?_)).mono λ _ _ ⟨v,he,hv,hk⟩=>⟨v,he,hfree _ _ _ _ hB hv,hk.grow0⟩⟩
 have hl:=ha.length
 have hl2:=hup.length
 have ha':All2 (λ (A:VA) v=>A.p w.heap.size v w) pre' args:=A3 hup B w hB ha
 refine ⟨λ g hg=>hg.resolve_right λ h=>h,DefOk.nil rfl,?_,Kept.refl _,All2.args ha',(λ l hl=>by cases hl),(λ l hl=>by cases hl)⟩
 simp only [zZ,zV,qJ]
 omega
theorem VA.many {A:VA}{B:Nat}{v:Value}{w':World}:∀ (gs:List Nat) {w:World},A.p B v w→w'.os=w.os→w'.tape=w.tape→w'.output=w.output→w.heap.size≤w'.heap.size→(∀ k c T fz,w.heap[k]?=some (.cells c T fz)→k ∉ gs→w'.heap[k]?=w.heap[k]?)→(∀ g∈gs,B≤g∧∃ c T fz,w.heap[g]?=some (.cells c T fz)∧T ∉ A.deps)→A.p B v w'
 | [],w,hp,h1,h2,h3,h4,h5,_=>A.cg _ _ _ _ ⟨h4,λ g c T fz hg=>(h5 g c T fz hg (by simp)).trans hg⟩ hp
 | g::gs,w,hp,h1,h2,h3,h4,h5,h6=>by
  by_cases hg:g∈gs
  ·exact VA.many gs hp h1 h2 h3 h4 (λ k c T fz hk hn=>h5 k c T fz hk (by simp only [qt,not_or]; exact ⟨λ e=>hn (by rw [e]; exact hg),hn⟩)) (λ g' hg'=>h6 g' (qX _ hg'))
  ·obtain ⟨hB,c,T,fz,hc,hT⟩:=h6 g xe
   have hlt:g<w.heap.size:=(Array.getElem?_eq_some_iff.1 hc).1
   have hx:w'.heap[g]?=some (w'.heap[g]'zo):=Array.getElem?_eq_getElem _
   generalize w'.heap[g]'zo=x at hx
   have hwr:Wr g w { w with heap:=w.heap.setIfInBounds g x }:=⟨rfl,rfl,rfl,by simp,λ k hk=>by
    show (w.heap.setIfInBounds g x)[k]?=_
    rw [Array.getElem?_setIfInBounds_ne (λ e=>hk e.symm)]⟩
   have hsz:(w.heap.setIfInBounds g x).size=w.heap.size:=by simp
   refine VA.many gs (w:={ w with heap:=w.heap.setIfInBounds g x }) (A.wr _ _ _ _ _ _ _ _ hc hT hB hwr hp) h1 h2 h3 (by rw [hsz]; exact h4) (λ k c' T' fz' hk hn=>?_) (λ g' hg'=>?_)
   ·show _=(w.heap.setIfInBounds g x)[k]?
    replace hk:(w.heap.setIfInBounds g x)[k]?=some (.cells c' T' fz'):=hk
    by_cases e:k=g
    ·subst e
     rw [Array.getElem?_setIfInBounds_self_of_lt hlt]
     exact hx
    ·rw [Array.getElem?_setIfInBounds_ne (λ e'=>e e'.symm)] at hk ⊢
     exact h5 k c' T' fz' hk (by simp only [qt,not_or]; exact ⟨e,hn⟩)
   ·obtain ⟨hB',c',T',fz',hc',hT'⟩:=h6 g' (qX _ hg')
    refine ⟨hB',c',T',fz',?_,hT'⟩
    show (w.heap.setIfInBounds g x)[g']?=_
    rw [Array.getElem?_setIfInBounds_ne (show g≠g' from λ e=>hg (by rw [e]; exact hg'))]
    exact hc'
def rndB (b:Nat)(D:List TypeId)(gs:List Nat)(Ws W:World):Bs:=⟨W,λ k=>b≤k∧(Ws.heap.size≤k∨(k ∉ gs∧∃ c T fz,Ws.heap[k]?=some (.cells c T fz)∧T∈D)),false⟩
abbrev Stp (b:Nat)(D:List TypeId)(gs:List Nat)(W W':World):Prop:=Kept (rndB b D gs W W) W'
theorem Stp.noncell {b:Nat}{gs:List Nat}{W W':World}(h:Stp b D gs W W'){k:Nat}{o:Obj}(hk:W.heap[k]?=some o)(ho:o.isCells=false):W'.heap[k]?=some o :=
 (h.block k (Array.getElem?_eq_some_iff.1 hk).1 (λ hF=>by
  rcases hF.2 with h1 | ⟨_,c,T,fz,hc,_⟩
  ·have:=(Array.getElem?_eq_some_iff.1 hk).1; omega
  ·have hc':W.heap[k]?=_:=hc
   rw [hc'] at hk
   injection hk with hk
   subst hk
   cases ho)).trans hk
theorem Stp.held {b:Nat}{gs:List Nat}{W W':World}(h:Stp b D gs W W'){k:Nat}{o:Obj}(hk:W.heap[k]?=some o)(hg:k∈gs):W'.heap[k]?=some o :=
 (h.block k (Array.getElem?_eq_some_iff.1 hk).1 (λ hF=>by
  rcases hF.2 with h1 | ⟨h1,_⟩
  ·have:=(Array.getElem?_eq_some_iff.1 hk).1; omega
  ·exact h1 hg)).trans hk
theorem VA.stp {A:VA}{B b:Nat}{W W':World}{gs:List Nat}(hp:A.p B v W)(h:Stp b D gs W W')(hb:B≤b)(hD:∀ T∈D,T ∉ A.deps):A.p B v W':=by
 refine VA.many ((List.range W.heap.size).filter λ k=>match W.heap[k]? with | some (.cells _ T _)=>D.contains T&&decide (b≤k) | _=>false) hp h.os h.tape h.output h.size (λ k c T fz hk hn=>?_) (λ g hg=>?_)
 ·refine h.block k (Array.getElem?_eq_some_iff.1 hk).1 λ hF=>hn (zE.2 ⟨by simpa using (Array.getElem?_eq_some_iff.1 hk).1,?_⟩)
  rcases hF.2 with h1 | ⟨_,c',T',fz',hc,hD'⟩
  ·have:=(Array.getElem?_eq_some_iff.1 hk).1; omega
  ·have hc':W.heap[k]?=_:=hc
   rw [hc'] at hk
   injection hk with hk
   injection hk with _ hk _
   subst hk
   rw [hc']
   simp only [ql,qx,qH]
   exact ⟨hD',hF.1⟩
 ·obtain ⟨_,h2⟩:=zE.1 hg
  split at h2
  ·rename_i c T fz hc
   simp only [ql,qx,qH] at h2
   exact ⟨qe hb h2.2,c,T,fz,hc,hD T h2.1⟩
  ·cases h2
def As.vaC (A:As)(cs:List Value):VA where
 p B _ w:=A.p B cs w
 deps:=A.deps
 cg:=λ B _ w w' h hp=>A.cg B cs w w' h hp
 wr:=λ B _ w w' g c T fz h1 h2 h3 h4 hp=>A.wr B cs w w' g c T fz h1 h2 h3 h4 hp
theorem As.stp {A:As}{B b:Nat}{cs:List Value}{D:List TypeId}{gs:List Nat}{W W':World}(hp:A.p B cs W)(h:Stp b D gs W W')(hb:B≤b)(hD:∀ T∈D,T ∉ A.deps):A.p B cs W':=VA.stp (A:=As.vaC A cs) (v:=undef) hp h hb hD
def offD (D:List TypeId)(deps:List TypeId):Bool:=deps.all λ T => !D.contains T
theorem eB {D deps:List TypeId}(h:offD D deps=true):∀ T∈D,T ∉ deps:=λ T hT hd=>by
 have:=qd.1 h T hd
 simp only [qv,qx,qk] at this
 exact this hT
def CellsT (Tc:List TypeId)(gs:List Nat)(W:World):Prop:=∀ g∈gs,∃ c T fz,W.heap[g]?=some (.cells c T fz)∧T∈Tc
abbrev StpI (gs:List Nat)(W W':World):Prop:=Kept ⟨W,λ k=>k∈gs,true⟩ W'
theorem VA.stpI {A:VA}{gs:List Nat}{Tc:List TypeId}{W W':World}(hp:A.p B v W)(h:StpI gs W W')(hc:CellsT Tc gs W)(hb:∀ g∈gs,B≤g)(hD:∀ T∈Tc,T ∉ A.deps):A.p B v W' :=
 VA.many gs hp h.os h.tape h.output h.size (λ k c T fz hk hn=>h.block k (Array.getElem?_eq_some_iff.1 hk).1 hn) λ g hg=>by
  obtain ⟨c,T,fz,h1,h2⟩:=hc g hg
  exact ⟨hb g hg,c,T,fz,h1,hD T h2⟩
theorem As.stpI {A:As}{B:Nat}{cs:List Value}{gs:List Nat}{Tc:List TypeId}{W W':World}(hp:A.p B cs W)(h:StpI gs W W')(hc:CellsT Tc gs W)(hb:∀ g∈gs,B≤g)(hD:∀ T∈Tc,T ∉ A.deps):A.p B cs W':=VA.stpI (A:=As.vaC A cs) (v:=undef) hp h hc hb hD
theorem StpI.noncell {gs:List Nat}{Tc:List TypeId}{W W':World}(h:StpI gs W W')(hc:CellsT Tc gs W){k:Nat}{o:Obj}(hk:W.heap[k]?=some o)(ho:o.isCells=false):W'.heap[k]?=some o :=
 (h.block k (Array.getElem?_eq_some_iff.1 hk).1 (λ hF=>by
  obtain ⟨c,T,fz,h1,_⟩:=hc k hF
  rw [h1] at hk
  injection hk with hk
  subst hk
  cases ho)).trans hk
theorem St.stpI {B N:Nat}{w0:Bs}{Γ:List (Nat × VA)}{Λ:List Lc}{a:Act}{W W':World}{gs:List Nat}{Tc:List TypeId}(h:St B w0 N Γ Λ a W)(hB:B=w0.w.heap.size)(hs:StpI gs W W')(hc:CellsT Tc gs W)(hb:∀ g∈gs,B≤g)(hΓ:Γ.all (λ x=>offD Tc x.2.deps)=true)(hΛ:Λ.all (λ l=>offD Tc l.A.deps)=true)
  (hdis:∀ l∈Λ,∀ g,blk (a.eval (.tmp l.s))=some g→g ∉ gs):St B w0 N Γ Λ a W':=by
 refine ⟨h.lo,h.defers.keep rfl λ Dm hD=>hs.noncell hc hD rfl,h.size,⟨hs.os.trans h.base.os,hs.tape.trans h.base.tape,hs.output.trans h.base.output,qe h.base.size hs.size,λ k hk hf=>(hs.block k (qE hk h.base.size) (λ hF=>by have:=hb k hF; omega)).trans (h.base.block k hk hf)⟩,
  λ x hx=>VA.stpI (h.vals x hx) hs hc hb (eB (qd.1 hΓ x hx)),λ l hl=>?_,h.dis⟩
 obtain ⟨g,cs,e1,e2,e3,e4⟩:=h.locs l hl
 exact ⟨g,cs,e1,e2,(hs.block g (Array.getElem?_eq_some_iff.1 e3).1 (hdis l hl g (by rw [e1]; exact l.H.ok g))).trans e3,As.stpI e4 hs hc hb (eB (qd.1 hΛ l hl))⟩
theorem St.put {B N:Nat}{W:World}{r:Nat}{o o':Obj}(h:St B w0 N Γ Λ a W)(hr:W.heap[r]?=some o)(ho:o.isCells=false)(hd:o≠.deferred (some []))(hge:w0.w.heap.size≤r):St B w0 N Γ Λ a (W.putObj r o'):=by
 have hc:Cg W (W.putObj r o'):=⟨by simp,λ g c T fz hg=>(World.putObj_heap_other (λ e=>by subst e; rw [hg] at hr; injection hr with hr; subst hr; cases ho)).trans hg⟩
 refine ⟨h.lo,h.defers.keep rfl λ Dm hD=>(World.putObj_heap_other (λ e=>by subst e; rw [hD] at hr; injection hr with hr; exact hd hr.symm)).trans hD,h.size,⟨h.base.os,h.base.tape,h.base.output,by simpa using h.base.size,λ k hk hf=>(World.putObj_heap_other zo).trans (h.base.block k hk hf)⟩,
  λ x hx=>x.2.cg _ _ _ _ hc (h.vals x hx),λ l hl=>?_,h.dis⟩
 obtain ⟨g,cs,e1,e2,e3,e4⟩:=h.locs l hl
 exact ⟨g,cs,e1,e2,hc.heap e3,l.A.cg _ _ _ _ hc e4⟩
def CapsOk (B:Nat)(w:World)(caps:List (TypeId × As))(gs:List Nat):Prop:=All2 (λ (c:TypeId × As) (g:Nat)=>B≤g∧∃ cs,w.heap[g]?=some (.cells (List.toArray cs) c.1 (0,0))∧c.2.p B cs w) caps gs
structure ItH (P:Program) (l B:Nat) (Db Tc:List TypeId) (gs:List Nat) (Y:Nat→List VA) (inf:Bool) (M:Nat) (J:Nat→World→Prop) (Jx:World→Prop):Prop where
 inf':inf=true→∀ W,¬ J M W
 st:∀ k W W',J k W→StpI gs W W'→CellsT Tc gs W'→J k W'
 stx:∀ W W',Jx W→StpI gs W W'→CellsT Tc gs W'→Jx W'
 ct:∀ k W,J k W→CellsT Tc gs W
 ctx:∀ W,Jx W→CellsT Tc gs W
 yd:∀ k W args,k<M→J k W→All2 (λ (A:VA) v=>A.p B v W) (Y k) args→YieldAt Fence.wide 0 P l args.toArray W λ e W'=>(e=.returned (.bool true)∧J (k+1) W'∧Stp B Db gs W W') ∨
  (e=.returned (.bool false)∧Jx W'∧W.heap.size≤W'.heap.size∧∀ D:Nat,W.heap[D]?=some (.deferred (some []))→W'.heap[D]?=some (.deferred (some [])))
def ItCg (P:Program)(f:FuncId)(caps:List (TypeId × As))(gs:List Nat)(Y:Nat→List VA)(inf:Bool)(M:Nat)(Dd:List TypeId):Prop :=
 (∃ fn, P.funcs[f]? = some fn ∧ (fn.name == "runtime.NumGoroutine") = false ∧ fn.body.isNone = false) ∧
 ∀ (l B:Nat) (w:World) (Db:List TypeId) (J:Nat→World→Prop) (Jx:World→Prop),B≤w.heap.size→gs.Nodup→CapsOk B w caps gs→offD Db Dd=true→ItH P l B Db (caps.map zP) gs Y inf M J Jx→J 0 w →
  Calls P f (.func (.yield l) #[] #[]::gs.map ptr).toArray w λ e W'=>∃ v,e=.returned v∧(J M W'∨Jx W')
theorem dR {caps:List (TypeId × As)}{gs:List Nat}(h:CapsOk B w caps gs):CellsT (caps.map zP) gs w∧∀ g∈gs,B≤g:=by
 induction h with
 | nil=>exact ⟨(λ _ h=>by cases h),(λ _ h=>by cases h)⟩
 | @cons c g cs gs hh _ ih =>
  obtain ⟨hB,ds,h1,_⟩:=hh
  refine ⟨λ g' hg=>?_,λ g' hg=>?_⟩
  ·rcases qt.1 hg with rfl | hg
   ·exact ⟨_,_,_,h1,by simp⟩
   ·obtain ⟨c',T,fz,h2,h3⟩:=ih.1 g' hg
    exact ⟨c',T,fz,h2,by simp only [qN,qt]; exact .inr h3⟩
  ·rcases qt.1 hg with rfl | hg
   ·exact hB
   ·exact ih.2 g' hg
def ItV (f:FuncId)(caps:List (TypeId × As))(gs:List Nat):VA where
 p B v w:=v=.func (.func f) #[] (gs.map ptr).toArray∧gs.Nodup∧CapsOk B w caps gs
 deps:=caps.map zP++caps.flatMap (·.2.deps)
 cg:=by
  rintro B v w w' hg ⟨e,h1,h2⟩
  exact ⟨e,h1,h2.mono λ c g ⟨h3,cs,h4,h5⟩=>⟨h3,cs,hg.heap h4,c.2.cg _ _ _ _ hg h5⟩⟩
 wr:=by
  rintro B v w w' g c T fz h1 hT h3 h4 ⟨e,hn,h⟩
  refine ⟨e,hn,?_⟩
  clear e hn
  induction h with
  | nil=>exact .nil
  | @cons x y xs ys hh _ ih =>
   simp only [qN,xz,qo,qt,not_or] at hT
   obtain ⟨hB,cs,h5,h6⟩:=hh
   refine .cons ⟨hB,cs,?_,x.2.wr _ _ _ _ _ _ _ _ h1 hT.2.1 h3 h4 h6⟩ (ih ?_)
   ·rw [h4.block y (λ e=>by subst e; rw [h1] at h5; injection h5 with h5; injection h5 with _ h5 _; exact hT.1.1 h5)]
    exact h5
   ·simp only [qo,not_or]
    exact ⟨hT.1.2,hT.2.2⟩
def REnd (B N:Nat)(w1:Bs)(a:Act)(Λ:List Lc)(a':Act)(W:World):Prop:=∃ Γ,St B w1 N Γ Λ a' W∧∀ l∈Λ,a'.eval (.tmp l.s)=a.eval (.tmp l.s)
def rPost (B N:Nat)(w1:Bs)(a:Act)(c:Prop)(Λn:List Lc)(Λr:Option (List Lc))(Λx:Nat→Option (List Lc)):Exit→Act→World→Prop
 | .normal,a',W=>c∧REnd B N w1 a Λn a' W
 | .ret,a',W=>∃ Λ,Λr=some Λ∧REnd B N w1 a Λ a' W
 | .exit id,a',W=>∃ Λ,Λx id=some Λ∧REnd B N w1 a Λ a' W
 | _,_,_=>False
def Bg (l:Nat)(W W':World):Prop:=∃ r r':Loop,W.heap[l]?=some (.loop r)∧W'=W.putObj l (.loop r')
theorem wC {W:World}{l:Nat}{r:Loop}(hr:W.heap[l]?=some (.loop r))(o:Obj):Cg W (W.putObj l o):=⟨by simp,λ g c T fz hg=>(World.putObj_heap_other (λ e=>by subst e; rw [hg] at hr; cases hr)).trans hg⟩
theorem St.begin {B N:Nat}{gs:List Nat}{Ws W0:World}{W W':World}{l:Nat}(h:St B (rndB B D gs Ws W0) N Γ Λ a W)(hs:Ws.heap.size≤W0.heap.size)(hlo:B≤Ws.heap.size)(hb:Bg l W W'):St B (rndB B D gs Ws W') N Γ Λ a W':=by
 obtain ⟨r,r',hr,rfl⟩:=hb
 have hc:=wC hr (.loop r')
 have hmay:∀ g,(rndB B D gs Ws W0).may g→(rndB B D gs Ws (W.putObj l (.loop r'))).may g:=λ g hg=>by
  rcases hg with hg | hg
  ·have hg':W0.heap.size≤g:=hg
   exact .inr ⟨by omega,.inl zo⟩
  ·exact .inr hg
 refine ⟨λ g hg=>?_,⟨λ d hd=>?_,h.defers.nodup,λ hn=>by cases hn⟩,h.size,Kept.refl _,λ x hx=>x.2.cg _ _ _ _ hc (h.vals x hx),λ m hm=>?_,h.dis⟩
 ·rcases hg with hg | hg
  ·have h1:W0.heap.size≤W.heap.size:=h.base.size
   have h2:(W.putObj l (.loop r')).heap.size≤g:=hg
   simp only [World.putObj_size] at h2
   omega
  ·exact hg.1
 ·obtain ⟨Dm,e1,e2,e3⟩:=h.defers.all d hd
  exact ⟨Dm,e1,hmay Dm e2,(World.putObj_heap_other (λ e=>by subst e; rw [hr] at e3; cases e3)).trans e3⟩
 ·obtain ⟨g,cs,e1,e2,e3,e4⟩:=h.locs m hm
  exact ⟨g,cs,e1,hmay g e2,hc.heap e3,m.A.cg _ _ _ _ hc e4⟩
theorem ux:∀ (l:List (Nat × Value)) (t:Array Value),(l.foldl (λ t x=>t.setIfInBounds x.1 x.2) t).size=t.size∧(∀ s,s ∉ l.map zP→(l.foldl (λ t x=>t.setIfInBounds x.1 x.2) t)[s]?=t[s]?)∧((l.map zP).Nodup→∀ x∈l,x.1<t.size→(l.foldl (λ t x=>t.setIfInBounds x.1 x.2) t)[x.1]?=some x.2)
 | [],t=>⟨rfl,λ _ _=>rfl,λ _ _ h=>by cases h⟩
 | y::l,t=>by
  obtain ⟨h1,h2,h3⟩:=ux l (t.setIfInBounds y.1 y.2)
  simp only [List.foldl_cons]
  refine ⟨by rw [h1]; simp,λ s hs=>?_,λ nd x hx hlt=>?_⟩
  ·simp only [qN,qt,not_or] at hs
   rw [h2 s hs.2,Array.getElem?_setIfInBounds_ne (λ e=>hs.1 e.symm)]
  ·simp only [qN,xx] at nd
   rcases qt.1 hx with rfl | hx
   ·rw [h2 _ nd.1,Array.getElem?_setIfInBounds_self_of_lt hlt]
   ·exact h3 nd.2 x hx (by simpa using hlt)
theorem g7 (a:Act)(s:Nat):a.eval (.tmp s)=(a.tmps[s]?).getD undef:=by simp [Act.eval]
section
variable {P:Program} {Q:Exit→Act→World→Prop} {B N:Nat} {w0:Bs} {Γ:List (Nat × VA)} {a:Act} {w:World}
end
theorem gM {anc:List (List Nat)}{n m:Nat}(h:(List.range m).all (λ q=>(List.range (n+q)).all λ j=>(anc.getD (n+q) []).contains j)=true):∀ i,n≤i→i<n+m→∀ j,j<i→(anc.getD i []).contains j=true:=λ i h1 h2 j hj=>by
 have:=qd.1 (qd.1 h (i-n) (by simp; omega)) j (by simp; omega)
 rwa [show n+(i-n)=i by omega] at this
theorem pY {f:FuncId}{fn:Func}{c:Code}{args:Array Value}{R:Ending→World→Prop}(hf:P.funcs[f]?=some fn)(hb:fn.body=some c)
  (h:c.wpIn (fw none) 0 P (bPost P fn R) { tmps:=args++Array.replicate (fn.ntmps-args.size) undef,defers:=[] } w):Calls P f args w R :=
 bS hf hb (wpIn_wide.1 h)
def itB (gs:List Nat)(w:World):Bs:=⟨w,λ k=>k∈gs,true⟩
def capsΛ (caps:List (TypeId × As)):List Lc:=caps.zipIdx.map λ x=>⟨x.2+1,x.1.1,ptrH,x.1.2⟩
def capsΓ (gs:List Nat)(n:Nat):List (Nat × VA):=(List.range n).map λ i=>(i+1,EqV (ptr (gs.getD i 0)))
structure ItG (B:Nat) (gs:List Nat) (Tc:List TypeId) (J:Nat→World→Prop) (k:Nat) (w0:Bs):Prop where
 eq:w0=itB gs w0.w
 j:J k w0.w
 ge:∀ g∈gs,B≤g
theorem rO {α:Type}:∀ {l:List α},l.Nodup→∀ {i j:Nat} {x:α},l[i]?=some x→l[j]?=some x→i=j
 | [],_,_,_,_,h,_=>by cases h
 | y::l,nd,i,j,x,hi,hj=>by
  obtain ⟨n1,n2⟩:=xx.1 nd
  cases i with
  | zero=>cases j with
   | zero=>rfl
   | succ j =>
    have e1:y=x:=by simpa using hi
    have e2:l[j]?=some x:=by simpa using hj
    exact absurd (qa e2) (by rw [← e1]; exact n1)
  | succ i=>cases j with
   | zero =>
    have e1:y=x:=by simpa using hj
    have e2:l[i]?=some x:=by simpa using hi
    exact absurd (qa e2) (by rw [← e1]; exact n1)
   | succ j=>rw [rO n2 (i:=i) (j:=j) (x:=x) (by simpa using hi) (by simpa using hj)]
theorem ItCg.intro {gs : List Nat} {f : FuncId} {fn : Func} {c : Code} {caps : List (TypeId × As)} {Y : Nat → List VA} {inf : Bool} {M : Nat} {Dd : List TypeId} (hf : P.funcs[f]? = some fn) (hb : fn.body = some c) (hn : (fn.name == "runtime.NumGoroutine") = false) (hsz : caps.length + 1 ≤ fn.ntmps)
  (h:∀ (l B:Nat) (Db:List TypeId) (J:Nat→World→Prop) (Jx:World→Prop) (w0:Bs) (a:Act),gs.length=caps.length→offD Db Dd=true→ItH P l B Db (caps.map zP) gs Y inf M J Jx→ItG B gs (caps.map zP) J 0 w0 →
   St B w0 fn.ntmps ((0,EqV (.func (.yield l) #[] #[]))::capsΓ gs caps.length) (capsΛ caps) a w0.w→c.wpIn (fw none) 0 P (bPost P fn (λ e W'=>∃ v,e=.returned v∧(J M W'∨Jx W'))) a w0.w):ItCg P f caps gs Y inf M Dd:=by
 refine ⟨⟨fn,hf,hn,by rw [hb]; rfl⟩,λ l B w Db J Jx hB hgn hcaps hoff hI hJ=>pY hf hb (h l B Db J Jx (itB gs w) _ hcaps.length.symm hoff hI ⟨rfl,hJ,(dR hcaps).2⟩ ?_)⟩
 have hlen:=hcaps.length
 have hev:∀ i (hi:i<gs.length),({ tmps:=(Value.func (.yield l) #[] #[]::gs.map ptr).toArray++Array.replicate (fn.ntmps-(Value.func (.yield l) #[] #[]::gs.map ptr).toArray.size) undef,defers:=[] }:Act).eval (.tmp (i+1))=ptr (gs.getD i 0):=λ i hi=>by
  rw [g7]
  have h1:(((Value.func (.yield l) #[] #[]::gs.map ptr).toArray++Array.replicate (fn.ntmps-(Value.func (.yield l) #[] #[]::gs.map ptr).toArray.size) undef:Array Value)[i+1]?)=some (ptr (gs.getD i 0)):=by
   rw [Array.getElem?_append_left (by simp; omega)]
   simp [List.getD,hi]
  show ((_:Array Value)[i+1]?).getD undef=_
  rw [h1]
  rfl
 have hat:∀ {i:Nat} {c:TypeId × As},caps[i]?=some c→∃ g,gs[i]?=some g∧g∈gs∧B≤g∧∃ cs,w.heap[g]?=some (.cells (List.toArray cs) c.1 (0,0))∧c.2.p B cs w:=λ {i c} hc=>by
  obtain ⟨g,h1,h2⟩:=hcaps.get hc
  exact ⟨g,h1,qa h1,h2⟩
 have hΛ:∀ m∈capsΛ caps,∃ i c g,caps[i]?=some c∧gs[i]?=some g∧m=⟨i+1,c.1,ptrH,c.2⟩:=λ m hm=>by
  obtain ⟨x,hx,rfl⟩:=qq.1 hm
  have hx':=qZ.1 hx
  obtain ⟨g,h1,_⟩:=hat hx'
  exact ⟨x.2,x.1,g,hx',h1,rfl⟩
 have hev':∀ {i g:Nat},gs[i]?=some g→({ tmps:=(Value.func (.yield l) #[] #[]::gs.map ptr).toArray++Array.replicate (fn.ntmps-(Value.func (.yield l) #[] #[]::gs.map ptr).toArray.size) undef,defers:=[] }:Act).eval (.tmp (i+1))=ptr g:=λ {i g} hg=>by
  rw [hev i (List.getElem?_eq_some_iff.1 hg).1]
  simp [List.getD,hg]
 refine ⟨λ g hg=>?_,DefOk.nil rfl,?_,Kept.refl _,λ x hx=>?_,λ m hm=>?_,λ m hm m' hm' hne=>?_⟩
 ·rcases hg with hg | hg
  ·exact qe hB hg
  ·exact (dR hcaps).2 g hg
 ·simp only [zZ,zV,qJ,zy,qc]
  omega
 ·rcases qt.1 hx with rfl | hx
  ·show _=_
   rw [g7]
   show ((_:Array Value)[0]?).getD undef=_
   rw [Array.getElem?_append_left (by simp)]
   simp
  ·obtain ⟨i,hi,rfl⟩:=qq.1 hx
   exact hev i (by rw [← hlen]; simpa using hi)
 ·obtain ⟨i,c,g,h1,h2,rfl⟩:=hΛ m hm
  obtain ⟨g',h3,h4,_,cs,h5,h6⟩:=hat h1
  rw [h2] at h3
  injection h3 with h3
  subst h3
  exact ⟨g,cs,hev' h2,.inr h4,h5,h6⟩
 ·obtain ⟨i,c,g,h1,h2,rfl⟩:=hΛ m hm
  obtain ⟨j,c',g',h3,h4,rfl⟩:=hΛ m' hm'
  show blk (Act.eval _ (.tmp (i+1)))≠blk (Act.eval _ (.tmp (j+1)))
  rw [hev' h2,hev' h4]
  intro e
  have e':g=g':=by injection e
  subst e'
  exact hne (by rw [rO hgn h2 h4])
section
open Rg
variable {P:Program} {Q:Exit→Act→World→Prop} {B N:Nat} {w0:Bs} {Γ:List (Nat × VA)} {Λ:List Lc} {a:Act} {w:World}
theorem Dr {e d:Nat}{T T':TypeId}:∀ (a:Act) (w:World) (b:Bool),a.eval (.tmp d)=.bool b→(execOp a.eval ⟨some e,.unOp .not T (.tmp d),T',ps,af,none⟩).run P w=.ok (.value (.bool (!b))) w:=λ a w b h=>by
 simp [execOp,h]
 rfl
theorem asg_op {e d:Nat}{T':TypeId}:∀ (a:Act) (w:World) (b:Bool),a.eval (.tmp d)=.bool b→(execOp a.eval ⟨some e,.assign (.tmp d),T',ps,af,none⟩).run P w=.ok (.value (.bool b)) w:=λ a w b h=>by
 simp [execOp,h]
end
def OneC:As where
 n:=1
 ag:=false
 p _ cs _:=∃ v,cs=[v]∧v.oneCell'=true
 deps:=[]
 len:=by rintro B cs w ⟨v,rfl,_⟩; rfl
 one:=by
  rintro B cs w ⟨v,rfl,h⟩ c hc
  obtain rfl:=qn.1 hc
  exact h
 ag1:=λ _=>rfl
 cg:=λ _ _ _ _ _ h=>h
 wr:=λ _ _ _ _ _ _ _ _ _ _ _ _ h=>h
def RowMay (w0:Bs)(B:Nat)(E:TypeId):Prop:=∀ (w:World) (g:Nat) (c:Array Value) (fz:Nat × Nat),Kept w0 w→B≤g→w.heap[g]?=some (.cells c E fz)→w0.may g
theorem AR {E:TypeId}(h:B=w0.w.heap.size):RowMay w0 B E:=λ _ g _ _ _ hg _=>.inl zo
section
open Rg
variable {P:Program} {Q:Exit→Act→World→Prop} {B N:Nat} {w0:Bs} {Γ:List (Nat × VA)} {Λ:List Lc} {a:Act} {w:World}
def lesS (Λ:List Lc)(e j:Nat)(A:As):List Le:=Λ.zipIdx.map λ x=>⟨x.1.s,x.1.T,x.1.H,none,x.1.A,if x.2=e then some (j,A) else none⟩
theorem ej {e j:Nat}{A:As}:∀ y∈lesS Λ e j A,y.cr=none∧(⟨y.s,y.T,y.H,y.A0⟩:Lc)∈Λ∧∀ i B,y.st=some (i,B)→i=j:=λ y hy=>by
 obtain ⟨x,hx,rfl⟩:=qq.1 hy
 refine ⟨rfl,qa (qZ.1 hx),λ i B h=>?_⟩
 simp only at h
 split at h
 ·injection h with h
  injection h with h _
  exact h.symm
 ·cases h
end
def EqIx (Γ:List (Nat × VA))(a:Act):List Lc→List Nat→Prop
 | [],[]=>True
 | l::ls,i::ix=>Γ[i]?=some (l.s,EqV (a.eval (.tmp l.s)))∧EqIx Γ a ls ix
 | _,_=>False
theorem uO {B N:Nat}{w1:Bs}{a a':Act}{W:World}(ix:List Nat)(h:St B w1 N Γ Λ a' W)(he:EqIx Γ a Λ ix):REnd B N w1 a Λ a' W:=by
 refine ⟨Γ,h,?_⟩
 have key:∀ (L:List Lc) (ix:List Nat),EqIx Γ a L ix→∀ l∈L,a'.eval (.tmp l.s)=a.eval (.tmp l.s):=by
  intro L
  induction L with
  | nil=>intro _ _ l hl; cases hl
  | cons m L ih =>
   intro ix hx l hl
   cases ix with
   | nil=>exact hx.elim
   | cons i ix =>
    obtain ⟨h1,h2⟩:=hx
    rcases qt.1 hl with rfl | hl
    ·exact h.vals _ (qa h1)
    ·exact ih ix h2 l hl
 exact key Λ ix he
section
open Rg
variable {P:Program} {Q:Exit→Act→World→Prop} {B N:Nat} {w0:Bs} {Γ:List (Nat × VA)} {Λ:List Lc} {a:Act} {w:World}
theorem op_new {ops:Array Oper}{o:Option Nat}{i d x:Nat}{T ty T1 T2:TypeId}{A0 A:As}{ps1 ps2:String}{af1 af2:Array Edge}{rest:List Nat}(kx:Nat)(src:List Nat)
  (ho1:ops[i]?=some ⟨some d,.alloc T,T1,ps1,af1,none⟩) (ho2:ops[i+1]?=some ⟨none,.store ty (.tmp d) (.tmp x),T2,ps2,af2,none⟩) (hnd:noDefer ops=true) (hQ0:¬ LetsOut Q)
  (h:St B w0 N Γ Λ a w) (hz:Zero P T A0) (hx:Γ[kx]?=some (x,A.va)) (ht:Ty P ty A.n A.ag) (hn:A0.n=A.n) (hd:d<N) (hdx:(d != x)=true)
  (hsrc:src.all (λ k=>match Γ[k]? with | some y=>y.1 != d | none=>false)=true) (hΛ:Λ.all (λ l=>l.s != d)=true)
  (hK:∀ a' w',St B w0 N (src.filterMap λ k=>Γ[k]?) (Λ++[⟨d,T,ptrH,A⟩]) a' w'→wpOpsIn (fw o) 0 P ops Q rest a' w'):wpOpsIn (fw o) 0 P ops Q (i::(i+1)::rest) a w:=by
 obtain ⟨it,z,z1,z2,z3⟩:=hz
 obtain ⟨cs,hp,hv⟩:=h.vals _ (qa hx)
 have hv':a.eval (.tmp x)=shape A.ag cs:=hv
 have l1:=A.len _ _ _ hp
 have l0:=A0.len _ _ _ (z3 B w)
 have hds:d<a.tmps.size:=by rw [h.size]; exact hd
 have hdx':x≠d:=λ e=>by subst e; simp at hdx
 have hΛ':∀ l∈Λ,l.s≠d:=λ l hl=>by
  have:=qd.1 hΛ l hl
  simpa using this
 obtain ⟨W1,hW1⟩:∃ W1,w.alloc (.cells z.cells T)=W1:=⟨_,rfl⟩
 have hg1:Grow w W1:=by rw [← hW1]; exact Grow.alloc _ _
 have hnew:W1.heap[w.heap.size]?=some (.cells z.cells T (0,0)):=by rw [← hW1]; exact heap_alloc_new w _
 rw [wpOpsIn_cons]
 refine fy hnd hQ0 (bu (R:=⟨ops,N,Γ,[],[],λ _=>[]⟩) ho1 G (aY (w':=W1) (v:=ptr w.heap.size) ?_ ?_))
 ·rw [← hW1]; simp [execOp,Instr.alloc,zeroValue,typeInfo,z1,z2,newVar,newRow,ptr]
 obtain ⟨a1,ha1⟩:∃ a1,a.put (some d) (ptr w.heap.size)=a1:=⟨_,rfl⟩
 have ed:a1.eval (.tmp d)=ptr w.heap.size:=by rw [← ha1]; exact aM _ _ _ hds
 have eo:∀ t,t≠d→a1.eval (.tmp t)=a.eval (.tmp t):=λ t ht=>by rw [← ha1]; exact aq _ _ _ _ ht
 have ef:a1.defers=a.defers:=by rw [← ha1]; rfl
 have es:a1.tmps.size=N:=by rw [← ha1,size_put]; exact h.size
 rw [ha1]
 have l2:z.cells.size=A0.n:=by simpa using l0
 have hrun:=bM ht W1 w.heap.size 0 T z.cells _ cs (A.cells_shape hp) l1 zo (A.one _ _ _ hp) hnew
 rw [q9 (by simp; omega)] at hrun
 simp only [jQ,xb,zj] at hrun
 have hW:=Wr.setRow W1 w.heap.size cs.toArray
 have hcell:(W1.setRow w.heap.size cs.toArray).heap[w.heap.size]?=some (.cells cs.toArray T (0,0)):=setRow_heap W1 _ _ _ _ _ hnew
 have hgr:Grow w (W1.setRow w.heap.size cs.toArray):=Kept.grow0 ((hg1.kept).wr hW (.inl (qi _)))
 rw [wpOpsIn_cons]
 refine fy hnd hQ0 ?_
 have U:wpOpsIn (fw o) 0 P ops Q rest a1 (W1.setRow w.heap.size cs.toArray):=by
  refine hK _ _ ⟨h.lo,?_,es,h.base.grow hgr,λ y hy=>?_,λ m hm=>?_,λ m hm m' hm' hne=>?_⟩
  ·exact h.defers.grow hgr ef
  ·obtain ⟨k,hk1,hk2⟩:=qQ.1 hy
   have:=qd.1 hsrc k hk1
   rw [hk2] at this
   rw [eo _ (by simpa using this)]
   exact y.2.grow _ _ _ _ hgr (h.vals y (qa hk2))
  ·rcases qo.1 hm with hm | hm
   ·obtain ⟨g,c,q1,q2,q3,q4⟩:=h.locs m hm
    exact ⟨g,c,by rw [eo _ (hΛ' m hm)]; exact q1,q2,hgr.heap q3,m.A.grow _ _ _ _ hgr q4⟩
   ·obtain rfl:=qn.1 hm
    exact ⟨w.heap.size,cs,ed,.inl h.base.size,hcell,A.grow _ _ _ _ hgr hp⟩
  ·have hnm:∀ m∈Λ,∃ g,blk (a1.eval (.tmp m.s))=some g∧g<w.heap.size:=λ m hm=>by
    obtain ⟨g,c,q1,q2,q3,q4⟩:=h.locs m hm
    exact ⟨g,by rw [eo _ (hΛ' m hm),q1]; exact m.H.ok g,(Array.getElem?_eq_some_iff.1 q3).1⟩
   have hd0:blk (a1.eval (.tmp d))=some w.heap.size:=by rw [ed]; rfl
   rcases qo.1 hm with hm | hm <;> rcases qo.1 hm' with hm' | hm'
   ·rw [eo _ (hΛ' m hm),eo _ (hΛ' m' hm')]
    exact h.dis m hm m' hm' hne
   ·obtain rfl:=qn.1 hm'
    obtain ⟨g,q1,q2⟩:=hnm m hm
    rw [q1,hd0]
    intro e
    injection e with e
    omega
   ·obtain rfl:=qn.1 hm
    obtain ⟨g,q1,q2⟩:=hnm m' hm'
    rw [q1,hd0]
    intro e
    injection e with e
    omega
   ·obtain rfl:=qn.1 hm
    obtain rfl:=qn.1 hm'
    exact absurd G hne
 unfold wpOp
 rw [ho2]
 have hwant:Region.wanted (⟨none,.store ty (.tmp d) (.tmp x),T2,ps2,af2,none⟩:Oper) (yielded ops a1.tmps)=true:=rfl
 simp only [hwant,if_true]
 refine .inl (wp_skip' (w':=W1.setRow w.heap.size cs.toArray) ?_ U)
 have e2:a1.eval (.tmp x)=shape A.ag cs:=by rw [eo _ hdx']; exact hv'
 have e1:a1.eval (.tmp d)=.pointer (some ⟨w.heap.size,0,none⟩):=ed
 simp [execOp,e1,e2,Instr.storeAt,Instr.sureAddr,hrun]
theorem rY {id:Nat}{ops:Array Oper}{o:Option Nat}{d x:Nat}{T ty T1 T2:TypeId}{A0 A:As}{ps1 ps2:String}{af1 af2:Array Edge}(kx:Nat)(src:List Nat)(h:St B w0 N Γ Λ a w)(hsz:ops.size=2)
  (ho1:ops[0]?=some ⟨some d,.alloc T,T1,ps1,af1,none⟩) (ho2:ops[0+1]?=some ⟨none,.store ty (.tmp d) (.tmp x),T2,ps2,af2,none⟩) (hnd:noDefer ops=true) (hQ0:¬ LetsOut Q)
  (hz:Zero P T A0) (hx:Γ[kx]?=some (x,A.va)) (ht:Ty P ty A.n A.ag) (hn:A0.n=A.n) (hd:d<N) (hdx:(d != x)=true)
  (hsrc:src.all (λ k=>match Γ[k]? with | some y=>y.1 != d | none=>false)=true) (hΛ:Λ.all (λ l=>l.s != d)=true)
  (hQ:∀ a' w',St B w0 N (src.filterMap λ k=>Γ[k]?) (Λ++[⟨d,T,ptrH,A⟩]) a' w'→Q .normal a' w'):(Code.region id ops false).wpIn (fw o) 0 P Q a w:=by
 refine wpIn_region ?_
 rw [hsz]
 exact op_new kx src ho1 ho2 hnd hQ0 h hz hx ht hn hd hdx hsrc hΛ λ a' w' U=>hQ _ _ U
end
section
open Rg
variable {P:Program} {Q:Exit→Act→World→Prop} {B N:Nat} {w0:Bs} {Γ:List (Nat × VA)} {Λ:List Lc} {a:Act} {w:World}
theorem iX {R:Rg}{n:Nat}(hles:∀ l'∈Λ,∃ st,(⟨l'.s,l'.T,l'.H,none,l'.A,st⟩:Le)∈R.les)(hles2:∀ y∈R.les,∀ i A,y.st=some (i,A)→n≤i)(hinv:R.Inv B w0 (λ k=>decide (k<n)) a w)(src:List Src)
  (hsrc:src.all (λ s=>match s with | .g k=>(match R.Γ[k]? with | some x=>Rg.outG R x.1 | none=>false) | .o i=>decide (i<n))=true):St B w0 R.N (src.filterMap (takeS R)) Λ a w:=by
 have hcl:∀ deps,Rg.clash R (λ k=>decide (k<n)) deps=false:=λ deps=>by
  unfold Rg.clash
  rw [xh]
  intro y hy
  cases U:y.st with
  | none=>simp
  | some x =>
   obtain ⟨i,B'⟩:=x
   have:=hles2 y hy i B' U
   have hno:¬ i<n:=by omega
   simp [hno]
 have hcur:∀ y∈R.les,y.cr=none→Rg.cur (λ k=>decide (k<n)) y=some y.A0:=λ y hy h0=>by
  unfold Rg.cur
  rw [h0]
  simp only [Rg.crOk,if_true]
  cases U:y.st with
  | none=>rfl
  | some x =>
   obtain ⟨i,B'⟩:=x
   have:=hles2 y hy i B' U
   have hno:¬ i<n:=by omega
   simp [hno]
 refine ⟨hinv.lo,hinv.defers,hinv.size,hinv.base,λ x hx=>?_,λ l' hl'=>?_,λ l1 h1 l2 h2 hne=>?_⟩
 rotate_left
 ·obtain ⟨st,hy⟩:=hles l' hl'
  exact hinv.c _ hy l'.A (hcur _ hy G)
 ·obtain ⟨s1,hy1⟩:=hles l1 h1
  obtain ⟨s2,hy2⟩:=hles l2 h2
  exact hinv.x _ hy1 _ hy2 hne (by rw [hcur _ hy1 rfl]; rfl) (by rw [hcur _ hy2 rfl]; rfl)
 obtain ⟨s,hs1,hs2⟩:=qQ.1 hx
 have ho:=qd.1 hsrc s hs1
 cases s with
 | g k =>
  simp only [takeS] at hs2
  simp only [hs2] at ho
  refine hinv.g x (qa hs2) (λ q hq hdq=>?_) (hcl _)
  cases h2:R.ops[q]? with
  | none=>unfold Rg.dst at hdq; rw [h2] at hdq; cases hdq
  | some v =>
   have:=qd.1 ho q (by simpa using (Array.getElem?_eq_some_iff.1 h2).1)
   exact absurd hdq (by simpa using this)
 | o i =>
  simp only [takeS] at hs2
  cases hy:R.sp[i]? with
  | none=>rw [hy] at hs2; cases hs2
  | some y =>
   rw [hy] at hs2
   exact hinv.v i y x.1 x.2 hy hs2 ho (hcl _)
theorem AK (w:World)(base:Nat)(t ty e:TypeId)(i:TypeInfo)(z:Value)(size bytes:Nat)(ht:P.underlying t=some (.slice e))(hi:P.info? e=some i)(hz:i.zero=some z)
  (hsize:i.size=size) (hby:i.bytes=bytes) (hzs:z.cells.size=size) (hsz:0<size) (v:Value) (n:Nat) (xs:List Value) (hown:w.ownsRow base e size v n xs)
  (a:Addr) (c:Nat) (news:List Value) (hl:news.length=1*size) (hnews:∀ j u,news[j]?=some u→w.cell? (a.add j)=some u) (h1:∀ u∈news,u.oneCell'=true)
  (h63:n+1≤maxLen) (hbytes:(n+1)*bytes≤140737488355328) (hbase:base≤w.heap.size) :
  ∃ v' w',(Builtin.append_ #[t,t] ty #[v,.slice (some a) 1 c]).run P w=.ok v' w'∧w'.ownsRow base e size v' (n+1) (xs++news)∧w.grownBy w' v.ownBlock∧(v'.ownBlock=v.ownBlock∨(v'.ownBlock=some w.heap.size∧w.grownBy w' none)):=by
 obtain ⟨v',w',hr,r1,r2,_,r3⟩:=run_append_own_at (P:=P) w base t ty e i z size bytes ht hi hz hsize hby hzs hsz v n xs hown a 1 c news hl hnews h1 h63 hbytes hbase
 refine ⟨v',w',hr,r1,r2,?_⟩
 rcases r3 with r3 | r3
 ·exact .inl r3
 ·have hcases:=hown.2
  rcases hcases with ⟨rfl,_⟩ | ⟨g,cap,cur,rfl,hbg,hg,hnc,hcm,hcs,htake⟩
  ·exact .inr ⟨r3,r2⟩
  ·by_cases hroom:n+1≤cap
   ·obtain ⟨w2,hr2,_⟩:=run_append_own_spare (P:=P) w base t ty e i size ht hi hsize g n cap xs hown a 1 c news hl hnews h1 hroom
    rw [hr2] at hr
    injection hr with hr
    subst hr
    exact .inl rfl
   ·subst hsize
    have holds:∀ j u,xs[j]?=some u→w.cell? ((⟨g,0,none⟩:Addr).add j)=some u:=hown.cells (g:=g) rfl
    have hr2:=run_append_grow (P:=P) w t ty e i z ht hi hz ⟨g,0,none⟩ n cap xs hown.1 holds a 1 c news hl hnews zo (by unfold maxLen at h63; omega) (growslice_fits zo (by rw [hby]; exact hbytes))
    rw [hr2] at hr
    injection hr with hr hr'
    subst hr'
    exact .inr ⟨r3,rfl,rfl,rfl,by simp,λ k hk _=>by first | exact Go.heap_alloc_old w.drew _ k hk | exact heap_alloc_old w.drew _ hk⟩
theorem ir {id:Nat}{ops:Array Oper}{sp:List Sp}(anc:List (List Nat))(n m e j:Nat)(A:As)(src:List Src)(hmx:P.follows .mixedOrders=true)
  (h:St B w0 N Γ Λ a w) (hob:Obs P Q ⟨ops,N,Γ,lesS Λ e j A,sp,λ i=>anc.getD i []⟩ B w0 0 n) (hsz:ops.size=n+m) (hm:0<m) (hj:n≤j) (hanc:Rg.ancOk ⟨ops,N,Γ,lesS Λ e j A,sp,λ i=>anc.getD i []⟩=true) (hall:∀ i,n≤i→i<n+m→∀ j,j<i→(anc.getD i []).contains j=true) (hk:Rg.chk ⟨ops,N,Γ,lesS Λ e j A,sp,λ i=>anc.getD i []⟩=true)
  (hsrc:src.all (λ s=>match s with | .g k=>(match Γ[k]? with | some x=>Rg.outG ⟨ops,N,Γ,lesS Λ e j A,sp,λ i=>anc.getD i []⟩ x.1 | none=>false) | .o i=>decide (i<n))=true)
  (hQ:∀ a' w',St B w0 N (src.filterMap (takeS ⟨ops,N,Γ,lesS Λ e j A,sp,λ i=>anc.getD i []⟩)) Λ a' w'→wpOps P ops Q (List.range' n m) a' w'):(Code.region id ops true).wp P Q a w:=by
 refine Rg.drawK (R:=⟨ops,N,Γ,lesS Λ e j A,sp,λ i=>anc.getD i []⟩) (m:=m) hsz hm hmx hanc hk h (λ y hy _=>?_) (λ i hi=>hob.all i zo zo) (λ i h1 h2 j hj=>hall i h1 h2 j hj) λ a1 w1 hinv=>?_
 ·exact (ej y hy).2.1
 ·exact hQ a1 w1 (iX (λ l' hl'=>by
   obtain ⟨j',hj'⟩:=List.getElem?_of_mem hl'
   exact ⟨_,qq.2 ⟨(l',j'),qZ.2 hj',rfl⟩⟩) (λ y hy i B' h1=>by have:=(ej y hy).2.2 i B' h1; omega) hinv src hsrc)
theorem cc {id:Nat}{ops:Array Oper}{sp:List Sp}(n m e j:Nat)(A:As)(src:List Src)
  (h:St B w0 N Γ Λ a w) (hob:Obs P Q ⟨ops,N,Γ,lesS Λ e j A,sp,λ i=>List.range i⟩ B w0 0 n) (hsz:ops.size=n+m) (hj:n≤j) (hk:Rg.chk ⟨ops,N,Γ,lesS Λ e j A,sp,λ i=>List.range i⟩=true)
  (hsrc:src.all (λ s=>match s with | .g k=>(match Γ[k]? with | some x=>Rg.outG ⟨ops,N,Γ,lesS Λ e j A,sp,λ i=>List.range i⟩ x.1 | none=>false) | .o i=>decide (i<n))=true)
  (hQ:∀ a' w',St B w0 N (src.filterMap (takeS ⟨ops,N,Γ,lesS Λ e j A,sp,λ i=>List.range i⟩)) Λ a' w'→wpOps P ops Q (List.range' n m) a' w'):(Code.region id ops false).wp P Q a w:=by
 refine Rg.linK (R:=⟨ops,N,Γ,lesS Λ e j A,sp,λ i=>List.range i⟩) (m:=m) hsz G hk h (λ y hy _=>?_) (λ i hi=>hob.all i zo zo) λ a1 w1 hinv=>?_
 ·exact (ej y hy).2.1
 ·exact hQ a1 w1 (iX (λ l' hl'=>by
   obtain ⟨j',hj'⟩:=List.getElem?_of_mem hl'
   exact ⟨_,qq.2 ⟨(l',j'),qZ.2 hj',rfl⟩⟩) (λ y hy i B' h1=>by have:=(ej y hy).2.2 i B' h1; omega) hinv src hsrc)
theorem St.addV {d:Nat}{A:VA}(h:St B w0 N Γ Λ a w)(hd:d<N)(hΓ:Γ.all (λ x=>x.1 != d)=true)(hΛ:Λ.all (λ l=>l.s != d)=true)(hA:A.p B v w):St B w0 N ((d,A)::Γ) Λ (a.put (some d) v) w:=by
 have hdsz:d<a.tmps.size:=by rw [h.size]; exact hd
 have hl:∀ l∈Λ,l.s≠d:=λ l hl=>by simpa using qd.1 hΛ l hl
 refine ⟨h.lo,h.defers.keep G λ _ hD=>hD,by rw [size_put]; exact h.size,h.base,λ x hx=>?_,λ l hl'=>?_,λ l1 h1 l2 h2 hne=>?_⟩
 ·rcases qt.1 hx with rfl | hx
  ·show A.p B ((a.put (some d) v).eval (.tmp d)) w
   rw [aM _ _ _ hdsz]
   exact hA
  ·have:x.1≠d:=by simpa using qd.1 hΓ x hx
   rw [aq _ _ _ _ this]
   exact h.vals x hx
 ·exact (h.locs l hl').eval (aq _ _ _ _ (hl l hl'))
 ·rw [aq _ _ _ _ (hl l1 h1),aq _ _ _ _ (hl l2 h2)]
  exact h.dis l1 h1 l2 h2 hne
variable {ops:Array Oper} {i:Nat} {K:Act→World→Prop}
theorem ia {d:Nat}{op:Op}{T':TypeId}{A:VA}(ho:ops[i]?=some ⟨some d,op,T',ps,af,none⟩)(h:St B w0 N Γ Λ a w)(hd:d<N)(hΓ:Γ.all (λ x=>x.1 != d)=true)(hΛ:Λ.all (λ l=>l.s != d)=true)
  (hr:(execOp a.eval ⟨some d,op,T',ps,af,none⟩).run P w=.ok (.value v) w) (hA:A.p B v w) (hK:St B w0 N ((d,A)::Γ) Λ (a.put (some d) v) w→K (a.put (some d) v) w):wpOp P ops Q i K a w:=by
 unfold wpOp
 simp only [ho,Region.wanted,if_true]
 exact .inl (aY hr (hK (h.addV hd hΓ hΛ hA)))
theorem ph {d u y:Nat}{S E:TypeId}{T':TypeId}{g n c k m:Nat}{kd:IntKind}(ku ky:Nat)(ho:ops[i]?=some ⟨some d,.indexAddr S (.tmp u) (.tmp y),T',ps,af,none⟩)(h:St B w0 N Γ Λ a w)(hS:Sl P S E m)(hm:m≠0)
  (hu:Γ[ku]?=some (u,EqV (.slice (some ⟨g,0,none⟩) n c))) (hy:Γ[ky]?=some (y,(NumA kd k).va)) (hk:k<n) (hd:d<N) (hΓ:Γ.all (λ x=>x.1 != d)=true) (hΛ:Λ.all (λ l=>l.s != d)=true)
  (hK:∀ a',St B w0 N ((d,EqV (.pointer (some ⟨g,k*m,none⟩)))::Γ) Λ a' w→K a' w):wpOp P ops Q i K a w:=by
 have h3:a.eval (.tmp u)=.slice (some ⟨g,0,none⟩) n c:=h.vals _ (qa hu)
 have e:=bh (h.vals _ (qa hy))
 obtain ⟨hs1,hs2⟩:=hS
 refine ia (A:=EqV (.pointer (some ⟨g,k*m,none⟩))) ho h hd hΓ hΛ ?_ G (hK _)
 cases hi:P.info? E with
 | none=>rw [hi] at hs2; simp at hs2
 | some it =>
  rw [hi] at hs2
  have hsz:it.size=m:=by simpa using hs2
  by_cases h0:k=0
  ·subst h0; simp [execOp,h3,e,Instr.indexAt,asIntOf,run_underlying hs1,hk,sizeOf,typeInfo,hi,Addr.add]
  ·have:k*m≠0:=Nat.mul_ne_zero h0 hm
   simp [execOp,h3,e,Instr.indexAt,asIntOf,run_underlying hs1,hk,sizeOf,typeInfo,hi,hsz,Addr.add,h0,hm]
   try exact this
theorem w9 {d u:Nat}{T':TypeId}{g o:Nat}(ku:Nat)(ho:ops[i]?=some ⟨some d,.nilCheck (.tmp u),T',ps,af,none⟩)(h:St B w0 N Γ Λ a w)
  (hu:Γ[ku]?=some (u,EqV (.pointer (some ⟨g,o,none⟩)))) (hd:d<N) (hΓ:Γ.all (λ x=>x.1 != d)=true) (hΛ:Λ.all (λ l=>l.s != d)=true)
  (hK:∀ a',St B w0 N ((d,EqV (.pointer (some ⟨g,o,none⟩)))::Γ) Λ a' w→K a' w):wpOp P ops Q i K a w:=by
 have h3:a.eval (.tmp u)=.pointer (some ⟨g,o,none⟩):=h.vals _ (qa hu)
 exact ia (A:=EqV (.pointer (some ⟨g,o,none⟩))) ho h hd hΓ hΛ (by simp [execOp,h3]) G (hK _)
theorem iU {d u f k n:Nat}{T T':TypeId}{g o:Nat}(ku:Nat)(ho:ops[i]?=some ⟨some d,.fieldAddr T (.tmp u) f,T',ps,af,none⟩)(h:St B w0 N Γ Λ a w)(hf:Fld P T f k n)
  (hu:Γ[ku]?=some (u,EqV (.pointer (some ⟨g,o,none⟩)))) (hd:d<N) (hΓ:Γ.all (λ x=>x.1 != d)=true) (hΛ:Λ.all (λ l=>l.s != d)=true)
  (hK:∀ a',St B w0 N ((d,EqV (.pointer (some ⟨g,o+k,none⟩)))::Γ) Λ a' w→K a' w):wpOp P ops Q i K a w:=by
 have h3:a.eval (.tmp u)=.pointer (some ⟨g,o,none⟩):=h.vals _ (qa hu)
 exact ia (A:=EqV (.pointer (some ⟨g,o+k,none⟩))) ho h hd hΓ hΛ (by simp [execOp,h3,dq hf]) G (hK _)
theorem pi {d u:Nat}{T':TypeId}{A:VA}(ku:Nat)(ho:ops[i]?=some ⟨some d,.assign (.tmp u),T',ps,af,none⟩)(h:St B w0 N Γ Λ a w)
  (hu:Γ[ku]?=some (u,A)) (hd:d<N) (hΓ:Γ.all (λ x=>x.1 != d)=true) (hΛ:Λ.all (λ l=>l.s != d)=true)
  (hK:∀ a',St B w0 N ((d,A)::Γ) Λ a' w→K a' w):wpOp P ops Q i K a w :=
 ia (A:=A) (v:=a.eval (.tmp u)) ho h hd hΓ hΛ (by simp [execOp]) (h.vals _ (qa hu)) (hK _)
theorem St.turnB {b:Nat}(hbB:B≤b){E sx:Nat}{A0 A1:As}{row:Option Nat}(src:List Nat)(e:Nat)(h:St B w0 N Γ Λ a w)(hg:w.grownBy w' row)(hr:RowOk w b E row)(hrm:RowMay w0 b E)(hl:Λ[e]?=some ⟨sx,T,H,A0⟩)(hTE:(T != E)=true)
  (hsrc:src.all (λ k=>match Γ[k]? with | some y => !y.2.deps.contains E | none=>false)=true) (hΛ:Λ.zipIdx.all (λ x=>x.2==e || (x.1.T != E && !x.1.A.deps.contains E))=true)
  (htr:∀ cs,A0.p B cs w→A1.p B cs w'):St B w0 N (src.filterMap λ k=>Γ[k]?) (Λ.set e ⟨sx,T,H,A1⟩) a w':=by
 have hrow:∀ {g:Nat} {c:Array Value} {T':TypeId} {fz:Nat × Nat},w.heap[g]?=some (.cells c T' fz)→T'≠E→w'.heap[g]?=some (.cells c T' fz):=λ {g c T' fz} hg1 hne =>
  (hg.block g (Array.getElem?_eq_some_iff.1 hg1).1 (λ e5=>by
   obtain ⟨_,c',fz',e6⟩:=hr g e5.symm
   rw [hg1] at e6
   injection e6 with e6
   injection e6 with _ e6 _
   exact hne e6)).trans hg1
 refine ⟨h.lo,h.defers.grown hg hr rfl,h.size,⟨hg.os.trans h.base.os,hg.tape.trans h.base.tape,hg.output.trans h.base.output,qe h.base.size hg.size,λ k hk hf=>?_⟩,λ y hy=>?_,λ m' hm'=>?_,λ m1 hm1 m2 hm2 hne=>?_⟩
 ·refine (hg.block k (qE hk h.base.size) (λ e=>?_)).trans (h.base.block k hk hf)
  obtain ⟨q1,c,fz,q2⟩:=hr k e.symm
  rcases hrm w k c fz h.base q1 q2 with q3 | q3
  ·omega
  ·exact hf q3
 ·obtain ⟨k,hk1,hk2⟩:=qQ.1 hy
  have hs:=qd.1 hsrc k hk1
  simp only [hk2,qv,qx,qk] at hs
  exact VA.grown (h.vals y (qa hk2)) hg hr hbB hs
 ·obtain ⟨j,hj⟩:=List.getElem?_of_mem hm'
  by_cases e1:j=e
  ·subst e1
   have:m'=⟨sx,T,H,A1⟩:=by
    rw [List.getElem?_set_self (List.getElem?_eq_some_iff.1 hl).1] at hj
    injection hj with hj
    exact hj.symm
   subst this
   obtain ⟨g,cs,q1,q2,q3,q4⟩:=h.locs _ (qa hl)
   exact ⟨g,cs,q1,q2,hrow q3 (by simpa using hTE),htr cs q4⟩
  ·rw [List.getElem?_set_ne (λ e2=>e1 e2.symm)] at hj
   have hc:=qd.1 hΛ (m',j) (qZ.2 hj)
   simp only [zw,xc,ql,bne_iff_ne,qv,qx,qk] at hc
   have hc':=hc.resolve_left e1
   obtain ⟨g,cs,q1,q2,q3,q4⟩:=h.locs m' (qa hj)
   exact ⟨g,cs,q1,q2,hrow q3 hc'.1,As.grown q4 hg hr hbB hc'.2⟩
 ·have hs:∀ m∈Λ.set e ⟨sx,T,H,A1⟩,∃ m0∈Λ,m0.s=m.s:=λ m hm=>by
   rcases qy hm with hm | rfl
   ·exact ⟨m,hm,rfl⟩
   ·exact ⟨_,qa hl,rfl⟩
  obtain ⟨m3,q1,q2⟩:=hs m1 hm1
  obtain ⟨m4,q3,q4⟩:=hs m2 hm2
  rw [← q2,← q4] at hne ⊢
  exact h.dis m3 q1 m4 q3 hne
theorem St.turn {E sx:Nat}{A0 A1:As}{row:Option Nat}(src:List Nat)(e:Nat)(h:St B w0 N Γ Λ a w)(hg:w.grownBy w' row)(hr:RowOk w B E row)(hrm:RowMay w0 B E)(hl:Λ[e]?=some ⟨sx,T,H,A0⟩)(hTE:(T != E)=true)
  (hsrc:src.all (λ k=>match Γ[k]? with | some y => !y.2.deps.contains E | none=>false)=true) (hΛ:Λ.zipIdx.all (λ x=>x.2==e || (x.1.T != E && !x.1.A.deps.contains E))=true)
  (htr:∀ cs,A0.p B cs w→A1.p B cs w'):St B w0 N (src.filterMap λ k=>Γ[k]?) (Λ.set e ⟨sx,T,H,A1⟩) a w':=St.turnB (qi B) src e h hg hr hrm hl hTE hsrc hΛ htr
theorem wU {g:Nat}{cs:Array Value}:w.grownBy (w.setRow g cs) (some g):=⟨rfl,rfl,rfl,by simp,λ k _ hk=>setRow_other w g k cs (λ e=>hk (by rw [e]))⟩
theorem w8 {p d g k sx:Nat}{E ty T T':TypeId}{A0 A1:As}(src:List Nat)(kp kd e:Nat)(ho:ops[i]?=some ⟨none,.store ty (.tmp p) (.tmp d),T',ps,af,none⟩)(h:St B w0 N Γ Λ a w)
  (hp:Γ[kp]?=some (p,EqV (.pointer (some ⟨g,k,none⟩)))) (hd:Γ[kd]?=some (d,EqV v)) (hv1:v.oneCell'=true) (hvc:v.cells = #[v]) (ht:Ty P ty 1 false) (hl:Λ[e]?=some ⟨sx,T,H,A0⟩) (hTE:(T != E)=true) (hrm:RowMay w0 B E)
  (hsrc:src.all (λ k=>match Γ[k]? with | some y => !y.2.deps.contains E | none=>false)=true) (hΛ:Λ.zipIdx.all (λ x=>x.2==e || (x.1.T != E && !x.1.A.deps.contains E))=true)
  (htr:∀ cs,A0.p B cs w→B≤g∧∃ c:Array Value,w.heap[g]?=some (.cells c E (0,0))∧k<c.size∧A1.p B cs (w.setRow g (c.setIfInBounds k v)))
  (hK:∀ w',St B w0 N (src.filterMap λ k=>Γ[k]?) (Λ.set e ⟨sx,T,H,A1⟩) a w'→K (a.put none undef) w'):wpOp P ops Q i K a w:=by
 have e1:a.eval (.tmp p)=.pointer (some ⟨g,k,none⟩):=h.vals _ (qa hp)
 have e2:a.eval (.tmp d)=v:=h.vals _ (qa hd)
 obtain ⟨g0,cs0,q1,q2,q3,q4⟩:=h.locs _ (qa hl)
 obtain ⟨hB,c,hc,hkc,_⟩:=htr cs0 q4
 have hrun:=bM ht w g k E c v [v] hvc rfl zo (by simpa using hv1) hc
 have e3:(c.toList.take k++[v]++c.toList.drop (k+1)).toArray=c.setIfInBounds k v:=by
  apply Array.ext'
  rw [js,xv,qz (by simpa using hkc)]
  simp
 rw [e3] at hrun
 unfold wpOp
 simp only [ho,Region.wanted,if_true]
 refine .inl (wp_skip' (w':=w.setRow g (c.setIfInBounds k v)) ?_ (hK _ (h.turn src e wU (λ g' e=>?_) hrm hl hTE hsrc hΛ λ cs hp=>?_)))
 ·simp [execOp,e1,e2,Instr.storeAt,Instr.sureAddr,hrun]
 ·injection e with e
  subst e
  exact ⟨hB,_,_,hc⟩
 ·obtain ⟨_,c',hc',_,h5⟩:=htr cs hp
  rw [hc] at hc'
  injection hc' with hc'
  injection hc' with hc'
  subst hc'
  exact h5
theorem rK {b:Nat}(hbB:B≤b)(hb0:b≤w0.w.heap.size){d s u sx:Nat}{S E T1 T:TypeId}{A0:As}{X:As}{xs:List Value}{n m bytes:Nat}{D':List TypeId}{it:TypeInfo}{z:Value}(A1:Value→As)(F:List Value→Prop)(src:List Nat)(ks ku e:Nat)
  (ho:ops[i]?=some ⟨some d,.call ⟨.builtin .append,#[.tmp s,.tmp u],#[S,S]⟩,T1,ps,af,none⟩) (h:St B w0 N Γ Λ a w)
  (hs:Γ[ks]?=some (s,EqV v)) (hu:Γ[ku]?=some (u,(SlA E D' [X]).va)) (hX:∀ ds,X.p B ds w→F ds) (hXn:X.n=m) (hl:Λ[e]?=some ⟨sx,T,H,A0⟩) (hTE:(T != E)=true) (hrm:RowMay w0 b E)
  (hS:P.underlying S=some (.slice E)) (hi:P.info? E=some it) (hz:it.zero=some z) (hsz1:it.size=m) (hby:it.bytes=bytes) (hzs:z.cells.size=m) (hm0:0<m) (hn:(n+1)*bytes≤140737488355328) (hn2:n≤1000000000000000)
  (hd:d<N) (hΓ:Γ.all (λ x=>x.1 != d)=true) (hΛd:Λ.all (λ l=>l.s != d)=true)
  (hsrc:src.all (λ k=>match Γ[k]? with | some y => !y.2.deps.contains E | none=>false)=true) (hΛ:Λ.zipIdx.all (λ x=>x.2==e || (x.1.T != E && !x.1.A.deps.contains E))=true)
  (htr:∀ cs,A0.p B cs w→w.ownsRow b E m v n xs∧∀ v' w' ds,F ds→w'.ownsRow b E m v' (n+1) (xs++ds)→w.grownBy w' v.ownBlock→(v'.ownBlock=v.ownBlock∨(v'.ownBlock=some w.heap.size∧w.grownBy w' none))→(A1 v').p B cs w')
  (hK:∀ v' w',St B w0 N ((d,EqV v')::src.filterMap λ k=>Γ[k]?) (Λ.set e ⟨sx,T,H,A1 v'⟩) (a.put (some d) v') w'→K (a.put (some d) v') w'):wpOp P ops Q i K a w:=by
 have e1:a.eval (.tmp s)=v:=h.vals _ (qa hs)
 obtain ⟨cs1,⟨_,Ad,cap,ds,rfl,_,_,h5,h6⟩,hu'⟩:=h.vals _ (qa hu)
 have e2:a.eval (.tmp u)=.slice Ad 1 cap:=hu'
 obtain ⟨g1,o1,rfl,_,_,h8⟩:=h6 (by simp)
 obtain ⟨g0,cs0,q1,q2,q3,q4⟩:=h.locs _ (qa hl)
 obtain ⟨hown,hnext⟩:=htr cs0 q4
 obtain ⟨ps1,e3,hps⟩:=h5
 have hx1:X.p B ds w:=by
  cases hps with
  | cons h1 h2 =>
   cases h2
   rw [e3]
   simpa using h1
 have hdl:ds.length=1*m:=by rw [X.len _ _ _ hx1,hXn,jO]
 have hBw:b≤w.heap.size:=qe hb0 h.base.size
 obtain ⟨v',w',hr,r1,r2,r3⟩:=AK (P:=P) w b S T1 E it z m bytes hS hi hz hsz1 hby hzs hm0 v n xs hown ⟨g1,o1,none⟩ cap ds hdl (λ j u hu=>by rw [r8]; exact h8 j u hu) (X.one _ _ _ hx1) (by unfold maxLen; omega) hn hBw
 have hro:RowOk w b E v.ownBlock:=mu hown
 have U:=(St.turnB (A1:=A1 v') hbB src e h r2 hro hrm hl hTE hsrc hΛ λ cs hp=>(htr cs hp).2 v' w' ds (hX ds hx1) r1 r2 r3)
 have hst2:=U.addV (d:=d) (v:=v') (A:=EqV v') hd (qd.2 λ x hx=>by
  obtain ⟨k,hk1,hk2⟩:=qQ.1 hx
  exact qd.1 hΓ x (qa hk2)) (qd.2 λ l hl'=>by
  rcases qy hl' with hl' | rfl
  ·exact qd.1 hΛd l hl'
  ·exact qd.1 hΛd (⟨sx,T,H,A0⟩:Lc) (qa hl)) rfl
 unfold wpOp
 simp only [ho,Region.wanted,if_true]
 refine .inl (aY (w':=w') (v:=v') ?_ (hK v' w' hst2))
 simp only [execOp,resolve,invoke,builtin,Sem.run_bind,Sem.run_pure,Result.andThen_ok,jE,qN,x7,e1,e2,hr]
theorem pj {d s u sx:Nat}{S E T1 T:TypeId}{A0:As}{X:As}{xs:List Value}{n m bytes:Nat}{D':List TypeId}{it:TypeInfo}{z:Value}(A1:Value→As)(F:List Value→Prop)(src:List Nat)(ks ku e:Nat)
  (ho:ops[i]?=some ⟨some d,.call ⟨.builtin .append,#[.tmp s,.tmp u],#[S,S]⟩,T1,ps,af,none⟩) (h:St B w0 N Γ Λ a w)
  (hs:Γ[ks]?=some (s,EqV v)) (hu:Γ[ku]?=some (u,(SlA E D' [X]).va)) (hX:∀ ds,X.p B ds w→F ds) (hXn:X.n=m) (hl:Λ[e]?=some ⟨sx,T,H,A0⟩) (hTE:(T != E)=true) (hrm:RowMay w0 B E)
  (hS:P.underlying S=some (.slice E)) (hi:P.info? E=some it) (hz:it.zero=some z) (hsz1:it.size=m) (hby:it.bytes=bytes) (hzs:z.cells.size=m) (hm0:0<m) (hn:(n+1)*bytes≤140737488355328) (hn2:n≤1000000000000000)
  (hd:d<N) (hΓ:Γ.all (λ x=>x.1 != d)=true) (hΛd:Λ.all (λ l=>l.s != d)=true)
  (hsrc:src.all (λ k=>match Γ[k]? with | some y => !y.2.deps.contains E | none=>false)=true) (hΛ:Λ.zipIdx.all (λ x=>x.2==e || (x.1.T != E && !x.1.A.deps.contains E))=true)
  (htr:∀ cs,A0.p B cs w→w.ownsRow B E m v n xs∧∀ v' w' ds,F ds→w'.ownsRow B E m v' (n+1) (xs++ds)→w.grownBy w' v.ownBlock→(v'.ownBlock=v.ownBlock∨(v'.ownBlock=some w.heap.size∧w.grownBy w' none))→(A1 v').p B cs w')
  (hK:∀ v' w',St B w0 N ((d,EqV v')::src.filterMap λ k=>Γ[k]?) (Λ.set e ⟨sx,T,H,A1 v'⟩) (a.put (some d) v') w'→K (a.put (some d) v') w'):wpOp P ops Q i K a w:=rK (qi B) (h.lo _ (.inl (qi _))) A1 F src ks ku e ho h hs hu hX hXn hl hTE hrm hS hi hz hsz1 hby hzs hm0 hn hn2 hd hΓ hΛd hsrc hΛ htr hK
theorem mx {p d g k sx:Nat}{ty T T':TypeId}{A0 A1:As}(src:List Nat)(kp kd ks e:Nat)(ho:ops[i]?=some ⟨none,.store ty (.tmp p) (.tmp d),T',ps,af,none⟩)(h:St B w0 N Γ Λ a w)
  (hp:Γ[kp]?=some (p,EqV (.pointer (some ⟨g,k,none⟩)))) (hd:Γ[kd]?=some (d,EqV v)) (hs:Γ[ks]?=some (sx,EqV (H.f g))) (hv1:v.oneCell'=true) (hvc:v.cells = #[v]) (ht:Ty P ty 1 false) (hl:Λ[e]?=some ⟨sx,T,H,A0⟩)
  (hsrc:src.all (λ k=>match Γ[k]? with | some y => !y.2.deps.contains T | none=>false)=true) (hΛ:Λ.zipIdx.all (λ x=>x.2==e || (x.1.s != sx && !x.1.A.deps.contains T))=true) (hT:A1.deps.contains T=false)
  (htr:∀ cs,A0.p B cs w→k<cs.length∧A1.p B (cs.set k v) w)
  (hK:∀ w',St B w0 N (src.filterMap λ k=>Γ[k]?) (Λ.set e ⟨sx,T,H,A1⟩) a w'→K (a.put none undef) w'):wpOp P ops Q i K a w:=by
 have e1:a.eval (.tmp p)=.pointer (some ⟨g,k,none⟩):=h.vals _ (qa hp)
 have e2:a.eval (.tmp d)=v:=h.vals _ (qa hd)
 have e0:a.eval (.tmp sx)=H.f g:=h.vals _ (qa hs)
 obtain ⟨g0,cs,q1,q2,q3,q4⟩:=h.locs _ (qa hl)
 have:g0=g:=by
  have:=qm blk (q1.symm.trans e0)
  rw [H.ok,H.ok] at this
  injection this
 subst this
 obtain ⟨hkc,hp1⟩:=htr cs q4
 have hrun:=bM ht w g0 k T cs.toArray v [v] hvc rfl (by simp; omega) (by simpa using hv1) q3
 have e3:(cs.take k++[v]++cs.drop (k+1))=cs.set k v:=by
  rw [xv,qz hkc]
  simp
 simp only [e3] at hrun
 have hW:=Wr.setRow w g0 (cs.set k v).toArray
 have hB:B≤g0:=h.lo g0 q2
 have hTn:T ∉ A1.deps:=by simpa using hT
 unfold wpOp
 simp only [ho,Region.wanted,if_true]
 refine .inl (wp_skip' (w':=w.setRow g0 (cs.set k v).toArray) ?_ (hK _ ⟨h.lo,h.defers.keep rfl λ D hD=>(hW.block D (λ e=>by subst e; rw [q3] at hD; cases hD)).trans hD,h.size,h.base.wr hW q2,λ x hx=>?_,λ m hm=>?_,λ m1 hm1 m2 hm2 hne=>?_⟩))
 ·simp [execOp,e1,e2,Instr.storeAt,Instr.sureAddr,hrun]
 ·obtain ⟨k',hk1,hk2⟩:=qQ.1 hx
  have:=qd.1 hsrc k' hk1
  simp only [hk2,qv,qx,qk] at this
  exact x.2.wr _ _ _ _ _ _ _ _ q3 this hB hW (h.vals x (qa hk2))
 ·obtain ⟨j,hj⟩:=List.getElem?_of_mem hm
  by_cases e5:j=e
  ·subst e5
   have:m=⟨sx,T,H,A1⟩:=by
    rw [List.getElem?_set_self (List.getElem?_eq_some_iff.1 hl).1] at hj
    injection hj with hj
    exact hj.symm
   subst this
   exact ⟨g0,cs.set k v,q1,q2,setRow_heap w g0 _ _ _ _ q3,A1.wr _ _ _ _ _ _ _ _ q3 hTn hB hW hp1⟩
  ·rw [List.getElem?_set_ne (λ e2=>e5 e2.symm)] at hj
   have hc:=qd.1 hΛ (m,j) (qZ.2 hj)
   simp only [zw,xc,ql,bne_iff_ne,qv,qx,qk] at hc
   have hc':=hc.resolve_left e5
   obtain ⟨g',cs2,p1,p2,p3,p4⟩:=h.locs m (qa hj)
   have hne:g'≠g0:=λ hh=>h.dis m (qa hj) _ (qa hl) hc'.1 (by rw [p1,q1,hh,m.H.ok,Hd.ok])
   exact ⟨g',cs2,p1,p2,(hW.block g' hne).trans p3,m.A.wr _ _ _ _ _ _ _ _ q3 hc'.2 hB hW p4⟩
 ·have hs:∀ m∈Λ.set e ⟨sx,T,H,A1⟩,∃ m0∈Λ,m0.s=m.s:=λ m hm=>by
   rcases qy hm with hm | rfl
   ·exact ⟨m,hm,rfl⟩
   ·exact ⟨_,qa hl,rfl⟩
  obtain ⟨m3,r1,r2⟩:=hs m1 hm1
  obtain ⟨m4,r3,r4⟩:=hs m2 hm2
  rw [← r2,← r4] at hne ⊢
  exact h.dis m3 r1 m4 r3 hne
end
section
open Rg
variable {P:Program} {Q:Exit→Act→World→Prop} {B N:Nat} {w0:Bs} {Γ:List (Nat × VA)} {Λ:List Lc} {a:Act} {w:World}
theorem my {ops:Array Oper}{i d x:Nat}{T ty T1 T2:TypeId}{A0 A:As}{ps1 ps2:String}{af1 af2:Array Edge}{rest:List Nat}(kx:Nat)(src:List Nat)
  (ho1:ops[i]?=some ⟨some d,.alloc T,T1,ps1,af1,none⟩) (ho2:ops[i+1]?=some ⟨none,.store ty (.tmp d) (.tmp x),T2,ps2,af2,none⟩)
  (h:St B w0 N Γ Λ a w) (hz:Zero P T A0) (hx:Γ[kx]?=some (x,A.va)) (ht:Ty P ty A.n A.ag) (hn:A0.n=A.n) (hd:d<N) (hdx:(d != x)=true)
  (hsrc:src.all (λ k=>match Γ[k]? with | some y=>y.1 != d | none=>false)=true) (hΛ:Λ.all (λ l=>l.s != d)=true)
  (hK:∀ a' w',St B w0 N (src.filterMap λ k=>Γ[k]?) (Λ++[⟨d,T,ptrH,A⟩]) a' w'→wpOps P ops Q rest a' w'):wpOps P ops Q (i::(i+1)::rest) a w:=by
 obtain ⟨it,z,z1,z2,z3⟩:=hz
 obtain ⟨cs,hp,hv⟩:=h.vals _ (qa hx)
 have hv':a.eval (.tmp x)=shape A.ag cs:=hv
 have l1:=A.len _ _ _ hp
 have l0:=A0.len _ _ _ (z3 B w)
 have hds:d<a.tmps.size:=by rw [h.size]; exact hd
 have hdx':x≠d:=λ e=>by subst e; simp at hdx
 have hΛ':∀ l∈Λ,l.s≠d:=λ l hl=>by
  have:=qd.1 hΛ l hl
  simpa using this
 obtain ⟨W1,hW1⟩:∃ W1,w.alloc (.cells z.cells T)=W1:=⟨_,rfl⟩
 have hg1:Grow w W1:=by rw [← hW1]; exact Grow.alloc _ _
 have hnew:W1.heap[w.heap.size]?=some (.cells z.cells T (0,0)):=by rw [← hW1]; exact heap_alloc_new w _
 rw [qA]
 refine (bu (R:=⟨ops,N,Γ,[],[],λ _=>[]⟩) ho1 G (aY (w':=W1) (v:=ptr w.heap.size) ?_ ?_))
 ·rw [← hW1]; simp [execOp,Instr.alloc,zeroValue,typeInfo,z1,z2,newVar,newRow,ptr]
 obtain ⟨a1,ha1⟩:∃ a1,a.put (some d) (ptr w.heap.size)=a1:=⟨_,rfl⟩
 have ed:a1.eval (.tmp d)=ptr w.heap.size:=by rw [← ha1]; exact aM _ _ _ hds
 have eo:∀ t,t≠d→a1.eval (.tmp t)=a.eval (.tmp t):=λ t ht=>by rw [← ha1]; exact aq _ _ _ _ ht
 have ef:a1.defers=a.defers:=by rw [← ha1]; rfl
 have es:a1.tmps.size=N:=by rw [← ha1,size_put]; exact h.size
 rw [ha1]
 have l2:z.cells.size=A0.n:=by simpa using l0
 have hrun:=bM ht W1 w.heap.size 0 T z.cells _ cs (A.cells_shape hp) l1 zo (A.one _ _ _ hp) hnew
 rw [q9 (by simp; omega)] at hrun
 simp only [jQ,xb,zj] at hrun
 have hW:=Wr.setRow W1 w.heap.size cs.toArray
 have hcell:(W1.setRow w.heap.size cs.toArray).heap[w.heap.size]?=some (.cells cs.toArray T (0,0)):=setRow_heap W1 _ _ _ _ _ hnew
 have hgr:Grow w (W1.setRow w.heap.size cs.toArray):=Kept.grow0 ((hg1.kept).wr hW (.inl (qi _)))
 rw [qA]
 have U:wpOps P ops Q rest a1 (W1.setRow w.heap.size cs.toArray):=by
  refine hK _ _ ⟨h.lo,?_,es,h.base.grow hgr,λ y hy=>?_,λ m hm=>?_,λ m hm m' hm' hne=>?_⟩
  ·exact h.defers.grow hgr ef
  ·obtain ⟨k,hk1,hk2⟩:=qQ.1 hy
   have:=qd.1 hsrc k hk1
   rw [hk2] at this
   rw [eo _ (by simpa using this)]
   exact y.2.grow _ _ _ _ hgr (h.vals y (qa hk2))
  ·rcases qo.1 hm with hm | hm
   ·obtain ⟨g,c,q1,q2,q3,q4⟩:=h.locs m hm
    exact ⟨g,c,by rw [eo _ (hΛ' m hm)]; exact q1,q2,hgr.heap q3,m.A.grow _ _ _ _ hgr q4⟩
   ·obtain rfl:=qn.1 hm
    exact ⟨w.heap.size,cs,ed,.inl h.base.size,hcell,A.grow _ _ _ _ hgr hp⟩
  ·have hnm:∀ m∈Λ,∃ g,blk (a1.eval (.tmp m.s))=some g∧g<w.heap.size:=λ m hm=>by
    obtain ⟨g,c,q1,q2,q3,q4⟩:=h.locs m hm
    exact ⟨g,by rw [eo _ (hΛ' m hm),q1]; exact m.H.ok g,(Array.getElem?_eq_some_iff.1 q3).1⟩
   have hd0:blk (a1.eval (.tmp d))=some w.heap.size:=by rw [ed]; rfl
   rcases qo.1 hm with hm | hm <;> rcases qo.1 hm' with hm' | hm'
   ·rw [eo _ (hΛ' m hm),eo _ (hΛ' m' hm')]
    exact h.dis m hm m' hm' hne
   ·obtain rfl:=qn.1 hm'
    obtain ⟨g,q1,q2⟩:=hnm m hm
    rw [q1,hd0]
    intro e
    injection e with e
    omega
   ·obtain rfl:=qn.1 hm
    obtain ⟨g,q1,q2⟩:=hnm m' hm'
    rw [q1,hd0]
    intro e
    injection e with e
    omega
   ·obtain rfl:=qn.1 hm
    obtain rfl:=qn.1 hm'
    exact absurd G hne
 unfold wpOp
 rw [ho2]
 have hwant:Region.wanted (⟨none,.store ty (.tmp d) (.tmp x),T2,ps2,af2,none⟩:Oper) (yielded ops a1.tmps)=true:=rfl
 simp only [hwant,if_true]
 refine .inl (wp_skip' (w':=W1.setRow w.heap.size cs.toArray) ?_ U)
 have e2:a1.eval (.tmp x)=shape A.ag cs:=by rw [eo _ hdx']; exact hv'
 have e1:a1.eval (.tmp d)=.pointer (some ⟨w.heap.size,0,none⟩):=ed
 simp [execOp,e1,e2,Instr.storeAt,Instr.sureAddr,hrun]
end
def TyIn (w:World)(k:Nat)(Ts:List TypeId):Prop:=∃ c T fz,w.heap[k]?=some (.cells c T fz)∧T∈Ts
abbrev Wid (B:Nat)(w:World)(Ts:List TypeId):Bs:=⟨w,λ k=>B≤k∧TyIn w k Ts,false⟩
open Classical in
theorem rT {p:World→Prop}{Ts:List TypeId}(hcg:∀ w w',Grow w w'→p w→p w')(hwr:∀ w w' g c T fz,w.heap[g]?=some (.cells c T fz)→T∈Ts→B≤g→Wr g w w'→p w→p w')
  {w w':World} (hk:Kept (Wid B w Ts) w') (hp:p w):p w':=by
 let W:Nat→World:=λ m=>{ w with heap:=w.heap.mapIdx λ k o=>if k<m∧(Wid B w Ts).F k then (w'.heap[k]?).getD o else o }
 have hW:∀ m k,(W m).heap[k]?=if k<m∧(Wid B w Ts).F k∧k<w.heap.size then w'.heap[k]? else w.heap[k]?:=λ m k=>by
  show (w.heap.mapIdx _)[k]?=_
  rw [Array.getElem?_mapIdx]
  by_cases hlt:k<w.heap.size
  ·rw [Array.getElem?_eq_getElem hlt]
   have hlt':k<w'.heap.size:=qE hlt hk.size
   rw [Array.getElem?_eq_getElem hlt']
   by_cases hc:k<m∧(Wid B w Ts).F k
   ·rw [qz ⟨hc.1,hc.2,hlt⟩,qL,qz hc]
    rfl
   ·rw [qw (λ h=>hc ⟨h.1,h.2.1⟩),qL,qw hc]
  ·have h0:w.heap[k]?=none:=Array.getElem?_eq_none zo
   rw [qw (λ h=>hlt h.2.2),h0]
   rfl
 have hs:∀ m,(W m).heap.size=w.heap.size:=λ m=>by simp [W]
 have key:∀ m,p (W m):=λ m=>by
  induction m with
  | zero=>exact hcg w (W 0) ⟨rfl,rfl,rfl,by rw [hs]; exact qi _,λ k hk=>by rw [hW,qw (λ h=>by omega)]⟩ hp
  | succ m ih =>
   by_cases hF:(Wid B w Ts).F m
   ·obtain ⟨hB,c,T,fz,hc,hT⟩:=hF
    refine hwr (W m) (W (m+1)) m c T fz ?_ hT hB ⟨rfl,rfl,rfl,by rw [hs,hs],λ k hk=>?_⟩ ih
    ·rw [hW,qw (λ h=>by omega)]; exact hc
    ·rw [hW,hW]
     by_cases h1:k<m
     ·simp [h1,j2 h1]
     ·have:¬ k<m+1:=by omega
      simp [h1,this]
   ·refine hcg (W m) (W (m+1)) ⟨rfl,rfl,rfl,by rw [hs,hs]; exact qi _,λ k hk=>?_⟩ ih
    rw [hW,hW]
    by_cases h1:k<m
    ·simp [h1,j2 h1]
    ·by_cases h2:k=m
     ·subst h2
      rw [qw (λ h=>hF h.2.1),qw (λ h=>by omega)]
     ·have:¬ k<m+1:=by omega
      simp [h1,this]
 refine hcg (W w.heap.size) w' ⟨hk.os,hk.tape,hk.output,by rw [hs]; exact hk.size,λ k hlt=>?_⟩ (key _)
 rw [hs] at hlt
 rw [hW]
 by_cases hF:(Wid B w Ts).F k
 ·rw [qz ⟨hlt,hF,hlt⟩]
 ·rw [qw (λ h=>hF h.2.1)]
  exact hk.block k hlt hF
theorem VA.kept {A:VA}{Ts:List TypeId}(hp:A.p B v w)(hk:Kept (Wid B w Ts) w')(hd:∀ T∈Ts,T ∉ A.deps):A.p B v w' :=
 rT (p:=λ w=>A.p B v w) (λ w w' hg h=>A.grow _ _ _ _ hg h) (λ w w' g c T fz hc hT hB hW h=>A.wr _ _ _ _ _ _ _ _ hc (hd T hT) hB hW h) hk hp
theorem As.kept {A:As}{Ts:List TypeId}(hp:A.p B cs w)(hk:Kept (Wid B w Ts) w')(hd:∀ T∈Ts,T ∉ A.deps):A.p B cs w' :=
 rT (p:=λ w=>A.p B cs w) (λ w w' hg h=>A.grow _ _ _ _ hg h) (λ w w' g c T fz hc hT hB hW h=>A.wr _ _ _ _ _ _ _ _ hc (hd T hT) hB hW h) hk hp
def CK (P:Program)(f:FuncId)(T:TypeId)(Ts:List TypeId)(A0 A1:As)(pre:List VA)(post:VA):Prop :=
 (∃ fn, P.funcs[f]? = some fn ∧ (fn.name == "runtime.NumGoroutine") = false ∧ fn.body.isNone = false) ∧
 ∀ (B:Nat) (w:World) (g:Nat) (cs:List Value) (args:List Value),B≤g→w.heap[g]?=some (.cells cs.toArray T (0,0))→A0.p B cs w→All2 (λ (A:VA) v=>A.p B v w) pre args →
  Calls P f (ptr g::args).toArray w λ e w'=>∃ v cs',e=.returned v∧post.p B v w'∧Kept (Wid B w Ts) w'∧w'.heap[g]?=some (.cells (List.toArray cs') T (0,0))∧A1.p B cs' w'
theorem FX {Ts:List TypeId}{E:TypeId}(hE:E∈Ts):RowMay (Wid B w Ts) B E:=λ w1 g c fz hk hB hc=>by
 by_cases hF:(Wid B w Ts).F g
 ·exact .inr hF
 ·by_cases hlt:g<w.heap.size
  ·exact .inr ⟨hB,c,E,fz,(hk.block g hlt hF).symm.trans hc,hE⟩
  ·exact .inl (kb hlt)
theorem CK.intro {f : FuncId} {fn : Func} {c : Code} {T : TypeId} {Ts : List TypeId} {A0 A1 : As} {pre : List VA} {post : VA} (hf : P.funcs[f]? = some fn) (hb : fn.body = some c) (hn : (fn.name == "runtime.NumGoroutine") = false) (hsz : pre.length + 1 ≤ fn.ntmps) (hT : Ts.contains T = true)
  (h:∀ (B g:Nat) (w0:Bs) (a:Act),(∀ E,Ts.contains E=true→RowMay w0 B E)→St B w0 fn.ntmps (argΓ (EqV (ptrH.f g)::pre)) [⟨0,T,ptrH,A0⟩] a w0.w→c.wp P (bPost P fn (RQm B w0 g T A1 post)) a w0.w):CK P f T Ts A0 A1 pre post:=by
 refine ⟨⟨fn,hf,hn,by rw [hb]; rfl⟩,λ B w g cs args hB hg hp ha=>(bS hf hb (h B g (Wid B w Ts) _ (λ E hE=>FX (by simpa using hE)) ?_)).mono λ _ _ ⟨v,cs',he,hv,hk,h1,h2⟩=>⟨v,cs',he,hv,hk,h1,h2⟩⟩
 have hl:=ha.length
 have hgw:=(Array.getElem?_eq_some_iff.1 hg).1
 have ha':All2 (λ (A:VA) v=>A.p B v w) (EqV (ptrH.f g)::pre) (ptr g::args):=.cons rfl ha
 have h0:(⟨(ptr g::args).toArray++Array.replicate (fn.ntmps-(ptr g::args).toArray.size) undef,[]⟩:Act).eval (.tmp 0)=ptrH.f g:=by
  have:=All2.args (N:=fn.ntmps-(ptr g::args).toArray.size) ha' (0,EqV (ptrH.f g)) (by simp [argΓ])
  exact this
 refine ⟨λ k hk=>?_,DefOk.nil rfl,?_,Kept.refl _,All2.args ha',λ l hl=>?_,λ l hl m hm hne=>?_⟩
 ·rcases hk with hk | hk
  ·exact qe hB (qe (zU hgw) hk)
  ·exact hk.1
 ·simp only [zZ,zV,qJ,zy]
  omega
 ·simp at hl
  subst hl
  exact ⟨g,cs,h0,.inr ⟨hB,_,_,_,hg,by simpa using hT⟩,hg,hp⟩
 ·simp at hl hm
  subst hl hm
  exact absurd G hne
theorem CK.ex {f : FuncId} {T : TypeId} {Ts : List TypeId} {A0 A1 : As} {A : Value → As} {c : Value → Prop} {pre : List VA} {post : VA} (hex : ∃ fn, P.funcs[f]? = some fn ∧ (fn.name == "runtime.NumGoroutine") = false ∧ fn.body.isNone = false) (h : ∀ x, c x → CK P f T Ts (A x) A1 pre post) (hp : ∀ B cs w, A0.p B cs w → ∃ x, c x ∧ (A x).p B cs w) : CK P f T Ts A0 A1 pre post :=
 ⟨hex,λ B w g cs args hB hg hp0 ha=>by
  obtain ⟨x,hc,hx⟩:=hp B cs w hp0
  exact (h x hc).2 B w g cs args hB hg hx ha⟩
theorem CK.wk {f:FuncId}{Ts:List TypeId}{A0 A1 A1':As}{pre:List VA}{post:VA}(h:CK P f T Ts A0 A1 pre post)(hp:∀ B cs w,A1.p B cs w→A1'.p B cs w):CK P f T Ts A0 A1' pre post :=
 ⟨h.1,λ B w g cs args hB hg hp0 ha=>(h.2 B w g cs args hB hg hp0 ha).mono λ _ _ ⟨v,cs',he,hv,hk,h1,h2⟩=>⟨v,cs',he,hv,hk,h1,hp _ _ _ h2⟩⟩
section
open Rg
variable {P:Program} {Q:Exit→Act→World→Prop} {B N:Nat} {w0:Bs} {Γ:List (Nat × VA)} {Λ:List Lc} {a:Act} {w:World} {ops:Array Oper} {i:Nat} {K:Act→World→Prop}
theorem Hk {pre:List VA}{ks:List Nat}{xs:List Operand}(h:St B w0 N Γ Λ a w)(hx:All2 (λ (A:VA) (kx:Nat × Operand)=>∃ t,kx.2=.tmp t∧Γ[kx.1]?=some (t,A)) pre (ks.zip xs))(hl:ks.length=xs.length):All2 (λ (A:VA) v=>A.p B v w) pre (xs.map a.eval):=by
 induction pre generalizing ks xs with
 | nil =>
  cases hk:ks.zip xs with
  | nil =>
   have:xs=[]:=by
    cases xs with
    | nil=>rfl
    | cons x xs=>cases ks with
     | nil=>cases hl
     | cons k ks=>cases hk
   subst this
   exact .nil
  | cons y ys=>rw [hk] at hx; cases hx
 | cons A pre ih =>
  cases ks with
  | nil=>cases hx
  | cons k ks=>cases xs with
   | nil=>cases hx
   | cons x xs =>
    cases hx with
    | cons h1 h2 =>
     obtain ⟨t,e,h3⟩:=h1
     have e:x=.tmp t:=e
     subst e
     exact .cons (h.vals _ (qa h3)) (ih h2 (by simpa using hl))
theorem fO {d p f sx:Nat}{T T1:TypeId}{Ts:List TypeId}{A0 A1:As}{pre:List VA}{post:VA}{xs:List Operand}{at_:Array TypeId}(src ks:List Nat)(e:Nat)(ho:ops[i]?=some ⟨some d,.call ⟨.value (.func f),(.tmp p::xs).toArray,at_⟩,T1,ps,af,none⟩)(h:St B w0 N Γ Λ a w)
  (hc:CK P f T Ts A0 A1 pre post) (hl:Λ[e]?=some ⟨sx,T,ptrH,A0⟩) (hp:a.eval (.tmp p)=a.eval (.tmp sx)) (hx:All2 (λ (A:VA) (kx:Nat × Operand)=>∃ t,kx.2=.tmp t∧Γ[kx.1]?=some (t,A)) pre (ks.zip xs)) (hkl:ks.length=xs.length)
  (hrm:∀ E,Ts.contains E=true→RowMay w0 B E) (hd:d<N) (hΓ:Γ.all (λ x=>x.1 != d)=true) (hΛd:Λ.all (λ l=>l.s != d)=true)
  (hsrc:src.all (λ k=>match Γ[k]? with | some y=>Ts.all (λ E => !y.2.deps.contains E) | none=>false)=true) (hΛ:Λ.zipIdx.all (λ x=>x.2==e || (!Ts.contains x.1.T&&Ts.all (λ E => !x.1.A.deps.contains E)))=true)
  (hK:∀ a' w',St B w0 N ((d,post)::src.filterMap λ k=>Γ[k]?) (Λ.set e ⟨sx,T,ptrH,A1⟩) a' w'→K a' w'):wpOp P ops Q i K a w:=by
 obtain ⟨g,cs,q1,q2,q3,q4⟩:=h.locs _ (qa hl)
 have e1:a.eval (.tmp p)=ptr g:=hp.trans q1
 have hargs:=Hk h hx hkl
 obtain ⟨⟨fn,hf,hn,hb⟩,hcall⟩:=hc
 have hrun:(execOp a.eval ⟨some d,.call ⟨.value (.func f),(.tmp p::xs).toArray,at_⟩,T1,ps,af,none⟩).run P w=.ok (.enter f (ptr g::xs.map a.eval).toArray) w:=by
  simp only [execOp,resolve,Act.eval,Deferred.ofValue,Sem.run_bind,Sem.run_pure,Result.andThen_ok,invoke,bk hf hn hb]
  have e1':a.eval (.tmp p)=ptr g:=e1
  simp [Act.eval] at e1' ⊢
  exact e1'
 have hdsz:d<a.tmps.size:=by rw [h.size]; exact hd
 have hBw:B≤w.heap.size:=qe (h.lo _ (.inl (qi _))) h.base.size
 unfold wpOp
 simp only [ho,Region.wanted,if_true]
 refine .inl ?_
 unfold Oper.wp
 rw [hrun]
 refine (hcall B w g cs _ (h.lo g q2) q3 q4 hargs).mono ?_
 rintro e0 w' ⟨v,cs',rfl,hv,hk,h1,h2⟩
 refine hK _ _ ?_
 have hls:∀ l∈Λ,l.s≠d:=λ l hl=>by simpa using qd.1 hΛd l hl
 have hrow:∀ {g:Nat} {c:Array Value} {T':TypeId} {fz:Nat × Nat},w.heap[g]?=some (.cells c T' fz)→T' ∉ Ts→w'.heap[g]?=some (.cells c T' fz):=λ {g c T' fz} hg1 hne =>
  (hk.block g (Array.getElem?_eq_some_iff.1 hg1).1 (λ⟨_,c',T2,fz',e5,e6⟩=>by
   rw [hg1] at e5
   injection e5 with e5
   injection e5 with _ e5 _
   subst e5
   exact hne e6)).trans hg1
 have hset:∀ m∈Λ.set e ⟨sx,T,ptrH,A1⟩,∃ m0∈Λ,m0.s=m.s:=λ m hm=>by
  rcases qy hm with hm | rfl
  ·exact ⟨m,hm,rfl⟩
  ·exact ⟨_,qa hl,rfl⟩
 refine ⟨h.lo,h.defers.keep rfl λ D hD=>(hk.block D (Array.getElem?_eq_some_iff.1 hD).1 (λ⟨_,c,T2,fz,e5,_⟩=>by rw [hD] at e5; cases e5)).trans hD,by rw [size_put]; exact h.size,⟨hk.os.trans h.base.os,hk.tape.trans h.base.tape,hk.output.trans h.base.output,qe h.base.size hk.size,λ k h3 h4=>?_⟩,λ y hy=>?_,λ m hm=>?_,λ m1 hm1 m2 hm2 hne=>?_⟩
 ·refine (hk.block k (qE h3 h.base.size) (λ⟨q5,c,T2,fz,q6,q7⟩=>?_)).trans (h.base.block k h3 h4)
  rcases hrm T2 (by simpa using q7) w k c fz h.base q5 q6 with q8 | q8
  ·omega
  ·exact h4 q8
 ·rcases qt.1 hy with rfl | hy
  ·show post.p B ((a.put (some d) v).eval (.tmp d)) w'
   rw [aM _ _ _ hdsz]
   exact hv
  ·obtain ⟨k,hk1,hk2⟩:=qQ.1 hy
   have hs:=qd.1 hsrc k hk1
   simp only [hk2,qd,qv,qx,qk] at hs
   have hyd:y.1≠d:=by simpa using qd.1 hΓ y (qa hk2)
   rw [aq _ _ _ _ hyd]
   exact VA.kept (h.vals y (qa hk2)) hk hs
 ·obtain ⟨j,hj⟩:=List.getElem?_of_mem hm
  by_cases e1:j=e
  ·subst e1
   have:m=⟨sx,T,ptrH,A1⟩:=by
    rw [List.getElem?_set_self (List.getElem?_eq_some_iff.1 hl).1] at hj
    injection hj with hj
    exact hj.symm
   subst this
   exact ⟨g,cs',by rw [aq _ _ _ _ (hls _ (qa hl))]; exact q1,q2,h1,h2⟩
  ·rw [List.getElem?_set_ne (λ e2=>e1 e2.symm)] at hj
   have hc:=qd.1 hΛ (m,j) (qZ.2 hj)
   simp only [zw,xc,ql,qv,qx,qk,qd] at hc
   have hc':=hc.resolve_left e1
   obtain ⟨g',cs2,p1,p2,p3,p4⟩:=h.locs m (qa hj)
   exact ⟨g',cs2,by rw [aq _ _ _ _ (hls _ (qa hj))]; exact p1,p2,hrow p3 hc'.1,As.kept p4 hk hc'.2⟩
 ·obtain ⟨m3,r1,r2⟩:=hset m1 hm1
  obtain ⟨m4,r3,r4⟩:=hset m2 hm2
  rw [← r2,← r4] at hne ⊢
  rw [aq _ _ _ _ (hls _ r1),aq _ _ _ _ (hls _ r3)]
  exact h.dis m3 r1 m4 r3 hne
end
end Go.Proofs.YtedfcalhhldijaaGreatDoor
