import Derived.Test.YtlakjmncfooodaaSnAk
set_option linter.all false
set_option maxRecDepth 100000
namespace Go.Proofs.Ytlakjmncfooodaa
open Go Go.RowKit
variable {w:World}{B:Nat}{a:Act}{v:Value}{T:TypeId}{w0:Bs}{Γ:List (Nat × VA)}{Λ:List Lc}{ps:String}{af:Array Edge}{vr:Value}{H:Hd}{cs:List Value}{w':World}{P:Program}{D:List TypeId}
theorem cv {Q:Exit→Act→World→Prop}(h:∀ a w,Q .outgrown a w→False):¬ LetsOut Q:=λ⟨a,w,h'⟩=>h a w h'
def fw (o:Option Nat):Fence:={ fn:=λ _=>True,depth:=none,alive:=false,round:=o }
theorem calls_fw {o:Option Nat}{n:Nat}{f:FuncId}{args:Array Value}{R:Ending→World→Prop}(h:Calls P f args w R):CallsIn (fw o) n P f args w R:=by
 have h':CallsIn Fence.wide n P f args w R:=callsIn_wide.2 h
 cases o with
 | none=>exact h'
 | some l=>exact CallsIn.inRound l h'
theorem fw_steps {o:Option Nat}{m m':Machine}:StepsIn (Machine.fenced P (fw o)) P m m'↔Steps P m m':=by
 cases o with
 | none=>exact stepsIn_wide
 | some l=>exact stepsIn_wide
theorem rows_fw {o:Option Nat}{n:Nat}{row:String}{args:Array Value}{R:Value→World→Prop}(h:Rows P row args w R):RowsIn (fw o) n P row args w R:=λ c cs _=>by
 obtain ⟨v,w',h1,h2⟩:=h c cs
 exact ⟨v,w',h1,fw_steps.2 h2⟩
def noDefer (ops:Array Oper):Bool:=ops.all λ x=>match x.op with | .defer _=>false | _=>true
theorem noDefer_at {ops:Array Oper}(h:noDefer ops=true){i:Nat}{x:Oper}(hx:ops[i]?=some x):∀ c,x.op≠.defer c:=λ c e=>by
 have:=zp.1 h x (Array.mem_of_getElem? hx)
 rw [e] at this
 cases this
theorem dN {o:Option Nat}{ops:Array Oper}{Q:Exit→Act→World→Prop}{i:Nat}{K:Act→World→Prop}(hnd:noDefer ops=true)(hQ0:¬ LetsOut Q)(h:wpOp P ops Q i K a w):wpOpIn (fw o) 0 P ops Q i K a w:=by
 unfold wpOp at h
 unfold wpOpIn
 cases ho:ops[i]? with
 | none=>rw [ho] at h; exact h
 | some x =>
  rw [ho] at h
  simp only at h ⊢
  by_cases hw:Region.wanted x (yielded ops a.tmps)=true
  ·rw [qy hw] at h ⊢
   rcases h with h | ⟨_,h⟩
   ·refine ⟨λ _ _=>trivial,?_⟩
    rw [Oper.semAt_eq _ _ _ (noDefer_at hnd ho)]
    unfold Oper.wp at h
    generalize (execOp a.eval x).run P w=r at *
    cases r with
    | ok nx w' =>
     cases nx with
     | value v=>exact h
     | skip=>exact h
     | defer d=>exact h
     | enter f args=>exact ⟨λ hh=>(by cases hh),calls_fw h⟩
     | row r args=>exact ⟨λ hh=>(by cases hh),rows_fw h⟩
     | _=>exact absurd h (λ h=>h)
    | halt e w'=>cases e <;> exact h
   ·exact absurd h hQ0
  ·rw [qm hw] at h ⊢
   exact ⟨λ _ _=>trivial,h⟩
section
variable {P:Program} {R:Rg} {Q:Exit→Act→World→Prop} {B:Nat} {w0:Bs} {a:Act} {w:World} {o:Option Nat}
open Rg in
theorem Rg.linF {id:Nat}(hnd:noDefer R.ops=true)(hQ0:¬ LetsOut Q)(hanc:R.anc=λ i=>List.range i)(hk:R.chk=true)(h:St B w0 R.N R.Γ Λ a w)(hles:∀ e∈R.les,e.cr=none→(⟨e.s,e.T,e.H,e.A0⟩:Lc)∈Λ)
  (hob:∀ i,i<R.ops.size→R.Ob P Q B w0 i) (hQ:∀ a' w',Fin R B w0 a' w'→Q .normal a' w'):(Code.region id R.ops false).wpIn (fw o) 0 P Q a w:=by
 refine wpIn_region ?_
 have key:∀ m k,k+m=R.ops.size→∀ a w,R.Inv B w0 (λ j=>decide (j<k)) a w→wpOpsIn (fw o) 0 P R.ops Q (List.range' k m) a w:=by
  intro m
  induction m with
  | zero =>
   intro k hkm a w hi
   have:k=R.ops.size:=by omega
   subst this
   exact hQ a w ⟨hi⟩
  | succ m ih =>
   intro k hkm a w hi
   rw [List.range'_succ,wpOpsIn_cons]
   refine dN hnd hQ0 (step hk (hob k zo) hi ?_ (by simp) ?_ _ λ a' w' hi'=>ih (k+1) zo a' w' (hi'.congr λ j=>?_))
   ·intro i hi j hj
    rw [hanc] at hj
    simp at hi hj ⊢
    omega
   ·intro j hj
    rw [hanc] at hj
    simpa using hj
   ·unfold upd
    by_cases h1:j=k
    ·subst h1; simp
    ·have h2:(j==k)=false:=by simpa using h1
     rw [h2,xc,qF]
     omega
 rw [List.range_eq_range']
 exact key _ 0 zo a w ((start h hles).congr λ j=>by simp)
end
section
variable {P:Program} {R:Rg} {Q:Exit→Act→World→Prop} {B:Nat} {w0:Bs} {a:Act} {w:World} {o:Option Nat}
open Rg in
theorem Rg.drawK {id:Nat}{n m:Nat}(hsz2:R.ops.size=n+m)(hm0:0<m)(hm:P.follows .mixedOrders=true)(hanc:ancOk R=true)(hk:R.chk=true)(h:St B w0 R.N R.Γ Λ a w)(hles:∀ e∈R.les,e.cr=none→(⟨e.s,e.T,e.H,e.A0⟩:Lc)∈Λ)
  (hob:∀ i,i<n→R.Ob P Q B w0 i) (ha1:∀ i,n≤i→i<n+m→∀ j,j<i→(R.anc i).contains j=true)
  (hQ:∀ a w,R.Inv B w0 (λ k=>decide (k<n)) a w→wpOps P R.ops Q (List.range' n m) a w) :
  (Code.region id R.ops true).wp P Q a w:=by
 refine wp_region_any hm ?_
 have ho:∀ i,i<R.ops.size→∃ o:Oper,R.ops[i]?=some o∧(∀ j,(R.anc i).contains j=true→∃ e∈o.after,Region.binds .any e=true∧(e.on=j∨(R.anc e.on).contains j=true)) ∧
   ∀ e∈o.after,Region.binds .any e=true→e.on<i:=by
  intro i hi
  have:=qc.1 hanc i (by simpa using hi)
  cases hoi:R.ops[i]? with
  | none=>rw [hoi] at this; cases this
  | some o =>
   rw [hoi] at this
   simp only [qi] at this
   refine ⟨o,rfl,λ j hj=>?_,λ e he hb=>?_⟩
   ·have hh:=qc.1 this.1 j (by simpa using hj)
    obtain ⟨e,he,h1⟩:=xY.1 hh
    simp only [qi,zy,zX] at h1
    exact ⟨e,he,h1.1,h1.2⟩
   ·have hh:=zp.1 this.2 e he
    simpa [hb] using hh
 have hrd:∀ (listed:Array Bool) i,i∈Region.ready .any R.ops listed→i<R.ops.size∧listed.getD i true=false∧∀ o,R.ops[i]?=some o→∀ e∈o.after,Region.binds .any e=true→listed.getD e.on false=true:=by
  intro listed i hi
  unfold Region.ready at hi
  obtain ⟨h1,h2⟩:=q7.1 hi
  simp only [qi,qq] at h2
  refine ⟨by simpa using h1,h2.1,λ o hoi e he hb=>?_⟩
  have h3:=h2.2
  rw [hoi] at h3
  simp only [qV,zN] at h3
  have:=zp.1 h3 e he
  simpa [hb] using this
 have hset:∀ (listed:Array Bool) (i k:Nat),listed.size=R.ops.size→i<R.ops.size→(listed.setIfInBounds i true).getD k false=upd (λ i=>listed.getD i false) i k:=by
  intro listed i k hsz hi
  unfold upd
  by_cases hki:k=i
  ·subst hki
   simp [hsz,hi]
  ·simp [hki,Array.getElem?_setIfInBounds_ne (λ e=>hki e.symm)]
 have hpos:∀ (listed:Array Bool) (i:Nat),i<R.ops.size→listed.getD i false=false→0<(List.range R.ops.size).countP (λ k => !listed.getD k false):=λ listed i hi hl =>
  xV.2 ⟨i,by simpa using hi,by simp only [hl]; rfl⟩
 have hlt:∀ (listed:Array Bool) (i:Nat),listed.size=R.ops.size→i<R.ops.size→listed.getD i false=false→(List.range R.ops.size).countP (λ k => !(listed.setIfInBounds i true).getD k false)<(List.range R.ops.size).countP (λ k => !listed.getD k false):=by
  intro listed i hsz hi hLi
  refine d8 (x:=i) (λ x hx=>?_) (by simpa using hi) (by rw [hLi]; rfl) (by rw [hset listed i i hsz hi,bA]; rfl)
  have hx':upd (λ i=>listed.getD i false) i x=false:=by
   rw [← hset listed i x hsz hi]
   simpa only [qq] using hx
  rw [(co hx').2]
  rfl
 have hfull:∀ (listed:Array Bool),listed.size=R.ops.size→Region.ready .any R.ops listed=[]→∀ k,k<R.ops.size→listed.getD k false=true:=by
  intro listed hsz hr k
  induction k using Nat.strongRecOn with
  | _ k ih =>
   intro hkn
   cases hl:listed.getD k false with
   | true=>rfl
   | false =>
    exfalso
    obtain ⟨x,ho1,_,ho3⟩:=ho k hkn
    have:k∈Region.ready .any R.ops listed:=by
     unfold Region.ready
     refine q7.2 ⟨by simpa using hkn,?_⟩
     have h0:listed.getD k true=false:=by
      simp only [Array.getD,hsz,hkn,dite_true] at hl ⊢
      exact hl
     rw [h0,ho1]
     simp only [xS,jt,qV,zN]
     refine zp.2 λ e he=>?_
     cases hb:Region.binds .any e with
     | false=>rfl
     | true=>simpa using ih e.on (ho3 e he hb) (zx (ho3 e he hb) hkn)
    rw [hr] at this
    cases this
 have hancL:∀ (listed:Array Bool) i,Closed R (λ i=>listed.getD i false)→i∈Region.ready .any R.ops listed→∀ j,(R.anc i).contains j=true→listed.getD j false=true:=by
  intro listed i hcl hir j hj
  obtain ⟨h1,h2,h3⟩:=hrd listed i hir
  obtain ⟨x,ho1,ho2,_⟩:=ho i h1
  obtain ⟨e,he,hb,hj'⟩:=ho2 j hj
  have hl:=h3 x ho1 e he hb
  rcases hj' with rfl | hj'
  ·exact hl
  ·exact hcl e.on hl j hj'
 have hclN:∀ (listed:Array Bool) i,listed.size=R.ops.size→Closed R (λ i=>listed.getD i false)→i∈Region.ready .any R.ops listed→Closed R (λ k=>(listed.setIfInBounds i true).getD k false):=by
  intro listed i hsz hcl hir k hk' j hj
  obtain ⟨h1,_,_⟩:=hrd listed i hir
  have hk2:upd (λ i=>listed.getD i false) i k=true:=by rw [← hset listed i k hsz h1]; exact hk'
  show (listed.setIfInBounds i true).getD j false=true
  rw [hset listed i j hsz h1]
  rcases of_upd hk2 with rfl | h4
  ·exact cA _ (hancL listed k hcl hir j hj)
  ·exact cA _ (hcl k h4 j hj)
 have tail:∀ q k,k+q=n+m→n≤k→∀ fuel (listed:Array Bool) a w,listed.size=R.ops.size→(List.range R.ops.size).countP (λ i => !listed.getD i false)≤fuel→Closed R (λ i=>listed.getD i false) →
   (∀ j,j<k→listed.getD j false=true)→(∀ j,k≤j→j<n+m→listed.getD j false=false)→wpOps P R.ops Q (List.range' k q) a w→wpAny P .any R.ops Q fuel listed a w:=by
  intro q
  induction q with
  | zero =>
   intro k hkq hnk fuel listed a w hsz hcnt hcl hall _ hwp
   have hr:Region.ready .any R.ops listed=[]:=by
    cases hrr:Region.ready .any R.ops listed with
    | nil=>rfl
    | cons i rest =>
     obtain ⟨h1,h2,_⟩:=hrd listed i (by rw [hrr]; simp)
     have:=hall i zo
     simp only [Array.getD,hsz,h1,dite_true] at h2 this
     rw [h2] at this
     cases this
   cases fuel with
   | zero=>exact ⟨hr,hwp⟩
   | succ fuel=>exact ⟨λ _=>hwp,λ i hir=>by rw [hr] at hir; cases hir⟩
  | succ q ih =>
   intro k hkq hnk fuel listed a w hsz hcnt hcl hall hnone hwp
   have hLk:listed.getD k false=false:=hnone k (qf _) zo
   have hp:=hpos listed k zo hLk
   cases fuel with
   | zero=>omega
   | succ fuel =>
    refine ⟨λ hr=>absurd (hfull listed hsz hr k zo) (by rw [hLk]; decide),λ i hir=>?_⟩
    obtain ⟨h1,h2,h3⟩:=hrd listed i hir
    have hik:i=k:=by
     by_cases e:i=k
     ·exact e
     ·exfalso
      by_cases hlt':i<k
      ·have:=hall i hlt'
       simp only [Array.getD,hsz,h1,dite_true] at h2 this
       rw [h2] at this
       cases this
      ·have:=hancL listed i hcl hir k (ha1 i zo zo k zo)
       rw [hLk] at this
       cases this
    subst hik
    rw [List.range'_succ,qG] at hwp
    refine wpOp_mono (λ a' w' hr=>ih (i+1) zo zo fuel _ a' w' (by simpa using hsz) ?_ (hclN listed i hsz hcl hir) (λ j hj=>?_) (λ j hj hj2=>?_) hr) hwp
    ·have:=hlt listed i hsz h1 hLk
     omega
    ·rw [hset listed i j hsz h1]
     by_cases e:j=i
     ·rw [e]; exact bA _ _
     ·exact cA _ (hall j zo)
    ·rw [hset listed i j hsz h1,cB _ zo]
     exact hnone j zo hj2
 have key:∀ fuel (listed:Array Bool) a w,listed.size=R.ops.size→(List.range R.ops.size).countP (λ i => !listed.getD i false)≤fuel→Closed R (λ i=>listed.getD i false) →
   (∀ j,n≤j→j<n+m→listed.getD j false=false)→R.Inv B w0 (λ i=>listed.getD i false) a w→wpAny P .any R.ops Q fuel listed a w:=by
  intro fuel
  induction fuel with
  | zero =>
   intro listed a w hsz hcnt hcl hn0 hi
   have:=hpos listed n zo (hn0 n (qf _) zo)
   omega
  | succ fuel ih =>
   intro listed a w hsz hcnt hcl hn0 hi
   have hn00:=hn0 n (qf _) zo
   by_cases hdone:∀ j,j<n→listed.getD j false=true
   ·refine tail m n G (qf _) (fuel+1) listed a w hsz hcnt hcl hdone hn0 (hQ a w (hi.congr λ k=>?_))
    by_cases hkn:k<n
    ·rw [hdone k hkn]; simp [hkn]
    ·by_cases hkm:k<n+m
     ·rw [hn0 k zo hkm]; simp [hkn]
     ·have:listed.getD k false=false:=by simp [Array.getD,hsz,hsz2,hkm]
      rw [this]; simp [hkn]
   ·refine ⟨λ hr=>absurd (hfull listed hsz hr n zo) (by rw [hn00]; decide),λ i hir=>?_⟩
    obtain ⟨h1,h2,h3⟩:=hrd listed i hir
    have hin:i<n:=by
     by_cases e:i<n
     ·exact e
     ·exact absurd (λ j hj=>hancL listed i hcl hir j (ha1 i zo zo j zo)) hdone
    have hLi:listed.getD i false=false:=by
     simp only [Array.getD,hsz,h1,dite_true] at h2 ⊢
     exact h2
    refine step hk (hob i hin) hi hcl hLi (hancL listed i hcl hir) _ λ a' w' hi'=>ih _ _ _ (by simpa using hsz) ?_ (hclN listed i hsz hcl hir) ?_ (hi'.congr λ k=>hset listed i k hsz h1)
    ·have:=hlt listed i hsz h1 hLi
     omega
    ·intro j hj hj2
     rw [hset listed i j hsz h1,cB _ zo]
     exact hn0 j hj hj2
 refine key _ _ a _ (by simp) ?_ ?_ ?_ ?_
 ·refine qe (xQ) (by simp)
 ·intro i hi
  exfalso
  simp only [Array.getD,qz] at hi
  split at hi <;> simp at hi
 ·intro j hj hj2
  simp only [Array.getD,qz]
  split <;> simp
 ·have hs:=start h hles
  have hd:R.Inv B w0 (λ _=>false) a w.drew:=⟨hs.lo,hs.defers.grow (Grow.drew w) rfl,hs.size,hs.base.drew,λ x hx h1 h2=>x.2.grow _ _ _ _ (Grow.drew w) (hs.g x hx h1 h2),(λ i y d A _ _ hf=>by cases hf),(λ i d b k c _ hf=>by cases hf),
   λ e he A hA=>(hs.c e he A hA).grow (Grow.drew w),hs.x⟩
  refine Inv.congr hd λ k=>?_
  simp only [Array.getD,qz]
  split <;> simp
open Rg in
theorem Rg.linKF {id:Nat}{n m:Nat}(hnd:noDefer R.ops=true)(hQ0:¬ LetsOut Q)(hsz:R.ops.size=n+m)(hanc:R.anc=λ i=>List.range i)(hk:R.chk=true)(h:St B w0 R.N R.Γ Λ a w)(hles:∀ e∈R.les,e.cr=none→(⟨e.s,e.T,e.H,e.A0⟩:Lc)∈Λ)
  (hob:∀ i,i<n→R.Ob P Q B w0 i) (hQ:∀ a w,R.Inv B w0 (λ k=>decide (k<n)) a w→wpOpsIn (fw o) 0 P R.ops Q (List.range' n m) a w):(Code.region id R.ops false).wpIn (fw o) 0 P Q a w:=by
 refine wpIn_region ?_
 have key:∀ q k,k+q=n→∀ a w,R.Inv B w0 (λ j=>decide (j<k)) a w→wpOpsIn (fw o) 0 P R.ops Q (List.range' k (q+m)) a w:=by
  intro q
  induction q with
  | zero =>
   intro k hkm a w hi
   have:k=n:=by omega
   subst this
   rw [qB]
   exact hQ a w hi
  | succ q ih =>
   intro k hkm a w hi
   rw [show q+1+m=(q+m)+1 by omega,List.range'_succ,wpOpsIn_cons]
   refine dN hnd hQ0 (step hk (hob k zo) hi ?_ (by simp) ?_ _ λ a' w' hi'=>ih (k+1) zo a' w' (hi'.congr λ j=>?_))
   ·intro i hi j hj
    rw [hanc] at hj
    simp at hi hj ⊢
    omega
   ·intro j hj
    rw [hanc] at hj
    simpa using hj
   ·unfold upd
    by_cases h1:j=k
    ·subst h1; simp
    ·have h2:(j==k)=false:=by simpa using h1
     rw [h2,xc,qF]
     omega
 rw [List.range_eq_range',hsz]
 exact key n 0 zo a w ((start h hles).congr λ j=>by simp)
end
section
variable {P:Program} {Q:Exit→Act→World→Prop} {B N:Nat} {w0:Bs} {Γ:List (Nat × VA)} {Λ:List Lc} {a:Act} {w:World}
theorem cF {o:Option Nat}{id:Nat}{ops:Array Oper}{sts:List (Option (Nat × As))}{news:List Le}{sp:List Sp}(src:List Src)(hnd:noDefer ops=true)(hQ0:¬ LetsOut Q)(h:St B w0 N Γ Λ a w)
  (hob:Obs P Q ⟨ops,N,Γ,lesOf Λ sts news,sp,λ i=>List.range i⟩ B w0 0 ops.size)
  (hn:news.all (λ e=>e.cr.isSome)=true) (hk:Rg.chk ⟨ops,N,Γ,lesOf Λ sts news,sp,λ i=>List.range i⟩=true) (hsrc:src.all (okS ⟨ops,N,Γ,lesOf Λ sts news,sp,λ i=>List.range i⟩)=true)
  (hQ:∀ a w,St B w0 N (src.filterMap (takeS ⟨ops,N,Γ,lesOf Λ sts news,sp,λ i=>List.range i⟩)) ((lesOf Λ sts news).map λ e=>⟨e.s,e.T,e.H,Rg.last e⟩) a w→Q .normal a w):(Code.region id ops false).wpIn (fw o) 0 P Q a w :=
 Rg.linF (R:=⟨ops,N,Γ,lesOf Λ sts news,sp,λ i=>List.range i⟩) hnd hQ0 rfl hk h (dT hn) (λ i hi=>hob.all i zo (by simpa using hi)) λ a' w' hf=>hQ a' w' (dL hk hf src hsrc)
theorem cond_ofF {o:Option Nat}{t:Nat}{b:Bool}{x y:Code}(h:St B w0 N Γ Λ a w)(hm:(t,Bo b)∈Γ)(ht:b=true→x.wpIn (fw o) 0 P Q a w)(hf:b=false→y.wpIn (fw o) 0 P Q a w):(Code.cond (.tmp t) x y).wpIn (fw o) 0 P Q a w :=
 wpIn_cond_split (cm (h.vals _ hm)) ht hf
theorem eC {o:Option Nat}{t:Nat}{b:Bool}{x y:Code}(J:Act→World→Prop)(h:St B w0 N Γ Λ a w)(hm:(t,Bo b)∈Γ)
  (ht:b=true→x.wpIn (fw o) 0 P (Exit.then J Q) a w) (hf:b=false→y.wpIn (fw o) 0 P (Exit.then J Q) a w) (hk:∀ a w,J a w→Q .normal a w):(Code.cond (.tmp t) x y).wpIn (fw o) 0 P Q a w:=by
 have hJ:∀ {z:Code},z.wpIn (fw o) 0 P (Exit.then J Q) a w→z.wpIn (fw o) 0 P Q a w:=λ hz=>wpIn_mono hz λ e a' w' hq=>by
  cases e with
  | normal=>exact hk a' w' hq
  | _=>exact hq
 exact cond_ofF h hm (λ hb=>hJ (ht hb)) (λ hb=>hJ (hf hb))
end
theorem Cn.introR {f : FuncId} {fn : Func} {c : Code} {pre pre' : List VA} {post post0 : VA} (hf : P.funcs[f]? = some fn) (hb : fn.body = some c) (hn : (fn.name == "runtime.NumGoroutine") = false) (hsz : pre.length ≤ fn.ntmps)
  (hup:All2 Up pre pre') (hfree:Free post0 post)
  (h:∀ (B:Nat) (w0:Bs) (a:Act),B=w0.w.heap.size→w0.nd=false→St B w0 fn.ntmps (argΓ pre') [] a w0.w→c.wp P (bPost P fn (RQ B w0 post0)) a w0.w):Cn P f pre post:=by
 refine ⟨⟨fn,hf,hn,by rw [hb]; rfl⟩,λ B w args hB ha=>(bz hf hb (h w.heap.size ⟨w,λ _=>False,false⟩ _ G G ?_)).mono λ _ _ ⟨v,he,hv,hk⟩=>⟨v,he,hfree _ _ _ _ hB hv,hk.grow0⟩⟩
 have hl:=ha.length
 have hl2:=hup.length
 have ha':All2 (λ (A:VA) v=>A.p w.heap.size v w) pre' args:=all_up hup B w hB ha
 refine ⟨λ g hg=>hg.resolve_right λ h=>h,DefOk.nil rfl,?_,Kept.refl _,All2.args ha',(λ l hl=>by cases hl),(λ l hl=>by cases hl)⟩
 simp only [zu,zr,qz]
 omega
theorem VA.many {A:VA}{B:Nat}{v:Value}{w':World}:∀ (gs:List Nat) {w:World},A.p B v w→w'.os=w.os→w'.tape=w.tape→w'.output=w.output→w.heap.size≤w'.heap.size→(∀ k c T fz,w.heap[k]?=some (.cells c T fz)→k ∉ gs→w'.heap[k]?=w.heap[k]?)→(∀ g∈gs,B≤g∧∃ c T fz,w.heap[g]?=some (.cells c T fz)∧T ∉ A.deps)→A.p B v w'
 | [],w,hp,h1,h2,h3,h4,h5,_=>A.cg _ _ _ _ ⟨h4,λ g c T fz hg=>(h5 g c T fz hg (by simp)).trans hg⟩ hp
 | g::gs,w,hp,h1,h2,h3,h4,h5,h6=>by
  by_cases hg:g∈gs
  ·exact VA.many gs hp h1 h2 h3 h4 (λ k c T fz hk hn=>h5 k c T fz hk (by simp only [ql,not_or]; exact ⟨λ e=>hn (by rw [e]; exact hg),hn⟩)) (λ g' hg'=>h6 g' (zc _ hg'))
  ·obtain ⟨hB,c,T,fz,hc,hT⟩:=h6 g zZ
   have hlt:g<w.heap.size:=(Array.getElem?_eq_some_iff.1 hc).1
   have hx:w'.heap[g]?=some (w'.heap[g]'zo):=Array.getElem?_eq_getElem _
   generalize w'.heap[g]'zo=x at hx
   have hwr:Wr g w { w with heap:=w.heap.setIfInBounds g x }:=⟨rfl,rfl,rfl,by simp,λ k hk=>by
    show (w.heap.setIfInBounds g x)[k]?=_
    rw [Array.getElem?_setIfInBounds_ne (λ e=>hk e.symm)]⟩
   have hsz:(w.heap.setIfInBounds g x).size=w.heap.size:=by simp
   refine VA.many gs (w:={ w with heap:=w.heap.setIfInBounds g x }) (A.wr _ _ _ _ _ _ _ _ hc hT hB hwr hp) h1 h2 h3 (by rw [hsz]; exact h4) (λ k c' T' fz' hk hn=>?_) (λ g' hg'=>?_)
   ·show _=(w.heap.setIfInBounds g x)[k]?
    replace hk:(w.heap.setIfInBounds g x)[k]?=some (.cells c' T' fz'):=hk
    by_cases e:k=g
    ·subst e
     rw [Array.getElem?_setIfInBounds_self_of_lt hlt]
     exact hx
    ·rw [Array.getElem?_setIfInBounds_ne (λ e'=>e e'.symm)] at hk ⊢
     exact h5 k c' T' fz' hk (by simp only [ql,not_or]; exact ⟨e,hn⟩)
   ·obtain ⟨hB',c',T',fz',hc',hT'⟩:=h6 g' (zc _ hg')
    refine ⟨hB',c',T',fz',?_,hT'⟩
    show (w.heap.setIfInBounds g x)[g']?=_
    rw [Array.getElem?_setIfInBounds_ne (show g≠g' from λ e=>hg (by rw [e]; exact hg'))]
    exact hc'
def rndB (b:Nat)(D:List TypeId)(gs:List Nat)(Ws W:World):Bs:=⟨W,λ k=>b≤k∧(Ws.heap.size≤k∨(k ∉ gs∧∃ c T fz,Ws.heap[k]?=some (.cells c T fz)∧T∈D)),false⟩
abbrev Stp (b:Nat)(D:List TypeId)(gs:List Nat)(W W':World):Prop:=Kept (rndB b D gs W W) W'
theorem Stp.noncell {b:Nat}{gs:List Nat}{W W':World}(h:Stp b D gs W W'){k:Nat}{o:Obj}(hk:W.heap[k]?=some o)(ho:o.isCells=false):W'.heap[k]?=some o :=
 (h.block k (Array.getElem?_eq_some_iff.1 hk).1 (λ hF=>by
  rcases hF.2 with h1 | ⟨_,c,T,fz,hc,_⟩
  ·have:=(Array.getElem?_eq_some_iff.1 hk).1; omega
  ·have hc':W.heap[k]?=_:=hc
   rw [hc'] at hk
   injection hk with hk
   subst hk
   cases ho)).trans hk
theorem Stp.held {b:Nat}{gs:List Nat}{W W':World}(h:Stp b D gs W W'){k:Nat}{o:Obj}(hk:W.heap[k]?=some o)(hg:k∈gs):W'.heap[k]?=some o :=
 (h.block k (Array.getElem?_eq_some_iff.1 hk).1 (λ hF=>by
  rcases hF.2 with h1 | ⟨h1,_⟩
  ·have:=(Array.getElem?_eq_some_iff.1 hk).1; omega
  ·exact h1 hg)).trans hk
theorem VA.stp {A:VA}{B b:Nat}{W W':World}{gs:List Nat}(hp:A.p B v W)(h:Stp b D gs W W')(hb:B≤b)(hD:∀ T∈D,T ∉ A.deps):A.p B v W':=by
 refine VA.many ((List.range W.heap.size).filter λ k=>match W.heap[k]? with | some (.cells _ T _)=>D.contains T&&decide (b≤k) | _=>false) hp h.os h.tape h.output h.size (λ k c T fz hk hn=>?_) (λ g hg=>?_)
 ·refine h.block k (Array.getElem?_eq_some_iff.1 hk).1 λ hF=>hn (q7.2 ⟨by simpa using (Array.getElem?_eq_some_iff.1 hk).1,?_⟩)
  rcases hF.2 with h1 | ⟨_,c',T',fz',hc,hD'⟩
  ·have:=(Array.getElem?_eq_some_iff.1 hk).1; omega
  ·have hc':W.heap[k]?=_:=hc
   rw [hc'] at hk
   injection hk with hk
   injection hk with _ hk _
   subst hk
   rw [hc']
   simp only [qi,qv,qQ]
   exact ⟨hD',hF.1⟩
 ·obtain ⟨_,h2⟩:=q7.1 hg
  split at h2
  ·rename_i c T fz hc
   simp only [qi,qv,qQ] at h2
   exact ⟨qe hb h2.2,c,T,fz,hc,hD T h2.1⟩
  ·cases h2
def As.vaC (A:As)(cs:List Value):VA where
 p B _ w:=A.p B cs w
 deps:=A.deps
 cg:=λ B _ w w' h hp=>A.cg B cs w w' h hp
 wr:=λ B _ w w' g c T fz h1 h2 h3 h4 hp=>A.wr B cs w w' g c T fz h1 h2 h3 h4 hp
theorem As.stp {A:As}{B b:Nat}{cs:List Value}{D:List TypeId}{gs:List Nat}{W W':World}(hp:A.p B cs W)(h:Stp b D gs W W')(hb:B≤b)(hD:∀ T∈D,T ∉ A.deps):A.p B cs W':=VA.stp (A:=As.vaC A cs) (v:=undef) hp h hb hD
def offD (D:List TypeId)(deps:List TypeId):Bool:=deps.all λ T => !D.contains T
theorem d3 {D deps:List TypeId}(h:offD D deps=true):∀ T∈D,T ∉ deps:=λ T hT hd=>by
 have:=qc.1 h T hd
 simp only [qq,qv,qn] at this
 exact this hT
def CellsT (Tc:List TypeId)(gs:List Nat)(W:World):Prop:=∀ g∈gs,∃ c T fz,W.heap[g]?=some (.cells c T fz)∧T∈Tc
abbrev StpI (gs:List Nat)(W W':World):Prop:=Kept ⟨W,λ k=>k∈gs,true⟩ W'
theorem VA.stpI {A:VA}{gs:List Nat}{Tc:List TypeId}{W W':World}(hp:A.p B v W)(h:StpI gs W W')(hc:CellsT Tc gs W)(hb:∀ g∈gs,B≤g)(hD:∀ T∈Tc,T ∉ A.deps):A.p B v W' :=
 VA.many gs hp h.os h.tape h.output h.size (λ k c T fz hk hn=>h.block k (Array.getElem?_eq_some_iff.1 hk).1 hn) λ g hg=>by
  obtain ⟨c,T,fz,h1,h2⟩:=hc g hg
  exact ⟨hb g hg,c,T,fz,h1,hD T h2⟩
theorem As.stpI {A:As}{B:Nat}{cs:List Value}{gs:List Nat}{Tc:List TypeId}{W W':World}(hp:A.p B cs W)(h:StpI gs W W')(hc:CellsT Tc gs W)(hb:∀ g∈gs,B≤g)(hD:∀ T∈Tc,T ∉ A.deps):A.p B cs W':=VA.stpI (A:=As.vaC A cs) (v:=undef) hp h hc hb hD
theorem StpI.noncell {gs:List Nat}{Tc:List TypeId}{W W':World}(h:StpI gs W W')(hc:CellsT Tc gs W){k:Nat}{o:Obj}(hk:W.heap[k]?=some o)(ho:o.isCells=false):W'.heap[k]?=some o :=
 (h.block k (Array.getElem?_eq_some_iff.1 hk).1 (λ hF=>by
  obtain ⟨c,T,fz,h1,_⟩:=hc k hF
  rw [h1] at hk
  injection hk with hk
  subst hk
  cases ho)).trans hk
theorem St.stpI {B N:Nat}{w0:Bs}{Γ:List (Nat × VA)}{Λ:List Lc}{a:Act}{W W':World}{gs:List Nat}{Tc:List TypeId}(h:St B w0 N Γ Λ a W)(hB:B=w0.w.heap.size)(hs:StpI gs W W')(hc:CellsT Tc gs W)(hb:∀ g∈gs,B≤g)(hΓ:Γ.all (λ x=>offD Tc x.2.deps)=true)(hΛ:Λ.all (λ l=>offD Tc l.A.deps)=true)
  (hdis:∀ l∈Λ,∀ g,blk (a.eval (.tmp l.s))=some g→g ∉ gs):St B w0 N Γ Λ a W':=by
 refine ⟨h.lo,h.defers.keep rfl λ Dm hD=>hs.noncell hc hD rfl,h.size,⟨hs.os.trans h.base.os,hs.tape.trans h.base.tape,hs.output.trans h.base.output,qe h.base.size hs.size,λ k hk hf=>(hs.block k (qD hk h.base.size) (λ hF=>by have:=hb k hF; omega)).trans (h.base.block k hk hf)⟩,
  λ x hx=>VA.stpI (h.vals x hx) hs hc hb (d3 (qc.1 hΓ x hx)),λ l hl=>?_,h.dis⟩
 obtain ⟨g,cs,e1,e2,e3,e4⟩:=h.locs l hl
 exact ⟨g,cs,e1,e2,(hs.block g (Array.getElem?_eq_some_iff.1 e3).1 (hdis l hl g (by rw [e1]; exact l.H.ok g))).trans e3,As.stpI e4 hs hc hb (d3 (qc.1 hΛ l hl))⟩
theorem St.put {B N:Nat}{W:World}{r:Nat}{o o':Obj}(h:St B w0 N Γ Λ a W)(hr:W.heap[r]?=some o)(ho:o.isCells=false)(hd:o≠.deferred (some []))(hge:w0.w.heap.size≤r):St B w0 N Γ Λ a (W.putObj r o'):=by
 have hc:Cg W (W.putObj r o'):=⟨by simp,λ g c T fz hg=>(World.putObj_heap_other (λ e=>by subst e; rw [hg] at hr; injection hr with hr; subst hr; cases ho)).trans hg⟩
 refine ⟨h.lo,h.defers.keep rfl λ Dm hD=>(World.putObj_heap_other (λ e=>by subst e; rw [hD] at hr; injection hr with hr; exact hd hr.symm)).trans hD,h.size,⟨h.base.os,h.base.tape,h.base.output,by simpa using h.base.size,λ k hk hf=>(World.putObj_heap_other zo).trans (h.base.block k hk hf)⟩,
  λ x hx=>x.2.cg _ _ _ _ hc (h.vals x hx),λ l hl=>?_,h.dis⟩
 obtain ⟨g,cs,e1,e2,e3,e4⟩:=h.locs l hl
 exact ⟨g,cs,e1,e2,hc.heap e3,l.A.cg _ _ _ _ hc e4⟩
def CapsOk (B:Nat)(w:World)(caps:List (TypeId × As))(gs:List Nat):Prop:=All2 (λ (c:TypeId × As) (g:Nat)=>B≤g∧∃ cs,w.heap[g]?=some (.cells (List.toArray cs) c.1 (0,0))∧c.2.p B cs w) caps gs
structure ItH (P:Program) (l B:Nat) (Db Tc:List TypeId) (gs:List Nat) (Y:Nat→List VA) (inf:Bool) (M:Nat) (J:Nat→World→Prop) (Jx:World→Prop):Prop where
 inf':inf=true→∀ W,¬ J M W
 st:∀ k W W',J k W→StpI gs W W'→CellsT Tc gs W'→J k W'
 stx:∀ W W',Jx W→StpI gs W W'→CellsT Tc gs W'→Jx W'
 ct:∀ k W,J k W→CellsT Tc gs W
 ctx:∀ W,Jx W→CellsT Tc gs W
 yd:∀ k W args,k<M→J k W→All2 (λ (A:VA) v=>A.p B v W) (Y k) args→YieldAt Fence.wide 0 P l args.toArray W λ e W'=>(e=.returned (.bool true)∧J (k+1) W'∧Stp B Db gs W W') ∨
  (e=.returned (.bool false)∧Jx W'∧W.heap.size≤W'.heap.size∧∀ D:Nat,W.heap[D]?=some (.deferred (some []))→W'.heap[D]?=some (.deferred (some [])))
def ItCg (P:Program)(f:FuncId)(caps:List (TypeId × As))(gs:List Nat)(Y:Nat→List VA)(inf:Bool)(M:Nat)(Dd:List TypeId):Prop :=
 (∃ fn, P.funcs[f]? = some fn ∧ (fn.name == "runtime.NumGoroutine") = false ∧ fn.body.isNone = false) ∧
 ∀ (l B:Nat) (w:World) (Db:List TypeId) (J:Nat→World→Prop) (Jx:World→Prop),B≤w.heap.size→gs.Nodup→CapsOk B w caps gs→offD Db Dd=true→ItH P l B Db (caps.map ze) gs Y inf M J Jx→J 0 w →
  Calls P f (.func (.yield l) #[] #[]::gs.map ptr).toArray w λ e W'=>∃ v,e=.returned v∧(J M W'∨Jx W')
theorem cJ {caps:List (TypeId × As)}{gs:List Nat}(h:CapsOk B w caps gs):CellsT (caps.map ze) gs w∧∀ g∈gs,B≤g:=by
 induction h with
 | nil=>exact ⟨(λ _ h=>by cases h),(λ _ h=>by cases h)⟩
 | @cons c g cs gs hh _ ih =>
  obtain ⟨hB,ds,h1,_⟩:=hh
  refine ⟨λ g' hg=>?_,λ g' hg=>?_⟩
  ·rcases ql.1 hg with rfl | hg
   ·exact ⟨_,_,_,h1,by simp⟩
   ·obtain ⟨c',T,fz,h2,h3⟩:=ih.1 g' hg
    exact ⟨c',T,fz,h2,by simp only [qH,ql]; exact .inr h3⟩
  ·rcases ql.1 hg with rfl | hg
   ·exact hB
   ·exact ih.2 g' hg
def ItV (f:FuncId)(caps:List (TypeId × As))(gs:List Nat):VA where
 p B v w:=v=.func (.func f) #[] (gs.map ptr).toArray∧gs.Nodup∧CapsOk B w caps gs
 deps:=caps.map ze++caps.flatMap (·.2.deps)
 cg:=by
  rintro B v w w' hg ⟨e,h1,h2⟩
  exact ⟨e,h1,h2.mono λ c g ⟨h3,cs,h4,h5⟩=>⟨h3,cs,hg.heap h4,c.2.cg _ _ _ _ hg h5⟩⟩
 wr:=by
  rintro B v w w' g c T fz h1 hT h3 h4 ⟨e,hn,h⟩
  refine ⟨e,hn,?_⟩
  clear e hn
  induction h with
  | nil=>exact .nil
  | @cons x y xs ys hh _ ih =>
   simp only [qH,jY,qj,ql,not_or] at hT
   obtain ⟨hB,cs,h5,h6⟩:=hh
   refine .cons ⟨hB,cs,?_,x.2.wr _ _ _ _ _ _ _ _ h1 hT.2.1 h3 h4 h6⟩ (ih ?_)
   ·rw [h4.block y (λ e=>by subst e; rw [h1] at h5; injection h5 with h5; injection h5 with _ h5 _; exact hT.1.1 h5)]
    exact h5
   ·simp only [qj,not_or]
    exact ⟨hT.1.2,hT.2.2⟩
def REnd (B N:Nat)(w1:Bs)(a:Act)(Λ:List Lc)(a':Act)(W:World):Prop:=∃ Γ,St B w1 N Γ Λ a' W∧∀ l∈Λ,a'.eval (.tmp l.s)=a.eval (.tmp l.s)
def rPost (B N:Nat)(w1:Bs)(a:Act)(c:Prop)(Λn:List Lc)(Λr:Option (List Lc))(Λx:Nat→Option (List Lc)):Exit→Act→World→Prop
 | .normal,a',W=>c∧REnd B N w1 a Λn a' W
 | .ret,a',W=>∃ Λ,Λr=some Λ∧REnd B N w1 a Λ a' W
 | .exit id,a',W=>∃ Λ,Λx id=some Λ∧REnd B N w1 a Λ a' W
 | _,_,_=>False
def Bg (l:Nat)(W W':World):Prop:=∃ r r':Loop,W.heap[l]?=some (.loop r)∧W'=W.putObj l (.loop r')
theorem loop_cg {W:World}{l:Nat}{r:Loop}(hr:W.heap[l]?=some (.loop r))(o:Obj):Cg W (W.putObj l o):=⟨by simp,λ g c T fz hg=>(World.putObj_heap_other (λ e=>by subst e; rw [hg] at hr; cases hr)).trans hg⟩
theorem St.begin {B N:Nat}{gs:List Nat}{Ws W0:World}{W W':World}{l:Nat}(h:St B (rndB B D gs Ws W0) N Γ Λ a W)(hs:Ws.heap.size≤W0.heap.size)(hlo:B≤Ws.heap.size)(hb:Bg l W W'):St B (rndB B D gs Ws W') N Γ Λ a W':=by
 obtain ⟨r,r',hr,rfl⟩:=hb
 have hc:=loop_cg hr (.loop r')
 have hmay:∀ g,(rndB B D gs Ws W0).may g→(rndB B D gs Ws (W.putObj l (.loop r'))).may g:=λ g hg=>by
  rcases hg with hg | hg
  ·have hg':W0.heap.size≤g:=hg
   exact .inr ⟨by omega,.inl zo⟩
  ·exact .inr hg
 refine ⟨λ g hg=>?_,⟨λ d hd=>?_,h.defers.nodup,λ hn=>by cases hn⟩,h.size,Kept.refl _,λ x hx=>x.2.cg _ _ _ _ hc (h.vals x hx),λ m hm=>?_,h.dis⟩
 ·rcases hg with hg | hg
  ·have h1:W0.heap.size≤W.heap.size:=h.base.size
   have h2:(W.putObj l (.loop r')).heap.size≤g:=hg
   simp only [World.putObj_size] at h2
   omega
  ·exact hg.1
 ·obtain ⟨Dm,e1,e2,e3⟩:=h.defers.all d hd
  exact ⟨Dm,e1,hmay Dm e2,(World.putObj_heap_other (λ e=>by subst e; rw [hr] at e3; cases e3)).trans e3⟩
 ·obtain ⟨g,cs,e1,e2,e3,e4⟩:=h.locs m hm
  exact ⟨g,cs,e1,hmay g e2,hc.heap e3,m.A.cg _ _ _ _ hc e4⟩
theorem set_all:∀ (l:List (Nat × Value)) (t:Array Value),(l.foldl (λ t x=>t.setIfInBounds x.1 x.2) t).size=t.size∧(∀ s,s ∉ l.map ze→(l.foldl (λ t x=>t.setIfInBounds x.1 x.2) t)[s]?=t[s]?)∧((l.map ze).Nodup→∀ x∈l,x.1<t.size→(l.foldl (λ t x=>t.setIfInBounds x.1 x.2) t)[x.1]?=some x.2)
 | [],t=>⟨rfl,λ _ _=>rfl,λ _ _ h=>by cases h⟩
 | y::l,t=>by
  obtain ⟨h1,h2,h3⟩:=set_all l (t.setIfInBounds y.1 y.2)
  simp only [List.foldl_cons]
  refine ⟨by rw [h1]; simp,λ s hs=>?_,λ nd x hx hlt=>?_⟩
  ·simp only [qH,ql,not_or] at hs
   rw [h2 s hs.2,Array.getElem?_setIfInBounds_ne (λ e=>hs.1 e.symm)]
  ·simp only [qH,xu] at nd
   rcases ql.1 hx with rfl | hx
   ·rw [h2 _ nd.1,Array.getElem?_setIfInBounds_self_of_lt hlt]
   ·exact h3 nd.2 x hx (by simpa using hlt)
theorem ea (a:Act)(s:Nat):a.eval (.tmp s)=(a.tmps[s]?).getD undef:=by simp [Act.eval]
section
variable {P:Program} {Q:Exit→Act→World→Prop} {B N:Nat} {w0:Bs} {Γ:List (Nat × VA)} {a:Act} {w:World}
end
theorem fD {anc:List (List Nat)}{n m:Nat}(h:(List.range m).all (λ q=>(List.range (n+q)).all λ j=>(anc.getD (n+q) []).contains j)=true):∀ i,n≤i→i<n+m→∀ j,j<i→(anc.getD i []).contains j=true:=λ i h1 h2 j hj=>by
 have:=qc.1 (qc.1 h (i-n) (by simp; omega)) j (by simp; omega)
 rwa [show n+(i-n)=i by omega] at this
theorem k8 {f:FuncId}{fn:Func}{c:Code}{args:Array Value}{R:Ending→World→Prop}(hf:P.funcs[f]?=some fn)(hb:fn.body=some c)
  (h:c.wpIn (fw none) 0 P (bPost P fn R) { tmps:=args++Array.replicate (fn.ntmps-args.size) undef,defers:=[] } w):Calls P f args w R :=
 bz hf hb (wpIn_wide.1 h)
def itB (gs:List Nat)(w:World):Bs:=⟨w,λ k=>k∈gs,true⟩
def capsΛ (caps:List (TypeId × As)):List Lc:=caps.zipIdx.map λ x=>⟨x.2+1,x.1.1,ptrH,x.1.2⟩
def capsΓ (gs:List Nat)(n:Nat):List (Nat × VA):=(List.range n).map λ i=>(i+1,EqV (ptr (gs.getD i 0)))
structure ItG (B:Nat) (gs:List Nat) (Tc:List TypeId) (J:Nat→World→Prop) (k:Nat) (w0:Bs):Prop where
 eq:w0=itB gs w0.w
 j:J k w0.w
 ge:∀ g∈gs,B≤g
theorem nodup_at {α:Type}:∀ {l:List α},l.Nodup→∀ {i j:Nat} {x:α},l[i]?=some x→l[j]?=some x→i=j
 | [],_,_,_,_,h,_=>by cases h
 | y::l,nd,i,j,x,hi,hj=>by
  obtain ⟨n1,n2⟩:=xu.1 nd
  cases i with
  | zero=>cases j with
   | zero=>rfl
   | succ j =>
    have e1:y=x:=by simpa using hi
    have e2:l[j]?=some x:=by simpa using hj
    exact absurd (qa e2) (by rw [← e1]; exact n1)
  | succ i=>cases j with
   | zero =>
    have e1:y=x:=by simpa using hj
    have e2:l[i]?=some x:=by simpa using hi
    exact absurd (qa e2) (by rw [← e1]; exact n1)
   | succ j=>rw [nodup_at n2 (i:=i) (j:=j) (x:=x) (by simpa using hi) (by simpa using hj)]
theorem ItCg.intro {gs : List Nat} {f : FuncId} {fn : Func} {c : Code} {caps : List (TypeId × As)} {Y : Nat → List VA} {inf : Bool} {M : Nat} {Dd : List TypeId} (hf : P.funcs[f]? = some fn) (hb : fn.body = some c) (hn : (fn.name == "runtime.NumGoroutine") = false) (hsz : caps.length + 1 ≤ fn.ntmps)
  (h:∀ (l B:Nat) (Db:List TypeId) (J:Nat→World→Prop) (Jx:World→Prop) (w0:Bs) (a:Act),gs.length=caps.length→offD Db Dd=true→ItH P l B Db (caps.map ze) gs Y inf M J Jx→ItG B gs (caps.map ze) J 0 w0 →
   St B w0 fn.ntmps ((0,EqV (.func (.yield l) #[] #[]))::capsΓ gs caps.length) (capsΛ caps) a w0.w→c.wpIn (fw none) 0 P (bPost P fn (λ e W'=>∃ v,e=.returned v∧(J M W'∨Jx W'))) a w0.w):ItCg P f caps gs Y inf M Dd:=by
 refine ⟨⟨fn,hf,hn,by rw [hb]; rfl⟩,λ l B w Db J Jx hB hgn hcaps hoff hI hJ=>k8 hf hb (h l B Db J Jx (itB gs w) _ hcaps.length.symm hoff hI ⟨rfl,hJ,(cJ hcaps).2⟩ ?_)⟩
 have hlen:=hcaps.length
 have hev:∀ i (hi:i<gs.length),({ tmps:=(Value.func (.yield l) #[] #[]::gs.map ptr).toArray++Array.replicate (fn.ntmps-(Value.func (.yield l) #[] #[]::gs.map ptr).toArray.size) undef,defers:=[] }:Act).eval (.tmp (i+1))=ptr (gs.getD i 0):=λ i hi=>by
  rw [ea]
  have h1:(((Value.func (.yield l) #[] #[]::gs.map ptr).toArray++Array.replicate (fn.ntmps-(Value.func (.yield l) #[] #[]::gs.map ptr).toArray.size) undef:Array Value)[i+1]?)=some (ptr (gs.getD i 0)):=by
   rw [Array.getElem?_append_left (by simp; omega)]
   simp [List.getD,hi]
  show ((_:Array Value)[i+1]?).getD undef=_
  rw [h1]
  rfl
 have hat:∀ {i:Nat} {c:TypeId × As},caps[i]?=some c→∃ g,gs[i]?=some g∧g∈gs∧B≤g∧∃ cs,w.heap[g]?=some (.cells (List.toArray cs) c.1 (0,0))∧c.2.p B cs w:=λ {i c} hc=>by
  obtain ⟨g,h1,h2⟩:=hcaps.get hc
  exact ⟨g,h1,qa h1,h2⟩
 have hΛ:∀ m∈capsΛ caps,∃ i c g,caps[i]?=some c∧gs[i]?=some g∧m=⟨i+1,c.1,ptrH,c.2⟩:=λ m hm=>by
  obtain ⟨x,hx,rfl⟩:=qo.1 hm
  have hx':=qZ.1 hx
  obtain ⟨g,h1,_⟩:=hat hx'
  exact ⟨x.2,x.1,g,hx',h1,rfl⟩
 have hev':∀ {i g:Nat},gs[i]?=some g→({ tmps:=(Value.func (.yield l) #[] #[]::gs.map ptr).toArray++Array.replicate (fn.ntmps-(Value.func (.yield l) #[] #[]::gs.map ptr).toArray.size) undef,defers:=[] }:Act).eval (.tmp (i+1))=ptr g:=λ {i g} hg=>by
  rw [hev i (List.getElem?_eq_some_iff.1 hg).1]
  simp [List.getD,hg]
 refine ⟨λ g hg=>?_,DefOk.nil rfl,?_,Kept.refl _,λ x hx=>?_,λ m hm=>?_,λ m hm m' hm' hne=>?_⟩
 ·rcases hg with hg | hg
  ·exact qe hB hg
  ·exact (cJ hcaps).2 g hg
 ·simp only [zu,zr,qz,zU,qd]
  omega
 ·rcases ql.1 hx with rfl | hx
  ·show _=_
   rw [ea]
   show ((_:Array Value)[0]?).getD undef=_
   rw [Array.getElem?_append_left (by simp)]
   simp
  ·obtain ⟨i,hi,rfl⟩:=qo.1 hx
   exact hev i (by rw [← hlen]; simpa using hi)
 ·obtain ⟨i,c,g,h1,h2,rfl⟩:=hΛ m hm
  obtain ⟨g',h3,h4,_,cs,h5,h6⟩:=hat h1
  rw [h2] at h3
  injection h3 with h3
  subst h3
  exact ⟨g,cs,hev' h2,.inr h4,h5,h6⟩
 ·obtain ⟨i,c,g,h1,h2,rfl⟩:=hΛ m hm
  obtain ⟨j,c',g',h3,h4,rfl⟩:=hΛ m' hm'
  show blk (Act.eval _ (.tmp (i+1)))≠blk (Act.eval _ (.tmp (j+1)))
  rw [hev' h2,hev' h4]
  intro e
  have e':g=g':=by injection e
  subst e'
  exact hne (by rw [nodup_at hgn h2 h4])
section
open Rg
variable {P:Program} {Q:Exit→Act→World→Prop} {B N:Nat} {w0:Bs} {Γ:List (Nat × VA)} {Λ:List Lc} {a:Act} {w:World}
theorem not_op {e d:Nat}{T T':TypeId}:∀ (a:Act) (w:World) (b:Bool),a.eval (.tmp d)=.bool b→(execOp a.eval ⟨some e,.unOp .not T (.tmp d),T',ps,af,none⟩).run P w=.ok (.value (.bool (!b))) w:=λ a w b h=>by
 simp [execOp,h]
 rfl
theorem asg_op {e d:Nat}{T':TypeId}:∀ (a:Act) (w:World) (b:Bool),a.eval (.tmp d)=.bool b→(execOp a.eval ⟨some e,.assign (.tmp d),T',ps,af,none⟩).run P w=.ok (.value (.bool b)) w:=λ a w b h=>by
 simp [execOp,h]
end
def OwnC (E:TypeId)(m:Nat)(D:List TypeId)(l:List As):As where
 n:=1
 ag:=false
 p B cs w:=∃ v,cs=[v]∧(OwnR B E m D l).p B v w
 deps:=E::D
 len:=by rintro B cs w ⟨v,rfl,_⟩; rfl
 one:=by
  rintro B cs w ⟨v,rfl,_,_,ds,_,_,h⟩ c hc
  obtain rfl:=qr.1 hc
  rcases h with ⟨rfl,_⟩ | ⟨g,cap,cur,rfl,_⟩ <;> rfl
 ag1:=λ _=>rfl
 cg:=by
  rintro B cs w w' hg ⟨v,rfl,h⟩
  exact ⟨v,rfl,(OwnR B E m D l).cg _ _ _ _ hg h⟩
 wr:=by
  rintro B cs w w' g c T fz h1 h2 h3 h4 ⟨v,rfl,h⟩
  exact ⟨v,rfl,(OwnR B E m D l).wr _ _ _ _ _ _ _ _ h1 h2 h3 h4 h⟩
theorem ownC_v {E:TypeId}{m:Nat}{l:List As}(h:(OwnC E m D l).va.p B v w):(OwnR B E m D l).p B v w:=by
 obtain ⟨cs,⟨u,rfl,h⟩,hv⟩:=h
 have:v=u:=hv
 subst this
 exact h
theorem ownC_sl {E:TypeId}{m:Nat}{l:List As}:Wk (OwnC E m D l).va (SlA E D l).va:=λ B v w h=>own_sl B v w (ownC_v h)
def OneC:As where
 n:=1
 ag:=false
 p _ cs _:=∃ v,cs=[v]∧v.oneCell'=true
 deps:=[]
 len:=by rintro B cs w ⟨v,rfl,_⟩; rfl
 one:=by
  rintro B cs w ⟨v,rfl,h⟩ c hc
  obtain rfl:=qr.1 hc
  exact h
 ag1:=λ _=>rfl
 cg:=λ _ _ _ _ _ h=>h
 wr:=λ _ _ _ _ _ _ _ _ _ _ _ _ h=>h
def RowMay (w0:Bs)(B:Nat)(E:TypeId):Prop:=∀ (w:World) (g:Nat) (c:Array Value) (fz:Nat × Nat),Kept w0 w→B≤g→w.heap[g]?=some (.cells c E fz)→w0.may g
theorem eN {E:TypeId}(h:B=w0.w.heap.size):RowMay w0 B E:=λ _ g _ _ _ hg _=>.inl zo
section
open Rg
variable {P:Program} {Q:Exit→Act→World→Prop} {B N:Nat} {w0:Bs} {Γ:List (Nat × VA)} {Λ:List Lc} {a:Act} {w:World}
def lesS (Λ:List Lc)(e j:Nat)(A:As):List Le:=Λ.zipIdx.map λ x=>⟨x.1.s,x.1.T,x.1.H,none,x.1.A,if x.2=e then some (j,A) else none⟩
theorem dK {e j:Nat}{A:As}:∀ y∈lesS Λ e j A,y.cr=none∧(⟨y.s,y.T,y.H,y.A0⟩:Lc)∈Λ∧∀ i B,y.st=some (i,B)→i=j:=λ y hy=>by
 obtain ⟨x,hx,rfl⟩:=qo.1 hy
 refine ⟨rfl,qa (qZ.1 hx),λ i B h=>?_⟩
 simp only at h
 split at h
 ·injection h with h
  injection h with h _
  exact h.symm
 ·cases h
end
def EqIx (Γ:List (Nat × VA))(a:Act):List Lc→List Nat→Prop
 | [],[]=>True
 | l::ls,i::ix=>Γ[i]?=some (l.s,EqV (a.eval (.tmp l.s)))∧EqIx Γ a ls ix
 | _,_=>False
theorem gj {B N:Nat}{w1:Bs}{a a':Act}{W:World}(ix:List Nat)(h:St B w1 N Γ Λ a' W)(he:EqIx Γ a Λ ix):REnd B N w1 a Λ a' W:=by
 refine ⟨Γ,h,?_⟩
 have key:∀ (L:List Lc) (ix:List Nat),EqIx Γ a L ix→∀ l∈L,a'.eval (.tmp l.s)=a.eval (.tmp l.s):=by
  intro L
  induction L with
  | nil=>intro _ _ l hl; cases hl
  | cons m L ih =>
   intro ix hx l hl
   cases ix with
   | nil=>exact hx.elim
   | cons i ix =>
    obtain ⟨h1,h2⟩:=hx
    rcases ql.1 hl with rfl | hl
    ·exact h.vals _ (qa h1)
    ·exact ih ix h2 l hl
 exact key Λ ix he
section
open Rg
variable {P:Program} {Q:Exit→Act→World→Prop} {B N:Nat} {w0:Bs} {Γ:List (Nat × VA)} {Λ:List Lc} {a:Act} {w:World}
theorem op_new {ops:Array Oper}{o:Option Nat}{i d x:Nat}{T ty T1 T2:TypeId}{A0 A:As}{ps1 ps2:String}{af1 af2:Array Edge}{rest:List Nat}(kx:Nat)(src:List Nat)
  (ho1:ops[i]?=some ⟨some d,.alloc T,T1,ps1,af1,none⟩) (ho2:ops[i+1]?=some ⟨none,.store ty (.tmp d) (.tmp x),T2,ps2,af2,none⟩) (hnd:noDefer ops=true) (hQ0:¬ LetsOut Q)
  (h:St B w0 N Γ Λ a w) (hz:Zero P T A0) (hx:Γ[kx]?=some (x,A.va)) (ht:Ty P ty A.n A.ag) (hn:A0.n=A.n) (hd:d<N) (hdx:(d != x)=true)
  (hsrc:src.all (λ k=>match Γ[k]? with | some y=>y.1 != d | none=>false)=true) (hΛ:Λ.all (λ l=>l.s != d)=true)
  (hK:∀ a' w',St B w0 N (src.filterMap λ k=>Γ[k]?) (Λ++[⟨d,T,ptrH,A⟩]) a' w'→wpOpsIn (fw o) 0 P ops Q rest a' w'):wpOpsIn (fw o) 0 P ops Q (i::(i+1)::rest) a w:=by
 obtain ⟨it,z,z1,z2,z3⟩:=hz
 obtain ⟨cs,hp,hv⟩:=h.vals _ (qa hx)
 have hv':a.eval (.tmp x)=shape A.ag cs:=hv
 have l1:=A.len _ _ _ hp
 have l0:=A0.len _ _ _ (z3 B w)
 have hds:d<a.tmps.size:=by rw [h.size]; exact hd
 have hdx':x≠d:=λ e=>by subst e; simp at hdx
 have hΛ':∀ l∈Λ,l.s≠d:=λ l hl=>by
  have:=qc.1 hΛ l hl
  simpa using this
 obtain ⟨W1,hW1⟩:∃ W1,w.alloc (.cells z.cells T)=W1:=⟨_,rfl⟩
 have hg1:Grow w W1:=by rw [← hW1]; exact Grow.alloc _ _
 have hnew:W1.heap[w.heap.size]?=some (.cells z.cells T (0,0)):=by rw [← hW1]; exact heap_alloc_new w _
 rw [wpOpsIn_cons]
 refine dN hnd hQ0 (bB (R:=⟨ops,N,Γ,[],[],λ _=>[]⟩) ho1 G (bf (w':=W1) (v:=ptr w.heap.size) ?_ ?_))
 ·rw [← hW1]; simp [execOp,Instr.alloc,zeroValue,typeInfo,z1,z2,newVar,newRow,ptr]
 obtain ⟨a1,ha1⟩:∃ a1,a.put (some d) (ptr w.heap.size)=a1:=⟨_,rfl⟩
 have ed:a1.eval (.tmp d)=ptr w.heap.size:=by rw [← ha1]; exact aQ _ _ _ hds
 have eo:∀ t,t≠d→a1.eval (.tmp t)=a.eval (.tmp t):=λ t ht=>by rw [← ha1]; exact ak _ _ _ _ ht
 have ef:a1.defers=a.defers:=by rw [← ha1]; rfl
 have es:a1.tmps.size=N:=by rw [← ha1,size_put]; exact h.size
 rw [ha1]
 have l2:z.cells.size=A0.n:=by simpa using l0
 have hrun:=bh ht W1 w.heap.size 0 T z.cells _ cs (A.cells_shape hp) l1 zo (A.one _ _ _ hp) hnew
 rw [q6 (by simp; omega)] at hrun
 simp only [ji,xO,q8] at hrun
 have hW:=Wr.setRow W1 w.heap.size cs.toArray
 have hcell:(W1.setRow w.heap.size cs.toArray).heap[w.heap.size]?=some (.cells cs.toArray T (0,0)):=setRow_heap W1 _ _ _ _ _ hnew
 have hgr:Grow w (W1.setRow w.heap.size cs.toArray):=Kept.grow0 ((hg1.kept).wr hW (.inl (qf _)))
 rw [wpOpsIn_cons]
 refine dN hnd hQ0 ?_
 have U:wpOpsIn (fw o) 0 P ops Q rest a1 (W1.setRow w.heap.size cs.toArray):=by
  refine hK _ _ ⟨h.lo,?_,es,h.base.grow hgr,λ y hy=>?_,λ m hm=>?_,λ m hm m' hm' hne=>?_⟩
  ·exact h.defers.grow hgr ef
  ·obtain ⟨k,hk1,hk2⟩:=qW.1 hy
   have:=qc.1 hsrc k hk1
   rw [hk2] at this
   rw [eo _ (by simpa using this)]
   exact y.2.grow _ _ _ _ hgr (h.vals y (qa hk2))
  ·rcases qj.1 hm with hm | hm
   ·obtain ⟨g,c,q1,q2,q3,q4⟩:=h.locs m hm
    exact ⟨g,c,by rw [eo _ (hΛ' m hm)]; exact q1,q2,hgr.heap q3,m.A.grow _ _ _ _ hgr q4⟩
   ·obtain rfl:=qr.1 hm
    exact ⟨w.heap.size,cs,ed,.inl h.base.size,hcell,A.grow _ _ _ _ hgr hp⟩
  ·have hnm:∀ m∈Λ,∃ g,blk (a1.eval (.tmp m.s))=some g∧g<w.heap.size:=λ m hm=>by
    obtain ⟨g,c,q1,q2,q3,q4⟩:=h.locs m hm
    exact ⟨g,by rw [eo _ (hΛ' m hm),q1]; exact m.H.ok g,(Array.getElem?_eq_some_iff.1 q3).1⟩
   have hd0:blk (a1.eval (.tmp d))=some w.heap.size:=by rw [ed]; rfl
   rcases qj.1 hm with hm | hm <;> rcases qj.1 hm' with hm' | hm'
   ·rw [eo _ (hΛ' m hm),eo _ (hΛ' m' hm')]
    exact h.dis m hm m' hm' hne
   ·obtain rfl:=qr.1 hm'
    obtain ⟨g,q1,q2⟩:=hnm m hm
    rw [q1,hd0]
    intro e
    injection e with e
    omega
   ·obtain rfl:=qr.1 hm
    obtain ⟨g,q1,q2⟩:=hnm m' hm'
    rw [q1,hd0]
    intro e
    injection e with e
    omega
   ·obtain rfl:=qr.1 hm
    obtain rfl:=qr.1 hm'
    exact absurd G hne
 unfold wpOp
 rw [ho2]
 have hwant:Region.wanted (⟨none,.store ty (.tmp d) (.tmp x),T2,ps2,af2,none⟩:Oper) (yielded ops a1.tmps)=true:=rfl
 simp only [hwant,if_true]
 refine .inl (wp_skip' (w':=W1.setRow w.heap.size cs.toArray) ?_ U)
 have e2:a1.eval (.tmp x)=shape A.ag cs:=by rw [eo _ hdx']; exact hv'
 have e1:a1.eval (.tmp d)=.pointer (some ⟨w.heap.size,0,none⟩):=ed
 simp [execOp,e1,e2,Instr.storeAt,Instr.sureAddr,hrun]
theorem eQ {id:Nat}{ops:Array Oper}{o:Option Nat}{d x:Nat}{T ty T1 T2:TypeId}{A0 A:As}{ps1 ps2:String}{af1 af2:Array Edge}(kx:Nat)(src:List Nat)(h:St B w0 N Γ Λ a w)(hsz:ops.size=2)
  (ho1:ops[0]?=some ⟨some d,.alloc T,T1,ps1,af1,none⟩) (ho2:ops[0+1]?=some ⟨none,.store ty (.tmp d) (.tmp x),T2,ps2,af2,none⟩) (hnd:noDefer ops=true) (hQ0:¬ LetsOut Q)
  (hz:Zero P T A0) (hx:Γ[kx]?=some (x,A.va)) (ht:Ty P ty A.n A.ag) (hn:A0.n=A.n) (hd:d<N) (hdx:(d != x)=true)
  (hsrc:src.all (λ k=>match Γ[k]? with | some y=>y.1 != d | none=>false)=true) (hΛ:Λ.all (λ l=>l.s != d)=true)
  (hQ:∀ a' w',St B w0 N (src.filterMap λ k=>Γ[k]?) (Λ++[⟨d,T,ptrH,A⟩]) a' w'→Q .normal a' w'):(Code.region id ops false).wpIn (fw o) 0 P Q a w:=by
 refine wpIn_region ?_
 rw [hsz]
 exact op_new kx src ho1 ho2 hnd hQ0 h hz hx ht hn hd hdx hsrc hΛ λ a' w' U=>hQ _ _ U
end
end Go.Proofs.Ytlakjmncfooodaa
