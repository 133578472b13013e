import Derived.Test.YtlakjmncfooodaaSnAj
set_option linter.all false
set_option maxRecDepth 100000
namespace Go.Proofs.Ytlakjmncfooodaa
open Go Go.RowKit
variable {w:World}{B:Nat}{a:Act}{v:Value}{T:TypeId}{w0:Bs}{Γ:List (Nat × VA)}{Λ:List Lc}{ps:String}{af:Array Edge}{vr:Value}{H:Hd}{cs:List Value}{w':World}{P:Program}{D:List TypeId}
def cbl (cs:List Value):List Nat:=cs.filterMap blk
def vbl (v:Value):List Nat:=cbl v.cells.toList
def Sep (u v:Value):Prop:=∀ g∈vbl u,g ∉ vbl v
def SepAll (us:List Value)(v:Value):Prop:=∀ u∈us,Sep u v
theorem vbl_of {A:As}(h:A.p B cs w):vbl (shape A.ag cs)=cbl cs:=by
 show cbl (shape A.ag cs).cells.toList=_
 rw [A.cells_shape h]
def PinA (v:Value)(A:As):As where
 n:=A.n
 ag:=A.ag
 p B cs w:=A.p B cs w∧shape A.ag cs=v
 deps:=A.deps
 len:=λ B cs w h=>A.len B cs w h.1
 one:=λ B cs w h=>A.one B cs w h.1
 ag1:=A.ag1
 cg:=λ B cs w w' hg h=>⟨A.cg B cs w w' hg h.1,h.2⟩
 wr:=λ B cs w w' g c T fz h1 h2 h3 h4 h=>⟨A.wr B cs w w' g c T fz h1 h2 h3 h4 h.1,h.2⟩
theorem and_wk {A:As}{c:Prop}:WkA (A.and c) A:=⟨rfl,rfl,λ _ _ _ h=>h.2⟩
def NewA (A:As):Prop:=∀ B cs w,A.p B cs w→∀ g∈cbl cs,B≤g∧g<w.heap.size
def NodA (A:As):Prop:=∀ B cs w,A.p B cs w→(cbl cs).Nodup
def DisA (A:As):As where
 n:=A.n
 ag:=A.ag
 p B cs w:=A.p B cs w∧(cbl cs).Nodup
 deps:=A.deps
 len:=λ B cs w h=>A.len B cs w h.1
 one:=λ B cs w h=>A.one B cs w h.1
 ag1:=A.ag1
 cg:=λ B cs w w' hg h=>⟨A.cg B cs w w' hg h.1,h.2⟩
 wr:=λ B cs w w' g c T fz h1 h2 h3 h4 h=>⟨A.wr B cs w w' g c T fz h1 h2 h3 h4 h.1,h.2⟩
theorem dis_wk {A:As}:WkA (DisA A) A:=⟨rfl,rfl,λ _ _ _ h=>h.1⟩
theorem dis_nod {A:As}:NodA (DisA A):=λ _ _ _ h=>h.2
theorem dis_new {A:As}(h:NewA A):NewA (DisA A):=λ B cs w hp=>h B cs w hp.1
theorem gL {A:As}(h:FreeA A A):FreeA (DisA A) (DisA A):=⟨rfl,rfl,λ B B' cs w hB hp=>⟨h.2.2 B B' cs w hB hp.1,hp.2⟩⟩
theorem k5 {a b:List Value}:cbl (a++b)=cbl a++cbl b:=List.filterMap_append ..
theorem new_cat0 {B:Nat}{w:World}:∀ {l:List As} {ps:List (List Value)},(∀ A∈l,NewA A)→All2 (λ (A:As) c=>A.p B c w) l ps→∀ g∈cbl ps.flatten,B≤g∧g<w.heap.size
 | [],_,_,h,g,hg=>by cases h; cases hg
 | A::l,_,hn,h,g,hg=>by
  cases h with
  | cons h1 h2 =>
   rw [za,k5,qj] at hg
   rcases hg with hg | hg
   ·exact hn A (by simp) _ _ _ h1 g hg
   ·exact new_cat0 (λ A' hA=>hn A' (by simp [hA])) h2 g hg
theorem new_cat {l:List As}(h:∀ A∈l,NewA A):NewA (cat l):=λ B cs w ⟨ps,e,hp⟩=>by
 subst e
 exact new_cat0 h hp
def pins:List Value→List (Value × As)→List As
 | _,[]=>[]
 | us,(v,A)::l=>PinA v (A.and (SepAll us v))::pins (us++[v]) l
theorem pins_ok:∀ {l:List (Value × As)} {us:List Value} {B:Nat} {w:World} {ps:List (List Value)},(∀ x∈l,NodA x.2)→All2 (λ (A:As) c=>A.p B c w) (pins us l) ps →
  All2 (λ (A:As) c=>A.p B c w) (l.map (·.2)) ps∧(cbl ps.flatten).Nodup∧∀ u∈us,∀ g∈vbl u,g ∉ cbl ps.flatten
 | [],us,B,w,ps,_,h=>by
  cases h
  exact ⟨.nil,xR,λ _ _ _ _ h=>by cases h⟩
 | (v,A)::l,us,B,w,ps,hn,h=>by
  cases h with
  | @cons _ c _ cs h1 h2 =>
   obtain ⟨q1,q2,q3⟩:=pins_ok (λ x hx=>hn x (by simp [hx])) h2
   obtain ⟨⟨hsep,hA⟩,hv⟩:=h1
   have hvb:vbl v=cbl c:=by
    have hv':shape A.ag c=v:=hv
    rw [← hv']; exact vbl_of hA
   refine ⟨.cons hA q1,?_,λ u hu g hg hm=>?_⟩
   ·rw [za,k5]
    refine xD.2 ⟨hn (v,A) (by simp) _ _ _ hA,q2,λ x hx y hy e=>?_⟩
    subst e
    exact q3 v (by simp) x (by rw [hvb]; exact hx) hy
   ·rw [za,k5,qj] at hm
    rcases hm with hm | hm
    ·exact hsep u hu g hg (by rw [hvb]; exact hm)
    ·exact q3 u (by simp [hu]) g hg hm
theorem dis_pins {l:List (Value × As)}(hn:∀ x∈l,NodA x.2):WkA (cat (pins [] l)) (DisA (cat (l.map (·.2)))):=by
 have hlen:∀ (us:List Value) (l:List (Value × As)),((pins us l).map (·.n)).sum=((l.map (·.2)).map (·.n)).sum:=by
  intro us l
  induction l generalizing us with
  | nil=>rfl
  | cons x l ih=>obtain ⟨v,A⟩:=x; simp only [pins,qH,xb,ih]; rfl
 refine ⟨(hlen [] l).symm,rfl,λ B cs w ⟨ps,e,hp⟩=>?_⟩
 obtain ⟨q1,q2,_⟩:=pins_ok hn hp
 subst e
 exact ⟨⟨ps,rfl,q1⟩,q2⟩
namespace Rg
structure LeF where
 s:Nat
 T:TypeId
 H:Hd
 cr:Option Nat
 A0:As
 st:Option (Nat × ((Nat→Value)→As))
def LeF.on (ν:Nat→Value)(e:LeF):Le:=⟨e.s,e.T,e.H,e.cr,e.A0,match e.st with | none=>none | some (j,f)=>some (j,f ν)⟩
abbrev fam (ops:Array Oper)(N:Nat)(Γ:List (Nat × VA))(les:List LeF)(sp:List ((Nat→Value)→Sp))(anc:Nat→List Nat)(ν:Nat→Value):Rg:=⟨ops,N,Γ,les.map (LeF.on ν),sp.map (λ f=>f ν),anc⟩
def Dep {α:Type}(S:Nat→Bool)(f:(Nat→Value)→α):Prop:=∀ ν ν',(∀ k,S k=true→ν k=ν' k)→f ν=f ν'
def bef (anc:Nat→List Nat)(i k:Nat):Bool:=k==i || (anc i).contains k
def nuSet (ν:Nat→Value)(i:Nat)(v:Value):Nat→Value:=λ k=>if k=i then v else ν k
theorem nu_same {ν:Nat→Value}{i:Nat}:nuSet ν i v i=v:=qy rfl
theorem nu_ne {ν:Nat→Value}{i k:Nat}(h:k≠i):nuSet ν i v k=ν k:=qm h
section
variable {ops:Array Oper} {N:Nat} {Γ:List (Nat × VA)} {les:List LeF} {sp:List ((Nat→Value)→Sp)} {anc:Nat→List Nat} {ν ν':Nat→Value} {B:Nat} {w0:Bs} {L:Nat→Bool} {a:Act} {w:World} {P:Program} {Q:Exit→Act→World→Prop} {i:Nat}
theorem iv {deps:List TypeId}:clash (fam ops N Γ les sp anc ν) L deps=clash (fam ops N Γ les sp anc ν') L deps:=by
 unfold clash
 show (les.map (LeF.on ν)).any _=(les.map (LeF.on ν')).any _
 rw [List.any_map,List.any_map]
 congr 1
 funext e
 obtain ⟨s,T,H,cr,A0,st⟩:=e
 cases st with
 | none=>rfl
 | some x=>rfl
theorem iT (hdL:∀ e∈les,∀ j f,e.st=some (j,f)→Dep (bef anc j) f)(hc:Closed (fam ops N Γ les sp anc ν) L)(hn:∀ k,L k=true→ν k=ν' k){e:LeF}(he:e∈les):cur L (e.on ν)=cur L (e.on ν'):=by
 obtain ⟨s,T,H,cr,A0,st⟩:=e
 cases st with
 | none=>rfl
 | some x =>
  obtain ⟨j,f⟩:=x
  show (if crOk L cr=true then some (if L j=true then f ν else A0) else none)=(if crOk L cr=true then some (if L j=true then f ν' else A0) else none)
  cases hj:L j with
  | false=>rfl
  | true =>
   have:f ν=f ν':=hdL _ he j f rfl ν ν' λ k hk=>hn k (by
    simp only [bef,zy,zX] at hk
    rcases hk with rfl | hk
    ·exact hj
    ·exact hc j hj k hk)
   rw [this]
theorem sp_fam (hdS:∀ i f,sp[i]?=some f→Dep (bef anc i) f)(hc:Closed (fam ops N Γ les sp anc ν) L)(hn:∀ k,L k=true→ν k=ν' k){j:Nat}(hj:L j=true):(sp.map λ f=>f ν')[j]?=(sp.map λ f=>f ν)[j]?:=by
 rw [List.getElem?_map,List.getElem?_map]
 cases hs:sp[j]? with
 | none=>rfl
 | some f =>
  have:f ν=f ν':=hdS j f hs ν ν' λ k hk=>hn k (by
   simp only [bef,zy,zX] at hk
   rcases hk with rfl | hk
   ·exact hj
   ·exact hc j hj k hk)
  show some (f ν')=some (f ν)
  rw [this]
theorem Inv.nu (hdS:∀ i f,sp[i]?=some f→Dep (bef anc i) f)(hdL:∀ e∈les,∀ j f,e.st=some (j,f)→Dep (bef anc j) f)(hc:Closed (fam ops N Γ les sp anc ν) L)(hn:∀ k,L k=true→ν k=ν' k)(h:(fam ops N Γ les sp anc ν).Inv B w0 L a w):(fam ops N Γ les sp anc ν').Inv B w0 L a w:=by
 refine ⟨h.lo,h.defers,h.size,h.base,λ x hx h1 h2=>h.g x hx h1 (by rw [iv (ν':=ν')]; exact h2),λ i y d A hs hv hL h2=>?_,λ i d b k c hs hL hc'=>?_,λ e he A hA=>?_,λ e he f hf hne h1 h2=>?_⟩
 ·exact h.v i y d A (by rw [← hs]; exact (sp_fam hdS hc hn hL).symm) hv hL (by rw [iv (ν':=ν')]; exact h2)
 ·exact h.d i d b k c (by rw [← hs]; exact (sp_fam hdS hc hn hL).symm) hL hc'
 ·obtain ⟨e0,he0,rfl⟩:=qo.1 he
  exact h.c (e0.on ν) (qo.2 ⟨e0,he0,rfl⟩) A (by rw [iT hdL hc hn he0]; exact hA)
 ·obtain ⟨e0,he0,rfl⟩:=qo.1 he
  obtain ⟨f0,hf0,rfl⟩:=qo.1 hf
  exact h.x (e0.on ν) (qo.2 ⟨e0,he0,rfl⟩) (f0.on ν) (qo.2 ⟨f0,hf0,rfl⟩) hne (by rw [iT hdL hc hn he0]; exact h1) (by rw [iT hdL hc hn hf0]; exact h2)
def ObF (P:Program)(Q:Exit→Act→World→Prop)(ops:Array Oper)(N:Nat)(Γ:List (Nat × VA))(les:List LeF)(sp:List ((Nat→Value)→Sp))(anc:Nat→List Nat)(B:Nat)(w0:Bs)(i:Nat):Prop :=
 (∀ ν,(fam ops N Γ les sp anc ν).Ob P Q B w0 i)∨∃ (d:Nat) (A:(Nat→Value)→VA),sp[i]?=some (λ ν=>.v d (A ν))∧∀ ν a w,(fam ops N Γ les sp anc ν).Av B w0 i a w→∀ K:Act→World→Prop,(∀ v w',Grow w w'→(A (nuSet ν i v)).p B v w'→K (a.put (some d) v) w')→wpOp P ops Q i K a w
theorem stepV (hk:∀ ν,chk (fam ops N Γ les sp anc ν)=true)(hdS:∀ i f,sp[i]?=some f→Dep (bef anc i) f)(hdL:∀ e∈les,∀ j f,e.st=some (j,f)→Dep (bef anc j) f)(hob:ObF P Q ops N Γ les sp anc B w0 i)(h:(fam ops N Γ les sp anc ν).Inv B w0 L a w)(hc:Closed (fam ops N Γ les sp anc ν) L)(hL:L i=false)(ha:∀ j,(anc i).contains j=true→L j=true)(K:Act→World→Prop)
  (hK:∀ ν' a' w',(fam ops N Γ les sp anc ν').Inv B w0 (upd L i) a' w'→K a' w'):wpOp P ops Q i K a w:=by
 rcases hob with hob | ⟨d,A,hs,hob⟩
 ·exact step (hk ν) (hob ν) h hc hL ha K λ a' w' hi=>hK ν a' w' hi
 ·refine hob ν a w (h.av hc hL ha) K λ v w' hg hA=>hK (nuSet ν i v) _ _ ?_
  have hi':=h.nu (ν':=nuSet ν i v) hdS hdL hc λ k hk=>(nu_ne (λ e=>by rw [e,hL] at hk; cases hk)).symm
  have hs':(fam ops N Γ les sp anc (nuSet ν i v)).sp[i]?=some (.v d (A (nuSet ν i v))):=by
   show (sp.map _)[i]?=_
   rw [List.getElem?_map,hs]; rfl
  have hop:=(d9 (hk (nuSet ν i v)) (chk_lt (hk _) hs')).1
  simp only [hs',qi,zX,qQ] at hop
  exact hi'.put (hk _) hc hL hs' hop.1 hop.2 ⟨(λ e he=>by cases he),rfl⟩ hg
   (λ d' A' he=>by simp only [Sp.vl,Option.some.injEq,Prod.mk.injEq] at he; obtain ⟨rfl,rfl⟩:=he; exact ⟨rfl,hA⟩) (λ d' b k c he=>by cases he)
theorem drawV {id:Nat}(hm:P.follows .mixedOrders=true)(hanc:ancOk (fam ops N Γ les sp anc (λ _=>undef))=true)(hk:∀ ν,chk (fam ops N Γ les sp anc ν)=true)(hdS:∀ i f,sp[i]?=some f→Dep (bef anc i) f)(hdL:∀ e∈les,∀ j f,e.st=some (j,f)→Dep (bef anc j) f)(ν0:Nat→Value)(h:St B w0 N Γ Λ a w)(hles:∀ e∈(fam ops N Γ les sp anc ν0).les,e.cr=none→(⟨e.s,e.T,e.H,e.A0⟩:Lc)∈Λ)
  (hob:∀ i,i<ops.size→ObF P Q ops N Γ les sp anc B w0 i) (hQ:∀ ν a' w',Fin (fam ops N Γ les sp anc ν) B w0 a' w'→Q .normal a' w'):(Code.region id ops true).wp P Q a w:=by
 refine wp_region_any hm ?_
 have ho:∀ i,i<ops.size→∃ o,ops[i]?=some o∧(∀ j,(anc i).contains j=true→∃ e∈o.after,Region.binds .any e=true∧(e.on=j∨(anc e.on).contains j=true)) ∧
   ∀ e∈o.after,Region.binds .any e=true→e.on<i:=by
  intro i hi
  have:=qc.1 hanc i (by simpa using hi)
  cases hoi:ops[i]? with
  | none=>rw [hoi] at this; cases this
  | some o =>
   rw [hoi] at this
   simp only [qi] at this
   refine ⟨o,rfl,λ j hj=>?_,λ e he hb=>?_⟩
   ·have hh:=qc.1 this.1 j (by simpa using hj)
    obtain ⟨e,he,h1⟩:=xY.1 hh
    simp only [qi,zy,zX] at h1
    exact ⟨e,he,h1.1,h1.2⟩
   ·have hh:=zp.1 this.2 e he
    simpa [hb] using hh
 have hrd:∀ (listed:Array Bool) i,i∈Region.ready .any ops listed→i<ops.size∧listed.getD i true=false∧∀ o,ops[i]?=some o→∀ e∈o.after,Region.binds .any e=true→listed.getD e.on false=true:=by
  intro listed i hi
  unfold Region.ready at hi
  obtain ⟨h1,h2⟩:=q7.1 hi
  simp only [qi,qq] at h2
  refine ⟨by simpa using h1,h2.1,λ o hoi e he hb=>?_⟩
  have h3:=h2.2
  rw [hoi] at h3
  simp only [qV,zN] at h3
  have:=zp.1 h3 e he
  simpa [hb] using this
 have key:∀ fuel (listed:Array Bool) ν a w,listed.size=ops.size→(List.range ops.size).countP (λ i => !listed.getD i false)≤fuel→Closed (fam ops N Γ les sp anc (λ _=>undef)) (λ i=>listed.getD i false) →
   (fam ops N Γ les sp anc ν).Inv B w0 (λ i=>listed.getD i false) a w→wpAny P .any ops Q fuel listed a w:=by
  intro fuel
  have hend:∀ (listed:Array Bool) ν a w,listed.size=ops.size→Region.ready .any ops listed=[]→(fam ops N Γ les sp anc ν).Inv B w0 (λ i=>listed.getD i false) a w→Q .normal a w:=by
   intro listed ν a w hsz hr hi
   refine hQ ν a w ⟨hi.congr λ k=>?_⟩
   by_cases hkn:k<ops.size
   ·have:∀ k,k<ops.size→listed.getD k false=true:=by
     intro k
     induction k using Nat.strongRecOn with
     | _ k ih =>
      intro hkn
      cases hl:listed.getD k false with
      | true=>rfl
      | false =>
       exfalso
       obtain ⟨o,ho1,_,ho3⟩:=ho k hkn
       have:k∈Region.ready .any ops listed:=by
        unfold Region.ready
        refine q7.2 ⟨by simpa using hkn,?_⟩
        have h0:listed.getD k true=false:=by
         simp only [Array.getD,hsz,hkn,dite_true] at hl ⊢
         exact hl
        rw [h0,ho1]
        simp only [xS,jt,qV,zN]
        refine zp.2 λ e he=>?_
        cases hb:Region.binds .any e with
        | false=>rfl
        | true=>simpa using ih e.on (ho3 e he hb) (zx (ho3 e he hb) hkn)
       rw [hr] at this
       cases this
    simp [hkn,this k hkn]
   ·have:listed.getD k false=false:=by simp [Array.getD,hsz,hkn]
    simp [hkn,this]
  induction fuel with
  | zero =>
   intro listed ν a w hsz hcnt hcl hi
   have hr:Region.ready .any ops listed=[]:=by
    cases hrr:Region.ready .any ops listed with
    | nil=>rfl
    | cons i rest =>
     exfalso
     obtain ⟨h1,h2,_⟩:=hrd listed i (by rw [hrr]; simp)
     have:0<(List.range ops.size).countP (λ i => !listed.getD i false):=by
      refine xV.2 ⟨i,by simpa using h1,?_⟩
      simp only [Array.getD,hsz,h1,dite_true] at h2 ⊢
      simpa using h2
     omega
   exact ⟨hr,hend listed ν a w hsz hr hi⟩
  | succ fuel ih =>
   intro listed ν a w hsz hcnt hcl hi
   refine ⟨λ hr=>hend listed ν a w hsz hr hi,λ i hir=>?_⟩
   obtain ⟨h1,h2,h3⟩:=hrd listed i hir
   obtain ⟨o,ho1,ho2,_⟩:=ho i h1
   have hLi:listed.getD i false=false:=by
    simp only [Array.getD,hsz,h1,dite_true] at h2 ⊢
    exact h2
   have hanci:∀ j,(anc i).contains j=true→listed.getD j false=true:=by
    intro j hj
    obtain ⟨e,he,hb,hj'⟩:=ho2 j hj
    have hl:=h3 o ho1 e he hb
    rcases hj' with rfl | hj'
    ·exact hl
    ·exact hcl e.on hl j hj'
   have hup:∀ k,(listed.setIfInBounds i true).getD k false=upd (λ i=>listed.getD i false) i k:=by
    intro k
    unfold upd
    by_cases hki:k=i
    ·subst hki
     simp [hsz,h1]
    ·simp [hki,Array.getElem?_setIfInBounds_ne (λ e=>hki e.symm)]
   refine stepV hk hdS hdL (hob i h1) hi hcl hLi hanci _ λ ν' a' w' hi'=>ih _ ν' _ _ (by simpa using hsz) ?_ ?_ (hi'.congr hup)
   ·have:(List.range ops.size).countP (λ k => !(listed.setIfInBounds i true).getD k false)<(List.range ops.size).countP (λ k => !listed.getD k false):=by
     refine d8 (x:=i) (λ x hx=>?_) (by simpa using h1) (by rw [hLi]; rfl) (by rw [hup,bA]; rfl)
     have hx':upd (λ i=>listed.getD i false) i x=false:=by
      rw [← hup]
      simpa only [qq] using hx
     rw [(co hx').2]
     rfl
    omega
   ·intro k hk' j hj
    have hk2:upd (λ i=>listed.getD i false) i k=true:=by rw [← hup]; exact hk'
    show (listed.setIfInBounds i true).getD j false=true
    rw [hup]
    rcases of_upd hk2 with rfl | h4
    ·exact cA _ (hanci j hj)
    ·exact cA _ (hcl k h4 j hj)
 refine key _ _ ν0 a _ (by simp) ?_ ?_ ?_
 ·refine qe (xQ) (by simp)
 ·intro i hi
  exfalso
  simp only [Array.getD,qz] at hi
  split at hi <;> simp at hi
 ·have hs:=start (R:=fam ops N Γ les sp anc ν0) h hles
  have hd:(fam ops N Γ les sp anc ν0).Inv B w0 (λ _=>false) a w.drew:=⟨hs.lo,hs.defers.grow (Grow.drew w) rfl,hs.size,hs.base.drew,λ x hx h1 h2=>x.2.grow _ _ _ _ (Grow.drew w) (hs.g x hx h1 h2),(λ i y d A _ _ hf=>by cases hf),(λ i d b k c _ hf=>by cases hf),
   λ e he A hA=>(hs.c e he A hA).grow (Grow.drew w),hs.x⟩
  refine Inv.congr hd λ k=>?_
  simp only [Array.getD,qz]
  split <;> simp
end
def DepS (anc:Nat→List Nat):Nat→List ((Nat→Value)→Sp)→Prop
 | _,[]=>True
 | k,f::l=>Dep (bef anc k) f∧DepS anc (k+1) l
theorem DepS.at {anc:Nat→List Nat}:∀ {l:List ((Nat→Value)→Sp)} {k:Nat},DepS anc k l→∀ i f,l[i]?=some f→Dep (bef anc (k+i)) f
 | g::l,k,h,0,f,hf=>by
  simp at hf
  subst hf
  exact h.1
 | g::l,k,h,i+1,f,hf=>by
  have:=DepS.at h.2 i f (by simpa using hf)
  rwa [show k+1+i=k+(i+1) by omega] at this
def DepL (anc:Nat→List Nat):List LeF→Prop
 | []=>True
 | e::l=>(match e.st with | none=>True | some (j,f)=>Dep (bef anc j) f)∧DepL anc l
theorem DepL.mem {anc:Nat→List Nat}:∀ {l:List LeF},DepL anc l→∀ e∈l,∀ j f,e.st=some (j,f)→Dep (bef anc j) f
 | g::l,h,e,he,j,f,hf=>by
  rcases ql.1 he with rfl | he
  ·have h1:=h.1
   rw [hf] at h1
   exact h1
  ·exact DepL.mem h.2 e he j f hf
end Rg
open Rg in
def lesF (Λ:List Lc)(sts:List (Option (Nat × ((Nat→Value)→As))))(news:List LeF):List LeF:=(Λ.zip sts).map (λ x=>⟨x.1.s,x.1.T,x.1.H,none,x.1.A,x.2⟩)++news
open Rg in
def ObsF (P:Program)(Q:Exit→Act→World→Prop)(ops:Array Oper)(N:Nat)(Γ:List (Nat × VA))(les:List LeF)(sp:List ((Nat→Value)→Sp))(anc:Nat→List Nat)(B:Nat)(w0:Bs):Nat→Nat→Prop
 | _,0=>True
 | k,m+1=>ObF P Q ops N Γ les sp anc B w0 k∧ObsF P Q ops N Γ les sp anc B w0 (k+1) m
open Rg in
theorem ObsF.all {Q:Exit→Act→World→Prop}{ops:Array Oper}{N:Nat}{les:List LeF}{sp:List ((Nat→Value)→Sp)}{anc:Nat→List Nat}{k m:Nat}(h:ObsF P Q ops N Γ les sp anc B w0 k m):∀ j,k≤j→j<k+m→ObF P Q ops N Γ les sp anc B w0 j:=by
 induction m generalizing k with
 | zero=>intro j h1 h2; omega
 | succ m ih =>
  intro j h1 h2
  by_cases hj:j=k
  ·subst hj; exact h.1
  ·exact ih h.2 j zo zo
section
open Rg
variable {P:Program} {Q:Exit→Act→World→Prop} {B N:Nat} {w0:Bs} {Γ:List (Nat × VA)} {Λ:List Lc} {a:Act} {w:World}
theorem lesF_in {sts:List (Option (Nat × ((Nat→Value)→As)))}{news:List LeF}{ν:Nat→Value}(hn:news.all (λ e=>e.cr.isSome)=true):∀ e∈(lesF Λ sts news).map (LeF.on ν),e.cr=none→(⟨e.s,e.T,e.H,e.A0⟩:Lc)∈Λ:=by
 intro e he hcr
 obtain ⟨e0,he0,rfl⟩:=qo.1 he
 unfold lesF at he0
 rcases qj.1 he0 with he | he
 ·obtain ⟨x,hx,rfl⟩:=qo.1 he
  exact (List.of_mem_zip hx).1
 ·have:=qc.1 hn e0 he
  have h2:e0.cr=none:=hcr
  rw [h2] at this
  cases this
theorem go_drawV' {id:Nat}{ops:Array Oper}{sts:List (Option (Nat × ((Nat→Value)→As)))}{news:List LeF}{sp:List ((Nat→Value)→Sp)}(anc:List (List Nat))(src:List Src)(hm:P.follows .mixedOrders=true)(h:St B w0 N Γ Λ a w)
  (hob:ObsF P Q ops N Γ (lesF Λ sts news) sp (λ i=>anc.getD i []) B w0 0 ops.size) (hdS:DepS (λ i=>anc.getD i []) 0 sp) (hdL:DepL (λ i=>anc.getD i []) (lesF Λ sts news))
  (hn:news.all (λ e=>e.cr.isSome)=true) (hanc:Rg.ancOk (fam ops N Γ (lesF Λ sts news) sp (λ i=>anc.getD i []) (λ _=>undef))=true) (hk:∀ ν,Rg.chk (fam ops N Γ (lesF Λ sts news) sp (λ i=>anc.getD i []) ν)=true) (hsrc:∀ ν,src.all (okS (fam ops N Γ (lesF Λ sts news) sp (λ i=>anc.getD i []) ν))=true)
  (hQ:∀ ν a w,St B w0 N (src.filterMap (takeS (fam ops N Γ (lesF Λ sts news) sp (λ i=>anc.getD i []) ν))) (((lesF Λ sts news).map (LeF.on ν)).map λ e=>⟨e.s,e.T,e.H,Rg.last e⟩) a w→Q .normal a w):(Code.region id ops true).wp P Q a w :=
 Rg.drawV hm hanc hk (λ i f hf=>by have:=hdS.at i f hf; rwa [qB] at this) hdL.mem (λ _=>undef) h (lesF_in hn) (λ i hi=>hob.all i zo zo) λ ν a' w' hf=>hQ ν a' w' (dL (hk ν) hf src (hsrc ν))
variable {ops:Array Oper} {les:List LeF} {sp:List ((Nat→Value)→Sp)} {anc:Nat→List Nat} {i:Nat}
theorem of_u (h:∀ ν,(fam ops N Γ les sp anc ν).Ob P Q B w0 i):ObF P Q ops N Γ les sp anc B w0 i:=.inl h
def LiveR (R:Rg)(B:Nat)(w0:Bs)(i:Nat)(us:List Value):Prop:=∀ a w,R.Av B w0 i a w→∀ u∈us,∀ g∈vbl u,g<w.heap.size
theorem eP {R:Rg}:LiveR R B w0 i []:=λ _ _ _ _ h=>by cases h
theorem ii {R:Rg}{u:Value}{us:List Value}{x:Operand}{A:As}(hA:NewA A)(hx:Has R B w0 i x (PinA u A).va)(h:LiveR R B w0 i us):LiveR R B w0 i (u::us):=λ a w av v hv=>by
 rcases ql.1 hv with rfl | hv
 ·obtain ⟨cs,⟨h1,h2⟩,_⟩:=hx a w av
  intro g hg
  rw [← h2,vbl_of h1] at hg
  exact (hA _ _ _ h1 g hg).2
 ·exact h a w av v hv
theorem iJ {A:As}{c:Prop}(h:NewA A):NewA (A.and c):=λ B cs w hp=>h B cs w hp.2
theorem nod_and {A:As}{c:Prop}(h:NodA A):NodA (A.and c):=λ B cs w hp=>h B cs w hp.2
theorem gv {d f:Nat}{A:As}{us:(Nat→Value)→List Value}{pre pre':List VA}{xs:List Operand}{at_:Array TypeId}
  (hs:sp[i]?=some (λ ν=>.v d (PinA (ν i) (A.and (SepAll (us ν) (ν i)))).va)) (ho:ops[i]?=some ⟨some d,.call ⟨.value (.func f),xs.toArray,at_⟩,T,ps,af,none⟩)
  (hc:Cn P f pre' A.va) (hnew:NewA A) (hfree:FreeA A A) (hup:All2 Up pre pre') (hx:∀ ν,HasL (fam ops N Γ les sp anc ν) B w0 i xs pre) (hus:∀ ν v,us (nuSet ν i v)=us ν) (hl:∀ ν,LiveR (fam ops N Γ les sp anc ν) B w0 i (us ν)):ObF P Q ops N Γ les sp anc B w0 i:=by
 refine .inr ⟨d,_,hs,λ ν a w av K hK=>?_⟩
 obtain ⟨⟨fn,hf,hn,hb⟩,hcall⟩:=hc
 have hrun:(execOp a.eval ⟨some d,.call ⟨.value (.func f),xs.toArray,at_⟩,T,ps,af,none⟩).run P w=.ok (.enter f (xs.map a.eval).toArray) w:=by
  simp only [execOp,resolve,Act.eval,Deferred.ofValue,Sem.run_bind,Sem.run_pure,Result.andThen_ok,invoke,aX hf hn hb]
  simp
 have hbw:=Av.bw av
 have hargs:All2 (λ (A:VA) v=>A.p w.heap.size v w) pre' (xs.map a.eval):=by
  have h1:=(hx ν).all av
  clear hcall hrun hx hs ho
  generalize xs.map a.eval=vs at h1
  induction hup generalizing vs with
  | nil=>cases h1; exact .nil
  | cons hu _ ih =>
   cases h1 with
   | cons h2 h3=>exact .cons (hu _ _ _ hbw h2) (ih _ h3)
 refine bB (R:=fam ops N Γ les sp anc ν) ho G ?_
 unfold Oper.wp
 rw [hrun]
 refine (hcall w.heap.size w _ (qf _) hargs).mono λ e w' ⟨v,he,⟨cs,hv,hsh⟩,hg⟩=>?_
 subst he
 refine hK v w' hg ⟨cs,⟨⟨?_,hfree.2.2 _ _ _ _ hbw hv⟩,?_⟩,hsh⟩
 ·rw [hus,nu_same]
  intro u hu g hgu hgv
  have h1:=hl ν a w av u hu g hgu
  rw [hsh,vbl_of hv] at hgv
  have h2:=(hnew _ _ _ hv g hgv).1
  omega
 ·rw [nu_same]
  exact hsh.symm
end
theorem new_mg (l:List Nat):NewA (MgN l):=λ B cs w ⟨_,h⟩=>by
 rcases h with ⟨_,rfl⟩ | ⟨g,ext,rfl,_,h2,h3⟩
 ·intro g hg; cases hg
 ·intro g' hg
  have:g'=g:=by simpa [cbl,blk] using hg
  subst this
  exact ⟨h2,(Array.getElem?_eq_some_iff.1 h3).1⟩
theorem new_bo (b:Bool):NewA (BoA b):=λ B cs w h=>by
 have h':cs=[.bool b]:=h
 subst h'
 intro g hg; cases hg
theorem new_riN (x:RI):NewA (RIN x):=new_cat (λ A hA=>by
 simp at hA
 rcases hA with rfl | rfl
 ·exact new_bo _
 ·exact new_mg _)
theorem nod_riN (x:RI):NodA (RIN x):=λ B cs w ⟨ps,e,h⟩=>by
 subst e
 cases h with
 | @cons _ c1 _ _ h1 h=>cases h with
  | @cons _ c2 _ _ h2 h =>
   cases h
   have e1:c1=[.bool x.neg]:=h1
   have l2:=(MgN x.mag).len _ _ _ h2
   subst e1
   match c2,l2 with
   | [v],_ =>
    show (List.filterMap blk [.bool x.neg,v]).Nodup
    have:List.filterMap blk [.bool x.neg,v]=List.filterMap blk [v]:=rfl
    rw [this]
    cases hb:blk v with
    | none=>simp [hb]
    | some g=>simp [hb]
def ZN (k:Nat)(z:Int):As:=(RIN (riOf z)).and (lz z≤k)
theorem new_zn {k:Nat}{z:Int}:NewA (ZN k z):=iJ (new_riN _)
theorem nod_zn {k:Nat}{z:Int}:NodA (ZN k z):=nod_and (nod_riN _)
theorem free_and {A:As}{c:Prop}(h:FreeA A A):FreeA (A.and c) (A.and c):=⟨rfl,rfl,λ B B' cs w hB hp=>⟨hp.1,h.2.2 B B' cs w hB hp.2⟩⟩
theorem gE {k:Nat}{z:Int}:FreeA (ZN k z) (ZN k z):=free_and (cG _)
theorem zn_mono {k k':Nat}{z:Int}(h:k≤k'):WkA (ZN k z) (ZN k' z):=⟨rfl,rfl,λ _ _ _ hp=>⟨qe hp.1 h,hp.2⟩⟩
theorem zn_of {k:Nat}{z:Int}(h:lz z≤k):Wk (RIN (riOf z)).va (ZN k z).va:=λ _ _ _ ⟨cs,hp,hv⟩=>⟨cs,⟨h,hp⟩,hv⟩
theorem plusD_e0 {a b:Int}(h:((riOf a).neg==(riOf b).neg)=true):(RIN (rsig (riOf a).neg (digs (max (riOf a).mag.length (riOf b).mag.length+1) (val (riOf a).mag+val (riOf b).mag)))).va=(RIN (riOf (a+b))).va:=by
 have h':decide (a<0)=decide (b<0):=by simpa [riOf] using h
 rw [bk,bk,bY (bx _ _) (z:=a+b) (by show val (digs (max (limbs a.natAbs).length (limbs b.natAbs).length+1) _)=_; rw [val_sum]; simp only [qF] at h'; omega) (λ hz=>by show decide (a<0)=_; simp only [qF] at h' ⊢; omega)]
theorem plusD_e1 {a b:Int}(h:((riOf a).neg==(riOf b).neg)=false)(h2:b.natAbs≤a.natAbs):(RIN (rsig (riOf a).neg (limbs (val (riOf a).mag-val (riOf b).mag)))).va=(RIN (riOf (a+b))).va:=by
 have h':¬ decide (a<0)=decide (b<0):=by simpa [riOf] using h
 rw [bk,bk,bY (bu _).1 (z:=a+b) (by rw [aS]; simp only [qF] at h'; omega) (λ hz=>by show decide (a<0)=_; simp only [qF] at h' ⊢; omega)]
theorem plusD_e2 {a b:Int}(h:((riOf a).neg==(riOf b).neg)=false)(h2:a.natAbs≤b.natAbs):(RIN (rsig (riOf b).neg (limbs (val (riOf b).mag-val (riOf a).mag)))).va=(RIN (riOf (a+b))).va:=by
 have h':¬ decide (a<0)=decide (b<0):=by simpa [riOf] using h
 rw [bk,bk,bY (bu _).1 (z:=a+b) (by rw [aS]; simp only [qF] at h'; omega) (λ hz=>by show decide (b<0)=_; simp only [qF] at h' ⊢; omega)]
theorem plusD_c (p q:Int)(hp:lz p≤1099511627776)(hq:lz q≤1099511627776):Cn Try.prog 43 [Zi p,Zi q] ((RIN (riOf (p+q))).va):=by
 refine Cn.intro Try.func43 G zk nq (λ B w0 a U=>?_)
 have U:=zn [(0,Zi p),(1,Zi q)] [] U
 refine qb<|zg [] [⟨2,25,ptrH,some 0,_,none⟩,⟨3,25,ptrH,some 1,_,none⟩,⟨4,25,ptrH,some 2,_,none⟩] [.alc 0,.alc 1,.alc 2] [] U (zW 0 G (zW 1 G (zY G (Str.zero bS) o0))) (zz [] [O 2 25 _,O 3 25 _,O 4 25 _] λ a w U=>?_)
 refine zt<|qb<|zg [η,η,η] [] [.adr 5 2 (.some 0) True,.v 6 _,.adr 7 3 (.some 0) True,.v 8 _,.v 9 _] [.o 4] U (zO 0 G aJ (zL 0 0 0 G ty_4 (zO 1 G aJ (zL 2 1 0 G ty_4 (zv G (r_eqlb zk (vq 1 G) (vq 3 G)) o0))))) (zz [(9,_)] [O 2 25 _,O 3 25 _,O 4 25 _] λ a w U=>?_)
 refine a4<|aa U (zm 0 G) (λ hb0=>?_) (λ hb0=>?_)
 ·refine qb<|zgd [[],[0],[],[2],[],[4],[2,3,4,5],[0,1,2,3,4,5,6],[0,1,2,3,4,5,6,7]] [none,none,some (8,_)] [] [.adr 10 2 (.some 0) True,.v 11 _,.adr 12 2 (.some 1) True,.v 13 _,.adr 14 3 (.some 1) True,.v 15 _,.v 16 _,.v 17 _,.sto 2] [] a8 U (zO 0 G aJ (zL 0 0 0 G ty_4 (zO 0 G aq (zL 2 0 1 G bm (zO 1 G aq (zL 4 1 1 G bm (zQ G (add_c _ _ hp hq) (.p (vq 3 G) (vq 5 G)) (zQ G (c9 _ _) (.p (vq 1 G) (vq 6 G)) (zS 7 G am o0))))))))) zk zk zk zk (zz [] [O 2 25 _,O 3 25 _,O 4 25 _] λ a w U=>?_)
  refine a4<|qh<|ac ?_
  refine ao ?_ (ax G U (zm 2 G) am)
  exact plusD_e0 hb0
 ·refine qk<|zt<|qb<|zg [η,η,η] [] [.adr 18 2 (.some 1) True,.v 19 _,.adr 20 3 (.some 1) True,.v 21 _,.v 22 _,.v 23 _] [.o 5] U (zO 0 G aq (zL 0 0 1 G bm (zO 1 G aq (zL 2 1 1 G bm (zQ G (size_c _ _) (.p (vq 1 G) (vq 3 G)) (zv G (dH (vq 4 G) a5) o0)))))) (zz [(23,_)] [O 2 25 _,O 3 25 _,O 4 25 _] λ a w U=>?_)
  refine a4<|aa U (zm 0 G) (λ hb1=>?_) (λ hb1=>?_)
  ·refine qb<|zgd [[],[0],[],[2],[],[4],[2,3,4,5],[0,1,2,3,4,5,6],[0,1,2,3,4,5,6,7]] [none,none,some (8,_)] [] [.adr 24 2 (.some 0) True,.v 25 _,.adr 26 2 (.some 1) True,.v 27 _,.adr 28 3 (.some 1) True,.v 29 _,.v 30 _,.v 31 _,.sto 2] [] a8 U (zO 0 G aJ (zL 0 0 0 G ty_4 (zO 0 G aq (zL 2 0 1 G bm (zO 1 G aq (zL 4 1 1 G bm (zQ G (sub_c _ _ hp (cP (ey hb1)) (by show val (limbs _)≤val (limbs _); rw [aS,aS]; exact ey hb1)) (.p (vq 3 G) (vq 5 G)) (zQ G (c9 _ _) (.p (vq 1 G) (vq 6 G)) (zS 7 G am o0))))))))) zk zk zk zk (zz [] [O 2 25 _,O 3 25 _,O 4 25 _] λ a w U=>?_)
   refine a4<|qh<|ac ?_
   refine ao ?_ (ax G U (zm 2 G) am)
   exact plusD_e1 hb0 (ey hb1)
  ·refine qk<|zt<|zgd [[],[0],[],[2],[],[4],[2,3,4,5],[0,1,2,3,4,5,6],[0,1,2,3,4,5,6,7]] [none,none,some (8,_)] [] [.adr 32 3 (.some 0) True,.v 33 _,.adr 34 3 (.some 1) True,.v 35 _,.adr 36 2 (.some 1) True,.v 37 _,.v 38 _,.v 39 _,.sto 2] [] a8 U (zO 1 G aJ (zL 0 1 0 G ty_4 (zO 1 G aq (zL 2 1 1 G bm (zO 0 G aq (zL 4 0 1 G bm (zQ G (sub_c _ _ hq (cP (ex hb1)) (by show val (limbs _)≤val (limbs _); rw [aS,aS]; exact ex hb1)) (.p (vq 3 G) (vq 5 G)) (zQ G (c9 _ _) (.p (vq 1 G) (vq 6 G)) (zS 7 G am o0))))))))) zk zk zk zk (zz [] [O 2 25 _,O 3 25 _,O 4 25 _] λ a w U=>?_)
   refine a4<|qh<|ao ?_ (ax G U (zm 2 G) am)
   exact plusD_e2 hb0 (ex hb1)
section
variable {a b:Nat} {p q:Int} (ha:a≤549755813888)
include ha
variable (hb:b≤549755813888)
include hb
theorem plus_zn:Cn Try.prog 43 [Zs a p,Zs b q] (ZN (max a b+1) (p+q)).va:=zs2 ex_Plus λ h h'=>(plusD_c p q zo zo).wkp (zn_of (by have:=lz_add p q; omega))
end
def QD (k:Nat)(q:Rat):As:=DisA (cat [ZN k q.num,ZN k (q.den:Int)])
theorem new_qd {k:Nat}{q:Rat}:NewA (QD k q):=dis_new (new_cat λ A hA=>by
 simp at hA
 rcases hA with rfl | rfl <;> exact new_zn)
theorem nod_qd {k:Nat}{q:Rat}:NodA (QD k q):=dis_nod
theorem free_qd {k:Nat}{q:Rat}:FreeA (QD k q) (QD k q):=gL (cn (.cons gE (.cons gE .nil)))
theorem eT {A A':As}(h:WkA A A'):WkA (DisA A) (DisA A'):=⟨h.1,h.2.1,λ B cs w hp=>⟨h.2.2 B cs w hp.1,hp.2⟩⟩
theorem qd_pins {u v:Value}{c d k:Nat}{q:Rat}(hc:c≤k)(hd:d≤k):WkA (cat [PinA u ((ZN c q.num).and (SepAll [] u)),PinA v ((ZN d (q.den:Int)).and (SepAll [u] v))]) (QD k q) :=
 (dis_pins (l:=[(u,ZN c q.num),(v,ZN d (q.den:Int))]) (λ x hx=>by
  simp at hx
  rcases hx with rfl | rfl <;> exact nod_zn)).trans (eT (bc (.cons (zn_mono hc) (.cons (zn_mono hd) .nil))))
theorem qd_of {k c:Nat}{q:Rat}(h1:lz q.num≤c)(h2:lz (q.den:Int)≤c):WkA (QD k q) (QD c q):=eT (bc (.cons ⟨rfl,rfl,λ _ _ _ hp=>⟨h1,hp.2⟩⟩ (.cons ⟨rfl,rfl,λ _ _ _ hp=>⟨h2,hp.2⟩⟩ .nil)))
theorem qd_cp {u v:Value}{c d k:Nat}{x:Rat}(hc:c≤k)(hd:d≤k):WkA (cat [PinA u ((ZN c (x.num+0)).and (SepAll [] u)),PinA v ((ZN d ((x.den:Int)+0)).and (SepAll [u] v))]) (QD k x):=by
 rw [xz,xz]
 exact qd_pins hc hd
theorem copyD_r {c:Nat}{x:Rat}(hc:c≤137438953472):Cn Try.prog 19 [Qs c x] ((QD (max c 2+1) x).va):=by
 refine Cn.intro Try.func19 G zk nq (λ B w0 a U=>?_)
 have U:=zn [(0,Qs c x)] [] U
 refine qb<|zg [] [⟨1,27,ptrH,some 0,_,none⟩,⟨2,27,ptrH,some 1,_,none⟩] [.alc 0,.alc 1] [] U (zW 0 G (zY G (Str.zero aI) o0)) (zz [] [O 1 27 _,O 2 27 _] λ a w U=>?_)
 refine zt<|zg [η,η] [⟨3,25,ptrH,some 1,_,some (2,_)⟩] [.v 4 _,.alc 2,.sto 2] [] U (zQ G (of_z zd zd) (.cons a5 .nil) (zY G (Str.zero bS) (zS 0 G am o0))) (zz [] [O 1 27 _,O 2 27 _,O 3 25 _] λ a w U=>?_)
 refine zt<|go_drawV' [[],[0],[],[0,1,2],[],[4],[],[0,1,2,3,4,5,6],[0,1,2,3,4,5,6,7],[0,1,2,3,4,5,6,7,8]] (sts:=[none,some (9,λ ν=>_),none]) (news:=[]) (sp:=[(λ ν=>.adr 5 1 (.some 0) True),(λ ν=>.v 6 _),(λ ν=>.v 7 _),(λ ν=>.v 8 (PinA (ν 3) ((ZN (max c 2+1) (x.num+0)).and (SepAll [] (ν 3)))).va),(λ ν=>.adr 9 1 (.some 2) True),(λ ν=>.v 10 _),(λ ν=>.v 11 _),(λ ν=>.v 12 (PinA (ν 7) ((ZN (max c 2+1) ((x.den:Int)+0)).and (SepAll [ν 3] (ν 7)))).va),(λ ν=>.v 13 _),(λ ν=>.sto 1)]) [] a8 U ⟨of_u λ ν=>ob_a rfl rfl (gR (lz0 0 rfl) bg),⟨of_u λ ν=>ob_v rfl rfl (aD 0 rfl zk trivial (lz0 0 rfl) (Sub.part 0 rfl rfl) am),⟨of_u λ ν=>ob_v rfl rfl (d0 (lz0 2 rfl) am),⟨gv (us:=λ ν=>[]) (xs:=[.tmp 6,.tmp 7]) rfl rfl (plus_zn zo zo) new_zn gE (.cons upA_za.va (.cons upA_za.va .nil)) (λ ν=>(.p (vq 1 rfl) (vq 2 rfl))) (λ _ _=>rfl) (λ ν=>eP),⟨of_u λ ν=>ob_a rfl rfl (gR (lz0 0 rfl) aP),⟨of_u λ ν=>ob_v rfl rfl (aD 4 rfl zk trivial (lz0 0 rfl) (Sub.part 1 rfl rfl) am),⟨of_u λ ν=>ob_v rfl rfl (d0 (lz0 2 rfl) am),⟨gv (us:=λ ν=>[ν 3]) (xs:=[.tmp 10,.tmp 11]) rfl rfl (plus_zn zo zo) new_zn gE (.cons upA_za.va (.cons upA_za.va .nil)) (λ ν=>(.p (vq 5 rfl) (vq 6 rfl))) (λ _ _=>rfl) (λ ν=>(ii (iJ new_zn) (vq 3 rfl) eP)),⟨of_u λ ν=>ob_v rfl rfl (aO (qs:=[(0,_),(1,_)]) aI (.cons ⟨rfl,vq 3 rfl,rfl⟩ (.cons ⟨rfl,vq 7 rfl,rfl⟩ .nil))),⟨of_u λ ν=>fk rfl rfl rfl (vq 8 rfl) ar (xA (b:=4) rfl rfl),trivial⟩⟩⟩⟩⟩⟩⟩⟩⟩⟩ ⟨(λ ν ν' h=>rfl),⟨(λ ν ν' h=>rfl),⟨(λ ν ν' h=>rfl),⟨(λ ν ν' h=>by first | rfl | simp only [h 3 rfl]),⟨(λ ν ν' h=>rfl),⟨(λ ν ν' h=>rfl),⟨(λ ν ν' h=>rfl),⟨(λ ν ν' h=>by first | rfl | simp only [h 3 rfl,h 7 rfl]),⟨(λ ν ν' h=>by first | rfl | simp only [h 3 rfl,h 7 rfl]),⟨(λ ν ν' h=>by first | rfl | simp only [h 3 rfl,h 7 rfl]),trivial⟩⟩⟩⟩⟩⟩⟩⟩⟩⟩ ⟨trivial,⟨(λ ν ν' h=>by first | rfl | simp only [h 3 rfl,h 7 rfl]),⟨trivial,trivial⟩⟩⟩ zk zk (λ ν=>by kernel_rfl) (λ ν=>by kernel_rfl) (λ ν2 a w U=>?_)
 have U:=zn [] [O 1 27 _,O 2 27 _,O 3 25 _] U
 refine a4<|qh<|an ?_ (ax G U (zm 1 G) ar)
 exact (qd_cp zo zo).va
theorem iU {c:Nat}{x:Rat}(hc:c≤137438953472):Cn Try.prog 19 [Qs c x] (QD c x).va :=
 Cn.know (c:=lz x.num≤c∧lz (x.den:Int)≤c) ex_qcopy (λ B w args ha=>by cases ha with | cons h1 _=>exact qs_le h1) λ h=>(copyD_r hc).wkp (qd_of h.1 h.2).va
end Go.Proofs.Ytlakjmncfooodaa
