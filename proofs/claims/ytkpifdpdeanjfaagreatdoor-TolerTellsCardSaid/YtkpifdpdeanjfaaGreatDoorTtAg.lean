import Derived.Test.YtkpifdpdeanjfaaGreatDoorTtAf
import Derived.Laws.AppendOwn
import Derived.Laws.OwnMore
set_option linter.all false
set_option maxRecDepth 100000
namespace Go.Proofs.YtkpifdpdeanjfaaGreatDoor
open Go Go.RowKit
variable {w:World}{B:Nat}{a:Act}{v:Value}{T:TypeId}{w0:Bs}{Γ:List (Nat × VA)}{Λ:List Lc}{ps:String}{af:Array Edge}{vr:Value}{H:Hd}{cs:List Value}{w':World}{P:Program}{D:List TypeId}
def cbl (cs:List Value):List Nat:=cs.filterMap blk
def vbl (v:Value):List Nat:=cbl v.cells.toList
def Sep (u v:Value):Prop:=∀ g∈vbl u,g ∉ vbl v
def SepAll (us:List Value)(v:Value):Prop:=∀ u∈us,Sep u v
theorem oI {A:As}(h:A.p B cs w):vbl (shape A.ag cs)=cbl cs:=by
 show cbl (shape A.ag cs).cells.toList=_
 rw [A.cells_shape h]
def PinA (v:Value)(A:As):As where
 n:=A.n
 ag:=A.ag
 p B cs w:=A.p B cs w∧shape A.ag cs=v
 deps:=A.deps
 len:=λ B cs w h=>A.len B cs w h.1
 one:=λ B cs w h=>A.one B cs w h.1
 ag1:=A.ag1
 cg:=λ B cs w w' hg h=>⟨A.cg B cs w w' hg h.1,h.2⟩
 wr:=λ B cs w w' g c T fz h1 h2 h3 h4 h=>⟨A.wr B cs w w' g c T fz h1 h2 h3 h4 h.1,h.2⟩
theorem pin_wk {A:As}:WkA (PinA v A) A:=⟨rfl,rfl,λ _ _ _ h=>h.1⟩
theorem and_wk {A:As}{c:Prop}:WkA (A.and c) A:=⟨rfl,rfl,λ _ _ _ h=>h.2⟩
def NewA (A:As):Prop:=∀ B cs w,A.p B cs w→∀ g∈cbl cs,B≤g∧g<w.heap.size
def NodA (A:As):Prop:=∀ B cs w,A.p B cs w→(cbl cs).Nodup
def DisA (A:As):As where
 n:=A.n
 ag:=A.ag
 p B cs w:=A.p B cs w∧(cbl cs).Nodup
 deps:=A.deps
 len:=λ B cs w h=>A.len B cs w h.1
 one:=λ B cs w h=>A.one B cs w h.1
 ag1:=A.ag1
 cg:=λ B cs w w' hg h=>⟨A.cg B cs w w' hg h.1,h.2⟩
 wr:=λ B cs w w' g c T fz h1 h2 h3 h4 h=>⟨A.wr B cs w w' g c T fz h1 h2 h3 h4 h.1,h.2⟩
theorem dis_wk {A:As}:WkA (DisA A) A:=⟨rfl,rfl,λ _ _ _ h=>h.1⟩
theorem ov {A:As}:NodA (DisA A):=λ _ _ _ h=>h.2
theorem Am {A:As}(h:NewA A):NewA (DisA A):=λ B cs w hp=>h B cs w hp.1
theorem tx {A:As}(h:FreeA A A):FreeA (DisA A) (DisA A):=⟨rfl,rfl,λ B B' cs w hB hp=>⟨h.2.2 B B' cs w hB hp.1,hp.2⟩⟩
theorem d6 {a b:List Value}:cbl (a++b)=cbl a++cbl b:=kF ..
theorem nG {B:Nat}{w:World}:∀ {l:List As} {ps:List (List Value)},(∀ A∈l,NewA A)→All2 (λ (A:As) c=>A.p B c w) l ps→∀ g∈cbl ps.flatten,B≤g∧g<w.heap.size
 | [],_,_,h,g,hg=>by cases h; cases hg
 | A::l,_,hn,h,g,hg=>by
  cases h with
  | cons h1 h2 =>
   rw [qL,d6,qw] at hg
   rcases hg with hg | hg
   ·exact hn A (by simp) _ _ _ h1 g hg
   ·exact nG (λ A' hA=>hn A' (by simp [hA])) h2 g hg
theorem lC {l:List As}(h:∀ A∈l,NewA A):NewA (cat l):=λ B cs w ⟨ps,e,hp⟩=>by
 subst e
 exact nG h hp
def pins:List Value→List (Value × As)→List As
 | _,[]=>[]
 | us,(v,A)::l=>PinA v (A.and (SepAll us v))::pins (us++[v]) l
theorem wK:∀ {l:List (Value × As)} {us:List Value} {B:Nat} {w:World} {ps:List (List Value)},(∀ x∈l,NodA x.2)→All2 (λ (A:As) c=>A.p B c w) (pins us l) ps →
  All2 (λ (A:As) c=>A.p B c w) (l.map (·.2)) ps∧(cbl ps.flatten).Nodup∧∀ u∈us,∀ g∈vbl u,g ∉ cbl ps.flatten
 | [],us,B,w,ps,_,h=>by
  cases h
  exact ⟨.nil,xK,λ _ _ _ _ h=>by cases h⟩
 | (v,A)::l,us,B,w,ps,hn,h=>by
  cases h with
  | @cons _ c _ cs h1 h2 =>
   obtain ⟨q1,q2,q3⟩:=wK (λ x hx=>hn x (by simp [hx])) h2
   obtain ⟨⟨hsep,hA⟩,hv⟩:=h1
   have hvb:vbl v=cbl c:=by
    have hv':shape A.ag c=v:=hv
    rw [← hv']; exact oI hA
   refine ⟨.cons hA q1,?_,λ u hu g hg hm=>?_⟩
   ·rw [qL,d6]
    refine xG.2 ⟨hn (v,A) (by simp) _ _ _ hA,q2,λ x hx y hy e=>?_⟩
    subst e
    exact q3 v (by simp) x (by rw [hvb]; exact hx) hy
   ·rw [qL,d6,qw] at hm
    rcases hm with hm | hm
    ·exact hsep u hu g hg (by rw [hvb]; exact hm)
    ·exact q3 u (by simp [hu]) g hg hm
theorem tw {l:List (Value × As)}(hn:∀ x∈l,NodA x.2):WkA (cat (pins [] l)) (DisA (cat (l.map (·.2)))):=by
 have hlen:∀ (us:List Value) (l:List (Value × As)),((pins us l).map (·.n)).sum=((l.map (·.2)).map (·.n)).sum:=by
  intro us l
  induction l generalizing us with
  | nil=>rfl
  | cons x l ih=>obtain ⟨v,A⟩:=x; simp only [pins,qX,xQ,ih]; rfl
 refine ⟨(hlen [] l).symm,rfl,λ B cs w ⟨ps,e,hp⟩=>?_⟩
 obtain ⟨q1,q2,_⟩:=wK hn hp
 subst e
 exact ⟨⟨ps,rfl,q1⟩,q2⟩
namespace Rg
structure LeF where
 s:Nat
 T:TypeId
 H:Hd
 cr:Option Nat
 A0:As
 st:Option (Nat × ((Nat→Value)→As))
def LeF.on (ν:Nat→Value)(e:LeF):Le:=⟨e.s,e.T,e.H,e.cr,e.A0,match e.st with | none=>none | some (j,f)=>some (j,f ν)⟩
abbrev fam (ops:Array Oper)(N:Nat)(Γ:List (Nat × VA))(les:List LeF)(sp:List ((Nat→Value)→Sp))(anc:Nat→List Nat)(ν:Nat→Value):Rg:=⟨ops,N,Γ,les.map (LeF.on ν),sp.map (λ f=>f ν),anc⟩
def Dep {α:Type}(S:Nat→Bool)(f:(Nat→Value)→α):Prop:=∀ ν ν',(∀ k,S k=true→ν k=ν' k)→f ν=f ν'
def bef (anc:Nat→List Nat)(i k:Nat):Bool:=k==i || (anc i).contains k
def nuSet (ν:Nat→Value)(i:Nat)(v:Value):Nat→Value:=λ k=>if k=i then v else ν k
theorem gY {ν:Nat→Value}{i:Nat}:nuSet ν i v i=v:=qC rfl
theorem nu_ne {ν:Nat→Value}{i k:Nat}(h:k≠i):nuSet ν i v k=ν k:=qA h
section
variable {ops:Array Oper} {N:Nat} {Γ:List (Nat × VA)} {les:List LeF} {sp:List ((Nat→Value)→Sp)} {anc:Nat→List Nat} {ν ν':Nat→Value} {B:Nat} {w0:Bs} {L:Nat→Bool} {a:Act} {w:World} {P:Program} {Q:Exit→Act→World→Prop} {i:Nat}
theorem pF {deps:List TypeId}:clash (fam ops N Γ les sp anc ν) L deps=clash (fam ops N Γ les sp anc ν') L deps:=by
 unfold clash
 show (les.map (LeF.on ν)).any _=(les.map (LeF.on ν')).any _
 rw [List.any_map,List.any_map]
 congr 1
 funext e
 obtain ⟨s,T,H,cr,A0,st⟩:=e
 cases st with
 | none=>rfl
 | some x=>rfl
theorem rN (hdL:∀ e∈les,∀ j f,e.st=some (j,f)→Dep (bef anc j) f)(hc:Closed (fam ops N Γ les sp anc ν) L)(hn:∀ k,L k=true→ν k=ν' k){e:LeF}(he:e∈les):cur L (e.on ν)=cur L (e.on ν'):=by
 obtain ⟨s,T,H,cr,A0,st⟩:=e
 cases st with
 | none=>rfl
 | some x =>
  obtain ⟨j,f⟩:=x
  show (if crOk L cr=true then some (if L j=true then f ν else A0) else none)=(if crOk L cr=true then some (if L j=true then f ν' else A0) else none)
  cases hj:L j with
  | false=>rfl
  | true =>
   have:f ν=f ν':=hdL _ he j f rfl ν ν' λ k hk=>hn k (by
    simp only [bef,zr,xh] at hk
    rcases hk with rfl | hk
    ·exact hj
    ·exact hc j hj k hk)
   rw [this]
theorem Dg (hdS:∀ i f,sp[i]?=some f→Dep (bef anc i) f)(hc:Closed (fam ops N Γ les sp anc ν) L)(hn:∀ k,L k=true→ν k=ν' k){j:Nat}(hj:L j=true):(sp.map λ f=>f ν')[j]?=(sp.map λ f=>f ν)[j]?:=by
 rw [List.getElem?_map,List.getElem?_map]
 cases hs:sp[j]? with
 | none=>rfl
 | some f =>
  have:f ν=f ν':=hdS j f hs ν ν' λ k hk=>hn k (by
   simp only [bef,zr,xh] at hk
   rcases hk with rfl | hk
   ·exact hj
   ·exact hc j hj k hk)
  show some (f ν')=some (f ν)
  rw [this]
theorem Inv.nu (hdS:∀ i f,sp[i]?=some f→Dep (bef anc i) f)(hdL:∀ e∈les,∀ j f,e.st=some (j,f)→Dep (bef anc j) f)(hc:Closed (fam ops N Γ les sp anc ν) L)(hn:∀ k,L k=true→ν k=ν' k)(h:(fam ops N Γ les sp anc ν).Inv B w0 L a w):(fam ops N Γ les sp anc ν').Inv B w0 L a w:=by
 refine ⟨h.lo,h.defers,h.size,h.base,λ x hx h1 h2=>h.g x hx h1 (by rw [pF (ν':=ν')]; exact h2),λ i y d A hs hv hL h2=>?_,λ i d b k c hs hL hc'=>?_,λ e he A hA=>?_,λ e he f hf hne h1 h2=>?_⟩
 ·exact h.v i y d A (by rw [← hs]; exact (Dg hdS hc hn hL).symm) hv hL (by rw [pF (ν':=ν')]; exact h2)
 ·exact h.d i d b k c (by rw [← hs]; exact (Dg hdS hc hn hL).symm) hL hc'
 ·obtain ⟨e0,he0,rfl⟩:=qm.1 he
  exact h.c (e0.on ν) (qm.2 ⟨e0,he0,rfl⟩) A (by rw [rN hdL hc hn he0]; exact hA)
 ·obtain ⟨e0,he0,rfl⟩:=qm.1 he
  obtain ⟨f0,hf0,rfl⟩:=qm.1 hf
  exact h.x (e0.on ν) (qm.2 ⟨e0,he0,rfl⟩) (f0.on ν) (qm.2 ⟨f0,hf0,rfl⟩) hne (by rw [rN hdL hc hn he0]; exact h1) (by rw [rN hdL hc hn hf0]; exact h2)
def ObF (P:Program)(Q:Exit→Act→World→Prop)(ops:Array Oper)(N:Nat)(Γ:List (Nat × VA))(les:List LeF)(sp:List ((Nat→Value)→Sp))(anc:Nat→List Nat)(B:Nat)(w0:Bs)(i:Nat):Prop :=
 (∀ ν,(fam ops N Γ les sp anc ν).Ob P Q B w0 i)∨∃ (d:Nat) (A:(Nat→Value)→VA),sp[i]?=some (λ ν=>.v d (A ν))∧∀ ν a w,(fam ops N Γ les sp anc ν).Av B w0 i a w→∀ K:Act→World→Prop,(∀ v w',Grow w w'→(A (nuSet ν i v)).p B v w'→K (a.put (some d) v) w')→wpOp P ops Q i K a w
theorem stepV (hk:∀ ν,chk (fam ops N Γ les sp anc ν)=true)(hdS:∀ i f,sp[i]?=some f→Dep (bef anc i) f)(hdL:∀ e∈les,∀ j f,e.st=some (j,f)→Dep (bef anc j) f)(hob:ObF P Q ops N Γ les sp anc B w0 i)(h:(fam ops N Γ les sp anc ν).Inv B w0 L a w)(hc:Closed (fam ops N Γ les sp anc ν) L)(hL:L i=false)(ha:∀ j,(anc i).contains j=true→L j=true)(K:Act→World→Prop)
  (hK:∀ ν' a' w',(fam ops N Γ les sp anc ν').Inv B w0 (upd L i) a' w'→K a' w'):wpOp P ops Q i K a w:=by
 rcases hob with hob | ⟨d,A,hs,hob⟩
 ·exact step (hk ν) (hob ν) h hc hL ha K λ a' w' hi=>hK ν a' w' hi
 ·refine hob ν a w (h.av hc hL ha) K λ v w' hg hA=>hK (nuSet ν i v) _ _ ?_
  have hi':=h.nu (ν':=nuSet ν i v) hdS hdL hc λ k hk=>(nu_ne (λ e=>by rw [e,hL] at hk; cases hk)).symm
  have hs':(fam ops N Γ les sp anc (nuSet ν i v)).sp[i]?=some (.v d (A (nuSet ν i v))):=by
   show (sp.map _)[i]?=_
   rw [List.getElem?_map,hs]; rfl
  have hop:=(fe (hk (nuSet ν i v)) (chk_lt (hk _) hs')).1
  simp only [hs',qj,xh,ze] at hop
  exact hi'.put (hk _) hc hL hs' hop.1 hop.2 ⟨(λ e he=>by cases he),rfl⟩ hg
   (λ d' A' he=>by simp only [Sp.vl,Option.some.injEq,Prod.mk.injEq] at he; obtain ⟨rfl,rfl⟩:=he; exact ⟨rfl,hA⟩) (λ d' b k c he=>by cases he)
theorem linV {id:Nat}(hanc:anc=λ i=>List.range i)(hk:∀ ν,chk (fam ops N Γ les sp anc ν)=true)(hdS:∀ i f,sp[i]?=some f→Dep (bef anc i) f)(hdL:∀ e∈les,∀ j f,e.st=some (j,f)→Dep (bef anc j) f)(ν0:Nat→Value)(h:St B w0 N Γ Λ a w)(hles:∀ e∈(fam ops N Γ les sp anc ν0).les,e.cr=none→(⟨e.s,e.T,e.H,e.A0⟩:Lc)∈Λ)
  (hob:∀ i,i<ops.size→ObF P Q ops N Γ les sp anc B w0 i) (hQ:∀ ν a' w',Fin (fam ops N Γ les sp anc ν) B w0 a' w'→Q .normal a' w'):(Code.region id ops false).wp P Q a w:=by
 refine wp_region ?_
 have key:∀ m k,k+m=ops.size→∀ ν a w,(fam ops N Γ les sp anc ν).Inv B w0 (λ j=>decide (j<k)) a w→wpOps P ops Q (List.range' k m) a w:=by
  intro m
  induction m with
  | zero =>
   intro k hkm ν a w hi
   have:k=ops.size:=by omega
   subst this
   exact hQ ν a w ⟨hi⟩
  | succ m ih =>
   intro k hkm ν a w hi
   rw [List.range'_succ,qv]
   refine stepV hk hdS hdL (hob k zo) hi ?_ (by simp) ?_ _ λ ν' a' w' hi'=>ih (k+1) zo ν' a' w' (hi'.congr λ j=>?_)
   ·intro i hi j hj
    have hj:(anc i).contains j=true:=hj
    rw [hanc] at hj
    simp at hi hj ⊢
    omega
   ·intro j hj
    rw [hanc] at hj
    simpa using hj
   ·unfold upd
    by_cases h1:j=k
    ·subst h1; simp
    ·have h2:(j==k)=false:=by simpa using h1
     rw [h2,ja,qQ]
     omega
 rw [List.range_eq_range']
 exact key _ 0 zo ν0 a w ((start (R:=fam ops N Γ les sp anc ν0) h hles).congr λ j=>by simp)
theorem drawV {id:Nat}(hm:P.follows .mixedOrders=true)(hanc:ancOk (fam ops N Γ les sp anc (λ _=>undef))=true)(hk:∀ ν,chk (fam ops N Γ les sp anc ν)=true)(hdS:∀ i f,sp[i]?=some f→Dep (bef anc i) f)(hdL:∀ e∈les,∀ j f,e.st=some (j,f)→Dep (bef anc j) f)(ν0:Nat→Value)(h:St B w0 N Γ Λ a w)(hles:∀ e∈(fam ops N Γ les sp anc ν0).les,e.cr=none→(⟨e.s,e.T,e.H,e.A0⟩:Lc)∈Λ)
  (hob:∀ i,i<ops.size→ObF P Q ops N Γ les sp anc B w0 i) (hQ:∀ ν a' w',Fin (fam ops N Γ les sp anc ν) B w0 a' w'→Q .normal a' w'):(Code.region id ops true).wp P Q a w:=by
 refine wp_region_any hm ?_
 have ho:∀ i,i<ops.size→∃ o,ops[i]?=some o∧(∀ j,(anc i).contains j=true→∃ e∈o.after,Region.binds .any e=true∧(e.on=j∨(anc e.on).contains j=true)) ∧
   ∀ e∈o.after,Region.binds .any e=true→e.on<i:=by
  intro i hi
  have:=qc.1 hanc i (by simpa using hi)
  cases hoi:ops[i]? with
  | none=>rw [hoi] at this; cases this
  | some o =>
   rw [hoi] at this
   simp only [qj] at this
   refine ⟨o,rfl,λ j hj=>?_,λ e he hb=>?_⟩
   ·have hh:=qc.1 this.1 j (by simpa using hj)
    obtain ⟨e,he,h1⟩:=jp.1 hh
    simp only [qj,zr,xh] at h1
    exact ⟨e,he,h1.1,h1.2⟩
   ·have hh:=zw.1 this.2 e he
    simpa [hb] using hh
 have hrd:∀ (listed:Array Bool) i,i∈Region.ready .any ops listed→i<ops.size∧listed.getD i true=false∧∀ o,ops[i]?=some o→∀ e∈o.after,Region.binds .any e=true→listed.getD e.on false=true:=by
  intro listed i hi
  unfold Region.ready at hi
  obtain ⟨h1,h2⟩:=z4.1 hi
  simp only [qj,qz] at h2
  refine ⟨by simpa using h1,h2.1,λ o hoi e he hb=>?_⟩
  have h3:=h2.2
  rw [hoi] at h3
  simp only [qH,z8] at h3
  have:=zw.1 h3 e he
  simpa [hb] using this
 have key:∀ fuel (listed:Array Bool) ν a w,listed.size=ops.size→(List.range ops.size).countP (λ i => !listed.getD i false)≤fuel→Closed (fam ops N Γ les sp anc (λ _=>undef)) (λ i=>listed.getD i false) →
   (fam ops N Γ les sp anc ν).Inv B w0 (λ i=>listed.getD i false) a w→wpAny P .any ops Q fuel listed a w:=by
  intro fuel
  have hend:∀ (listed:Array Bool) ν a w,listed.size=ops.size→Region.ready .any ops listed=[]→(fam ops N Γ les sp anc ν).Inv B w0 (λ i=>listed.getD i false) a w→Q .normal a w:=by
   intro listed ν a w hsz hr hi
   refine hQ ν a w ⟨hi.congr λ k=>?_⟩
   by_cases hkn:k<ops.size
   ·have:∀ k,k<ops.size→listed.getD k false=true:=by
     intro k
     induction k using Nat.strongRecOn with
     | _ k ih =>
      intro hkn
      cases hl:listed.getD k false with
      | true=>rfl
      | false =>
       exfalso
       obtain ⟨o,ho1,_,ho3⟩:=ho k hkn
       have:k∈Region.ready .any ops listed:=by
        unfold Region.ready
        refine z4.2 ⟨by simpa using hkn,?_⟩
        have h0:listed.getD k true=false:=by
         simp only [Array.getD,hsz,hkn,dite_true] at hl ⊢
         exact hl
        rw [h0,ho1]
        simp only [jo,jP,qH,z8]
        refine zw.2 λ e he=>?_
        cases hb:Region.binds .any e with
        | false=>rfl
        | true=>simpa using ih e.on (ho3 e he hb) (qY (ho3 e he hb) hkn)
       rw [hr] at this
       cases this
    simp [hkn,this k hkn]
   ·have:listed.getD k false=false:=by simp [Array.getD,hsz,hkn]
    simp [hkn,this]
  induction fuel with
  | zero =>
   intro listed ν a w hsz hcnt hcl hi
   have hr:Region.ready .any ops listed=[]:=by
    cases hrr:Region.ready .any ops listed with
    | nil=>rfl
    | cons i rest =>
     exfalso
     obtain ⟨h1,h2,_⟩:=hrd listed i (by rw [hrr]; simp)
     have:0<(List.range ops.size).countP (λ i => !listed.getD i false):=by
      refine jd.2 ⟨i,by simpa using h1,?_⟩
      simp only [Array.getD,hsz,h1,dite_true] at h2 ⊢
      simpa using h2
     omega
   exact ⟨hr,hend listed ν a w hsz hr hi⟩
  | succ fuel ih =>
   intro listed ν a w hsz hcnt hcl hi
   refine ⟨λ hr=>hend listed ν a w hsz hr hi,λ i hir=>?_⟩
   obtain ⟨h1,h2,h3⟩:=hrd listed i hir
   obtain ⟨o,ho1,ho2,_⟩:=ho i h1
   have hLi:listed.getD i false=false:=by
    simp only [Array.getD,hsz,h1,dite_true] at h2 ⊢
    exact h2
   have hanci:∀ j,(anc i).contains j=true→listed.getD j false=true:=by
    intro j hj
    obtain ⟨e,he,hb,hj'⟩:=ho2 j hj
    have hl:=h3 o ho1 e he hb
    rcases hj' with rfl | hj'
    ·exact hl
    ·exact hcl e.on hl j hj'
   have hup:∀ k,(listed.setIfInBounds i true).getD k false=upd (λ i=>listed.getD i false) i k:=by
    intro k
    unfold upd
    by_cases hki:k=i
    ·subst hki
     simp [hsz,h1]
    ·simp [hki,Array.getElem?_setIfInBounds_ne (λ e=>hki e.symm)]
   refine stepV hk hdS hdL (hob i h1) hi hcl hLi hanci _ λ ν' a' w' hi'=>ih _ ν' _ _ (by simpa using hsz) ?_ ?_ (hi'.congr hup)
   ·have:(List.range ops.size).countP (λ k => !(listed.setIfInBounds i true).getD k false)<(List.range ops.size).countP (λ k => !listed.getD k false):=by
     refine ei (x:=i) (λ x hx=>?_) (by simpa using h1) (by rw [hLi]; rfl) (by rw [hup,cf]; rfl)
     have hx':upd (λ i=>listed.getD i false) i x=false:=by
      rw [← hup]
      simpa only [qz] using hx
     rw [(dn hx').2]
     rfl
    omega
   ·intro k hk' j hj
    have hk2:upd (λ i=>listed.getD i false) i k=true:=by rw [← hup]; exact hk'
    show (listed.setIfInBounds i true).getD j false=true
    rw [hup]
    rcases pa hk2 with rfl | h4
    ·exact dm _ (hanci j hj)
    ·exact dm _ (hcl k h4 j hj)
 refine key _ _ ν0 a _ (by simp) ?_ ?_ ?_
 ·refine qd (x5) (by simp)
 ·intro i hi
  exfalso
  simp only [Array.getD,qF] at hi
  split at hi <;> simp at hi
 ·have hs:=start (R:=fam ops N Γ les sp anc ν0) h hles
  have hd:(fam ops N Γ les sp anc ν0).Inv B w0 (λ _=>false) a w.drew:=⟨hs.lo,hs.defers.grow (Grow.drew w) rfl,hs.size,hs.base.drew,λ x hx h1 h2=>x.2.grow _ _ _ _ (Grow.drew w) (hs.g x hx h1 h2),(λ i y d A _ _ hf=>by cases hf),(λ i d b k c _ hf=>by cases hf),
   λ e he A hA=>(hs.c e he A hA).grow (Grow.drew w),hs.x⟩
  refine Inv.congr hd λ k=>?_
  simp only [Array.getD,qF]
  split <;> simp
end
def DepS (anc:Nat→List Nat):Nat→List ((Nat→Value)→Sp)→Prop
 | _,[]=>True
 | k,f::l=>Dep (bef anc k) f∧DepS anc (k+1) l
theorem DepS.at {anc:Nat→List Nat}:∀ {l:List ((Nat→Value)→Sp)} {k:Nat},DepS anc k l→∀ i f,l[i]?=some f→Dep (bef anc (k+i)) f
 | g::l,k,h,0,f,hf=>by
  simp at hf
  subst hf
  exact h.1
 | g::l,k,h,i+1,f,hf=>by
  have:=DepS.at h.2 i f (by simpa using hf)
  rwa [show k+1+i=k+(i+1) by omega] at this
def DepL (anc:Nat→List Nat):List LeF→Prop
 | []=>True
 | e::l=>(match e.st with | none=>True | some (j,f)=>Dep (bef anc j) f)∧DepL anc l
theorem DepL.mem {anc:Nat→List Nat}:∀ {l:List LeF},DepL anc l→∀ e∈l,∀ j f,e.st=some (j,f)→Dep (bef anc j) f
 | g::l,h,e,he,j,f,hf=>by
  rcases qo.1 he with rfl | he
  ·have h1:=h.1
   rw [hf] at h1
   exact h1
  ·exact DepL.mem h.2 e he j f hf
end Rg
open Rg in
def lesF (Λ:List Lc)(sts:List (Option (Nat × ((Nat→Value)→As))))(news:List LeF):List LeF:=(Λ.zip sts).map (λ x=>⟨x.1.s,x.1.T,x.1.H,none,x.1.A,x.2⟩)++news
open Rg in
def ObsF (P:Program)(Q:Exit→Act→World→Prop)(ops:Array Oper)(N:Nat)(Γ:List (Nat × VA))(les:List LeF)(sp:List ((Nat→Value)→Sp))(anc:Nat→List Nat)(B:Nat)(w0:Bs):Nat→Nat→Prop
 | _,0=>True
 | k,m+1=>ObF P Q ops N Γ les sp anc B w0 k∧ObsF P Q ops N Γ les sp anc B w0 (k+1) m
open Rg in
theorem ObsF.all {Q:Exit→Act→World→Prop}{ops:Array Oper}{N:Nat}{les:List LeF}{sp:List ((Nat→Value)→Sp)}{anc:Nat→List Nat}{k m:Nat}(h:ObsF P Q ops N Γ les sp anc B w0 k m):∀ j,k≤j→j<k+m→ObF P Q ops N Γ les sp anc B w0 j:=by
 induction m generalizing k with
 | zero=>intro j h1 h2; omega
 | succ m ih =>
  intro j h1 h2
  by_cases hj:j=k
  ·subst hj; exact h.1
  ·exact ih h.2 j zo zo
section
open Rg
variable {P:Program} {Q:Exit→Act→World→Prop} {B N:Nat} {w0:Bs} {Γ:List (Nat × VA)} {Λ:List Lc} {a:Act} {w:World}
theorem yv {sts:List (Option (Nat × ((Nat→Value)→As)))}{news:List LeF}{ν:Nat→Value}(hn:news.all (λ e=>e.cr.isSome)=true):∀ e∈(lesF Λ sts news).map (LeF.on ν),e.cr=none→(⟨e.s,e.T,e.H,e.A0⟩:Lc)∈Λ:=by
 intro e he hcr
 obtain ⟨e0,he0,rfl⟩:=qm.1 he
 unfold lesF at he0
 rcases qw.1 he0 with he | he
 ·obtain ⟨x,hx,rfl⟩:=qm.1 he
  exact (List.of_mem_zip hx).1
 ·have:=qc.1 hn e0 he
  have h2:e0.cr=none:=hcr
  rw [h2] at this
  cases this
theorem yO {id:Nat}{ops:Array Oper}{sts:List (Option (Nat × ((Nat→Value)→As)))}{news:List LeF}{sp:List ((Nat→Value)→Sp)}(src:List Src)(h:St B w0 N Γ Λ a w)
  (hob:ObsF P Q ops N Γ (lesF Λ sts news) sp (λ i=>List.range i) B w0 0 ops.size) (hdS:DepS (λ i=>List.range i) 0 sp) (hdL:DepL (λ i=>List.range i) (lesF Λ sts news))
  (hn:news.all (λ e=>e.cr.isSome)=true) (hk:∀ ν,Rg.chk (fam ops N Γ (lesF Λ sts news) sp (λ i=>List.range i) ν)=true) (hsrc:∀ ν,src.all (okS (fam ops N Γ (lesF Λ sts news) sp (λ i=>List.range i) ν))=true)
  (hQ:∀ ν a w,St B w0 N (src.filterMap (takeS (fam ops N Γ (lesF Λ sts news) sp (λ i=>List.range i) ν))) (((lesF Λ sts news).map (LeF.on ν)).map λ e=>⟨e.s,e.T,e.H,Rg.last e⟩) a w→Q .normal a w):(Code.region id ops false).wp P Q a w :=
 Rg.linV rfl hk (λ i f hf=>by have:=hdS.at i f hf; rwa [zc] at this) hdL.mem (λ _=>undef) h (yv hn) (λ i hi=>hob.all i zo zo) λ ν a' w' hf=>hQ ν a' w' (eD (hk ν) hf src (hsrc ν))
theorem go_drawV' {id:Nat}{ops:Array Oper}{sts:List (Option (Nat × ((Nat→Value)→As)))}{news:List LeF}{sp:List ((Nat→Value)→Sp)}(anc:List (List Nat))(src:List Src)(hm:P.follows .mixedOrders=true)(h:St B w0 N Γ Λ a w)
  (hob:ObsF P Q ops N Γ (lesF Λ sts news) sp (λ i=>anc.getD i []) B w0 0 ops.size) (hdS:DepS (λ i=>anc.getD i []) 0 sp) (hdL:DepL (λ i=>anc.getD i []) (lesF Λ sts news))
  (hn:news.all (λ e=>e.cr.isSome)=true) (hanc:Rg.ancOk (fam ops N Γ (lesF Λ sts news) sp (λ i=>anc.getD i []) (λ _=>undef))=true) (hk:∀ ν,Rg.chk (fam ops N Γ (lesF Λ sts news) sp (λ i=>anc.getD i []) ν)=true) (hsrc:∀ ν,src.all (okS (fam ops N Γ (lesF Λ sts news) sp (λ i=>anc.getD i []) ν))=true)
  (hQ:∀ ν a w,St B w0 N (src.filterMap (takeS (fam ops N Γ (lesF Λ sts news) sp (λ i=>anc.getD i []) ν))) (((lesF Λ sts news).map (LeF.on ν)).map λ e=>⟨e.s,e.T,e.H,Rg.last e⟩) a w→Q .normal a w):(Code.region id ops true).wp P Q a w :=
 Rg.drawV hm hanc hk (λ i f hf=>by have:=hdS.at i f hf; rwa [zc] at this) hdL.mem (λ _=>undef) h (yv hn) (λ i hi=>hob.all i zo zo) λ ν a' w' hf=>hQ ν a' w' (eD (hk ν) hf src (hsrc ν))
variable {ops:Array Oper} {les:List LeF} {sp:List ((Nat→Value)→Sp)} {anc:Nat→List Nat} {i:Nat}
theorem of_u (h:∀ ν,(fam ops N Γ les sp anc ν).Ob P Q B w0 i):ObF P Q ops N Γ les sp anc B w0 i:=.inl h
def LiveR (R:Rg)(B:Nat)(w0:Bs)(i:Nat)(us:List Value):Prop:=∀ a w,R.Av B w0 i a w→∀ u∈us,∀ g∈vbl u,g<w.heap.size
theorem cG {R:Rg}:LiveR R B w0 i []:=λ _ _ _ _ h=>by cases h
theorem eX {R:Rg}{u:Value}{us:List Value}{x:Operand}{A:As}(hA:NewA A)(hx:Has R B w0 i x (PinA u A).va)(h:LiveR R B w0 i us):LiveR R B w0 i (u::us):=λ a w av v hv=>by
 rcases qo.1 hv with rfl | hv
 ·obtain ⟨cs,⟨h1,h2⟩,_⟩:=hx a w av
  intro g hg
  rw [← h2,oI h1] at hg
  exact (hA _ _ _ h1 g hg).2
 ·exact h a w av v hv
theorem eS {A:As}{c:Prop}(h:NewA A):NewA (A.and c):=λ B cs w hp=>h B cs w hp.2
theorem FL {A:As}{c:Prop}(h:NodA A):NodA (A.and c):=λ B cs w hp=>h B cs w hp.2
theorem dT {d f:Nat}{A:As}{us:(Nat→Value)→List Value}{pre pre':List VA}{xs:List Operand}{at_:Array TypeId}
  (hs:sp[i]?=some (λ ν=>.v d (PinA (ν i) (A.and (SepAll (us ν) (ν i)))).va)) (ho:ops[i]?=some ⟨some d,.call ⟨.value (.func f),xs.toArray,at_⟩,T,ps,af,none⟩)
  (hc:Cn P f pre' A.va) (hnew:NewA A) (hfree:FreeA A A) (hup:All2 Up pre pre') (hx:∀ ν,HasL (fam ops N Γ les sp anc ν) B w0 i xs pre) (hus:∀ ν v,us (nuSet ν i v)=us ν) (hl:∀ ν,LiveR (fam ops N Γ les sp anc ν) B w0 i (us ν)):ObF P Q ops N Γ les sp anc B w0 i:=by
 refine .inr ⟨d,_,hs,λ ν a w av K hK=>?_⟩
 obtain ⟨⟨fn,hf,hn,hb⟩,hcall⟩:=hc
 have hrun:(execOp a.eval ⟨some d,.call ⟨.value (.func f),xs.toArray,at_⟩,T,ps,af,none⟩).run P w=.ok (.enter f (xs.map a.eval).toArray) w:=by
  simp only [execOp,resolve,Act.eval,Deferred.ofValue,Sem.run_bind,Sem.run_pure,Result.andThen_ok,invoke,be hf hn hb]
  simp
 have hbw:=Av.bw av
 have hargs:All2 (λ (A:VA) v=>A.p w.heap.size v w) pre' (xs.map a.eval):=by
  have h1:=(hx ν).all av
  clear hcall hrun hx hs ho
  generalize xs.map a.eval=vs at h1
  induction hup generalizing vs with
  | nil=>cases h1; exact .nil
  | cons hu _ ih =>
   cases h1 with
   | cons h2 h3=>exact .cons (hu _ _ _ hbw h2) (ih _ h3)
 refine bu (R:=fam ops N Γ les sp anc ν) ho G ?_
 unfold Oper.wp
 rw [hrun]
 refine (hcall w.heap.size w _ (qg _) hargs).mono λ e w' ⟨v,he,⟨cs,hv,hsh⟩,hg⟩=>?_
 subst he
 refine hK v w' hg ⟨cs,⟨⟨?_,hfree.2.2 _ _ _ _ hbw hv⟩,?_⟩,hsh⟩
 ·rw [hus,gY]
  intro u hu g hgu hgv
  have h1:=hl ν a w av u hu g hgu
  rw [hsh,oI hv] at hgv
  have h2:=(hnew _ _ _ hv g hgv).1
  omega
 ·rw [gY]
  exact hsh.symm
theorem sT {R:Rg}{u:Value}{us:List Value}{s:Nat}{A:As}(hA:NewA A)(hx:LocH R i s T H (PinA u A))(h:LiveR R B w0 i us):LiveR R B w0 i (u::us):=λ a w av v hv=>by
 rcases qo.1 hv with rfl | hv
 ·obtain ⟨g,cs,_,_,_,h1,h2⟩:=hx.ok av
  intro g hg
  rw [← h2,oI h1] at hg
  exact (hA _ _ _ h1 g hg).2
 ·exact h a w av v hv
def PinT (v:Value)(l:List As)(us:List Value):VA where
 p B x w:=x=v∧∃ vs:List Value,v=.tuple vs.toArray∧All2 (λ (A:As) y=>A.va.p B y w∧SepAll us y) l vs
 deps:=l.flatMap (·.deps)
 cg:=λ B x w w' hg ⟨h,vs,h1,h2⟩=>⟨h,vs,h1,h2.mono λ A y hy=>⟨A.va.cg _ _ _ _ hg hy.1,hy.2⟩⟩
 wr:=by
  rintro B x w w' g c T fz h1 h2 h3 h4 ⟨h,vs,h5,h6⟩
  refine ⟨h,vs,h5,?_⟩
  clear h5
  induction h6 with
  | nil=>exact .nil
  | cons h _ ih =>
   simp only [zG,qw,not_or] at h2
   exact .cons ⟨(As.va _).wr _ _ _ _ _ _ _ _ h1 h2.1 h3 h4 h.1,h.2⟩ (ih h2.2)
theorem sK {d f:Nat}{l:List As}{us:(Nat→Value)→List Value}{pre pre':List VA}{xs:List Operand}{at_:Array TypeId}
  (hs:sp[i]?=some (λ ν=>.v d (PinT (ν i) l (us ν)))) (ho:ops[i]?=some ⟨some d,.call ⟨.value (.func f),xs.toArray,at_⟩,T,ps,af,none⟩)
  (hc:Cn P f pre' (Tu (l.map (·.va)))) (hnf:∀ A∈l,NewA A∧FreeA A A) (hup:All2 Up pre pre') (hx:∀ ν,HasL (fam ops N Γ les sp anc ν) B w0 i xs pre) (hus:∀ ν v,us (nuSet ν i v)=us ν) (hl:∀ ν,LiveR (fam ops N Γ les sp anc ν) B w0 i (us ν)):ObF P Q ops N Γ les sp anc B w0 i:=by
 refine .inr ⟨d,_,hs,λ ν a w av K hK=>?_⟩
 obtain ⟨⟨fn,hf,hn,hb⟩,hcall⟩:=hc
 have hrun:(execOp a.eval ⟨some d,.call ⟨.value (.func f),xs.toArray,at_⟩,T,ps,af,none⟩).run P w=.ok (.enter f (xs.map a.eval).toArray) w:=by
  simp only [execOp,resolve,Act.eval,Deferred.ofValue,Sem.run_bind,Sem.run_pure,Result.andThen_ok,invoke,be hf hn hb]
  simp
 have hbw:=Av.bw av
 have hargs:All2 (λ (A:VA) v=>A.p w.heap.size v w) pre' (xs.map a.eval):=by
  have h1:=(hx ν).all av
  clear hcall hrun hx hs ho
  generalize xs.map a.eval=vs at h1
  induction hup generalizing vs with
  | nil=>cases h1; exact .nil
  | cons hu _ ih =>
   cases h1 with
   | cons h2 h3=>exact .cons (hu _ _ _ hbw h2) (ih _ h3)
 refine bu (R:=fam ops N Γ les sp anc ν) ho G ?_
 unfold Oper.wp
 rw [hrun]
 refine (hcall w.heap.size w _ (qg _) hargs).mono ?_
 rintro e w' ⟨v,he,⟨vs,hv,hvs⟩,hg⟩
 subst he
 refine hK v w' hg ⟨by rw [gY],vs,by rw [gY]; exact hv,?_⟩
 rw [hus]
 have hlv:=hl ν a w av
 clear hv hs hcall hK
 induction l generalizing vs with
 | nil=>cases hvs; exact .nil
 | cons A l ih =>
  cases hvs with
  | cons h1 h2 =>
   refine .cons ⟨?_,?_⟩ (ih (λ A hA=>hnf A (by simp [hA])) _ h2)
   ·obtain ⟨cs,hp,hsh⟩:=h1
    exact ⟨cs,(hnf A (by simp)).2.2.2 _ _ _ _ hbw hp,hsh⟩
   ·obtain ⟨cs,hp,hsh⟩:=h1
    intro u hu g hgu hgv
    have q1:=hlv u hu g hgu
    rw [hsh,oI hp] at hgv
    have q2:=((hnf A (by simp)).1 _ _ _ hp g hgv).1
    omega
theorem sJ {d t k:Nat}{l:List As}{A:As}{v:(Nat→Value)→Value}{us:(Nat→Value)→List Value}
  (hs:sp[i]?=some (λ ν=>.v d (PinA (ν i) (A.and (SepAll (us ν) (ν i)))).va)) (ho:ops[i]?=some ⟨some d,.extract (.tmp t) k,T,ps,af,none⟩)
  (hx:∀ ν,Has (fam ops N Γ les sp anc ν) B w0 i (.tmp t) (PinT (v ν) l (us ν))) (hA:l[k]?=some A) (hus:∀ ν v,us (nuSet ν i v)=us ν):ObF P Q ops N Γ les sp anc B w0 i:=by
 refine .inr ⟨d,_,hs,λ ν a w av K hK=>?_⟩
 obtain ⟨e1,vs,e2,h2⟩:=hx ν a w av
 obtain ⟨y,hy,⟨cs,hp,hsh⟩,hsep⟩:=h2.get hA
 refine bu (R:=fam ops N Γ les sp anc ν) ho G (bc (w':=w) (v:=y) ?_ (hK y w (Grow.refl w) ⟨cs,⟨⟨?_,hp⟩,?_⟩,hsh⟩))
 ·have e3:a.eval (.tmp t)=.tuple vs.toArray:=e1.trans e2
  simp [execOp,e3,Instr.extract,hy]
 ·rw [hus,gY]; exact hsep
 ·rw [gY]; exact hsh.symm
end
theorem new_mg (l:List Nat):NewA (MgN l):=λ B cs w ⟨_,h⟩=>by
 rcases h with ⟨_,rfl⟩ | ⟨g,ext,rfl,_,h2,h3⟩
 ·intro g hg; cases hg
 ·intro g' hg
  have:g'=g:=by simpa [cbl,blk] using hg
  subst this
  exact ⟨h2,(Array.getElem?_eq_some_iff.1 h3).1⟩
theorem new_bo (b:Bool):NewA (BoA b):=λ B cs w h=>by
 have h':cs=[.bool b]:=h
 subst h'
 intro g hg; cases hg
theorem FM (k:IntKind)(n:Int):NewA (NumA k n):=λ B cs w h=>by
 have h':cs=[.int k n]:=h
 subst h'
 intro g hg; cases hg
theorem wX (x:RI):NewA (RIN x):=lC (λ A hA=>by
 simp at hA
 rcases hA with rfl | rfl
 ·exact new_bo _
 ·exact new_mg _)
theorem FK (x:RI):NodA (RIN x):=λ B cs w ⟨ps,e,h⟩=>by
 subst e
 cases h with
 | @cons _ c1 _ _ h1 h=>cases h with
  | @cons _ c2 _ _ h2 h =>
   cases h
   have e1:c1=[.bool x.neg]:=h1
   have l2:=(MgN x.mag).len _ _ _ h2
   subst e1
   match c2,l2 with
   | [v],_ =>
    show (List.filterMap blk [.bool x.neg,v]).Nodup
    have:List.filterMap blk [.bool x.neg,v]=List.filterMap blk [v]:=rfl
    rw [this]
    cases hb:blk v with
    | none=>simp [hb]
    | some g=>simp [hb]
def ZN (k:Nat)(z:Int):As:=(RIN (riOf z)).and (lz z≤k)
theorem dw {k:Nat}{z:Int}:NewA (ZN k z):=eS (wX _)
theorem nod_zn {k:Nat}{z:Int}:NodA (ZN k z):=FL (FK _)
theorem Cq {A:As}{c:Prop}(h:FreeA A A):FreeA (A.and c) (A.and c):=⟨rfl,rfl,λ B B' cs w hB hp=>⟨hp.1,h.2.2 B B' cs w hB hp.2⟩⟩
theorem dH {k:Nat}{z:Int}:FreeA (ZN k z) (ZN k z):=Cq (fS _)
theorem wkA_riN {x:RI}:WkA (RIN x) (RIA x):=⟨rfl,rfl,λ B cs w h=>(iL x).2.2 B B cs w (qg _) h⟩
theorem zn_za {k:Nat}{z:Int}:WkA (ZN k z) (ZA k z):=⟨rfl,rfl,λ B cs w h=>⟨h.1,wkA_riN.2.2 B cs w h.2⟩⟩
theorem mV {k k':Nat}{z:Int}(h:k≤k'):WkA (ZN k z) (ZN k' z):=⟨rfl,rfl,λ _ _ _ hp=>⟨qd hp.1 h,hp.2⟩⟩
theorem uO {k:Nat}{z:Int}(h:lz z≤k):Wk (RIN (riOf z)).va (ZN k z).va:=λ _ _ _ ⟨cs,hp,hv⟩=>⟨cs,⟨h,hp⟩,hv⟩
theorem BQ {a b:Int}(h:((riOf a).neg==(riOf b).neg)=true):(RIN (rsig (riOf a).neg (digs (max (riOf a).mag.length (riOf b).mag.length+1) (val (riOf a).mag+val (riOf b).mag)))).va=(RIN (riOf (a+b))).va:=by
 have h':decide (a<0)=decide (b<0):=by simpa [riOf] using h
 rw [bA,bA,ca (bP _ _) (z:=a+b) (by show val (digs (max (limbs a.natAbs).length (limbs b.natAbs).length+1) _)=_; rw [uW]; simp only [qQ] at h'; omega) (λ hz=>by show decide (a<0)=_; simp only [qQ] at h' ⊢; omega)]
theorem BP {a b:Int}(h:((riOf a).neg==(riOf b).neg)=false)(h2:b.natAbs≤a.natAbs):(RIN (rsig (riOf a).neg (limbs (val (riOf a).mag-val (riOf b).mag)))).va=(RIN (riOf (a+b))).va:=by
 have h':¬ decide (a<0)=decide (b<0):=by simpa [riOf] using h
 rw [bA,bA,ca (bk _).1 (z:=a+b) (by rw [aH]; simp only [qQ] at h'; omega) (λ hz=>by show decide (a<0)=_; simp only [qQ] at h' ⊢; omega)]
theorem BO {a b:Int}(h:((riOf a).neg==(riOf b).neg)=false)(h2:a.natAbs≤b.natAbs):(RIN (rsig (riOf b).neg (limbs (val (riOf b).mag-val (riOf a).mag)))).va=(RIN (riOf (a+b))).va:=by
 have h':¬ decide (a<0)=decide (b<0):=by simpa [riOf] using h
 rw [bA,bA,ca (bk _).1 (z:=a+b) (by rw [aH]; simp only [qQ] at h'; omega) (λ hz=>by show decide (b<0)=_; simp only [qQ] at h' ⊢; omega)]
theorem wJ (p q:Int)(hp:lz p≤1099511627776)(hq:lz q≤1099511627776):Cn Tryz.prog 178 [Zi p,Zi q] ((RIN (riOf (p+q))).va):=by
 refine Cn.intro Tryz.func178 G zk nq (λ B w0 a U=>?_)
 have U:=zn [(0,Zi p),(1,Zi q)] [] U
 refine qb<|zg [] [⟨2,28,ptrH,some 0,_,none⟩,⟨3,28,ptrH,some 1,_,none⟩,⟨4,28,ptrH,some 2,_,none⟩] [.alc 0,.alc 1,.alc 2] [] U (zW 0 G (zW 1 G (zY G (Str.zero bn) o0))) (zz [] [O 2 28 _,O 3 28 _,O 4 28 _] λ a w U=>?_)
 refine zt<|qb<|zg [η,η,η] [] [.adr 5 2 (.some 0) True,.v 6 _,.adr 7 3 (.some 0) True,.v 8 _,.v 9 _] [.o 4] U (zO 0 G aU (zL 0 0 0 G ty_4 (zO 1 G aU (zL 2 1 0 G ty_4 (zv G (wz zk (vq 1 G) (vq 3 G)) o0))))) (zz [(9,_)] [O 2 28 _,O 3 28 _,O 4 28 _] λ a w U=>?_)
 refine a7<|ae U (zm 0 G) (λ hb0=>?_) (λ hb0=>?_)
 ·refine qb<|zgd [[],[0],[],[2],[],[4],[2,3,4,5],[0,1,2,3,4,5,6],[0,1,2,3,4,5,6,7]] [none,none,some (8,_)] [] [.adr 10 2 (.some 0) True,.v 11 _,.adr 12 2 (.some 1) True,.v 13 _,.adr 14 3 (.some 1) True,.v 15 _,.v 16 _,.v 17 _,.sto 2] [] aa U (zO 0 G aU (zL 0 0 0 G ty_4 (zO 0 G ar (zL 2 0 1 G aY (zO 1 G ar (zL 4 1 1 G aY (zQ G (add_c _ _ hp hq) (.p (vq 3 G) (vq 5 G)) (zQ G (dp _ _) (.p (vq 1 G) (vq 6 G)) (zS 7 G al o0))))))))) zk zk zk zk (zz [] [O 2 28 _,O 3 28 _,O 4 28 _] λ a w U=>?_)
  refine a7<|qe<|ao ?_
  refine aw ?_ (ap G U (zm 2 G) al)
  exact BQ hb0
 ·refine qh<|zt<|qb<|zg [η,η,η] [] [.adr 18 2 (.some 1) True,.v 19 _,.adr 20 3 (.some 1) True,.v 21 _,.v 22 _,.v 23 _] [.o 5] U (zO 0 G ar (zL 0 0 1 G aY (zO 1 G ar (zL 2 1 1 G aY (zQ G (sj _ _) (.p (vq 1 G) (vq 3 G)) (zv G (eu (vq 4 G) a8) o0)))))) (zz [(23,_)] [O 2 28 _,O 3 28 _,O 4 28 _] λ a w U=>?_)
  refine a7<|ae U (zm 0 G) (λ hb1=>?_) (λ hb1=>?_)
  ·refine qb<|zgd [[],[0],[],[2],[],[4],[2,3,4,5],[0,1,2,3,4,5,6],[0,1,2,3,4,5,6,7]] [none,none,some (8,_)] [] [.adr 24 2 (.some 0) True,.v 25 _,.adr 26 2 (.some 1) True,.v 27 _,.adr 28 3 (.some 1) True,.v 29 _,.v 30 _,.v 31 _,.sto 2] [] aa U (zO 0 G aU (zL 0 0 0 G ty_4 (zO 0 G ar (zL 2 0 1 G aY (zO 1 G ar (zL 4 1 1 G aY (zQ G (B9 _ _ hp (cm (gT hb1)) (by show val (limbs _)≤val (limbs _); rw [aH,aH]; exact gT hb1)) (.p (vq 3 G) (vq 5 G)) (zQ G (dp _ _) (.p (vq 1 G) (vq 6 G)) (zS 7 G al o0))))))))) zk zk zk zk (zz [] [O 2 28 _,O 3 28 _,O 4 28 _] λ a w U=>?_)
   refine a7<|qe<|ao ?_
   refine aw ?_ (ap G U (zm 2 G) al)
   exact BP hb0 (gT hb1)
  ·refine qh<|zt<|zgd [[],[0],[],[2],[],[4],[2,3,4,5],[0,1,2,3,4,5,6],[0,1,2,3,4,5,6,7]] [none,none,some (8,_)] [] [.adr 32 3 (.some 0) True,.v 33 _,.adr 34 3 (.some 1) True,.v 35 _,.adr 36 2 (.some 1) True,.v 37 _,.v 38 _,.v 39 _,.sto 2] [] aa U (zO 1 G aU (zL 0 1 0 G ty_4 (zO 1 G ar (zL 2 1 1 G aY (zO 0 G ar (zL 4 0 1 G aY (zQ G (B9 _ _ hq (cm (gS hb1)) (by show val (limbs _)≤val (limbs _); rw [aH,aH]; exact gS hb1)) (.p (vq 3 G) (vq 5 G)) (zQ G (dp _ _) (.p (vq 1 G) (vq 6 G)) (zS 7 G al o0))))))))) zk zk zk zk (zz [] [O 2 28 _,O 3 28 _,O 4 28 _] λ a w U=>?_)
   refine a7<|qe<|aw ?_ (ap G U (zm 2 G) al)
   exact BO hb0 (gS hb1)
theorem BY (p q:Int)(hp:lz p≤1099511627776)(hq:lz q≤1099511627776):Cn Tryz.prog 225 [Zi p,Zi q] ((RIN (riOf (p-q))).va):=by
 refine Cn.intro Tryz.func225 G zk nq (λ B w0 a U=>?_)
 have U:=zn [(0,Zi p),(1,Zi q)] [] U
 refine qb<|zg [] [⟨2,28,ptrH,some 0,_,none⟩,⟨3,28,ptrH,some 1,_,none⟩,⟨4,28,ptrH,some 2,_,none⟩] [.alc 0,.alc 1,.alc 2] [] U (zW 0 G (zW 1 G (zY G (Str.zero bn) o0))) (zz [] [O 2 28 _,O 3 28 _,O 4 28 _] λ a w U=>?_)
 refine zt<|zg [η,η,some (14,_)] [] [.v 5 _,.adr 6 3 (.some 0) True,.v 7 _,.v 8 _,.v 9 _,.adr 10 3 (.some 1) (_=true),.t 11 _,.t 12 _,.t 13 _,.v 14 _,.adr 15 3 (.some 1) True,.v 16 _,.v 17 _,.v 18 _,.sto 2] [] U (zl 0 G al (zO 1 G aU (zL 1 1 0 G ty_4 (zv G (cW (vq 2 G)) (zv G (ab (vq 3 G)) (zC 4 1 G ar (zB 4 G (λ hg=>ax 5 G zk hg (lz0 1 G) (Sub.part 1 G G) aY) (zB 4 G (λ hg=>aJ Tryz.underlying26 (ac (vq 6 G) hg)) (zB 4 G (λ hg=>cP (ac (vq 7 G) hg) a8) (zv G (bG (vq 4 G) (vq 8 G)) (zO 1 G ar (zL 10 1 1 G aY (zv G (aO (qs:=[(0,_),(1,_)]) bn (.cons ⟨rfl,vq 9 rfl,rfl⟩ (.cons ⟨rfl,vq 11 rfl,rfl⟩ .nil))) (zQ G ((wJ p (-q) hp (by rw [eU]; exact hq)).pre (qk (λ A=>[Zi p,A]) wZ)) (.p (vq 0 G) (vq 12 G)) (zS 13 G al o0))))))))))))))) (zz [] [O 2 28 _,O 3 28 _,O 4 28 _] λ a w U=>?_)
 refine a7<|qe<|aw ?_ (ap G U (zm 2 G) al)
 exact qk (λ z=>(RIN (riOf z)).va) Int.sub_eq_add_neg.symm
theorem vC (p:Int)(hp:lz p≤1099511627776):Cn Tryz.prog 179 [Zi p] ((RIN (riOf (-p))).va):=by
 refine Cn.intro Tryz.func179 G zk nq (λ B w0 a U=>?_)
 have U:=zn [(0,Zi p)] [] U
 refine qb<|zg [] [⟨1,28,ptrH,some 0,_,none⟩,⟨2,28,ptrH,some 1,_,none⟩] [.alc 0,.alc 1] [] U (zW 0 G (zY G (Str.zero bn) o0)) (zz [] [O 1 28 _,O 2 28 _] λ a w U=>?_)
 refine zt<|zgd [[],[],[0,1],[0,1,2]] [none,some (3,_)] [] [.v 3 _,.v 4 _,.v 5 _,.sto 1] [] aa U (zQ G (of_c 0 zd zd) (.cons a8 .nil) (zl 0 G al (zQ G (BY 0 p (by simp [lz,bx]) hp) (.p (vq 0 G) (vq 1 G)) (zS 2 G al o0)))) zk zk zk zk (zz [] [O 1 28 _,O 2 28 _] λ a w U=>?_)
 refine a7<|qe<|aw ?_ (ap G U (zm 1 G) al)
 exact qk (λ z=>(RIN (riOf z)).va) (jz p)
theorem uD : ∃ fn, Tryz.prog.funcs[179]? = some fn ∧ (fn.name == "runtime.NumGoroutine") = false ∧ fn.body.isNone = false := ⟨_, Tryz.func179, by kernel_rfl, by kernel_rfl⟩
section
variable {a b:Nat} {p q:Int} (ha:a≤549755813888)
include ha
theorem iT:Cn Tryz.prog 179 [Zs a p] (ZN a (-p)).va:=zs1 uD λ h=>(vC p zo).wkp (uO (by rw [eU]; exact h))
variable (hb:b≤549755813888)
include hb
theorem B3:Cn Tryz.prog 121 [Zs a p,Zs b q] (ZN (a+b) (p*q)).va:=zs2 tn λ h h'=>(vI (riOf p) (riOf q) (by rw [dK]; omega) (by rw [dK]; omega)).wkp (bO (bj (qk (λ x=>(RIN x).va) (se p q))) (uO (by have:=e8 p q; omega)))
theorem nt:Cn Tryz.prog 178 [Zs a p,Zs b q] (ZN (max a b+1) (p+q)).va:=zs2 Aa λ h h'=>(wJ p q zo zo).wkp (uO (by have:=mJ p q; omega))
omit hb in
theorem pA (hq:q≠0):Cn Tryz.prog 181 [Zs a p,Zs b q] (Tu [(ZN a (p.tdiv q)).va,(ZN b (p.tmod q)).va]):=zs2 py λ h h'=>(lS p q hq zo).wkp (AZ (.cons (uO (by have:=lE p q; omega)) (.cons (uO (by have:=C3 (p:=p) hq; omega)) .nil)))
end
def QD (k:Nat)(q:Rat):As:=DisA (cat [ZN k q.num,ZN k (q.den:Int)])
theorem mI {k:Nat}{q:Rat}:NewA (QD k q):=Am (lC λ A hA=>by
 simp at hA
 rcases hA with rfl | rfl <;> exact dw)
theorem sM {k:Nat}{q:Rat}:NodA (QD k q):=ov
theorem lJ {k:Nat}{q:Rat}:FreeA (QD k q) (QD k q):=tx (bZ (.cons dH (.cons dH .nil)))
theorem gA {A A':As}(h:WkA A A'):WkA (DisA A) (DisA A'):=⟨h.1,h.2.1,λ B cs w hp=>⟨h.2.2 B cs w hp.1,hp.2⟩⟩
theorem Fw {k k':Nat}{q:Rat}(h:k≤k'):WkA (QD k q) (QD k' q):=gA (bz (.cons (mV h) (.cons (mV h) .nil)))
theorem BR {A A':As}(h:WkA A A'):WkA (PinA v A) (PinA v A'):=⟨h.1,h.2.1,λ B cs w hp=>⟨h.2.2 B cs w hp.1,by rw [h.2.1]; exact hp.2⟩⟩
theorem CX {A:As}{c:Prop}{u:Value}:WkA (A.and c) (A.and (SepAll [] u)):=⟨rfl,rfl,λ _ _ _ hp=>⟨(λ _ h=>by cases h),hp.2⟩⟩
theorem pz_za {k:Nat}{z:Int}{c:Prop}:WkA (PinA v ((ZN k z).and c)) (ZA k z):=pin_wk.trans (and_wk.trans zn_za)
theorem nf_zn {a b:Nat}{p q:Int}:∀ A∈[ZN a p,ZN b q],NewA A∧FreeA A A:=λ A hA=>by
 simp at hA
 rcases hA with rfl | rfl <;> exact ⟨dw,dH⟩
theorem rg {u v:Value}{c d k:Nat}{q:Rat}(hc:c≤k)(hd:d≤k):WkA (cat [PinA u ((ZN c q.num).and (SepAll [] u)),PinA v ((ZN d (q.den:Int)).and (SepAll [u] v))]) (QD k q) :=
 (tw (l:=[(u,ZN c q.num),(v,ZN d (q.den:Int))]) (λ x hx=>by
  simp at hx
  rcases hx with rfl | rfl <;> exact nod_zn)).trans (gA (bz (.cons (mV hc) (.cons (mV hd) .nil))))
theorem qd_of {k c:Nat}{q:Rat}(h1:lz q.num≤c)(h2:lz (q.den:Int)≤c):WkA (QD k q) (QD c q):=gA (bz (.cons ⟨rfl,rfl,λ _ _ _ hp=>⟨h1,hp.2⟩⟩ (.cons ⟨rfl,rfl,λ _ _ _ hp=>⟨h2,hp.2⟩⟩ .nil)))
theorem yg {u0 v0:Value}{c d:Nat}{p q:Int}(hc:c≤549755813888)(hd:d≤549755813888)(hq:q≠0):Cn Tryz.prog 113 [(PinA u0 ((ZN c p).and (SepAll [] u0))).va,(PinA v0 ((ZN d q).and (SepAll [u0] v0))).va] ((QD (max c d) (Rat.divInt p q)).va):=by
 have hg0:0<Int.gcd p q:=xj p hq
 obtain ⟨hn1,hn2⟩:=nM (p:=p) hq
 refine Cn.intro Tryz.func113 G zk nq (λ B w0 a U=>?_)
 have U:=zn [(0,(PinA u0 ((ZN c p).and (SepAll [] u0))).va),(1,(PinA v0 ((ZN d q).and (SepAll [u0] v0))).va)] [] U
 refine qb<|zg [] [⟨2,28,ptrH,some 0,_,none⟩,⟨3,28,ptrH,some 1,_,none⟩,⟨4,30,ptrH,some 2,_,none⟩] [.alc 0,.alc 1,.alc 2] [] U (zW 0 G (zW 1 G (zY G (Str.zero az) o0))) (zz [] [O 2 28 _,O 3 28 _,O 4 30 _] λ a w U=>?_)
 refine zt<|qb<|zg [η,η,η] [⟨5,28,ptrH,some 3,_,some (4,_)⟩] [.v 6 _,.v 7 _,.v 8 _,.alc 3,.sto 3] [] U (zl 0 G al (zl 1 G al (zQ G (tC zo zo) (.p (has_wk' (vq 0 G) pz_za.va) (has_wk' (vq 1 G) pz_za.va)) (zY G (Str.zero bn) (zS 2 G al o0))))) (zz [] [O 2 28 _,O 3 28 _,O 4 30 _,O 5 28 _] λ a w U=>?_)
 refine zt<|zgd [[],[],[0,1],[0,1,2]] [none,none,none,none] [] [.v 9 _,.v 10 _,.v 11 _,.v 12 _] [.o 3] aa U (zl 3 G al (zQ G (of_z zd zd) (.cons a8 .nil) (zQ G (H9 zo zo) (.p (vq 0 G) (vq 1 G)) (zv G (ci (vq 2 G) a8) o0)))) zk zk zk zk (zz [(12,_)] [O 2 28 _,O 3 28 _,O 4 30 _,O 5 28 _] λ a w U=>?_)
 refine a7<|bB (λ a w=>∃ u v:Value,St B w0 35 [] [⟨2,28,ptrH,PinA u ((ZN c (p.tdiv ((Int.gcd p q:Nat):Int))).and (SepAll [] u))⟩,⟨3,28,ptrH,PinA v ((ZN d (q.tdiv ((Int.gcd p q:Nat):Int))).and (SepAll [u] v))⟩,⟨4,30,ptrH,RFA ⟨⟨false,[]⟩,⟨false,[]⟩⟩⟩,⟨5,28,ptrH,ZA (max c d) ((Int.gcd p q:Nat):Int)⟩] a w) U (zm 0 G) (λ hb0=>?_) (λ hb0=>?_) (λ a w U=>?_)
 ·refine qb<|yO (sts:=[some (6,λ ν=>_),none,none,none]) (news:=[]) (sp:=[(λ ν=>.v 14 _),(λ ν=>.v 15 _),(λ ν=>.v 16 (PinT (ν 2) [ZN c (p.tdiv ((Int.gcd p q:Nat):Int)),ZN (max c d) (p.tmod ((Int.gcd p q:Nat):Int))] [v0])),(λ ν=>.v 13 _),(λ ν=>.v 17 (PinA (ν 4) ((ZN c (p.tdiv ((Int.gcd p q:Nat):Int))).and (SepAll [v0] (ν 4)))).va),(λ ν=>.v 18 (PinA (ν 5) ((ZN (max c d) (p.tmod ((Int.gcd p q:Nat):Int))).and (SepAll [v0] (ν 5)))).va),(λ ν=>.sto 0)]) [] U ⟨of_u λ ν=>ob_v rfl rfl (cC (lz0 0 rfl) al),⟨of_u λ ν=>ob_v rfl rfl (cC (lz0 3 rfl) al),⟨sK (us:=λ ν=>[v0]) (xs:=[.tmp 14,.tmp 15]) rfl rfl (pA zo zo) nf_zn (.cons upA_za.va (.cons upA_za.va .nil)) (λ ν=>(.p (has_wk' (vq 0 rfl) pz_za.va) (vq 1 rfl))) (λ _ _=>rfl) (λ ν=>(sT (eS dw) (lz0 1 rfl) cG)),⟨of_u λ ν=>ob_v rfl rfl (ab (vq 2 rfl)),⟨sJ (us:=λ ν=>[v0]) rfl rfl (λ ν=>(vq 3 rfl)) rfl (λ _ _=>rfl),⟨sJ (us:=λ ν=>[v0]) rfl rfl (λ ν=>(vq 3 rfl)) rfl (λ _ _=>rfl),⟨of_u λ ν=>dM rfl rfl rfl (vq 4 rfl) al (zV (b:=2) rfl rfl),trivial⟩⟩⟩⟩⟩⟩⟩ ⟨(λ ν ν' h=>rfl),⟨(λ ν ν' h=>rfl),⟨(λ ν ν' h=>by first | rfl | simp only [h 2 rfl]),⟨(λ ν ν' h=>by first | rfl | simp only [h 2 rfl]),⟨(λ ν ν' h=>by first | rfl | simp only [h 2 rfl,h 4 rfl]),⟨(λ ν ν' h=>by first | rfl | simp only [h 2 rfl,h 4 rfl,h 5 rfl]),⟨(λ ν ν' h=>by first | rfl | simp only [h 2 rfl,h 4 rfl,h 5 rfl]),trivial⟩⟩⟩⟩⟩⟩⟩ ⟨(λ ν ν' h=>by first | rfl | simp only [h 2 rfl,h 4 rfl,h 5 rfl]),⟨trivial,⟨trivial,⟨trivial,trivial⟩⟩⟩⟩ zk (λ ν=>by kernel_rfl) (λ ν=>by kernel_rfl) (λ ν3 a w U=>?_)
  have U:=zn [] [O 2 28 _,O 3 28 _,O 4 30 _,O 5 28 _] U
  refine a7<|yO (sts:=[none,some (6,λ ν=>_),none,none]) (news:=[]) (sp:=[(λ ν=>.v 20 _),(λ ν=>.v 21 _),(λ ν=>.v 22 (PinT (ν 2) [ZN d (q.tdiv ((Int.gcd p q:Nat):Int)),ZN (max c d) (q.tmod ((Int.gcd p q:Nat):Int))] [(ν3 4)])),(λ ν=>.v 19 _),(λ ν=>.v 23 (PinA (ν 4) ((ZN d (q.tdiv ((Int.gcd p q:Nat):Int))).and (SepAll [(ν3 4)] (ν 4)))).va),(λ ν=>.v 24 (PinA (ν 5) ((ZN (max c d) (q.tmod ((Int.gcd p q:Nat):Int))).and (SepAll [(ν3 4)] (ν 5)))).va),(λ ν=>.sto 1)]) [] U ⟨of_u λ ν=>ob_v rfl rfl (cC (lz0 1 rfl) al),⟨of_u λ ν=>ob_v rfl rfl (cC (lz0 3 rfl) al),⟨sK (us:=λ ν=>[(ν3 4)]) (xs:=[.tmp 20,.tmp 21]) rfl rfl (pA zo zo) nf_zn (.cons upA_za.va (.cons upA_za.va .nil)) (λ ν=>(.p (has_wk' (vq 0 rfl) pz_za.va) (vq 1 rfl))) (λ _ _=>rfl) (λ ν=>(sT (eS dw) (lz0 0 rfl) cG)),⟨of_u λ ν=>ob_v rfl rfl (ab (vq 2 rfl)),⟨sJ (us:=λ ν=>[(ν3 4)]) rfl rfl (λ ν=>(vq 3 rfl)) rfl (λ _ _=>rfl),⟨sJ (us:=λ ν=>[(ν3 4)]) rfl rfl (λ ν=>(vq 3 rfl)) rfl (λ _ _=>rfl),⟨of_u λ ν=>dM rfl rfl rfl (vq 4 rfl) al (zV (b:=2) rfl rfl),trivial⟩⟩⟩⟩⟩⟩⟩ ⟨(λ ν ν' h=>rfl),⟨(λ ν ν' h=>rfl),⟨(λ ν ν' h=>by first | rfl | simp only [h 2 rfl]),⟨(λ ν ν' h=>by first | rfl | simp only [h 2 rfl]),⟨(λ ν ν' h=>by first | rfl | simp only [h 2 rfl,h 4 rfl]),⟨(λ ν ν' h=>by first | rfl | simp only [h 2 rfl,h 4 rfl,h 5 rfl]),⟨(λ ν ν' h=>by first | rfl | simp only [h 2 rfl,h 4 rfl,h 5 rfl]),trivial⟩⟩⟩⟩⟩⟩⟩ ⟨trivial,⟨(λ ν ν' h=>by first | rfl | simp only [h 2 rfl,h 4 rfl,h 5 rfl]),⟨trivial,⟨trivial,trivial⟩⟩⟩⟩ zk (λ ν=>by kernel_rfl) (λ ν=>by kernel_rfl) (λ ν4 a w U=>?_)
  have U:=zn [] [O 2 28 _,O 3 28 _,O 4 30 _,O 5 28 _] U
  refine a7 ?_
  have U:=St.sel U []
  have U:=St.wkL (A':=PinA (ν3 4) ((ZN c (p.tdiv ((Int.gcd p q:Nat):Int))).and (SepAll [] (ν3 4)))) U 0 rfl (BR CX)
  exact ⟨ν3 4,ν4 4,U⟩
 ·refine qh<|a7 ?_
  have U:=St.sel U []
  have U:=St.cvA (A':=PinA u0 ((ZN c (p.tdiv ((Int.gcd p q:Nat):Int))).and (SepAll [] u0))) U 0 rfl (qk (λ z=>PinA u0 ((ZN c z).and (SepAll [] u0))) (sf hb0))
  have U:=St.cvA (A':=PinA v0 ((ZN d (q.tdiv ((Int.gcd p q:Nat):Int))).and (SepAll [u0] v0))) U 1 rfl (qk (λ z=>PinA v0 ((ZN d z).and (SepAll [u0] v0))) (sf hb0))
  exact ⟨u0,v0,U⟩
 obtain ⟨u1,v1,U⟩:=U
 refine zt<|qb<|zg [η,η,η,η] [] [.v 25 _,.v 26 _,.v 27 _] [.o 2] U (zl 1 G al (zQ G sk (.o (has_wk' (vq 0 G) pz_za.va)) (zv G (aK (vq 1 G) a8) o0))) (zz [(27,_)] [O 2 28 _,O 3 28 _,O 4 30 _,O 5 28 _] λ a w U=>?_)
 refine a7<|bB (λ a w=>∃ u v:Value,St B w0 35 [] [⟨2,28,ptrH,PinA u ((ZN c (Rat.divInt p q).num).and (SepAll [] u))⟩,⟨3,28,ptrH,PinA v ((ZN d ((Rat.divInt p q).den:Int)).and (SepAll [u] v))⟩,⟨4,30,ptrH,RFA ⟨⟨false,[]⟩,⟨false,[]⟩⟩⟩,⟨5,28,ptrH,ZA (max c d) ((Int.gcd p q:Nat):Int)⟩] a w) U (zm 0 G) (λ hb1=>?_) (λ hb1=>?_) (λ a w U=>?_)
 ·refine go_drawV' [[],[0],[],[0,1,2],[0,1,2,3],[0,1,2,3,4]] (sts:=[some (4,λ ν=>_),some (5,λ ν=>_),none,none]) (news:=[]) (sp:=[(λ ν=>.v 28 _),(λ ν=>.v 29 (PinA (ν 1) ((ZN c (-(p.tdiv ((Int.gcd p q:Nat):Int)))).and (SepAll [] (ν 1)))).va),(λ ν=>.v 30 _),(λ ν=>.v 31 (PinA (ν 3) ((ZN d (-(q.tdiv ((Int.gcd p q:Nat):Int)))).and (SepAll [ν 1] (ν 3)))).va),(λ ν=>.sto 0),(λ ν=>.sto 1)]) [] aa U ⟨of_u λ ν=>ob_v rfl rfl (cC (lz0 0 rfl) al),⟨dT (us:=λ ν=>[]) (xs:=[.tmp 28]) rfl rfl (iT zo) dw dH (.cons upA_za.va .nil) (λ ν=>(.o (has_wk' (vq 0 rfl) pz_za.va))) (λ _ _=>rfl) (λ ν=>cG),⟨of_u λ ν=>ob_v rfl rfl (cC (lz0 1 rfl) al),⟨dT (us:=λ ν=>[ν 1]) (xs:=[.tmp 30]) rfl rfl (iT zo) dw dH (.cons upA_za.va .nil) (λ ν=>(.o (has_wk' (vq 2 rfl) pz_za.va))) (λ _ _=>rfl) (λ ν=>(eX (eS dw) (vq 1 rfl) cG)),⟨of_u λ ν=>dM rfl rfl rfl (vq 1 rfl) al (zV (b:=2) rfl rfl),⟨of_u λ ν=>dM rfl rfl rfl (vq 3 rfl) al (zV (b:=2) rfl rfl),trivial⟩⟩⟩⟩⟩⟩ ⟨(λ ν ν' h=>rfl),⟨(λ ν ν' h=>by first | rfl | simp only [h 1 rfl]),⟨(λ ν ν' h=>rfl),⟨(λ ν ν' h=>by first | rfl | simp only [h 1 rfl,h 3 rfl]),⟨(λ ν ν' h=>by first | rfl | simp only [h 1 rfl,h 3 rfl]),⟨(λ ν ν' h=>by first | rfl | simp only [h 1 rfl,h 3 rfl]),trivial⟩⟩⟩⟩⟩⟩ ⟨(λ ν ν' h=>by first | rfl | simp only [h 1 rfl,h 3 rfl]),⟨(λ ν ν' h=>by first | rfl | simp only [h 1 rfl,h 3 rfl]),⟨trivial,⟨trivial,trivial⟩⟩⟩⟩ zk zk (λ ν=>by kernel_rfl) (λ ν=>by kernel_rfl) (λ ν6 a w U=>?_)
  have U:=zn [] [O 2 28 _,O 3 28 _,O 4 30 _,O 5 28 _] U
  refine a7 ?_
  have U:=St.sel U []
  rw [qC (pV hb1)] at hn1 hn2; rw [hn1,hn2] at U; exact ⟨ν6 1,ν6 3,U⟩
 ·refine qh<|a7 ?_
  have U:=St.sel U []
  rw [qA (vY hb1)] at hn1 hn2; rw [hn1,hn2] at U; exact ⟨u1,v1,U⟩
 obtain ⟨u2,v2,U⟩:=U
 refine zt<|zg [η,η,some (3,_),η] [] [.v 32 _,.v 33 _,.v 34 _,.sto 2] [] U (zl 0 G al (zl 1 G al (zv G (aO (qs:=[(0,_),(1,_)]) az (.cons ⟨rfl,vq 0 rfl,rfl⟩ (.cons ⟨rfl,vq 1 rfl,rfl⟩ .nil))) (zS 2 G ak o0)))) (zz [] [O 2 28 _,O 3 28 _,O 4 30 _,O 5 28 _] λ a w U=>?_)
 refine a7<|qe<|aj ?_ (ap G U (zm 2 G) ak)
 exact (rg (xB _ _) (xu _ _)).va
theorem Fz {c d:Nat}{x y:Rat}(hc:c+d≤137438953472):Cn Tryz.prog 111 [Qs c x,Qs d y] ((QD (c+d+1) (x+y)).va):=by
 refine Cn.intro Tryz.func111 G zk nq (λ B w0 a U=>?_)
 have U:=zn [(0,Qs c x),(1,Qs d y)] [] U
 refine qb<|zg [] [⟨2,30,ptrH,some 0,_,none⟩,⟨3,30,ptrH,some 1,_,none⟩,⟨4,30,ptrH,some 2,_,none⟩] [.alc 0,.alc 1,.alc 2] [] U (zW 0 G (zW 1 G (zY G (Str.zero az) o0))) (zz [] [O 2 30 _,O 3 30 _,O 4 30 _] λ a w U=>?_)
 refine zt<|go_drawV' [[],[0],[],[2],[0,1,2,3],[],[5],[],[7],[0,1,2,3,4,5,6,7,8],[0,1,2,3,4,5,6,7,8,9],[],[11],[],[13],[0,1,2,3,4,5,6,7,8,9,10,11,12,13,14],[0,1,2,3,4,5,6,7,8,9,10,11,12,13,14,15],[0,1,2,3,4,5,6,7,8,9,10,11,12,13,14,15,16]] (sts:=[none,none,some (17,λ ν=>_)]) (news:=[]) (sp:=[(λ ν=>.adr 5 2 (.some 0) True),(λ ν=>.v 6 _),(λ ν=>.adr 7 3 (.some 2) True),(λ ν=>.v 8 _),(λ ν=>.v 9 _),(λ ν=>.adr 10 3 (.some 0) True),(λ ν=>.v 11 _),(λ ν=>.adr 12 2 (.some 2) True),(λ ν=>.v 13 _),(λ ν=>.v 14 _),(λ ν=>.v 15 (PinA (ν 10) ((ZN (max (c+d) (d+c)+1) (x.num*(y.den:Int)+y.num*(x.den:Int))).and (SepAll [] (ν 10)))).va),(λ ν=>.adr 16 2 (.some 2) True),(λ ν=>.v 17 _),(λ ν=>.adr 18 3 (.some 2) True),(λ ν=>.v 19 _),(λ ν=>.v 20 (PinA (ν 15) ((ZN (c+d) ((x.den:Int)*(y.den:Int))).and (SepAll [ν 10] (ν 15)))).va),(λ ν=>.v 21 _),(λ ν=>.sto 2)]) [] aa U ⟨of_u λ ν=>ob_a rfl rfl (dB (lz0 0 rfl) aV),⟨of_u λ ν=>ob_v rfl rfl (ax 0 rfl zk trivial (lz0 0 rfl) (Sub.part 0 rfl rfl) al),⟨of_u λ ν=>ob_a rfl rfl (dB (lz0 1 rfl) aN),⟨of_u λ ν=>ob_v rfl rfl (ax 2 rfl zk trivial (lz0 1 rfl) (Sub.part 1 rfl rfl) al),⟨of_u λ ν=>ob_v rfl rfl (aX (cT zo zo) (.p (vq 1 rfl) (vq 3 rfl))),⟨of_u λ ν=>ob_a rfl rfl (dB (lz0 1 rfl) aV),⟨of_u λ ν=>ob_v rfl rfl (ax 5 rfl zk trivial (lz0 1 rfl) (Sub.part 0 rfl rfl) al),⟨of_u λ ν=>ob_a rfl rfl (dB (lz0 0 rfl) aN),⟨of_u λ ν=>ob_v rfl rfl (ax 7 rfl zk trivial (lz0 0 rfl) (Sub.part 1 rfl rfl) al),⟨of_u λ ν=>ob_v rfl rfl (aX (cT zo zo) (.p (vq 6 rfl) (vq 8 rfl))),⟨dT (us:=λ ν=>[]) (xs:=[.tmp 9,.tmp 14]) rfl rfl (nt zo zo) dw dH (.cons upA_za.va (.cons upA_za.va .nil)) (λ ν=>(.p (vq 4 rfl) (vq 9 rfl))) (λ _ _=>rfl) (λ ν=>cG),⟨of_u λ ν=>ob_a rfl rfl (dB (lz0 0 rfl) aN),⟨of_u λ ν=>ob_v rfl rfl (ax 11 rfl zk trivial (lz0 0 rfl) (Sub.part 1 rfl rfl) al),⟨of_u λ ν=>ob_a rfl rfl (dB (lz0 1 rfl) aN),⟨of_u λ ν=>ob_v rfl rfl (ax 13 rfl zk trivial (lz0 1 rfl) (Sub.part 1 rfl rfl) al),⟨dT (us:=λ ν=>[ν 10]) (xs:=[.tmp 17,.tmp 19]) rfl rfl (B3 zo zo) dw dH (.cons upA_za.va (.cons upA_za.va .nil)) (λ ν=>(.p (vq 12 rfl) (vq 14 rfl))) (λ _ _=>rfl) (λ ν=>(eX (eS dw) (vq 10 rfl) cG)),⟨of_u λ ν=>ob_v rfl rfl (aX (yg zo zo (den_nz x y)) (.p (vq 10 rfl) (vq 15 rfl))),⟨of_u λ ν=>dM rfl rfl rfl (vq 16 rfl) ak (zV (b:=4) rfl rfl),trivial⟩⟩⟩⟩⟩⟩⟩⟩⟩⟩⟩⟩⟩⟩⟩⟩⟩⟩ ⟨(λ ν ν' h=>rfl),⟨(λ ν ν' h=>rfl),⟨(λ ν ν' h=>rfl),⟨(λ ν ν' h=>rfl),⟨(λ ν ν' h=>rfl),⟨(λ ν ν' h=>rfl),⟨(λ ν ν' h=>rfl),⟨(λ ν ν' h=>rfl),⟨(λ ν ν' h=>rfl),⟨(λ ν ν' h=>rfl),⟨(λ ν ν' h=>by first | rfl | simp only [h 10 rfl]),⟨(λ ν ν' h=>rfl),⟨(λ ν ν' h=>rfl),⟨(λ ν ν' h=>rfl),⟨(λ ν ν' h=>rfl),⟨(λ ν ν' h=>by first | rfl | simp only [h 10 rfl,h 15 rfl]),⟨(λ ν ν' h=>by first | rfl | simp only [h 10 rfl,h 15 rfl]),⟨(λ ν ν' h=>by first | rfl | simp only [h 10 rfl,h 15 rfl]),trivial⟩⟩⟩⟩⟩⟩⟩⟩⟩⟩⟩⟩⟩⟩⟩⟩⟩⟩ ⟨trivial,⟨trivial,⟨(λ ν ν' h=>by first | rfl | simp only [h 10 rfl,h 15 rfl]),trivial⟩⟩⟩ zk zk (λ ν=>by kernel_rfl) (λ ν=>by kernel_rfl) (λ ν1 a w U=>?_)
 have U:=zn [] [O 2 30 _,O 3 30 _,O 4 30 _] U
 refine a7<|qe<|aj ?_ (ap G U (zm 2 G) ak)
 exact bO (bj (qk (λ z=>(QD _ z).va) (ni x y))) (Fw zo).va
theorem qd_tn {u v:Value}{c d k:Nat}{x:Rat}(hc:c≤k)(hd:d≤k):WkA (cat [PinA u ((ZN c (-x.num)).and (SepAll [] u)),PinA v ((ZN d ((x.den:Int)+0)).and (SepAll [u] v))]) (QD k (-x)):=by
 rw [jA]
 exact rg (q := -x) hc hd
theorem qd_cp {u v:Value}{c d k:Nat}{x:Rat}(hc:c≤k)(hd:d≤k):WkA (cat [PinA u ((ZN c (x.num+0)).and (SepAll [] u)),PinA v ((ZN d ((x.den:Int)+0)).and (SepAll [u] v))]) (QD k x):=by
 rw [jA,jA]
 exact rg hc hd
theorem vA {c:Nat}{x:Rat}(hc:c≤137438953472):Cn Tryz.prog 112 [Qs c x] ((QD (max c 2+1) (-x)).va):=by
 refine Cn.intro Tryz.func112 G zk nq (λ B w0 a U=>?_)
 have U:=zn [(0,Qs c x)] [] U
 refine qb<|zg [] [⟨1,30,ptrH,some 0,_,none⟩,⟨2,30,ptrH,some 1,_,none⟩] [.alc 0,.alc 1] [] U (zW 0 G (zY G (Str.zero az) o0)) (zz [] [O 1 30 _,O 2 30 _] λ a w U=>?_)
 refine zt<|go_drawV' [[],[0],[0,1],[],[3],[0,1,2],[0,1,2,3,4,5],[0,1,2,3,4,5,6],[0,1,2,3,4,5,6,7]] (sts:=[none,some (8,λ ν=>_)]) (news:=[]) (sp:=[(λ ν=>.adr 3 1 (.some 0) True),(λ ν=>.v 4 _),(λ ν=>.v 5 (PinA (ν 2) ((ZN c (-x.num)).and (SepAll [] (ν 2)))).va),(λ ν=>.adr 6 1 (.some 2) True),(λ ν=>.v 7 _),(λ ν=>.v 8 _),(λ ν=>.v 9 (PinA (ν 6) ((ZN (max c 2+1) ((x.den:Int)+0)).and (SepAll [ν 2] (ν 6)))).va),(λ ν=>.v 10 _),(λ ν=>.sto 1)]) [] aa U ⟨of_u λ ν=>ob_a rfl rfl (dB (lz0 0 rfl) aV),⟨of_u λ ν=>ob_v rfl rfl (ax 0 rfl zk trivial (lz0 0 rfl) (Sub.part 0 rfl rfl) al),⟨dT (us:=λ ν=>[]) (xs:=[.tmp 4]) rfl rfl (iT zo) dw dH (.cons upA_za.va .nil) (λ ν=>(.o (vq 1 rfl))) (λ _ _=>rfl) (λ ν=>cG),⟨of_u λ ν=>ob_a rfl rfl (dB (lz0 0 rfl) aN),⟨of_u λ ν=>ob_v rfl rfl (ax 3 rfl zk trivial (lz0 0 rfl) (Sub.part 1 rfl rfl) al),⟨of_u λ ν=>ob_v rfl rfl (aX (of_z zd zd) (.cons a8 .nil)),⟨dT (us:=λ ν=>[ν 2]) (xs:=[.tmp 7,.tmp 8]) rfl rfl (nt zo zo) dw dH (.cons upA_za.va (.cons upA_za.va .nil)) (λ ν=>(.p (vq 4 rfl) (vq 5 rfl))) (λ _ _=>rfl) (λ ν=>(eX (eS dw) (vq 2 rfl) cG)),⟨of_u λ ν=>ob_v rfl rfl (aO (qs:=[(0,_),(1,_)]) az (.cons ⟨rfl,vq 2 rfl,rfl⟩ (.cons ⟨rfl,vq 6 rfl,rfl⟩ .nil))),⟨of_u λ ν=>dM rfl rfl rfl (vq 7 rfl) ak (zV (b:=4) rfl rfl),trivial⟩⟩⟩⟩⟩⟩⟩⟩⟩ ⟨(λ ν ν' h=>rfl),⟨(λ ν ν' h=>rfl),⟨(λ ν ν' h=>by first | rfl | simp only [h 2 rfl]),⟨(λ ν ν' h=>rfl),⟨(λ ν ν' h=>rfl),⟨(λ ν ν' h=>by first | rfl | simp only [h 2 rfl]),⟨(λ ν ν' h=>by first | rfl | simp only [h 2 rfl,h 6 rfl]),⟨(λ ν ν' h=>by first | rfl | simp only [h 2 rfl,h 6 rfl]),⟨(λ ν ν' h=>by first | rfl | simp only [h 2 rfl,h 6 rfl]),trivial⟩⟩⟩⟩⟩⟩⟩⟩⟩ ⟨trivial,⟨(λ ν ν' h=>by first | rfl | simp only [h 2 rfl,h 6 rfl]),trivial⟩⟩ zk zk (λ ν=>by kernel_rfl) (λ ν=>by kernel_rfl) (λ ν1 a w U=>?_)
 have U:=zn [] [O 1 30 _,O 2 30 _] U
 refine a7<|qe<|aj ?_ (ap G U (zm 1 G) ak)
 exact (qd_tn zo zo).va
theorem H7 {c:Nat}{x:Rat}(hc:c≤137438953472):Cn Tryz.prog 110 [Qs c x] ((QD (max c 2+1) x).va):=by
 refine Cn.intro Tryz.func110 G zk nq (λ B w0 a U=>?_)
 have U:=zn [(0,Qs c x)] [] U
 refine qb<|zg [] [⟨1,30,ptrH,some 0,_,none⟩,⟨2,30,ptrH,some 1,_,none⟩] [.alc 0,.alc 1] [] U (zW 0 G (zY G (Str.zero az) o0)) (zz [] [O 1 30 _,O 2 30 _] λ a w U=>?_)
 refine zt<|zg [η,η] [⟨3,28,ptrH,some 1,_,some (2,_)⟩] [.v 4 _,.alc 2,.sto 2] [] U (zQ G (of_z zd zd) (.cons a8 .nil) (zY G (Str.zero bn) (zS 0 G al o0))) (zz [] [O 1 30 _,O 2 30 _,O 3 28 _] λ a w U=>?_)
 refine zt<|go_drawV' [[],[0],[],[0,1,2],[],[4],[],[0,1,2,3,4,5,6],[0,1,2,3,4,5,6,7],[0,1,2,3,4,5,6,7,8]] (sts:=[none,some (9,λ ν=>_),none]) (news:=[]) (sp:=[(λ ν=>.adr 5 1 (.some 0) True),(λ ν=>.v 6 _),(λ ν=>.v 7 _),(λ ν=>.v 8 (PinA (ν 3) ((ZN (max c 2+1) (x.num+0)).and (SepAll [] (ν 3)))).va),(λ ν=>.adr 9 1 (.some 2) True),(λ ν=>.v 10 _),(λ ν=>.v 11 _),(λ ν=>.v 12 (PinA (ν 7) ((ZN (max c 2+1) ((x.den:Int)+0)).and (SepAll [ν 3] (ν 7)))).va),(λ ν=>.v 13 _),(λ ν=>.sto 1)]) [] aa U ⟨of_u λ ν=>ob_a rfl rfl (dB (lz0 0 rfl) aV),⟨of_u λ ν=>ob_v rfl rfl (ax 0 rfl zk trivial (lz0 0 rfl) (Sub.part 0 rfl rfl) al),⟨of_u λ ν=>ob_v rfl rfl (cC (lz0 2 rfl) al),⟨dT (us:=λ ν=>[]) (xs:=[.tmp 6,.tmp 7]) rfl rfl (nt zo zo) dw dH (.cons upA_za.va (.cons upA_za.va .nil)) (λ ν=>(.p (vq 1 rfl) (vq 2 rfl))) (λ _ _=>rfl) (λ ν=>cG),⟨of_u λ ν=>ob_a rfl rfl (dB (lz0 0 rfl) aN),⟨of_u λ ν=>ob_v rfl rfl (ax 4 rfl zk trivial (lz0 0 rfl) (Sub.part 1 rfl rfl) al),⟨of_u λ ν=>ob_v rfl rfl (cC (lz0 2 rfl) al),⟨dT (us:=λ ν=>[ν 3]) (xs:=[.tmp 10,.tmp 11]) rfl rfl (nt zo zo) dw dH (.cons upA_za.va (.cons upA_za.va .nil)) (λ ν=>(.p (vq 5 rfl) (vq 6 rfl))) (λ _ _=>rfl) (λ ν=>(eX (eS dw) (vq 3 rfl) cG)),⟨of_u λ ν=>ob_v rfl rfl (aO (qs:=[(0,_),(1,_)]) az (.cons ⟨rfl,vq 3 rfl,rfl⟩ (.cons ⟨rfl,vq 7 rfl,rfl⟩ .nil))),⟨of_u λ ν=>dM rfl rfl rfl (vq 8 rfl) ak (zV (b:=4) rfl rfl),trivial⟩⟩⟩⟩⟩⟩⟩⟩⟩⟩ ⟨(λ ν ν' h=>rfl),⟨(λ ν ν' h=>rfl),⟨(λ ν ν' h=>rfl),⟨(λ ν ν' h=>by first | rfl | simp only [h 3 rfl]),⟨(λ ν ν' h=>rfl),⟨(λ ν ν' h=>rfl),⟨(λ ν ν' h=>rfl),⟨(λ ν ν' h=>by first | rfl | simp only [h 3 rfl,h 7 rfl]),⟨(λ ν ν' h=>by first | rfl | simp only [h 3 rfl,h 7 rfl]),⟨(λ ν ν' h=>by first | rfl | simp only [h 3 rfl,h 7 rfl]),trivial⟩⟩⟩⟩⟩⟩⟩⟩⟩⟩ ⟨trivial,⟨(λ ν ν' h=>by first | rfl | simp only [h 3 rfl,h 7 rfl]),⟨trivial,trivial⟩⟩⟩ zk zk (λ ν=>by kernel_rfl) (λ ν=>by kernel_rfl) (λ ν2 a w U=>?_)
 have U:=zn [] [O 1 30 _,O 2 30 _,O 3 28 _] U
 refine a7<|qe<|aj ?_ (ap G U (zm 1 G) ak)
 exact (qd_cp zo zo).va
theorem vB {c:Nat}{x:Rat}(hc:c≤137438953472):Cn Tryz.prog 112 [Qs c x] (QD c (-x)).va :=
 Cn.know (c:=lz x.num≤c∧lz (x.den:Int)≤c) uG (λ B w args ha=>by cases ha with | cons h1 _=>exact Fv h1) λ h=>(vA hc).wkp (qd_of (by rw [j4,eU]; exact h.1) (by rw [j5]; exact h.2)).va
theorem oz {c:Nat}{x:Rat}(hc:c≤137438953472):Cn Tryz.prog 110 [Qs c x] (QD c x).va :=
 Cn.know (c:=lz x.num≤c∧lz (x.den:Int)≤c) tm (λ B w args ha=>by cases ha with | cons h1 _=>exact Fv h1) λ h=>(H7 hc).wkp (qd_of h.1 h.2).va
section
variable {P:Program} {R:Rg} {Q:Exit→Act→World→Prop} {B i:Nat} {w0:Bs}
theorem sE {g:Nat}:offP (ptrH.f g) (.some 0)=ptrH.f g:=by simp [ptrH,ptr,offP,add0]
theorem fL {b T':Nat}{A:As}(hl:Loc R i b T' A):Ad P Q R B w0 i (.move (.tmp b)) b (.some 0):=by
 intro d ty ps af gd a w av K hK
 obtain ⟨g,cs,h1,_⟩:=hl.ok av
 rw [h1,sE] at hK
 exact bc (w':=w) (v:=a.eval (.tmp b)) G (by rw [h1]; exact hK)
theorem fK {b t T':Nat}{A:As}(j:Nat)(hj:R.sp[j]?=some (.adr t b (.some 0) True))(hji:(R.anc i).contains j=true)(hl:Loc R i b T' A):Ad P Q R B w0 i (.nilCheck (.tmp t)) b (.some 0):=by
 intro d ty ps af gd a w av K hK
 obtain ⟨g,cs,h1,_⟩:=hl.ok av
 have h2:=av.d j t b (.some 0) True hji hj trivial
 rw [h1,sE] at h2 hK
 have h2':a.eval (.tmp t)=.pointer (some ⟨g,0,none⟩):=h2
 exact bc (w':=w) (v:=.pointer (some ⟨g,0,none⟩)) (by simp [execOp,h2']) hK
theorem cc {fn:Func}{RQ':Ending→World→Prop}(h:bPost P fn RQ' .ret a w):bPost P fn RQ' .normal a w:=h
theorem DB {E:TypeId}:Wk (EqV (.slice none 0 0)) (SlA E D []).va:=λ _ v _ h=>by
 have e:v=.slice none 0 0:=h
 subst e
 exact ⟨[.slice none 0 0],⟨(λ A hA=>by cases hA),none,0,[],rfl,qg _,za _,⟨[],rfl,.nil⟩,λ h=>by cases h⟩,rfl⟩
theorem p7 {b k m:Nat}{T E:TypeId}{l:List As}{y:Operand}{A:As}{kd:IntKind}(hl:Loc R i b T (cat l))(hS:P.underlying T=some (.array l.length E))(hsz:(P.info? E).map (·.size)=some m)(hm:∀ A∈l,A.n=m)(hy:Has R B w0 i y (NumA kd k).va)(hk:l[k]?=some A) :
  Wv P Q R B w0 i (.indexAddr T (.tmp b) y) (ElP T A) :=
 bm λ d T' ps af gd a w av=>by
  obtain ⟨g,cs,h1,hmay,h3,h4⟩:=hl.ok av
  have h1':a.eval (.tmp b)=.pointer (some ⟨g,0,none⟩):=h1
  have hlt:k<l.length:=(List.getElem?_eq_some_iff.1 hk).1
  obtain ⟨p1,l1⟩:=iQ h4 hk
  have ho:=nC hm (k:=k) zo
  unfold offs at ho
  rw [ho] at p1 l1
  refine ⟨.pointer (some ⟨g,k*m,none⟩),w,?_,Grow.refl w,g,k*m,_,rfl,(Array.getElem?_eq_some_iff.1 h3).1,.inr ⟨_,_,h3⟩,p1,λ j u hu=>?_⟩
  ·cases hi:P.info? E with
   | none=>rw [hi] at hsz; simp at hsz
   | some it =>
    rw [hi] at hsz
    have hs2:it.size=m:=by simpa using hsz
    have e:=bo (hy a w av)
    simp [execOp,h1',e,Instr.indexAt,asIntOf,run_underlying hS,sizeOf,typeInfo,hi,hs2,rX,hlt,Instr.sureAddr]
  ·rw [List.getElem?_take] at hu
   split at hu
   ·rw [List.getElem?_drop] at hu
    rw [cell_of_row w g (k*m+j) cs.toArray T _ h3]
    simpa using hu
   ·cases hu
theorem mQ {f g:Nat→Option (Nat × Nat)}:∀ (ps:List (Nat × Value)) (cells:Array Value),(∀ p∈ps,f p.1=g p.1)→Instr.fill f cells ps=Instr.fill g cells ps
 | [],_,_=>rfl
 | (k,v)::ps,cells,h=>by
  have h1:=h (k,v) (by simp)
  have h2:=λ c=>mQ ps c λ p hp=>h p (by simp [hp])
  simp only [Instr.fill]
  simp only at h1
  rw [h1]
  cases g k with
  | none=>rfl
  | some x=>simp only [h2]
def Arr (P:Program)(T:TypeId)(Z:List As):Prop :=
 ∃ it z n E ie,P.info? T=some it∧it.zero=some z∧P.underlying T=some (.array n E)∧P.info? E=some ie∧(∀ f,f<Z.length→some (f*ie.size,ie.size)=(placesOf Z)[f]?)∧∀ B w,(cat Z).p B z.cells.toList w
theorem Arr.zero {Z:List As}(h:Arr P T Z):Zero P T (cat Z):=by
 obtain ⟨it,z,_,_,_,h1,h2,_,_,_,h3⟩:=h
 exact ⟨it,z,h1,h2,h3⟩
theorem uN {α β:Type}{R':α→β→Prop}{qs:List α}{ps:List β}(h:All2 R' qs ps){p:β}(hp:p∈ps):∃ q,R' q p:=by
 induction h with
 | nil=>cases hp
 | cons hh _ ih =>
  rcases qo.1 hp with rfl | hp'
  ·exact ⟨_,hh⟩
  ·exact ih hp'
theorem ew {Z:List As}{xs:List (Nat × Operand)}{qs:List (Nat × As)}(hT:Arr P T Z)(hx:All2 (λ (q:Nat × As) (x:Nat × Operand)=>x.1=q.1∧Has R B w0 i x.2 q.2.va∧(Z[q.1]?).map (·.n)=some q.2.n) qs xs):
  Wv P Q R B w0 i (.build T xs.toArray) (cat (setAll Z qs)).va :=
 bm λ d T' ps af gd a w av=>by
  obtain ⟨it,z,n,E,ie,h1,h2,h3,h4,h6,h5⟩:=hT
  have hps:All2 (λ (q:Nat × As) (p:Nat × Value)=>p.1=q.1∧q.2.va.p B p.2 w∧(Z[q.1]?).map (·.n)=some q.2.n) qs (xs.map λ x=>(x.1,a.eval x.2)):=by
   induction hx with
   | nil=>exact .nil
   | cons h _ ih=>exact .cons ⟨h.1,h.2.1 a w av,h.2.2⟩ ih
  obtain ⟨cells',e1,e2⟩:=om (places:=placesOf Z) rfl (xs.map λ x=>(x.1,a.eval x.2)) qs Z z.cells rfl (h5 B w) hps
  refine ⟨.agg cells',w,?_,Grow.refl w,cells'.toList,e2,by simp [shape,cat]⟩
  have hin:∀ p∈(xs.map λ x=>(x.1,a.eval x.2)),some (p.1*ie.size,ie.size)=((placesOf Z).toArray[p.1]?:Option (Nat × Nat)):=by
   intro p hp
   have:p.1<Z.length:=by
    obtain ⟨q,hh⟩:=uN hps hp
    rw [hh.1]
    cases hz:Z[q.1]? with
    | none=>rw [hz] at hh; simp at hh
    | some y=>exact (List.getElem?_eq_some_iff.1 hz).1
   simpa using h6 p.1 this
  have hb:P.built T (xs.map λ x=>(x.1,a.eval x.2))=some cells':=by
   unfold Program.built
   simp only [h1,h3,h2,h4]
   rw [← e1]
   exact mQ _ _ hin
  have:=run_build (P:=P) w T ((xs.map λ x=>(x.1,a.eval x.2)).toArray) cells' (by simpa using hb)
  simp [execOp,this]
end
section
variable {P:Program} {R:Rg} {Q:Exit→Act→World→Prop} {B:Nat} {w0:Bs} {a:Act} {w:World}
end
def cutW (w w':World):World:={ w' with heap:=w'.heap.extract 0 w.heap.size }
theorem E7 (hs:w.heap.size≤w'.heap.size){k:Nat}(hk:k<w.heap.size):(cutW w w').heap[k]?=w'.heap[k]?:=by
 show (w'.heap.extract 0 w.heap.size)[k]?=_
 rw [Array.getElem?_extract]
 simp
 omega
theorem iP (hs:w.heap.size≤w'.heap.size):(cutW w w').heap.size=w.heap.size:=by
 show (w'.heap.extract 0 w.heap.size).size=_
 simp
 omega
theorem E6 {g:Nat}(h:w.grownBy w' (some g)):Wr g w (cutW w w') :=
 ⟨h.os,h.tape,h.output,iP h.size,λ k hk=>by
  by_cases hlt:k<w.heap.size
  ·rw [E7 h.size hlt]
   exact h.block k hlt (λ e=>hk (by injection e))
  ·rw [Array.getElem?_eq_none (by rw [iP h.size]; omega),Array.getElem?_eq_none zo]⟩
theorem tB {row:Option Nat}(h:w.grownBy w' row):Grow (cutW w w') w' :=
 ⟨rfl,rfl,rfl,by rw [iP h.size]; exact h.size,λ k hk=>by
  rw [iP h.size] at hk
  rw [E7 h.size hk]⟩
theorem pb (h:w.grownBy w' none):Grow w w':=⟨h.os,h.tape,h.output,h.size,λ k hk=>h.block k hk (by simp)⟩
def RowOk (w:World)(b:Nat)(E:TypeId)(row:Option Nat):Prop:=∀ g,row=some g→b≤g∧∃ c fz,w.heap[g]?=some (.cells c E fz)
theorem DefOk.grown {a a':Act}{b:Nat}{E:TypeId}{row:Option Nat}(h:DefOk w0 a w)(hg:w.grownBy w' row)(hr:RowOk w b E row)(e:a'.defers=a.defers):DefOk w0 a' w' :=
 h.keep e λ D hD=>(hg.block D (Array.getElem?_eq_some_iff.1 hD).1 (λ e=>by
  obtain ⟨_,c,fz,hc⟩:=hr D e.symm
  rw [hc] at hD
  cases hD)).trans hD
theorem VA.grown {A:VA}{B b:Nat}{E:TypeId}{row:Option Nat}(hp:A.p B v w)(hg:w.grownBy w' row)(hr:RowOk w b E row)(hb:B≤b)(hE:E ∉ A.deps):A.p B v w':=by
 cases row with
 | none=>exact A.grow _ _ _ _ (pb hg) hp
 | some g =>
  obtain ⟨h1,c,fz,h2⟩:=hr g rfl
  exact A.grow _ _ _ _ (tB hg) (A.wr _ _ _ _ _ _ _ _ h2 hE (qd hb h1) (E6 hg) hp)
theorem As.grown {A:As}{B b:Nat}{E:TypeId}{row:Option Nat}(hp:A.p B cs w)(hg:w.grownBy w' row)(hr:RowOk w b E row)(hb:B≤b)(hE:E ∉ A.deps):A.p B cs w':=by
 cases row with
 | none=>exact A.grow _ _ _ _ (pb hg) hp
 | some g =>
  obtain ⟨h1,c,fz,h2⟩:=hr g rfl
  exact A.grow _ _ _ _ (tB hg) (A.wr _ _ _ _ _ _ _ _ h2 hE (qd hb h1) (E6 hg) hp)
def OwnR (b:Nat)(E:TypeId)(m:Nat)(D:List TypeId)(l:List As):VA where
 p B v w:=(∀ A∈l,A.n=m)∧(∀ A∈l,∀ T∈A.deps,T∈D)∧∃ ds,(cat l).p B ds w∧w.ownsRow b E m v l.length ds
 deps:=E::D
 cg:=by
  rintro B v w w' hg ⟨h1,h2,ds,h3,h4,h5⟩
  refine ⟨h1,h2,ds,(cat l).cg _ _ _ _ hg h3,h4,?_⟩
  rcases h5 with h5 | ⟨g,cap,cur,e1,e2,e3,e4⟩
  ·exact .inl h5
  ·exact .inr ⟨g,cap,cur,e1,e2,hg.heap e3,e4⟩
 wr:=by
  rintro B v w w' g c T fz hgc hT hB hW ⟨h1,h2,ds,h3,h4,h5⟩
  simp only [qo,not_or] at hT
  refine ⟨h1,h2,ds,(cat l).wr _ _ _ _ _ _ _ _ hgc (pJ h2 hT.2) hB hW h3,h4,?_⟩
  rcases h5 with h5 | ⟨g0,cap,cur,e1,e2,e3,e4⟩
  ·exact .inl h5
  ·refine .inr ⟨g0,cap,cur,e1,e2,?_,e4⟩
   have hne:g0≠g:=by
    rintro rfl
    rw [hgc] at e3
    injection e3 with e3
    injection e3 with _ e3 _
    exact hT.1 e3
   rw [hW.block g0 hne]
   exact e3
theorem nv {b:Nat}{E:TypeId}{m:Nat}:Wk (EqV (.slice none 0 0)) (OwnR b E m D []):=λ _ v w h=>by
 have e:v=.slice none 0 0:=h
 subst e
 exact ⟨(λ A hA=>by cases hA),(λ A hA=>by cases hA),[],⟨[],rfl,.nil⟩,World.ownsRow_nil w b E m⟩
theorem ii {b:Nat}{E:TypeId}{m:Nat}{l:List As}:Wk (OwnR b E m D l) (SlA E D l).va:=λ B v w ⟨_,h2,ds,h3,h4,h5⟩=>by
 rcases h5 with ⟨rfl,h5⟩ | ⟨g,cap,cur,rfl,e2,e3,e4,e5,e6,e7⟩
 ·refine ⟨[.slice none 0 0],⟨h2,none,0,ds,by rw [h5],by omega,za _,h3,λ h=>by omega⟩,rfl⟩
 ·refine ⟨[.slice (some ⟨g,0,none⟩) l.length cap],⟨h2,_,cap,ds,rfl,e4,e5,h3,λ _=>⟨g,0,rfl,(Array.getElem?_eq_some_iff.1 e3).1,.inr ⟨_,_,e3⟩,λ j u hu=>?_⟩⟩,rfl⟩
  rw [cell_of_row w g (0+j) cur E _ e3,zc]
  rw [← e7,List.getElem?_take] at hu
  split at hu
  ·simpa using hu
  ·cases hu
theorem fM {b:Nat}{E:TypeId}{m:Nat}{n:Nat}{ds:List Value}(h:w.ownsRow b E m v n ds):RowOk w b E v.ownBlock:=by
 intro g hg
 obtain ⟨_,⟨rfl,_⟩ | ⟨g',cap,cur,rfl,e2,e3,_⟩⟩:=h
 ·cases hg
 ·have:g'=g:=by injection hg
  subst this
  exact ⟨e2,_,_,e3⟩
theorem D1 {α β:Type}{R':α→β→Prop}{l1 l2:List α}{m1 m2:List β}(h:All2 R' l1 m1)(h':All2 R' l2 m2):All2 R' (l1++l2) (m1++m2):=by
 induction h with
 | nil=>exact h'
 | cons h1 _ ih=>exact .cons h1 ih
theorem Hf {l l':List As}{ds ds':List Value}(h:(cat l).p B ds w)(h':(cat l').p B ds' w):(cat (l++l')).p B (ds++ds') w:=by
 obtain ⟨ps,rfl,h1⟩:=h
 obtain ⟨ps',rfl,h2⟩:=h'
 exact ⟨ps++ps',by simp,D1 h1 h2⟩
def VT:VA:=⟨λ _ _ _=>True,[],λ _ _ _ _ _ _=>trivial,λ _ _ _ _ _ _ _ _ _ _ _ _ _=>trivial⟩
theorem St.wkG {B N:Nat}(h:St B w0 N Γ Λ a w){s:Nat}{A A':VA}(k:Nat)(hm:Γ[k]?=some (s,A))(hw:Wk A A'):St B w0 N (Γ.set k (s,A')) Λ a w :=
 ⟨h.lo,h.defers,h.size,h.base,λ x hx=>by
  rcases qp hx with hx | rfl
  ·exact h.vals x hx
  ·exact hw _ _ _ (h.vals _ (qa hm)),h.locs,h.dis⟩
def lesN (Λ:List Lc):List Le:=Λ.map λ l=>⟨l.s,l.T,l.H,none,l.A,none⟩
section
variable {P:Program} {Q:Exit→Act→World→Prop} {B N:Nat} {w0:Bs} {Γ:List (Nat × VA)} {Λ:List Lc} {a:Act} {w:World}
end
theorem ia (base:Nat)(t ty e:TypeId)(i:TypeInfo)(size:Nat)(ht:P.underlying t=some (.slice e))(hi:P.info? e=some i)
  (v:Value) (n c:Nat) (xs:List Value) (hown:w.ownsRow base e size v n xs):(Builtin.append_ #[t,t] ty #[v,.slice none 0 c]).run P w=.ok v w:=by
 rcases hown.2 with ⟨rfl,rfl⟩ | ⟨g,cap,cur,rfl,_,_,hnc,_⟩
 ·simp [Builtin.append_,run_underlying ht,sizeOf,typeInfo,hi,Builtin.lenOf,Builtin.firstCells]
 ·simp [Builtin.append_,run_underlying ht,sizeOf,typeInfo,hi,Builtin.lenOf,Builtin.firstCells,hnc,storeCells]
theorem Hc {l:List As}{m:Nat}(hm:∀ A∈l,A.n=m):(cat l).n=l.length*m:=by
 induction l with
 | nil=>simp [cat]
 | cons A l ih =>
  have:=ih λ A' h=>hm A' (zi _ h)
  simp only [cat,qX,xQ,qR] at this ⊢
  rw [this,hm A (by simp),xI,j6,z5]
theorem ga {S E T1:TypeId}{m bytes b B:Nat}{D D':List TypeId}{l xs:List As}{v u:Value}{it:TypeInfo}{z:Value}
  (hS:P.underlying S=some (.slice E)) (hi:P.info? E=some it) (hz:it.zero=some z) (hsz:it.size=m) (hby:it.bytes=bytes) (hzs:z.cells.size=m) (hm0:0<m) (hl:l.length+xs.length≤100000000000) (hb6:bytes≤1000)
  (hv:(OwnR b E m D l).p B v w) (hu:(SlA E D' xs).va.p B u w) (hD':∀ T∈D',T∈D) (hED:E ∉ D) (hxm:∀ x∈xs,x.n=m) (hbw:b≤w.heap.size) (hB:B≤b) :
  ∃ v' w',(Builtin.append_ #[S,S] T1 #[v,u]).run P w=.ok v' w'∧(OwnR b E m D (l++xs)).p B v' w'∧w.grownBy w' v.ownBlock∧RowOk w b E v.ownBlock:=by
 obtain ⟨h1,h2,ds,h3,h4⟩:=hv
 obtain ⟨cs,⟨hD,Ad,c,ds1,rfl,_,_,h5,h6⟩,hu'⟩:=hu
 have hu2:u=.slice Ad xs.length c:=hu'
 subst hu2
 have hl1:ds1.length=xs.length*m:=by rw [(cat xs).len _ _ _ h5,Hc hxm]
 have hro:=fM h4
 have hmx:l.length+xs.length≤maxLen:=by unfold maxLen; omega
 have hbt:(l.length+xs.length)*bytes≤140737488355328:=qd (jj hl hb6) zd
 have fin:∀ v' w',w'.ownsRow b E m v' (l.length+xs.length) (ds++ds1)→w.grownBy w' v.ownBlock→(OwnR b E m D (l++xs)).p B v' w':=λ v' w' r1 r2=>by
  refine ⟨λ A hA=>?_,λ A hA=>?_,ds++ds1,Hf (As.grown h3 r2 hro hB (pJ h2 hED)) (As.grown h5 r2 hro hB (pJ (λ A hA T hT=>hD' T (hD A hA T hT)) hED)),by rw [qn]; exact r1⟩
  ·rcases qw.1 hA with hA | hA
   ·exact h1 A hA
   ·exact hxm A hA
  ·rcases qw.1 hA with hA | hA
   ·exact h2 A hA
   ·exact λ T hT=>hD' T (hD A hA T hT)
 have some_case:∀ a:Addr,Ad=some a→(∀ (j:Nat) u,ds1[j]?=some u→w.cell? (a.add j)=some u)→∃ v' w',(Builtin.append_ #[S,S] T1 #[v,.slice Ad xs.length c]).run P w=.ok v' w'∧(OwnR b E m D (l++xs)).p B v' w'∧w.grownBy w' v.ownBlock∧RowOk w b E v.ownBlock:=λ a ha hc=>by
  subst ha
  obtain ⟨v',w',hr,r1,r2,_⟩:=run_append_own (P:=P) w b S T1 E it z m bytes hS hi hz hsz hby hzs hm0 v l.length ds h4 a xs.length c ds1 hl1 hc ((cat xs).one _ _ _ h5) hmx hbt hbw
  exact ⟨v',w',hr,fin v' w' r1 r2,r2,hro⟩
 by_cases hx:0<xs.length
 ·obtain ⟨g1,o1,rfl,_,_,h8⟩:=h6 hx
  exact some_case _ rfl λ j u hj=>by rw [rX]; exact h8 j u hj
 ·have h0:xs.length=0:=by omega
  have hds0:ds1=[]:=kv.1 (by rw [hl1,h0,jy])
  cases Ad with
  | some a=>exact some_case a rfl λ j u hj=>by rw [hds0] at hj; simp at hj
  | none =>
   rw [h0]
   refine ⟨v,w,ia b S T1 E it m hS hi v l.length c ds h4,fin v w ?_ ⟨rfl,rfl,rfl,qg _,λ _ _ _=>rfl⟩,⟨rfl,rfl,rfl,qg _,λ _ _ _=>rfl⟩,hro⟩
   rw [h0,hds0,zp]
   exact h4
section
variable {P:Program} {R:Rg} {Q:Exit→Act→World→Prop} {B:Nat} {w0:Bs} {a:Act} {w:World}
open Rg in
theorem Rg.linK {id:Nat}{n m:Nat}(hsz:R.ops.size=n+m)(hanc:R.anc=λ i=>List.range i)(hk:R.chk=true)(h:St B w0 R.N R.Γ Λ a w)(hles:∀ e∈R.les,e.cr=none→(⟨e.s,e.T,e.H,e.A0⟩:Lc)∈Λ)
  (hob:∀ i,i<n→R.Ob P Q B w0 i) (hQ:∀ a w,R.Inv B w0 (λ k=>decide (k<n)) a w→wpOps P R.ops Q (List.range' n m) a w):(Code.region id R.ops false).wp P Q a w:=by
 refine wp_region ?_
 have key:∀ q k,k+q=n→∀ a w,R.Inv B w0 (λ j=>decide (j<k)) a w→wpOps P R.ops Q (List.range' k (q+m)) a w:=by
  intro q
  induction q with
  | zero =>
   intro k hkm a w hi
   have:k=n:=by omega
   subst this
   rw [zc]
   exact hQ a w hi
  | succ q ih =>
   intro k hkm a w hi
   rw [show q+1+m=(q+m)+1 by omega,List.range'_succ,qv]
   refine step hk (hob k zo) hi ?_ (by simp) ?_ _ λ a' w' hi'=>ih (k+1) zo a' w' (hi'.congr λ j=>?_)
   ·intro i hi j hj
    rw [hanc] at hj
    simp at hi hj ⊢
    omega
   ·intro j hj
    rw [hanc] at hj
    simpa using hj
   ·unfold upd
    by_cases h1:j=k
    ·subst h1; simp
    ·have h2:(j==k)=false:=by simpa using h1
     rw [h2,ja,qQ]
     omega
 rw [List.range_eq_range',hsz]
 exact key n 0 zo a w ((start h hles).congr λ j=>by simp)
end
theorem Hv {A:VA}(hF:NoF w0)(hv:A.p B v w0.w):∀ w u,(EqV v).p B u w→Kept w0 w→A.p B u w:=λ w u h hk=>by
 have e:u=v:=h
 subst e
 exact A.cg _ _ _ _ (hF.cg hk) hv
open Rg in
theorem o7 {Q:Exit→Act→World→Prop}{B N:Nat}{id:Nat}{ops:Array Oper}{sp:List Sp}(n:Nat)(src:List Nat)(i1 i2:Nat){S E T1 T2:TypeId}{s u d e m bytes:Nat}{ps1 ps2:String}{af1 af2:Array Edge}{D D':List TypeId}{l xs:List As}{A2:VA}{it:TypeInfo}{z:Value}
  (h:St B w0 N Γ Λ a w) (hob:Obs P Q ⟨ops,N,Γ,lesN Λ,sp,λ i=>List.range i⟩ B w0 0 n) (hn2:ops.size=n+2) (hk:Rg.chk ⟨ops,N,Γ,lesN Λ,sp,λ i=>List.range i⟩=true)
  (ho1:ops[n]?=some ⟨some d,.call ⟨.builtin .append,#[.tmp s,.tmp u],#[S,S]⟩,T1,ps1,af1,none⟩) (ho2:ops[n+1]?=some ⟨some e,.assign (.tmp d),T2,ps2,af2,none⟩)
  (hi1:i1<n) (h1:sp[i1]?=some (.v s (OwnR w0.w.heap.size E m D l))) (hi2:i2<n) (h2:sp[i2]?=some (.v u A2)) (hA2:∀ w u,A2.p B u w→Kept w0 w→(SlA E D' xs).va.p B u w)
  (hS:P.underlying S=some (.slice E)) (hi:P.info? E=some it) (hz:it.zero=some z) (hsz:it.size=m) (hby:it.bytes=bytes) (hzs:z.cells.size=m) (hm0:0<m) (hl:l.length+xs.length≤100000000000) (hb6:bytes≤1000)
  (hD':∀ T∈D',T∈D) (hED:E ∉ D) (hxm:∀ x∈xs,x.n=m) (hde:(d != e)=true) (hd:d<N) (he:e<N)
  (hsrc:src.all (λ k=>match Γ[k]? with | some y => !y.2.deps.contains E&&Rg.outG ⟨ops,N,Γ,lesN Λ,sp,λ i=>List.range i⟩ y.1 | none=>false)=true)
  (hΛ:Λ.all (λ l=>l.T != E && !l.A.deps.contains E&&l.s != d&&l.s != e)=true)
  (hQ:∀ a w,St B w0 N ((e,OwnR w0.w.heap.size E m D (l++xs))::src.filterMap (λ k=>Γ[k]?)) Λ a w→Q .normal a w):(Code.region id ops false).wp P Q a w:=by
 have hles0:∀ y∈lesN Λ,y.cr=none∧y.st=none∧(⟨y.s,y.T,y.H,y.A0⟩:Lc)∈Λ:=λ y hy=>by
  obtain ⟨l',hl',rfl⟩:=qm.1 hy
  exact ⟨rfl,rfl,hl'⟩
 refine Rg.linK (R:=⟨ops,N,Γ,lesN Λ,sp,λ i=>List.range i⟩) (m:=2) hn2 G hk h (λ y hy _=>(hles0 y hy).2.2) (λ i hi=>hob.all i zo zo) λ a1 w1 hinv=>?_
 have hcl:∀ deps,Rg.clash ⟨ops,N,Γ,lesN Λ,sp,λ i=>List.range i⟩ (λ k=>decide (k<n)) deps=false:=λ deps=>by
  unfold Rg.clash
  rw [xb]
  intro y hy
  rw [(hles0 y hy).2.1]
  simp
 have hv:=hinv.v i1 _ s _ h1 rfl (qP hi1) (hcl _)
 have hu:=hA2 _ _ (hinv.v i2 _ u _ h2 rfl (qP hi2) (hcl _)) hinv.base
 have hB:B≤w0.w.heap.size:=hinv.lo _ (.inl (qg _))
 obtain ⟨v',w',hr,r1,r2,r3⟩:=ga (T1:=T1) hS hi hz hsz hby hzs hm0 hl hb6 hv hu hD' hED hxm hinv.base.size hB
 have hdsz:d<a1.tmps.size:=by rw [hinv.size]; exact hd
 have hesz:e<(a1.put (some d) v').tmps.size:=by rw [bt,hinv.size]; exact he
 have hne:d≠e:=by simpa using hde
 rw [List.range'_succ,qv]
 refine bu (R:=⟨ops,N,Γ,lesN Λ,sp,λ i=>List.range i⟩) ho1 G (bc (w':=w') (v:=v') (by simp [execOp,resolve,invoke,builtin,hr,Result.andThen]) ?_)
 rw [List.range'_succ,qv]
 refine bu (R:=⟨ops,N,Γ,lesN Λ,sp,λ i=>List.range i⟩) ho2 G (bc (w':=w') (v:=v') ?_ (hQ _ _ ?_))
 ·have:=aG a1 d v' hdsz
  simp [execOp,this]
 ·have hother:∀ t,t≠d→t≠e→((a1.put (some d) v').put (some e) v').eval (.tmp t)=a1.eval (.tmp t):=λ t h3 h4=>by
   rw [ai _ _ _ _ h4,ai _ _ _ _ h3]
  have hlc:∀ l'∈Λ,l'.T≠E∧E ∉ l'.A.deps∧l'.s≠d∧l'.s≠e:=λ l' hl'=>by
   have:=qc.1 hΛ l' hl'
   simp only [qj,bne_iff_ne,qz,qy,qu] at this
   exact ⟨this.1.1.1,this.1.1.2,this.1.2,this.2⟩
  have hcur:∀ l'∈Λ,(⟨l'.s,l'.T,l'.H,none,l'.A,none⟩:Le)∈lesN Λ:=λ l' hl'=>qm.2 ⟨l',hl',rfl⟩
  refine ⟨hinv.lo,hinv.defers.grown r2 r3 rfl,by rw [bt,bt]; exact hinv.size,?_,?_,?_,?_⟩
  ·exact ⟨r2.os.trans hinv.base.os,r2.tape.trans hinv.base.tape,r2.output.trans hinv.base.output,qd hinv.base.size r2.size,λ k hk hf =>
    (r2.block k (qE hk hinv.base.size) (λ e=>by have:=(r3 k e.symm).1; omega)).trans (hinv.base.block k hk hf)⟩
  ·intro y hy
   rcases qo.1 hy with rfl | hy
   ·show (OwnR w0.w.heap.size E m D (l++xs)).p B (((a1.put (some d) v').put (some e) v').eval (.tmp e)) w'
    rw [aG _ _ _ hesz]
    exact r1
   ·obtain ⟨k,hk1,hk2⟩:=qJ.1 hy
    have hs:=qc.1 hsrc k hk1
    simp only [hk2,qj,qz,qy,qu] at hs
    have hout:∀ q,q<ops.size→Rg.dst ⟨ops,N,Γ,lesN Λ,sp,λ i=>List.range i⟩ q≠some y.1:=λ q hq=>by
     have:=qc.1 hs.2 q (by simpa using hq)
     simpa using this
    have g1:y.1≠d:=λ e1=>hout n zo (by unfold Rg.dst; rw [ho1,e1]; rfl)
    have g2:y.1≠e:=λ e1=>hout (n+1) zo (by unfold Rg.dst; rw [ho2,e1]; rfl)
    rw [hother _ g1 g2]
    exact VA.grown (hinv.g y (qa hk2) (λ q hq hdq=>absurd hdq (hout q hq)) (hcl _)) r2 r3 hB hs.1
  ·intro l' hl'
   obtain ⟨g1,g2,g3,g4⟩:=hlc l' hl'
   obtain ⟨g,cs,e1,e2,e3,e4⟩:=hinv.c _ (hcur l' hl') l'.A rfl
   refine ⟨g,cs,by rw [hother _ g3 g4]; exact e1,e2,?_,As.grown e4 r2 r3 hB g2⟩
   rw [r2.block g (Array.getElem?_eq_some_iff.1 e3).1 (λ e5=>by
    obtain ⟨_,c,fz,e6⟩:=r3 g e5.symm
    rw [e3] at e6
    injection e6 with e6
    injection e6 with _ e6 _
    exact g1 e6)]
   exact e3
  ·intro l1 hl1 l2 hl2 hne'
   obtain ⟨_,_,g3,g4⟩:=hlc l1 hl1
   obtain ⟨_,_,g5,g6⟩:=hlc l2 hl2
   rw [hother _ g3 g4,hother _ g5 g6]
   exact hinv.x _ (hcur l1 hl1) _ (hcur l2 hl2) hne' G rfl
section
variable {P:Program} {Q:Exit→Act→World→Prop} {B N:Nat} {w0:Bs} {Γ:List (Nat × VA)} {Λ:List Lc} {a:Act} {w:World}
end
def OwnB (b:Nat)(E:TypeId)(m:Nat)(D:List TypeId)(l:List As):VA where
 p B v w:=b≤w.heap.size∧B≤b∧(OwnR b E m D l).p B v w
 deps:=E::D
 cg:=λ B v w w' hg ⟨h1,h2,h3⟩=>⟨qd h1 hg.size,h2,(OwnR b E m D l).cg B v w w' hg h3⟩
 wr:=λ B v w w' g c T fz hgc hT hB hW ⟨h1,h2,h3⟩=>⟨by rw [hW.size]; exact h1,h2,(OwnR b E m D l).wr B v w w' g c T fz hgc hT hB hW h3⟩
def PtrLt (b:Nat):VA where
 p _ v _:=∃ g,blk v=some g∧g<b
 deps:=[]
 cg:=λ _ _ _ _ _ h=>h
 wr:=λ _ _ _ _ _ _ _ _ _ _ _ _ h=>h
open Rg in
theorem GB {Q:Exit→Act→World→Prop}{B N:Nat}{id:Nat}{ops:Array Oper}{sp:List Sp}(n:Nat)(src:List Nat)(i1 i2 k3:Nat){S E T1 T2:TypeId}{s u d e m bytes b s3:Nat}{ps1 ps2:String}{af1 af2:Array Edge}{D D':List TypeId}{l xs:List As}{A2:VA}{it:TypeInfo}{z:Value}
  (h:St B w0 N Γ Λ a w) (hob:Obs P Q ⟨ops,N,Γ,lesN Λ,sp,λ i=>List.range i⟩ B w0 0 n) (hn2:ops.size=n+2) (hk:Rg.chk ⟨ops,N,Γ,lesN Λ,sp,λ i=>List.range i⟩=true)
  (ho1:ops[n]?=some ⟨some d,.call ⟨.builtin .append,#[.tmp s,.tmp u],#[S,S]⟩,T1,ps1,af1,none⟩) (ho2:ops[n+1]?=some ⟨some e,.assign (.tmp d),T2,ps2,af2,none⟩)
  (hi1:i1<n) (h1:sp[i1]?=some (.v s (OwnB b E m D l))) (hi2:i2<n) (h2:sp[i2]?=some (.v u A2)) (h3:Γ[k3]?=some (s3,PtrLt b)) (ho3:Rg.outG ⟨ops,N,Γ,lesN Λ,sp,λ i=>List.range i⟩ s3=true) (hwb:w0.w.heap.size≤b) (hA2:∀ w u,A2.p B u w→Kept w0 w→(SlA E D' xs).va.p B u w)
  (hS:P.underlying S=some (.slice E)) (hi:P.info? E=some it) (hz:it.zero=some z) (hsz:it.size=m) (hby:it.bytes=bytes) (hzs:z.cells.size=m) (hm0:0<m) (hl:l.length+xs.length≤100000000000) (hb6:bytes≤1000)
  (hD':∀ T∈D',T∈D) (hED:E ∉ D) (hxm:∀ x∈xs,x.n=m) (hde:(d != e)=true) (hd:d<N) (he:e<N)
  (hsrc:src.all (λ k=>match Γ[k]? with | some y => !y.2.deps.contains E&&Rg.outG ⟨ops,N,Γ,lesN Λ,sp,λ i=>List.range i⟩ y.1 | none=>false)=true)
  (hΛ:Λ.all (λ l=>(l.T != E || l.s==s3) && !l.A.deps.contains E&&l.s != d&&l.s != e)=true)
  (hQ:∀ a w,St B w0 N ((e,OwnB b E m D (l++xs))::src.filterMap (λ k=>Γ[k]?)) Λ a w→Q .normal a w):(Code.region id ops false).wp P Q a w:=by
 have hles0:∀ y∈lesN Λ,y.cr=none∧y.st=none∧(⟨y.s,y.T,y.H,y.A0⟩:Lc)∈Λ:=λ y hy=>by
  obtain ⟨l',hl',rfl⟩:=qm.1 hy
  exact ⟨rfl,rfl,hl'⟩
 refine Rg.linK (R:=⟨ops,N,Γ,lesN Λ,sp,λ i=>List.range i⟩) (m:=2) hn2 G hk h (λ y hy _=>(hles0 y hy).2.2) (λ i hi=>hob.all i zo zo) λ a1 w1 hinv=>?_
 have hcl:∀ deps,Rg.clash ⟨ops,N,Γ,lesN Λ,sp,λ i=>List.range i⟩ (λ k=>decide (k<n)) deps=false:=λ deps=>by
  unfold Rg.clash
  rw [xb]
  intro y hy
  rw [(hles0 y hy).2.1]
  simp
 obtain ⟨hbw,hB,hv⟩:=hinv.v i1 _ s _ h1 rfl (qP hi1) (hcl _)
 have hout:∀ t,Rg.outG ⟨ops,N,Γ,lesN Λ,sp,λ i=>List.range i⟩ t=true→∀ q,q<ops.size→Rg.dst ⟨ops,N,Γ,lesN Λ,sp,λ i=>List.range i⟩ q≠some t:=λ t ht q hq=>by
  have:=qc.1 ht q (by simpa using hq)
  simpa using this
 obtain ⟨g3,hg3,hlt3⟩:=hinv.g _ (qa h3) (λ q hq hdq=>absurd hdq (hout _ ho3 q hq)) (hcl _)
 have hu:=hA2 _ _ (hinv.v i2 _ u _ h2 rfl (qP hi2) (hcl _)) hinv.base
 obtain ⟨v',w',hr,r1,r2,r3⟩:=ga (T1:=T1) hS hi hz hsz hby hzs hm0 hl hb6 hv hu hD' hED hxm hbw hB
 have hdsz:d<a1.tmps.size:=by rw [hinv.size]; exact hd
 have hesz:e<(a1.put (some d) v').tmps.size:=by rw [bt,hinv.size]; exact he
 have hne:d≠e:=by simpa using hde
 rw [List.range'_succ,qv]
 refine bu (R:=⟨ops,N,Γ,lesN Λ,sp,λ i=>List.range i⟩) ho1 G (bc (w':=w') (v:=v') (by simp [execOp,resolve,invoke,builtin,hr,Result.andThen]) ?_)
 rw [List.range'_succ,qv]
 refine bu (R:=⟨ops,N,Γ,lesN Λ,sp,λ i=>List.range i⟩) ho2 G (bc (w':=w') (v:=v') ?_ (hQ _ _ ?_))
 ·have:=aG a1 d v' hdsz
  simp [execOp,this]
 ·have hother:∀ t,t≠d→t≠e→((a1.put (some d) v').put (some e) v').eval (.tmp t)=a1.eval (.tmp t):=λ t h3 h4=>by
   rw [ai _ _ _ _ h4,ai _ _ _ _ h3]
  have hlc:∀ l'∈Λ,(l'.T≠E∨l'.s=s3)∧E ∉ l'.A.deps∧l'.s≠d∧l'.s≠e:=λ l' hl'=>by
   have:=qc.1 hΛ l' hl'
   simp only [qj,zr,xh,bne_iff_ne,qz,qy,qu] at this
   exact ⟨this.1.1.1,this.1.1.2,this.1.2,this.2⟩
  have hcur:∀ l'∈Λ,(⟨l'.s,l'.T,l'.H,none,l'.A,none⟩:Le)∈lesN Λ:=λ l' hl'=>qm.2 ⟨l',hl',rfl⟩
  refine ⟨hinv.lo,hinv.defers.grown r2 r3 rfl,by rw [bt,bt]; exact hinv.size,?_,?_,?_,?_⟩
  ·exact ⟨r2.os.trans hinv.base.os,r2.tape.trans hinv.base.tape,r2.output.trans hinv.base.output,qd hinv.base.size r2.size,λ k hk hf =>
    (r2.block k (qE hk hinv.base.size) (λ e=>by have:=(r3 k e.symm).1; omega)).trans (hinv.base.block k hk hf)⟩
  ·intro y hy
   rcases qo.1 hy with rfl | hy
   ·show (OwnB b E m D (l++xs)).p B (((a1.put (some d) v').put (some e) v').eval (.tmp e)) w'
    rw [aG _ _ _ hesz]
    exact ⟨qd hbw r2.size,hB,r1⟩
   ·obtain ⟨k,hk1,hk2⟩:=qJ.1 hy
    have hs:=qc.1 hsrc k hk1
    simp only [hk2,qj,qz,qy,qu] at hs
    have hout:=hout y.1 hs.2
    have g1:y.1≠d:=λ e1=>hout n zo (by unfold Rg.dst; rw [ho1,e1]; rfl)
    have g2:y.1≠e:=λ e1=>hout (n+1) zo (by unfold Rg.dst; rw [ho2,e1]; rfl)
    rw [hother _ g1 g2]
    exact VA.grown (hinv.g y (qa hk2) (λ q hq hdq=>absurd hdq (hout q hq)) (hcl _)) r2 r3 hB hs.1
  ·intro l' hl'
   obtain ⟨g1,g2,g3,g4⟩:=hlc l' hl'
   obtain ⟨g,cs,e1,e2,e3,e4⟩:=hinv.c _ (hcur l' hl') l'.A rfl
   refine ⟨g,cs,by rw [hother _ g3 g4]; exact e1,e2,?_,As.grown e4 r2 r3 hB g2⟩
   rw [r2.block g (Array.getElem?_eq_some_iff.1 e3).1 (λ e5=>by
    obtain ⟨h8,c,fz,e6⟩:=r3 g e5.symm
    rcases g1 with g1 | g1
    ·rw [e3] at e6
     injection e6 with e6
     injection e6 with _ e6 _
     exact g1 e6
    ·rw [← g1,e1,l'.H.ok] at hg3
     injection hg3 with hg3
     omega)]
   exact e3
  ·intro l1 hl1 l2 hl2 hne'
   obtain ⟨_,_,g3,g4⟩:=hlc l1 hl1
   obtain ⟨_,_,g5,g6⟩:=hlc l2 hl2
   rw [hother _ g3 g4,hother _ g5 g6]
   exact hinv.x _ (hcur l1 hl1) _ (hcur l2 hl2) hne' G rfl
theorem Cn.introF {f : FuncId} {fn : Func} {c : Code} {pre : List VA} {post : VA} (hf : P.funcs[f]? = some fn) (hb : fn.body = some c) (hn : (fn.name == "runtime.NumGoroutine") = false) (hsz : pre.length ≤ fn.ntmps)
  (h:∀ (B:Nat) (w0:Bs) (a:Act),NoF w0→St B w0 fn.ntmps (argΓ pre) [] a w0.w→c.wp P (bPost P fn (RQ B w0 post)) a w0.w):Cn P f pre post:=by
 refine ⟨⟨fn,hf,hn,by rw [hb]; rfl⟩,λ B w args hB ha=>(bV hf hb (h B ⟨w,λ _=>False,false⟩ _ (λ _ h=>h.elim) ?_)).mono λ _ _ ⟨v,he,hv,hk⟩=>⟨v,he,hv,hk.grow0⟩⟩
 have hl:=ha.length
 refine ⟨λ g hg=>qd hB (hg.resolve_right λ h=>h),DefOk.nil rfl,?_,Kept.refl _,All2.args ha,(λ l hl=>by cases hl),(λ l hl=>by cases hl)⟩
 simp only [zJ,zE,qF]
 omega
theorem aR {R:Rg}{B i:Nat}{x:Operand}{A:VA}(hF:NoF w0)(hv:A.p B v w0.w)(h:Has R B w0 i x (EqV v)):Has R B w0 i x A:=λ a w av=>by
 have e:a.eval x=v:=h a w av
 rw [e]
 exact A.cg _ _ _ _ (hF.cg av.base) hv
theorem St.eqv {B N:Nat}(h:St B w0 N Γ Λ a w0.w){s:Nat}{A:VA}(k:Nat)(hm:Γ[k]?=some (s,A)):∃ v,A.p B v w0.w∧St B w0 N (Γ.set k (s,EqV v)) Λ a w0.w :=
 ⟨a.eval (.tmp s),h.vals _ (qa hm),h.lo,h.defers,h.size,h.base,λ x hx=>by
  rcases qp hx with hx | rfl
  ·exact h.vals x hx
  ·exact rfl,h.locs,h.dis⟩
theorem Cs {l l':List VA}(h:All2 Free l l'){B B':Nat}(hB:B'≤B):∀ {vs:List Value},All2 (λ (A:VA) x=>A.p B x w) l vs→All2 (λ (A:VA) x=>A.p B' x w) l' vs:=by
 induction h with
 | nil=>intro vs hv; cases hv; exact .nil
 | cons h _ ih=>intro vs hv; cases hv with | cons h1 h2=>exact .cons (h _ _ _ _ hB h1) (ih h2)
theorem rE {l l':List VA}(h:All2 Free l l'):Free (Tu l) (Tu l'):=λ _ _ _ _ hB ⟨vs,e,hv⟩=>⟨vs,e,Cs h hB hv⟩
def CnI (P:Program)(f:FuncId)(pre:List VA)(mk:Nat→VA):Prop :=
 (∃ fn, P.funcs[f]? = some fn ∧ (fn.name == "runtime.NumGoroutine") = false ∧ fn.body.isNone = false) ∧
 ∀ (B:Nat) (w:World) (args:List Value),B≤w.heap.size→All2 (λ A v=>A.p B v w) pre args →
  Calls P f args.toArray w λ e w'=>∃ v,e=.returned v∧(mk w.heap.size).p B v w'∧Grow w w'
theorem CnI.introF {f : FuncId} {fn : Func} {c : Code} {pre : List VA} {mk : Nat → VA} (hf : P.funcs[f]? = some fn) (hb : fn.body = some c) (hn : (fn.name == "runtime.NumGoroutine") = false) (hsz : pre.length ≤ fn.ntmps)
  (h:∀ (B:Nat) (w0:Bs) (a:Act),(∀ g,¬ w0.F g)→NoF w0→St B w0 fn.ntmps (argΓ pre) [] a w0.w→c.wp P (bPost P fn (RQ B w0 (mk w0.w.heap.size))) a w0.w):CnI P f pre mk:=by
 refine ⟨⟨fn,hf,hn,by rw [hb]; rfl⟩,λ B w args hB ha=>(bV hf hb (h B ⟨w,λ _=>False,false⟩ _ (λ _ h=>h) (λ _ h=>h.elim) ?_)).mono λ _ _ ⟨v,he,hv,hk⟩=>⟨v,he,hv,hk.grow0⟩⟩
 have hl:=ha.length
 refine ⟨λ g hg=>qd hB (hg.resolve_right λ h=>h),DefOk.nil rfl,?_,Kept.refl _,All2.args ha,(λ l hl=>by cases hl),(λ l hl=>by cases hl)⟩
 simp only [zJ,zE,qF]
 omega
end Go.Proofs.YtkpifdpdeanjfaaGreatDoor
