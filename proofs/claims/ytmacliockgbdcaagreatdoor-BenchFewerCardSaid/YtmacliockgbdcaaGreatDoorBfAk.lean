import Derived.Test.YtmacliockgbdcaaGreatDoorBfAa
import Derived.Test.YtmacliockgbdcaaGreatDoorBfAc
import Derived.Test.YtmacliockgbdcaaGreatDoorBfAj
set_option linter.unusedVariables false
set_option linter.unusedSimpArgs false
set_option linter.unusedSectionVars false
set_option maxRecDepth 100000
namespace Go.Proofs.YtmacliockgbdcaaGreatDoor
open Go Go.RowKit
def cbl (cs:List Value):List Nat:=cs.filterMap blk
def vbl (v:Value):List Nat:=cbl v.cells.toList
def Sep (u v:Value):Prop:=∀ g∈vbl u,g ∉ vbl v
def SepAll (us:List Value)(v:Value):Prop:=∀ u∈us,Sep u v
theorem jL {A:As}{B:Nat}{cs:List Value}{w:World}(h:A.p B cs w):vbl (shape A.ag cs)=cbl cs:=by
 show cbl (shape A.ag cs).cells.toList=_
 rw [A.cells_shape h]
def PinA (v:Value)(A:As):As where
 n:=A.n
 ag:=A.ag
 p B cs w:=A.p B cs w∧shape A.ag cs=v
 deps:=A.deps
 len:=fun B cs w h=>A.len B cs w h.1
 one:=fun B cs w h=>A.one B cs w h.1
 ag1:=A.ag1
 cg:=fun B cs w w' hg h=>⟨A.cg B cs w w' hg h.1,h.2⟩
 wr:=fun B cs w w' g c T fz h1 h2 h3 h4 h=>⟨A.wr B cs w w' g c T fz h1 h2 h3 h4 h.1,h.2⟩
theorem pin_wk {v:Value}{A:As}:WkA (PinA v A) A:=⟨rfl,rfl,fun _ _ _ h=>h.1⟩
theorem and_wk {A:As}{c:Prop}:WkA (A.and c) A:=⟨rfl,rfl,fun _ _ _ h=>h.2⟩
def NewA (A:As):Prop:=∀ B cs w,A.p B cs w→∀ g∈cbl cs,B≤g∧g<w.heap.size
def NodA (A:As):Prop:=∀ B cs w,A.p B cs w→(cbl cs).Nodup
def DisA (A:As):As where
 n:=A.n
 ag:=A.ag
 p B cs w:=A.p B cs w∧(cbl cs).Nodup
 deps:=A.deps
 len:=fun B cs w h=>A.len B cs w h.1
 one:=fun B cs w h=>A.one B cs w h.1
 ag1:=A.ag1
 cg:=fun B cs w w' hg h=>⟨A.cg B cs w w' hg h.1,h.2⟩
 wr:=fun B cs w w' g c T fz h1 h2 h3 h4 h=>⟨A.wr B cs w w' g c T fz h1 h2 h3 h4 h.1,h.2⟩
theorem dis_wk {A:As}:WkA (DisA A) A:=⟨rfl,rfl,fun _ _ _ h=>h.1⟩
theorem jj {A:As}:NodA (DisA A):=fun _ _ _ h=>h.2
theorem lF {A:As}(h:NewA A):NewA (DisA A):=fun B cs w hp=>h B cs w hp.1
theorem iA {A:As}(h:FreeA A A):FreeA (DisA A) (DisA A):=⟨rfl,rfl,fun B B' cs w hB hp=>⟨h.2.2 B B' cs w hB hp.1,hp.2⟩⟩
theorem bV {a b:List Value}:cbl (a++b)=cbl a++cbl b:=List.filterMap_append ..
theorem kY {B:Nat}{w:World}:∀ {l:List As} {ps:List (List Value)},(∀ A∈l,NewA A)→All2 (fun (A:As) c=>A.p B c w) l ps→∀ g∈cbl ps.flatten,B≤g∧g<w.heap.size
 | [],_,_,h,g,hg=>by cases h; cases hg
 | A::l,_,hn,h,g,hg=>by
  cases h with
  | cons h1 h2 =>
   rw [List.flatten_cons,bV,List.mem_append] at hg
   rcases hg with hg | hg
   ·exact hn A (by simp) _ _ _ h1 g hg
   ·exact kY (fun A' hA=>hn A' (by simp [hA])) h2 g hg
theorem dV {l:List As}(h:∀ A∈l,NewA A):NewA (cat l):=fun B cs w ⟨ps,e,hp⟩=>by
 subst e
 exact kY h hp
def pins:List Value→List (Value × As)→List As
 | _,[]=>[]
 | us,(v,A)::l=>PinA v (A.and (SepAll us v))::pins (us++[v]) l
theorem sR:∀ {l:List (Value × As)} {us:List Value} {B:Nat} {w:World} {ps:List (List Value)},(∀ x∈l,NodA x.2)→All2 (fun (A:As) c=>A.p B c w) (pins us l) ps →
  All2 (fun (A:As) c=>A.p B c w) (l.map (·.2)) ps∧(cbl ps.flatten).Nodup∧∀ u∈us,∀ g∈vbl u,g ∉ cbl ps.flatten
 | [],us,B,w,ps,_,h=>by
  cases h
  exact ⟨.nil,List.nodup_nil,fun _ _ _ _ h=>by cases h⟩
 | (v,A)::l,us,B,w,ps,hn,h=>by
  cases h with
  | @cons _ c _ cs h1 h2 =>
   obtain ⟨q1,q2,q3⟩:=sR (fun x hx=>hn x (by simp [hx])) h2
   obtain ⟨⟨hsep,hA⟩,hv⟩:=h1
   have hvb:vbl v=cbl c:=by
    have hv':shape A.ag c=v:=hv
    rw [← hv']; exact jL hA
   refine ⟨.cons hA q1,?_,fun u hu g hg hm=>?_⟩
   ·rw [List.flatten_cons,bV]
    refine List.nodup_append.2 ⟨hn (v,A) (by simp) _ _ _ hA,q2,fun x hx y hy e=>?_⟩
    subst e
    exact q3 v (by simp) x (by rw [hvb]; exact hx) hy
   ·rw [List.flatten_cons,bV,List.mem_append] at hm
    rcases hm with hm | hm
    ·exact hsep u hu g hg (by rw [hvb]; exact hm)
    ·exact q3 u (by simp [hu]) g hg hm
theorem gk {l:List (Value × As)}(hn:∀ x∈l,NodA x.2):WkA (cat (pins [] l)) (DisA (cat (l.map (·.2)))):=by
 have hlen:∀ (us:List Value) (l:List (Value × As)),((pins us l).map (·.n)).sum=((l.map (·.2)).map (·.n)).sum:=by
  intro us l
  induction l generalizing us with
  | nil=>rfl
  | cons x l ih=>obtain ⟨v,A⟩:=x; simp only [pins,List.map_cons,List.sum_cons,ih]; rfl
 refine ⟨(hlen [] l).symm,rfl,fun B cs w ⟨ps,e,hp⟩=>?_⟩
 obtain ⟨q1,q2,_⟩:=sR hn hp
 subst e
 exact ⟨⟨ps,rfl,q1⟩,q2⟩
namespace Rg
structure LeF where
 s:Nat
 T:TypeId
 H:Hd
 cr:Option Nat
 A0:As
 st:Option (Nat × ((Nat→Value)→As))
def LeF.on (ν:Nat→Value)(e:LeF):Le:=⟨e.s,e.T,e.H,e.cr,e.A0,match e.st with | none=>none | some (j,f)=>some (j,f ν)⟩
abbrev fam (ops:Array Oper)(N:Nat)(Γ:List (Nat × VA))(les:List LeF)(sp:List ((Nat→Value)→Sp))(anc:Nat→List Nat)(ν:Nat→Value):Rg:=⟨ops,N,Γ,les.map (LeF.on ν),sp.map (fun f=>f ν),anc⟩
def Dep {α:Type}(S:Nat→Bool)(f:(Nat→Value)→α):Prop:=∀ ν ν',(∀ k,S k=true→ν k=ν' k)→f ν=f ν'
def bef (anc:Nat→List Nat)(i k:Nat):Bool:=k==i || (anc i).contains k
def nuSet (ν:Nat→Value)(i:Nat)(v:Value):Nat→Value:=fun k=>if k=i then v else ν k
theorem eS {ν:Nat→Value}{i:Nat}{v:Value}:nuSet ν i v i=v:=if_pos rfl
theorem nu_ne {ν:Nat→Value}{i k:Nat}{v:Value}(h:k≠i):nuSet ν i v k=ν k:=if_neg h
section
variable {ops:Array Oper} {N:Nat} {Γ:List (Nat × VA)} {les:List LeF} {sp:List ((Nat→Value)→Sp)} {anc:Nat→List Nat} {ν ν':Nat→Value} {B:Nat} {w0:Bs} {L:Nat→Bool} {a:Act} {w:World} {P:Program} {Q:Exit→Act→World→Prop} {i:Nat}
theorem mZ {deps:List TypeId}:clash (fam ops N Γ les sp anc ν) L deps=clash (fam ops N Γ les sp anc ν') L deps:=by
 unfold clash
 show (les.map (LeF.on ν)).any _=(les.map (LeF.on ν')).any _
 rw [List.any_map,List.any_map]
 congr 1
 funext e
 obtain ⟨s,T,H,cr,A0,st⟩:=e
 cases st with
 | none=>rfl
 | some x=>rfl
theorem oo (hdL:∀ e∈les,∀ j f,e.st=some (j,f)→Dep (bef anc j) f)(hc:Closed (fam ops N Γ les sp anc ν) L)(hn:∀ k,L k=true→ν k=ν' k){e:LeF}(he:e∈les):cur L (e.on ν)=cur L (e.on ν'):=by
 obtain ⟨s,T,H,cr,A0,st⟩:=e
 cases st with
 | none=>rfl
 | some x =>
  obtain ⟨j,f⟩:=x
  show (if crOk L cr=true then some (if L j=true then f ν else A0) else none)=(if crOk L cr=true then some (if L j=true then f ν' else A0) else none)
  cases hj:L j with
  | false=>rfl
  | true =>
   have:f ν=f ν':=hdL _ he j f rfl ν ν' fun k hk=>hn k (by
    simp only [bef,Bool.or_eq_true,beq_iff_eq] at hk
    rcases hk with rfl | hk
    ·exact hj
    ·exact hc j hj k hk)
   rw [this]
theorem xV (hdS:∀ i f,sp[i]?=some f→Dep (bef anc i) f)(hc:Closed (fam ops N Γ les sp anc ν) L)(hn:∀ k,L k=true→ν k=ν' k){j:Nat}(hj:L j=true):(sp.map fun f=>f ν')[j]?=(sp.map fun f=>f ν)[j]?:=by
 rw [List.getElem?_map,List.getElem?_map]
 cases hs:sp[j]? with
 | none=>rfl
 | some f =>
  have:f ν=f ν':=hdS j f hs ν ν' fun k hk=>hn k (by
   simp only [bef,Bool.or_eq_true,beq_iff_eq] at hk
   rcases hk with rfl | hk
   ·exact hj
   ·exact hc j hj k hk)
  show some (f ν')=some (f ν)
  rw [this]
theorem Inv.nu (hdS:∀ i f,sp[i]?=some f→Dep (bef anc i) f)(hdL:∀ e∈les,∀ j f,e.st=some (j,f)→Dep (bef anc j) f)(hc:Closed (fam ops N Γ les sp anc ν) L)(hn:∀ k,L k=true→ν k=ν' k)(h:(fam ops N Γ les sp anc ν).Inv B w0 L a w):(fam ops N Γ les sp anc ν').Inv B w0 L a w:=by
 refine ⟨h.lo,h.defers,h.size,h.base,fun x hx h1 h2=>h.g x hx h1 (by rw [mZ (ν':=ν')]; exact h2),fun i y d A hs hv hL h2=>?_,fun i d b k c hs hL hc'=>?_,fun e he A hA=>?_,fun e he f hf hne h1 h2=>?_⟩
 ·exact h.v i y d A (by rw [← hs]; exact (xV hdS hc hn hL).symm) hv hL (by rw [mZ (ν':=ν')]; exact h2)
 ·exact h.d i d b k c (by rw [← hs]; exact (xV hdS hc hn hL).symm) hL hc'
 ·obtain ⟨e0,he0,rfl⟩:=List.mem_map.1 he
  exact h.c (e0.on ν) (List.mem_map.2 ⟨e0,he0,rfl⟩) A (by rw [oo hdL hc hn he0]; exact hA)
 ·obtain ⟨e0,he0,rfl⟩:=List.mem_map.1 he
  obtain ⟨f0,hf0,rfl⟩:=List.mem_map.1 hf
  exact h.x (e0.on ν) (List.mem_map.2 ⟨e0,he0,rfl⟩) (f0.on ν) (List.mem_map.2 ⟨f0,hf0,rfl⟩) hne (by rw [oo hdL hc hn he0]; exact h1) (by rw [oo hdL hc hn hf0]; exact h2)
def ObF (P:Program)(Q:Exit→Act→World→Prop)(ops:Array Oper)(N:Nat)(Γ:List (Nat × VA))(les:List LeF)(sp:List ((Nat→Value)→Sp))(anc:Nat→List Nat)(B:Nat)(w0:Bs)(i:Nat):Prop :=
 (∀ ν,(fam ops N Γ les sp anc ν).Ob P Q B w0 i)∨∃ (d:Nat) (A:(Nat→Value)→VA),sp[i]?=some (fun ν=>.v d (A ν))∧∀ ν a w,(fam ops N Γ les sp anc ν).Av B w0 i a w→∀ K:Act→World→Prop,(∀ v w',Grow w w'→(A (nuSet ν i v)).p B v w'→K (a.put (some d) v) w')→wpOp P ops Q i K a w
theorem stepV (hk:∀ ν,chk (fam ops N Γ les sp anc ν)=true)(hdS:∀ i f,sp[i]?=some f→Dep (bef anc i) f)(hdL:∀ e∈les,∀ j f,e.st=some (j,f)→Dep (bef anc j) f)(hob:ObF P Q ops N Γ les sp anc B w0 i)(h:(fam ops N Γ les sp anc ν).Inv B w0 L a w)(hc:Closed (fam ops N Γ les sp anc ν) L)(hL:L i=false)(ha:∀ j,(anc i).contains j=true→L j=true)(K:Act→World→Prop)
  (hK:∀ ν' a' w',(fam ops N Γ les sp anc ν').Inv B w0 (upd L i) a' w'→K a' w'):wpOp P ops Q i K a w:=by
 rcases hob with hob | ⟨d,A,hs,hob⟩
 ·exact step (hk ν) (hob ν) h hc hL ha K fun a' w' hi=>hK ν a' w' hi
 ·refine hob ν a w (h.av hc hL ha) K fun v w' hg hA=>hK (nuSet ν i v) _ _ ?_
  have hi':=h.nu (ν':=nuSet ν i v) hdS hdL hc fun k hk=>(nu_ne (fun e=>by rw [e,hL] at hk; cases hk)).symm
  have hs':(fam ops N Γ les sp anc (nuSet ν i v)).sp[i]?=some (.v d (A (nuSet ν i v))):=by
   show (sp.map _)[i]?=_
   rw [List.getElem?_map,hs]; rfl
  have hop:=(fb (hk (nuSet ν i v)) (chk_lt (hk _) hs')).1
  simp only [hs',Bool.and_eq_true,beq_iff_eq,decide_eq_true_eq] at hop
  exact hi'.put (hk _) hc hL hs' hop.1 hop.2 ⟨(fun e he=>by cases he),rfl⟩ hg
   (fun d' A' he=>by simp only [Sp.vl,Option.some.injEq,Prod.mk.injEq] at he; obtain ⟨rfl,rfl⟩:=he; exact ⟨rfl,hA⟩) (fun d' b k c he=>by cases he)
theorem linV {id:Nat}{Λ:List Lc}(hanc:anc=fun i=>List.range i)(hk:∀ ν,chk (fam ops N Γ les sp anc ν)=true)(hdS:∀ i f,sp[i]?=some f→Dep (bef anc i) f)(hdL:∀ e∈les,∀ j f,e.st=some (j,f)→Dep (bef anc j) f)(ν0:Nat→Value)(h:St B w0 N Γ Λ a w)(hles:∀ e∈(fam ops N Γ les sp anc ν0).les,e.cr=none→(⟨e.s,e.T,e.H,e.A0⟩:Lc)∈Λ)
  (hob:∀ i,i<ops.size→ObF P Q ops N Γ les sp anc B w0 i) (hQ:∀ ν a' w',Fin (fam ops N Γ les sp anc ν) B w0 a' w'→Q .normal a' w'):(Code.region id ops false).wp P Q a w:=by
 refine wp_region ?_
 have key:∀ m k,k+m=ops.size→∀ ν a w,(fam ops N Γ les sp anc ν).Inv B w0 (fun j=>decide (j<k)) a w→wpOps P ops Q (List.range' k m) a w:=by
  intro m
  induction m with
  | zero =>
   intro k hkm ν a w hi
   have:k=ops.size:=by omega
   subst this
   exact hQ ν a w ⟨hi⟩
  | succ m ih =>
   intro k hkm ν a w hi
   rw [List.range'_succ,wpOps_cons]
   refine stepV hk hdS hdL (hob k zo) hi ?_ (by simp) ?_ _ fun ν' a' w' hi'=>ih (k+1) zo ν' a' w' (hi'.congr fun j=>?_)
   ·intro i hi j hj
    have hj:(anc i).contains j=true:=hj
    rw [hanc] at hj
    simp at hi hj ⊢
    omega
   ·intro j hj
    rw [hanc] at hj
    simpa using hj
   ·unfold upd
    by_cases h1:j=k
    ·subst h1; simp
    ·have h2:(j==k)=false:=by simpa using h1
     rw [h2,Bool.false_or,decide_eq_decide]
     omega
 rw [List.range_eq_range']
 exact key _ 0 zo ν0 a w ((start (R:=fam ops N Γ les sp anc ν0) h hles).congr fun j=>by simp)
theorem drawV {id:Nat}{Λ:List Lc}(hm:P.follows .mixedOrders=true)(hanc:ancOk (fam ops N Γ les sp anc (fun _=>undef))=true)(hk:∀ ν,chk (fam ops N Γ les sp anc ν)=true)(hdS:∀ i f,sp[i]?=some f→Dep (bef anc i) f)(hdL:∀ e∈les,∀ j f,e.st=some (j,f)→Dep (bef anc j) f)(ν0:Nat→Value)(h:St B w0 N Γ Λ a w)(hles:∀ e∈(fam ops N Γ les sp anc ν0).les,e.cr=none→(⟨e.s,e.T,e.H,e.A0⟩:Lc)∈Λ)
  (hob:∀ i,i<ops.size→ObF P Q ops N Γ les sp anc B w0 i) (hQ:∀ ν a' w',Fin (fam ops N Γ les sp anc ν) B w0 a' w'→Q .normal a' w'):(Code.region id ops true).wp P Q a w:=by
 refine wp_region_any hm ?_
 have ho:∀ i,i<ops.size→∃ o,ops[i]?=some o∧(∀ j,(anc i).contains j=true→∃ e∈o.after,Region.binds .any e=true∧(e.on=j∨(anc e.on).contains j=true)) ∧
   ∀ e∈o.after,Region.binds .any e=true→e.on<i:=by
  intro i hi
  have:=List.all_eq_true.1 hanc i (by simpa using hi)
  cases hoi:ops[i]? with
  | none=>rw [hoi] at this; cases this
  | some o =>
   rw [hoi] at this
   simp only [Bool.and_eq_true] at this
   refine ⟨o,rfl,fun j hj=>?_,fun e he hb=>?_⟩
   ·have hh:=List.all_eq_true.1 this.1 j (by simpa using hj)
    obtain ⟨e,he,h1⟩:=Array.any_eq_true'.1 hh
    simp only [Bool.and_eq_true,Bool.or_eq_true,beq_iff_eq] at h1
    exact ⟨e,he,h1.1,h1.2⟩
   ·have hh:=Array.all_eq_true'.1 this.2 e he
    simpa [hb] using hh
 have hrd:∀ (listed:Array Bool) i,i∈Region.ready .any ops listed→i<ops.size∧listed.getD i true=false∧∀ o,ops[i]?=some o→∀ e∈o.after,Region.binds .any e=true→listed.getD e.on false=true:=by
  intro listed i hi
  unfold Region.ready at hi
  obtain ⟨h1,h2⟩:=List.mem_filter.1 hi
  simp only [Bool.and_eq_true,Bool.not_eq_true'] at h2
  refine ⟨by simpa using h1,h2.1,fun o hoi e he hb=>?_⟩
  have h3:=h2.2
  rw [hoi] at h3
  simp only [Option.map_some,Option.getD_some] at h3
  have:=Array.all_eq_true'.1 h3 e he
  simpa [hb] using this
 have key:∀ fuel (listed:Array Bool) ν a w,listed.size=ops.size→(List.range ops.size).countP (fun i => !listed.getD i false)≤fuel→Closed (fam ops N Γ les sp anc (fun _=>undef)) (fun i=>listed.getD i false) →
   (fam ops N Γ les sp anc ν).Inv B w0 (fun i=>listed.getD i false) a w→wpAny P .any ops Q fuel listed a w:=by
  intro fuel
  have hend:∀ (listed:Array Bool) ν a w,listed.size=ops.size→Region.ready .any ops listed=[]→(fam ops N Γ les sp anc ν).Inv B w0 (fun i=>listed.getD i false) a w→Q .normal a w:=by
   intro listed ν a w hsz hr hi
   refine hQ ν a w ⟨hi.congr fun k=>?_⟩
   by_cases hkn:k<ops.size
   ·have:∀ k,k<ops.size→listed.getD k false=true:=by
     intro k
     induction k using Nat.strongRecOn with
     | _ k ih =>
      intro hkn
      cases hl:listed.getD k false with
      | true=>rfl
      | false =>
       exfalso
       obtain ⟨o,ho1,_,ho3⟩:=ho k hkn
       have:k∈Region.ready .any ops listed:=by
        unfold Region.ready
        refine List.mem_filter.2 ⟨by simpa using hkn,?_⟩
        have h0:listed.getD k true=false:=by
         simp only [Array.getD,hsz,hkn,dite_true] at hl ⊢
         exact hl
        rw [h0,ho1]
        simp only [Bool.not_false,Bool.true_and,Option.map_some,Option.getD_some]
        refine Array.all_eq_true'.2 fun e he=>?_
        cases hb:Region.binds .any e with
        | false=>rfl
        | true=>simpa using ih e.on (ho3 e he hb) (Nat.lt_trans (ho3 e he hb) hkn)
       rw [hr] at this
       cases this
    simp [hkn,this k hkn]
   ·have:listed.getD k false=false:=by simp [Array.getD,hsz,hkn]
    simp [hkn,this]
  induction fuel with
  | zero =>
   intro listed ν a w hsz hcnt hcl hi
   have hr:Region.ready .any ops listed=[]:=by
    cases hrr:Region.ready .any ops listed with
    | nil=>rfl
    | cons i rest =>
     exfalso
     obtain ⟨h1,h2,_⟩:=hrd listed i (by rw [hrr]; simp)
     have:0<(List.range ops.size).countP (fun i => !listed.getD i false):=by
      refine List.countP_pos_iff.2 ⟨i,by simpa using h1,?_⟩
      simp only [Array.getD,hsz,h1,dite_true] at h2 ⊢
      simpa using h2
     omega
   exact ⟨hr,hend listed ν a w hsz hr hi⟩
  | succ fuel ih =>
   intro listed ν a w hsz hcnt hcl hi
   refine ⟨fun hr=>hend listed ν a w hsz hr hi,fun i hir=>?_⟩
   obtain ⟨h1,h2,h3⟩:=hrd listed i hir
   obtain ⟨o,ho1,ho2,_⟩:=ho i h1
   have hLi:listed.getD i false=false:=by
    simp only [Array.getD,hsz,h1,dite_true] at h2 ⊢
    exact h2
   have hanci:∀ j,(anc i).contains j=true→listed.getD j false=true:=by
    intro j hj
    obtain ⟨e,he,hb,hj'⟩:=ho2 j hj
    have hl:=h3 o ho1 e he hb
    rcases hj' with rfl | hj'
    ·exact hl
    ·exact hcl e.on hl j hj'
   have hup:∀ k,(listed.setIfInBounds i true).getD k false=upd (fun i=>listed.getD i false) i k:=by
    intro k
    unfold upd
    by_cases hki:k=i
    ·subst hki
     simp [hsz,h1]
    ·simp [hki,Array.getElem?_setIfInBounds_ne (fun e=>hki e.symm)]
   refine stepV hk hdS hdL (hob i h1) hi hcl hLi hanci _ fun ν' a' w' hi'=>ih _ ν' _ _ (by simpa using hsz) ?_ ?_ (hi'.congr hup)
   ·have:(List.range ops.size).countP (fun k => !(listed.setIfInBounds i true).getD k false)<(List.range ops.size).countP (fun k => !listed.getD k false):=by
     refine f9 (x:=i) (fun x hx=>?_) (by simpa using h1) (by rw [hLi]; rfl) (by rw [hup,cq]; rfl)
     have hx':upd (fun i=>listed.getD i false) i x=false:=by
      rw [← hup]
      simpa only [Bool.not_eq_true'] using hx
     rw [(dy hx').2]
     rfl
    omega
   ·intro k hk' j hj
    have hk2:upd (fun i=>listed.getD i false) i k=true:=by rw [← hup]; exact hk'
    show (listed.setIfInBounds i true).getD j false=true
    rw [hup]
    rcases pb hk2 with rfl | h4
    ·exact dw _ (hanci j hj)
    ·exact dw _ (hcl k h4 j hj)
 refine key _ _ ν0 a _ (by simp) ?_ ?_ ?_
 ·refine Nat.le_trans (List.countP_le_length) (by simp)
 ·intro i hi
  exfalso
  simp only [Array.getD,Array.size_replicate] at hi
  split at hi <;> simp at hi
 ·have hs:=start (R:=fam ops N Γ les sp anc ν0) h hles
  have hd:(fam ops N Γ les sp anc ν0).Inv B w0 (fun _=>false) a w.drew:=⟨hs.lo,hs.defers.grow (Grow.drew w) rfl,hs.size,hs.base.drew,fun x hx h1 h2=>x.2.grow _ _ _ _ (Grow.drew w) (hs.g x hx h1 h2),(fun i y d A _ _ hf=>by cases hf),(fun i d b k c _ hf=>by cases hf),
   fun e he A hA=>(hs.c e he A hA).grow (Grow.drew w),hs.x⟩
  refine Inv.congr hd fun k=>?_
  simp only [Array.getD,Array.size_replicate]
  split <;> simp
end
def DepS (anc:Nat→List Nat):Nat→List ((Nat→Value)→Sp)→Prop
 | _,[]=>True
 | k,f::l=>Dep (bef anc k) f∧DepS anc (k+1) l
theorem DepS.at {anc:Nat→List Nat}:∀ {l:List ((Nat→Value)→Sp)} {k:Nat},DepS anc k l→∀ i f,l[i]?=some f→Dep (bef anc (k+i)) f
 | g::l,k,h,0,f,hf=>by
  simp at hf
  subst hf
  exact h.1
 | g::l,k,h,i+1,f,hf=>by
  have:=DepS.at h.2 i f (by simpa using hf)
  rwa [show k+1+i=k+(i+1) by omega] at this
def DepL (anc:Nat→List Nat):List LeF→Prop
 | []=>True
 | e::l=>(match e.st with | none=>True | some (j,f)=>Dep (bef anc j) f)∧DepL anc l
theorem DepL.mem {anc:Nat→List Nat}:∀ {l:List LeF},DepL anc l→∀ e∈l,∀ j f,e.st=some (j,f)→Dep (bef anc j) f
 | g::l,h,e,he,j,f,hf=>by
  rcases List.mem_cons.1 he with rfl | he
  ·have h1:=h.1
   rw [hf] at h1
   exact h1
  ·exact DepL.mem h.2 e he j f hf
end Rg
open Rg in
def lesF (Λ:List Lc)(sts:List (Option (Nat × ((Nat→Value)→As))))(news:List LeF):List LeF:=(Λ.zip sts).map (fun x=>⟨x.1.s,x.1.T,x.1.H,none,x.1.A,x.2⟩)++news
open Rg in
def ObsF (P:Program)(Q:Exit→Act→World→Prop)(ops:Array Oper)(N:Nat)(Γ:List (Nat × VA))(les:List LeF)(sp:List ((Nat→Value)→Sp))(anc:Nat→List Nat)(B:Nat)(w0:Bs):Nat→Nat→Prop
 | _,0=>True
 | k,m+1=>ObF P Q ops N Γ les sp anc B w0 k∧ObsF P Q ops N Γ les sp anc B w0 (k+1) m
open Rg in
theorem ObsF.all {P:Program}{Q:Exit→Act→World→Prop}{ops:Array Oper}{N:Nat}{Γ:List (Nat × VA)}{les:List LeF}{sp:List ((Nat→Value)→Sp)}{anc:Nat→List Nat}{B:Nat}{w0:Bs}{k m:Nat}(h:ObsF P Q ops N Γ les sp anc B w0 k m):∀ j,k≤j→j<k+m→ObF P Q ops N Γ les sp anc B w0 j:=by
 induction m generalizing k with
 | zero=>intro j h1 h2; omega
 | succ m ih =>
  intro j h1 h2
  by_cases hj:j=k
  ·subst hj; exact h.1
  ·exact ih h.2 j zo zo
section
open Rg
variable {P:Program} {Q:Exit→Act→World→Prop} {B N:Nat} {w0:Bs} {Γ:List (Nat × VA)} {Λ:List Lc} {a:Act} {w:World}
theorem tP {sts:List (Option (Nat × ((Nat→Value)→As)))}{news:List LeF}{ν:Nat→Value}(hn:news.all (fun e=>e.cr.isSome)=true):∀ e∈(lesF Λ sts news).map (LeF.on ν),e.cr=none→(⟨e.s,e.T,e.H,e.A0⟩:Lc)∈Λ:=by
 intro e he hcr
 obtain ⟨e0,he0,rfl⟩:=List.mem_map.1 he
 unfold lesF at he0
 rcases List.mem_append.1 he0 with he | he
 ·obtain ⟨x,hx,rfl⟩:=List.mem_map.1 he
  exact (List.of_mem_zip hx).1
 ·have:=List.all_eq_true.1 hn e0 he
  have h2:e0.cr=none:=hcr
  rw [h2] at this
  cases this
theorem ua {id:Nat}{ops:Array Oper}{sts:List (Option (Nat × ((Nat→Value)→As)))}{news:List LeF}{sp:List ((Nat→Value)→Sp)}(src:List Src)(h:St B w0 N Γ Λ a w)
  (hob:ObsF P Q ops N Γ (lesF Λ sts news) sp (fun i=>List.range i) B w0 0 ops.size) (hdS:DepS (fun i=>List.range i) 0 sp) (hdL:DepL (fun i=>List.range i) (lesF Λ sts news))
  (hn:news.all (fun e=>e.cr.isSome)=true) (hk:∀ ν,Rg.chk (fam ops N Γ (lesF Λ sts news) sp (fun i=>List.range i) ν)=true) (hsrc:∀ ν,src.all (okS (fam ops N Γ (lesF Λ sts news) sp (fun i=>List.range i) ν))=true)
  (hQ:∀ ν a w,St B w0 N (src.filterMap (takeS (fam ops N Γ (lesF Λ sts news) sp (fun i=>List.range i) ν))) (((lesF Λ sts news).map (LeF.on ν)).map fun e=>⟨e.s,e.T,e.H,Rg.last e⟩) a w→Q .normal a w):(Code.region id ops false).wp P Q a w :=
 Rg.linV rfl hk (fun i f hf=>by have:=hdS.at i f hf; rwa [Nat.zero_add] at this) hdL.mem (fun _=>undef) h (tP hn) (fun i hi=>hob.all i zo zo) fun ν a' w' hf=>hQ ν a' w' (fO (hk ν) hf src (hsrc ν))
theorem go_drawV' {id:Nat}{ops:Array Oper}{sts:List (Option (Nat × ((Nat→Value)→As)))}{news:List LeF}{sp:List ((Nat→Value)→Sp)}(anc:List (List Nat))(src:List Src)(hm:P.follows .mixedOrders=true)(h:St B w0 N Γ Λ a w)
  (hob:ObsF P Q ops N Γ (lesF Λ sts news) sp (fun i=>anc.getD i []) B w0 0 ops.size) (hdS:DepS (fun i=>anc.getD i []) 0 sp) (hdL:DepL (fun i=>anc.getD i []) (lesF Λ sts news))
  (hn:news.all (fun e=>e.cr.isSome)=true) (hanc:Rg.ancOk (fam ops N Γ (lesF Λ sts news) sp (fun i=>anc.getD i []) (fun _=>undef))=true) (hk:∀ ν,Rg.chk (fam ops N Γ (lesF Λ sts news) sp (fun i=>anc.getD i []) ν)=true) (hsrc:∀ ν,src.all (okS (fam ops N Γ (lesF Λ sts news) sp (fun i=>anc.getD i []) ν))=true)
  (hQ:∀ ν a w,St B w0 N (src.filterMap (takeS (fam ops N Γ (lesF Λ sts news) sp (fun i=>anc.getD i []) ν))) (((lesF Λ sts news).map (LeF.on ν)).map fun e=>⟨e.s,e.T,e.H,Rg.last e⟩) a w→Q .normal a w):(Code.region id ops true).wp P Q a w :=
 Rg.drawV hm hanc hk (fun i f hf=>by have:=hdS.at i f hf; rwa [Nat.zero_add] at this) hdL.mem (fun _=>undef) h (tP hn) (fun i hi=>hob.all i zo zo) fun ν a' w' hf=>hQ ν a' w' (fO (hk ν) hf src (hsrc ν))
variable {ops:Array Oper} {les:List LeF} {sp:List ((Nat→Value)→Sp)} {anc:Nat→List Nat} {i:Nat}
theorem of_u (h:∀ ν,(fam ops N Γ les sp anc ν).Ob P Q B w0 i):ObF P Q ops N Γ les sp anc B w0 i:=.inl h
def LiveR (R:Rg)(B:Nat)(w0:Bs)(i:Nat)(us:List Value):Prop:=∀ a w,R.Av B w0 i a w→∀ u∈us,∀ g∈vbl u,g<w.heap.size
theorem bR {R:Rg}:LiveR R B w0 i []:=fun _ _ _ _ h=>by cases h
theorem cj {R:Rg}{u:Value}{us:List Value}{x:Operand}{A:As}(hA:NewA A)(hx:Has R B w0 i x (PinA u A).va)(h:LiveR R B w0 i us):LiveR R B w0 i (u::us):=fun a w av v hv=>by
 rcases List.mem_cons.1 hv with rfl | hv
 ·obtain ⟨cs,⟨h1,h2⟩,_⟩:=hx a w av
  intro g hg
  rw [← h2,jL h1] at hg
  exact (hA _ _ _ h1 g hg).2
 ·exact h a w av v hv
theorem cJ {A:As}{c:Prop}(h:NewA A):NewA (A.and c):=fun B cs w hp=>h B cs w hp.2
theorem Bb {A:As}{c:Prop}(h:NodA A):NodA (A.and c):=fun B cs w hp=>h B cs w hp.2
theorem cV {d f:Nat}{A:As}{us:(Nat→Value)→List Value}{pre pre':List VA}{xs:List Operand}{at_:Array TypeId}{T:TypeId}{ps:String}{af:Array Edge}
  (hs:sp[i]?=some (fun ν=>.v d (PinA (ν i) (A.and (SepAll (us ν) (ν i)))).va)) (ho:ops[i]?=some ⟨some d,.call ⟨.value (.func f),xs.toArray,at_⟩,T,ps,af,none⟩)
  (hc:Cn P f pre' A.va) (hnew:NewA A) (hfree:FreeA A A) (hup:All2 Up pre pre') (hx:∀ ν,HasL (fam ops N Γ les sp anc ν) B w0 i xs pre) (hus:∀ ν v,us (nuSet ν i v)=us ν) (hl:∀ ν,LiveR (fam ops N Γ les sp anc ν) B w0 i (us ν)):ObF P Q ops N Γ les sp anc B w0 i:=by
 refine .inr ⟨d,_,hs,fun ν a w av K hK=>?_⟩
 obtain ⟨⟨fn,hf,hn,hb⟩,hcall⟩:=hc
 have hrun:(execOp a.eval ⟨some d,.call ⟨.value (.func f),xs.toArray,at_⟩,T,ps,af,none⟩).run P w=.ok (.enter f (xs.map a.eval).toArray) w:=by
  simp only [execOp,resolve,Act.eval,Deferred.ofValue,Sem.run_bind,Sem.run_pure,Result.andThen_ok,invoke,bk hf hn hb]
  simp
 have hbw:=Av.bw av
 have hargs:All2 (fun (A:VA) v=>A.p w.heap.size v w) pre' (xs.map a.eval):=by
  have h1:=(hx ν).all av
  clear hcall hrun hx hs ho
  generalize xs.map a.eval=vs at h1
  induction hup generalizing vs with
  | nil=>cases h1; exact .nil
  | cons hu _ ih =>
   cases h1 with
   | cons h2 h3=>exact .cons (hu _ _ _ hbw h2) (ih _ h3)
 refine bv (R:=fam ops N Γ les sp anc ν) ho G ?_
 unfold Oper.wp
 rw [hrun]
 refine (hcall w.heap.size w _ (Nat.le_refl _) hargs).mono fun e w' ⟨v,he,⟨cs,hv,hsh⟩,hg⟩=>?_
 subst he
 refine hK v w' hg ⟨cs,⟨⟨?_,hfree.2.2 _ _ _ _ hbw hv⟩,?_⟩,hsh⟩
 ·rw [hus,eS]
  intro u hu g hgu hgv
  have h1:=hl ν a w av u hu g hgu
  rw [hsh,jL hv] at hgv
  have h2:=(hnew _ _ _ hv g hgv).1
  omega
 ·rw [eS]
  exact hsh.symm
theorem pj {R:Rg}{u:Value}{us:List Value}{s:Nat}{T:TypeId}{H:Hd}{A:As}(hA:NewA A)(hx:LocH R i s T H (PinA u A))(h:LiveR R B w0 i us):LiveR R B w0 i (u::us):=fun a w av v hv=>by
 rcases List.mem_cons.1 hv with rfl | hv
 ·obtain ⟨g,cs,_,_,_,h1,h2⟩:=hx.ok av
  intro g hg
  rw [← h2,jL h1] at hg
  exact (hA _ _ _ h1 g hg).2
 ·exact h a w av v hv
def PinT (v:Value)(l:List As)(us:List Value):VA where
 p B x w:=x=v∧∃ vs:List Value,v=.tuple vs.toArray∧All2 (fun (A:As) y=>A.va.p B y w∧SepAll us y) l vs
 deps:=l.flatMap (·.deps)
 cg:=fun B x w w' hg ⟨h,vs,h1,h2⟩=>⟨h,vs,h1,h2.mono fun A y hy=>⟨A.va.cg _ _ _ _ hg hy.1,hy.2⟩⟩
 wr:=by
  rintro B x w w' g c T fz h1 h2 h3 h4 ⟨h,vs,h5,h6⟩
  refine ⟨h,vs,h5,?_⟩
  clear h5
  induction h6 with
  | nil=>exact .nil
  | cons h _ ih =>
   simp only [List.flatMap_cons,List.mem_append,not_or] at h2
   exact .cons ⟨(As.va _).wr _ _ _ _ _ _ _ _ h1 h2.1 h3 h4 h.1,h.2⟩ (ih h2.2)
theorem pd {d f:Nat}{l:List As}{us:(Nat→Value)→List Value}{pre pre':List VA}{xs:List Operand}{at_:Array TypeId}{T:TypeId}{ps:String}{af:Array Edge}
  (hs:sp[i]?=some (fun ν=>.v d (PinT (ν i) l (us ν)))) (ho:ops[i]?=some ⟨some d,.call ⟨.value (.func f),xs.toArray,at_⟩,T,ps,af,none⟩)
  (hc:Cn P f pre' (Tu (l.map (·.va)))) (hnf:∀ A∈l,NewA A∧FreeA A A) (hup:All2 Up pre pre') (hx:∀ ν,HasL (fam ops N Γ les sp anc ν) B w0 i xs pre) (hus:∀ ν v,us (nuSet ν i v)=us ν) (hl:∀ ν,LiveR (fam ops N Γ les sp anc ν) B w0 i (us ν)):ObF P Q ops N Γ les sp anc B w0 i:=by
 refine .inr ⟨d,_,hs,fun ν a w av K hK=>?_⟩
 obtain ⟨⟨fn,hf,hn,hb⟩,hcall⟩:=hc
 have hrun:(execOp a.eval ⟨some d,.call ⟨.value (.func f),xs.toArray,at_⟩,T,ps,af,none⟩).run P w=.ok (.enter f (xs.map a.eval).toArray) w:=by
  simp only [execOp,resolve,Act.eval,Deferred.ofValue,Sem.run_bind,Sem.run_pure,Result.andThen_ok,invoke,bk hf hn hb]
  simp
 have hbw:=Av.bw av
 have hargs:All2 (fun (A:VA) v=>A.p w.heap.size v w) pre' (xs.map a.eval):=by
  have h1:=(hx ν).all av
  clear hcall hrun hx hs ho
  generalize xs.map a.eval=vs at h1
  induction hup generalizing vs with
  | nil=>cases h1; exact .nil
  | cons hu _ ih =>
   cases h1 with
   | cons h2 h3=>exact .cons (hu _ _ _ hbw h2) (ih _ h3)
 refine bv (R:=fam ops N Γ les sp anc ν) ho G ?_
 unfold Oper.wp
 rw [hrun]
 refine (hcall w.heap.size w _ (Nat.le_refl _) hargs).mono ?_
 rintro e w' ⟨v,he,⟨vs,hv,hvs⟩,hg⟩
 subst he
 refine hK v w' hg ⟨by rw [eS],vs,by rw [eS]; exact hv,?_⟩
 rw [hus]
 have hlv:=hl ν a w av
 clear hv hs hcall hK
 induction l generalizing vs with
 | nil=>cases hvs; exact .nil
 | cons A l ih =>
  cases hvs with
  | cons h1 h2 =>
   refine .cons ⟨?_,?_⟩ (ih (fun A hA=>hnf A (by simp [hA])) _ h2)
   ·obtain ⟨cs,hp,hsh⟩:=h1
    exact ⟨cs,(hnf A (by simp)).2.2.2 _ _ _ _ hbw hp,hsh⟩
   ·obtain ⟨cs,hp,hsh⟩:=h1
    intro u hu g hgu hgv
    have q1:=hlv u hu g hgu
    rw [hsh,jL hp] at hgv
    have q2:=((hnf A (by simp)).1 _ _ _ hp g hgv).1
    omega
theorem pc {d t k:Nat}{l:List As}{A:As}{v:(Nat→Value)→Value}{us:(Nat→Value)→List Value}{T:TypeId}{ps:String}{af:Array Edge}
  (hs:sp[i]?=some (fun ν=>.v d (PinA (ν i) (A.and (SepAll (us ν) (ν i)))).va)) (ho:ops[i]?=some ⟨some d,.extract (.tmp t) k,T,ps,af,none⟩)
  (hx:∀ ν,Has (fam ops N Γ les sp anc ν) B w0 i (.tmp t) (PinT (v ν) l (us ν))) (hA:l[k]?=some A) (hus:∀ ν v,us (nuSet ν i v)=us ν):ObF P Q ops N Γ les sp anc B w0 i:=by
 refine .inr ⟨d,_,hs,fun ν a w av K hK=>?_⟩
 obtain ⟨e1,vs,e2,h2⟩:=hx ν a w av
 obtain ⟨y,hy,⟨cs,hp,hsh⟩,hsep⟩:=h2.get hA
 refine bv (R:=fam ops N Γ les sp anc ν) ho G (ba (w':=w) (v:=y) ?_ (hK y w (Grow.refl w) ⟨cs,⟨⟨?_,hp⟩,?_⟩,hsh⟩))
 ·have e3:a.eval (.tmp t)=.tuple vs.toArray:=e1.trans e2
  simp [execOp,e3,Instr.extract,hy]
 ·rw [hus,eS]; exact hsep
 ·rw [eS]; exact hsh.symm
end
theorem new_mg (l:List Nat):NewA (MgN l):=fun B cs w ⟨_,h⟩=>by
 rcases h with ⟨_,rfl⟩ | ⟨g,ext,rfl,_,h2,h3⟩
 ·intro g hg; cases hg
 ·intro g' hg
  have:g'=g:=by simpa [cbl,blk] using hg
  subst this
  exact ⟨h2,(Array.getElem?_eq_some_iff.1 h3).1⟩
theorem yq (b:Bool):NewA (BoA b):=fun B cs w h=>by
 have h':cs=[.bool b]:=h
 subst h'
 intro g hg; cases hg
theorem nN (k:IntKind)(n:Int):NewA (NumA k n):=fun B cs w h=>by
 have h':cs=[.int k n]:=h
 subst h'
 intro g hg; cases hg
theorem tm (x:RI):NewA (RIN x):=dV (fun A hA=>by
 simp at hA
 rcases hA with rfl | rfl
 ·exact yq _
 ·exact new_mg _)
theorem th (x:RI):NodA (RIN x):=fun B cs w ⟨ps,e,h⟩=>by
 subst e
 cases h with
 | @cons _ c1 _ _ h1 h=>cases h with
  | @cons _ c2 _ _ h2 h =>
   cases h
   have e1:c1=[.bool x.neg]:=h1
   have l2:=(MgN x.mag).len _ _ _ h2
   subst e1
   match c2,l2 with
   | [v],_ =>
    show (List.filterMap blk [.bool x.neg,v]).Nodup
    have:List.filterMap blk [.bool x.neg,v]=List.filterMap blk [v]:=rfl
    rw [this]
    cases hb:blk v with
    | none=>simp [hb]
    | some g=>simp [hb]
def ZN (k:Nat)(z:Int):As:=(RIN (riOf z)).and (lz z≤k)
theorem dM {k:Nat}{z:Int}:NewA (ZN k z):=cJ (tm _)
theorem yk {k:Nat}{z:Int}:NodA (ZN k z):=Bb (th _)
theorem x5 {A:As}{c:Prop}(h:FreeA A A):FreeA (A.and c) (A.and c):=⟨rfl,rfl,fun B B' cs w hB hp=>⟨hp.1,h.2.2 B B' cs w hB hp.2⟩⟩
theorem dX {k:Nat}{z:Int}:FreeA (ZN k z) (ZN k z):=x5 (fN _)
theorem wkA_riN {x:RI}:WkA (RIN x) (RIA x):=⟨rfl,rfl,fun B cs w h=>(pz x).2.2 B B cs w (Nat.le_refl _) h⟩
theorem zb {k:Nat}{z:Int}:WkA (ZN k z) (ZA k z):=⟨rfl,rfl,fun B cs w h=>⟨h.1,wkA_riN.2.2 B cs w h.2⟩⟩
theorem kr {k k':Nat}{z:Int}(h:k≤k'):WkA (ZN k z) (ZN k' z):=⟨rfl,rfl,fun _ _ _ hp=>⟨Nat.le_trans hp.1 h,hp.2⟩⟩
theorem qh {k:Nat}{z:Int}(h:lz z≤k):Wk (RIN (riOf z)).va (ZN k z).va:=fun _ _ _ ⟨cs,hp,hv⟩=>⟨cs,⟨h,hp⟩,hv⟩
theorem wi {a b:Int}(h:((riOf a).neg==(riOf b).neg)=true):(RIN (rsig (riOf a).neg (digs (max (riOf a).mag.length (riOf b).mag.length+1) (val (riOf a).mag+val (riOf b).mag)))).va=(RIN (riOf (a+b))).va:=by
 have h':decide (a<0)=decide (b<0):=by simpa [riOf] using h
 rw [bx,bx,bS (bN _ _) (z:=a+b) (by show val (digs (max (limbs a.natAbs).length (limbs b.natAbs).length+1) _)=_; rw [ro]; simp only [decide_eq_decide] at h'; omega) (fun hz=>by show decide (a<0)=_; simp only [decide_eq_decide] at h' ⊢; omega)]
theorem wh {a b:Int}(h:((riOf a).neg==(riOf b).neg)=false)(h2:b.natAbs≤a.natAbs):(RIN (rsig (riOf a).neg (limbs (val (riOf a).mag-val (riOf b).mag)))).va=(RIN (riOf (a+b))).va:=by
 have h':¬ decide (a<0)=decide (b<0):=by simpa [riOf] using h
 rw [bx,bx,bS (bo _).1 (z:=a+b) (by rw [aG]; simp only [decide_eq_decide] at h'; omega) (fun hz=>by show decide (a<0)=_; simp only [decide_eq_decide] at h' ⊢; omega)]
theorem wg {a b:Int}(h:((riOf a).neg==(riOf b).neg)=false)(h2:a.natAbs≤b.natAbs):(RIN (rsig (riOf b).neg (limbs (val (riOf b).mag-val (riOf a).mag)))).va=(RIN (riOf (a+b))).va:=by
 have h':¬ decide (a<0)=decide (b<0):=by simpa [riOf] using h
 rw [bx,bx,bS (bo _).1 (z:=a+b) (by rw [aG]; simp only [decide_eq_decide] at h'; omega) (fun hz=>by show decide (b<0)=_; simp only [decide_eq_decide] at h' ⊢; omega)]
theorem sQ (p q:Int)(hp:lz p≤1099511627776)(hq:lz q≤1099511627776):Cn Tryz.prog 171 [Zi p,Zi q] ((RIN (riOf (p+q))).va):=by
 refine Cn.intro Tryz.func171 G zk nq (fun B w0 a U=>?_)
 have U:=zn [(0,Zi p),(1,Zi q)] [] U
 refine wp_seq<|zg [] [⟨2,25,ptrH,some 0,_,none⟩,⟨3,25,ptrH,some 1,_,none⟩,⟨4,25,ptrH,some 2,_,none⟩] [.alc 0,.alc 1,.alc 2] [] U (oc (ay G G G (gq 0 G)) (oc (ay G G G (gq 1 G)) (oc (aJ G G G (Str.zero bm)) o0))) (zz [] [O 2 25 _,O 3 25 _,O 4 25 _] fun a w U=>?_)
 refine zt<|wp_seq<|zg [none,none,none] [] [.adr 5 2 (.some 0) True,.v 6 _,.adr 7 3 (.some 0) True,.v 8 _,.v 9 _] [.o 4] U (oc (ob_a G G (ac (lz0 0 G) aU)) (zL 0 0 0 G ty_4 (oc (ob_a G G (ac (lz0 1 G) aU)) (zL 2 1 0 G ty_4 (zv G (sB zk (vq 1 G) (vq 3 G)) o0))))) (zz [(9,_)] [O 2 25 _,O 3 25 _,O 4 25 _] fun a w U=>?_)
 refine a7<|ah U (zm 0 G) (fun hb0=>?_) (fun hb0=>?_)
 ·refine wp_seq<|zgd [[],[0],[],[2],[],[4],[2,3,4,5],[0,1,2,3,4,5,6],[0,1,2,3,4,5,6,7]] [none,none,some (8,_)] [] [.adr 10 2 (.some 0) True,.v 11 _,.adr 12 2 (.some 1) True,.v 13 _,.adr 14 3 (.some 1) True,.v 15 _,.v 16 _,.v 17 _,.sto 2] [] ab U (oc (ob_a G G (ac (lz0 0 G) aU)) (zL 0 0 0 G ty_4 (oc (ob_a G G (ac (lz0 0 G) au)) (zL 2 0 1 G aW (oc (ob_a G G (ac (lz0 1 G) au)) (zL 4 1 1 G aW (zv G (aa (xs:=[.tmp 13,.tmp 15]) (add_c _ _ hp hq) (.cons (vq 3 G) (.cons (vq 5 G) .nil))) (zv G (aa (xs:=[.tmp 11,.tmp 16]) (cS _ _) (.cons (vq 1 G) (.cons (vq 6 G) .nil))) (oc (aA G G G (vq 7 G) al (Eq.trans (b:=2) G G)) o0))))))))) zk zk zk zk (zz [] [O 2 25 _,O 3 25 _,O 4 25 _] fun a w U=>?_)
  refine a7<|wp_ret<|ap ?_
  refine aB ?_ (az G U (zm 2 G) al)
  exact wi hb0
 ·refine wp_skip<|zt<|wp_seq<|zg [none,none,none] [] [.adr 18 2 (.some 1) True,.v 19 _,.adr 20 3 (.some 1) True,.v 21 _,.v 22 _,.v 23 _] [.o 5] U (oc (ob_a G G (ac (lz0 0 G) au)) (zL 0 0 1 G aW (oc (ob_a G G (ac (lz0 1 G) au)) (zL 2 1 1 G aW (zv G (aa (xs:=[.tmp 19,.tmp 21]) (oN _ _) (.cons (vq 1 G) (.cons (vq 3 G) .nil))) (zv G (eK (vq 4 G) a8) o0)))))) (zz [(23,_)] [O 2 25 _,O 3 25 _,O 4 25 _] fun a w U=>?_)
  refine a7<|ah U (zm 0 G) (fun hb1=>?_) (fun hb1=>?_)
  ·refine wp_seq<|zgd [[],[0],[],[2],[],[4],[2,3,4,5],[0,1,2,3,4,5,6],[0,1,2,3,4,5,6,7]] [none,none,some (8,_)] [] [.adr 24 2 (.some 0) True,.v 25 _,.adr 26 2 (.some 1) True,.v 27 _,.adr 28 3 (.some 1) True,.v 29 _,.v 30 _,.v 31 _,.sto 2] [] ab U (oc (ob_a G G (ac (lz0 0 G) aU)) (zL 0 0 0 G ty_4 (oc (ob_a G G (ac (lz0 0 G) au)) (zL 2 0 1 G aW (oc (ob_a G G (ac (lz0 1 G) au)) (zL 4 1 1 G aW (zv G (aa (xs:=[.tmp 27,.tmp 29]) (vB _ _ hp (cf (gM hb1)) (by show val (limbs _)≤val (limbs _); rw [aG,aG]; exact gM hb1)) (.cons (vq 3 G) (.cons (vq 5 G) .nil))) (zv G (aa (xs:=[.tmp 25,.tmp 30]) (cS _ _) (.cons (vq 1 G) (.cons (vq 6 G) .nil))) (oc (aA G G G (vq 7 G) al (Eq.trans (b:=2) G G)) o0))))))))) zk zk zk zk (zz [] [O 2 25 _,O 3 25 _,O 4 25 _] fun a w U=>?_)
   refine a7<|wp_ret<|ap ?_
   refine aB ?_ (az G U (zm 2 G) al)
   exact wh hb0 (gM hb1)
  ·refine wp_skip<|zt<|zgd [[],[0],[],[2],[],[4],[2,3,4,5],[0,1,2,3,4,5,6],[0,1,2,3,4,5,6,7]] [none,none,some (8,_)] [] [.adr 32 3 (.some 0) True,.v 33 _,.adr 34 3 (.some 1) True,.v 35 _,.adr 36 2 (.some 1) True,.v 37 _,.v 38 _,.v 39 _,.sto 2] [] ab U (oc (ob_a G G (ac (lz0 1 G) aU)) (zL 0 1 0 G ty_4 (oc (ob_a G G (ac (lz0 1 G) au)) (zL 2 1 1 G aW (oc (ob_a G G (ac (lz0 0 G) au)) (zL 4 0 1 G aW (zv G (aa (xs:=[.tmp 35,.tmp 37]) (vB _ _ hq (cf (gL hb1)) (by show val (limbs _)≤val (limbs _); rw [aG,aG]; exact gL hb1)) (.cons (vq 3 G) (.cons (vq 5 G) .nil))) (zv G (aa (xs:=[.tmp 33,.tmp 38]) (cS _ _) (.cons (vq 1 G) (.cons (vq 6 G) .nil))) (oc (aA G G G (vq 7 G) al (Eq.trans (b:=2) G G)) o0))))))))) zk zk zk zk (zz [] [O 2 25 _,O 3 25 _,O 4 25 _] fun a w U=>?_)
   refine a7<|wp_ret<|aB ?_ (az G U (zm 2 G) al)
   exact wg hb0 (gL hb1)
theorem wz (p q:Int)(hp:lz p≤1099511627776)(hq:lz q≤1099511627776):Cn Tryz.prog 112 [Zi p,Zi q] ((RIN (riOf (p-q))).va):=by
 refine Cn.intro Tryz.func112 G zk nq (fun B w0 a U=>?_)
 have U:=zn [(0,Zi p),(1,Zi q)] [] U
 refine wp_seq<|zg [] [⟨2,25,ptrH,some 0,_,none⟩,⟨3,25,ptrH,some 1,_,none⟩,⟨4,25,ptrH,some 2,_,none⟩] [.alc 0,.alc 1,.alc 2] [] U (oc (ay G G G (gq 0 G)) (oc (ay G G G (gq 1 G)) (oc (aJ G G G (Str.zero bm)) o0))) (zz [] [O 2 25 _,O 3 25 _,O 4 25 _] fun a w U=>?_)
 refine zt<|zg [none,none,some (14,_)] [] [.v 5 _,.adr 6 3 (.some 0) True,.v 7 _,.v 8 _,.v 9 _,.adr 10 3 (.some 1) (_=true),.v 11 (Wh (_=true) _),.v 12 (Wh (_=true) _),.v 13 (Wh (_=true) _),.v 14 _,.adr 15 3 (.some 1) True,.v 16 _,.v 17 _,.v 18 _,.sto 2] [] U (zl 0 G al (oc (ob_a G G (ac (lz0 1 G) aU)) (zL 1 1 0 G ty_4 (zv G (dS (vq 2 G)) (zv G (ae (vq 3 G)) (oc (bM G G G (vq 4 G) nq (fun hg=>ac (lz0 1 G) au)) (oc (an G G G (vq 4 G) nq (fun hg=>aD 5 G zk hg (lz0 1 G) (Sub.part 1 G G) aW)) (oc (an G G G (vq 4 G) nq (fun hg=>aI Tryz.underlying23 (ai (vq 6 G) hg))) (oc (an G G G (vq 4 G) nq (fun hg=>dJ (ai (vq 7 G) hg) a8)) (zv G (bJ (vq 4 G) (vq 8 G)) (oc (ob_a G G (ac (lz0 1 G) au)) (zL 10 1 1 G aW (zv G (bi (xs:=[(0,.tmp 14),(1,.tmp 16)]) (qs:=[(0,_),(1,_)]) bm (.cons ⟨rfl,(vq 9 G),rfl⟩ (.cons ⟨rfl,(vq 11 G),rfl⟩ .nil))) (zv G (aa (xs:=[.tmp 5,.tmp 17]) ((sQ p (-q) hp (by rw [j3]; exact hq)).pre (congrArg (fun A=>[Zi p,A]) tr)) (.cons (vq 0 G) (.cons (vq 12 G) .nil))) (oc (aA G G G (vq 13 G) al (Eq.trans (b:=2) G G)) o0))))))))))))))) (zz [] [O 2 25 _,O 3 25 _,O 4 25 _] fun a w U=>?_)
 refine a7<|wp_ret<|aB ?_ (az G U (zm 2 G) al)
 exact congrArg (fun z=>(RIN (riOf z)).va) Int.sub_eq_add_neg.symm
theorem ofD_e2 {n:Int}(h0 : -9223372036854775808≤n)(h1:n<9223372036854775808):(RIN (rsig (decide (n<0)) [n.natAbs%4294967296,n.natAbs/4294967296])).va=(RIN (riOf n)).va:=by
 rw [bS (te h0 h1) (z:=n) (by simp [val]; omega) (fun _=>rfl)]
theorem ofD_c (n:Int)(h0 : -9223372036854775808≤n)(h1:n<9223372036854775808):Cn Tryz.prog 113 [In n] ((RIN (riOf n)).va):=by
 refine Cn.intro Tryz.func113 G zk nq (fun B w0 a U=>?_)
 have U:=zn [(0,In n)] [] U
 refine wp_seq<|zg [] [⟨2,25,ptrH,some 0,_,none⟩] [.alc 0] [.g 0] U (oc (aJ G G G (Str.zero (co famN))) o0) (zz [(0,_)] [O 2 25 _] fun a w U=>?_)
 refine zt<|zg [none] [] [.v 4 _,.v 5 _,.v 3 _] [.g 0,.o 2] U (zM 0 G (zv G (aE .u64 zk zk (vq 0 G) (G)) (zA 1 G o0))) (zz [(0,_),(3,_)] [O 2 25 _] fun a w U=>?_)
 refine zt<|wp_seq<|zg [none] [] [.v 6 _,.v 7 _] [.g 0,.g 1,.o 1] U (zM 0 G (zv G (aN (vq 0 G) a8) o0)) (zz [(0,_),(3,_),(7,_)] [O 2 25 _] fun a w U=>?_)
 refine a7<|bO (fun a w =>  St B w0 19 [(0,In n),(3,(NumA .u64 (n.natAbs:Nat)).va)] [⟨2,25,ptrH,cat [BoA false,MgN []]⟩] a w) U (zm 2 G) (fun hb0=>?_) (fun hb0=>?_) (fun a w U=>?_)
 ·refine zg [none] [] [.v 8 _,.v 9 _,.v 3 _] [.g 0,.o 2] U (zM 1 G (zv G (qu (vq 0 G) (G)) (zA 1 G o0))) (zz [(0,_),(3,_)] [O 2 25 _] fun a w U=>?_)
  refine a7 ?_
  have U:=St.sel U [0,1]
  rw [B7 h0 hb0] at U; exact U
 ·refine wp_skip<|a7 ?_
  have U:=St.sel U [0,1]
  rw [B6 h1 hb0] at U; exact U
 refine zt<|zg [some (9,_)] [] [.v 10 _,.v 11 _,.v 12 _,.v 13 _,.v 14 _,.v 15 _,.v 16 _,.v 17 _,.v 18 _,.sto 0] [] U (zM 0 G (zv G (aN (vq 0 G) a8) (zM 1 G (zv G (aE .u32 zk zk (vq 2 G) (wu32')) (zM 1 G (zv G (gH (vq 4 G) (aF 32 G) zd (nshr)) (zv G (aE .u32 zk zk (vq 5 G) (wu32 (by show n.natAbs/4294967296<_; omega))) (zv G (mp (l:=[_,_]) (xs:=[.tmp 13,.tmp 16]) aZ zk nq nq (te h0 h1) (.cons (vq 3 G) (.cons (vq 6 G) .nil)) G G) (zv G (aa (xs:=[.tmp 11,.tmp 17]) (cS _ _) (.cons (vq 1 G) (.cons (vq 7 G) .nil))) (oc (aA G G G (vq 8 G) al (Eq.trans (b:=2) G G)) o0)))))))))) (zz [] [O 2 25 _] fun a w U=>?_)
 refine a7<|wp_ret<|aB ?_ (az G U (zm 0 G) al)
 exact ofD_e2 h0 h1
theorem rA (p:Int)(hp:lz p≤1099511627776):Cn Tryz.prog 174 [Zi p] ((RIN (riOf (-p))).va):=by
 refine Cn.intro Tryz.func174 G zk nq (fun B w0 a U=>?_)
 have U:=zn [(0,Zi p)] [] U
 refine wp_seq<|zg [] [⟨1,25,ptrH,some 0,_,none⟩,⟨2,25,ptrH,some 1,_,none⟩] [.alc 0,.alc 1] [] U (oc (ay G G G (gq 0 G)) (oc (aJ G G G (Str.zero bm)) o0)) (zz [] [O 1 25 _,O 2 25 _] fun a w U=>?_)
 refine zt<|zgd [[],[],[0,1],[0,1,2]] [none,some (3,_)] [] [.v 3 _,.v 4 _,.v 5 _,.sto 1] [] ab U (zv G (aa (xs:=[.const (.int .i64 (0))]) (of_c 0 zd zd) (.cons a8 .nil)) (zl 0 G al (zv G (aa (xs:=[.tmp 3,.tmp 4]) (wz 0 p (by simp [lz,bt]) hp) (.cons (vq 0 G) (.cons (vq 1 G) .nil))) (oc (aA G G G (vq 2 G) al (Eq.trans (b:=2) G G)) o0)))) zk zk zk zk (zz [] [O 1 25 _,O 2 25 _] fun a w U=>?_)
 refine a7<|wp_ret<|aB ?_ (az G U (zm 1 G) al)
 exact congrArg (fun z=>(RIN (riOf z)).va) (Int.zero_sub p)
theorem r8 : ∃ fn, Tryz.prog.funcs[174]? = some fn ∧ (fn.name == "runtime.NumGoroutine") = false ∧ fn.body.isNone = false := ⟨_, Tryz.func174, by kernel_rfl, by kernel_rfl⟩
section
variable {a b:Nat} {p q:Int} (ha:a≤549755813888)
include ha
theorem lU:Cn Tryz.prog 174 [Zs a p] (ZN a (-p)).va:=zs1 r8 fun h=>(rA p zo).wkp (qh (by rw [j3]; exact h))
variable (hb:b≤549755813888)
include hb
theorem vw:Cn Tryz.prog 105 [Zs a p,Zs b q] (ZN (a+b) (p*q)).va:=zs2 pJ fun h h'=>(rI (riOf p) (riOf q) (by rw [dY]; omega) (by rw [dY]; omega)).wkp (br (bc (congrArg (fun x=>(RIN x).va) (oJ p q))) (qh (by have:=tA p q; omega)))
theorem nK:Cn Tryz.prog 171 [Zs a p,Zs b q] (ZN (max a b+1) (p+q)).va:=zs2 C9 fun h h'=>(sQ p q zo zo).wkp (qh (by have:=tC p q; omega))
omit hb in
theorem mU (hq:q≠0):Cn Tryz.prog 173 [Zs a p,Zs b q] (Tu [(ZN a (p.tdiv q)).va,(ZN b (p.tmod q)).va]):=zs2 mT fun h h'=>(ji p q hq zo).wkp (vp (.cons (qh (by have:=nP p q; omega)) (.cons (qh (by have:=wF (p:=p) hq; omega)) .nil)))
end
theorem of_zn {n:Int}(h0 : -9223372036854775808≤n)(h1:n<9223372036854775808):Cn Tryz.prog 113 [In n] (ZN 2 n).va:=(ofD_c n h0 h1).wkp (qh (qH zo))
def QD (k:Nat)(q:Rat):As:=DisA (cat [ZN k q.num,ZN k (q.den:Int)])
theorem pg {k:Nat}{q:Rat}:NewA (QD k q):=lF (dV fun A hA=>by
 simp at hA
 rcases hA with rfl | rfl <;> exact dM)
theorem yn {k:Nat}{q:Rat}:NodA (QD k q):=jj
theorem uh {k:Nat}{q:Rat}:FreeA (QD k q) (QD k q):=iA (ci (.cons dX (.cons dX .nil)))
theorem qd_qa {k:Nat}{q:Rat}:WkA (QD k q) (QA k q):=dis_wk.trans (bz (.cons zb (.cons zb .nil)))
theorem fv {A A':As}(h:WkA A A'):WkA (DisA A) (DisA A'):=⟨h.1,h.2.1,fun B cs w hp=>⟨h.2.2 B cs w hp.1,hp.2⟩⟩
theorem sJ {k k':Nat}{q:Rat}(h:k≤k'):WkA (QD k q) (QD k' q):=fv (bz (.cons (kr h) (.cons (kr h) .nil)))
theorem wj {v:Value}{A A':As}(h:WkA A A'):WkA (PinA v A) (PinA v A'):=⟨h.1,h.2.1,fun B cs w hp=>⟨h.2.2 B cs w hp.1,by rw [h.2.1]; exact hp.2⟩⟩
theorem xJ {A:As}{c:Prop}{u:Value}:WkA (A.and c) (A.and (SepAll [] u)):=⟨rfl,rfl,fun _ _ _ hp=>⟨(fun _ h=>by cases h),hp.2⟩⟩
theorem pz_za {v:Value}{k:Nat}{z:Int}{c:Prop}:WkA (PinA v ((ZN k z).and c)) (ZA k z):=pin_wk.trans (and_wk.trans zb)
theorem nf_zn {a b:Nat}{p q:Int}:∀ A∈[ZN a p,ZN b q],NewA A∧FreeA A A:=fun A hA=>by
 simp at hA
 rcases hA with rfl | rfl <;> exact ⟨dM,dX⟩
end Go.Proofs.YtmacliockgbdcaaGreatDoor
