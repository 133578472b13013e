import Derived.Test.YtedfcalhhldijaaGreatDoorRwAf
import Derived.ProofKit
import Derived.OpenShut
import Derived.ChangeOld
import Derived.Below
import Derived.Laws.AppendOwn
import Derived.Laws.OwnMore
set_option linter.all false
set_option maxRecDepth 100000
namespace Go.Proofs.YtedfcalhhldijaaGreatDoor
open Go Go.RowKit
variable {w:World}{B:Nat}{a:Act}{v:Value}{T:TypeId}{w0:Bs}{Γ:List (Nat × VA)}{Λ:List Lc}{ps:String}{af:Array Edge}{vr:Value}{H:Hd}{cs:List Value}{w':World}{P:Program}{D:List TypeId}
open Go.ChangeShapes Go.WideShapes Go.ChangeAt
theorem yP {B:Nat}{w:World}:∀ {l:List As} {cs:List Value},cs.length=(l.map (·.n)).sum→(∀ (k:Nat) (A:As),l[k]?=some A→A.p B ((cs.drop (offs l k)).take A.n) w)→(cat l).p B cs w
 | [],cs,hl,_=>by
  have:cs=[]:=kC.1 (by simpa using hl)
  subst this
  exact ⟨[],rfl,.nil⟩
 | A::l,cs,hl,h=>by
  simp only [qN,z4] at hl
  have h0:=h 0 A rfl
  simp only [offs,jQ,x7,List.sum_nil,z9] at h0
  obtain ⟨ps,e,hps⟩:=yP (l:=l) (cs:=cs.drop A.n) (B:=B) (w:=w) (by simp; omega) λ k A' hk=>by
   have:=h (k+1) A' (by simpa using hk)
   simp only [offs,jU,qN,z4] at this
   rw [List.drop_drop]
   exact this
  exact ⟨cs.take A.n::ps,by rw [zN,← e,xI],.cons h0 hps⟩
section
variable {H:Type} {enc:TypeId × Value→H} {w:World} {base:Nat} {spare:Nat→Bool} {held:Bool} {fuel:Nat} {cs:List Value} {x:DataW H × List MemPlace}
theorem rd_mg (h:DataW.trod enc Tryz.prog w base spare held fuel 24 cs=some x):∃ l,(MgA l).p w.heap.size cs w:=by
 rcases open_ints Tryz.underlying24 Tryz.underlying134 zk h with ⟨hcs,_⟩ | ⟨a,len,cap,zs,rfl,_,hl,hm,hz,_,hcell,hwz⟩
 ·subst hcs
  exact ⟨[],eE _ _⟩
 ·have hzl:len≤zs.length:=by rw [hz]; split <;> omega
  have hnn:∀ n∈zs,0≤n∧n<4294967296:=λ n hn=>by
   have:=hwz n hn
   simp [Lit.wf,IntKind.min,IntKind.max,IntKind.signed,IntKind.bits] at this
   omega
  have hlen:((zs.take len).map Int.toNat).length=len:=by simp; omega
  refine ⟨(zs.take len).map Int.toNat,?_⟩
  have hM:Mag w.heap.size w (some a) cap ((zs.take len).map Int.toNat):=by
   refine ⟨λ y hy=>?_,by omega,hm,λ hn=>?_⟩
   ·obtain ⟨n,hn,rfl⟩:=qq.1 hy
    have:=hnn n (xj hn)
    omega
   ·obtain ⟨b,off,rfl,hc⟩:=ints_at hcell zo
    have hb:b<w.heap.size:=World.block_lt_of_cell? w _ (hc 0 zo)
    refine ⟨b,off,rfl,hb,.inl hb,λ j hj=>?_⟩
    rw [hc j zo]
    have hjz:j<zs.length:=by omega
    have:=hnn _ (qf hjz)
    congr 2
    simp only [vm,vg]
    rw [Int.toNat_of_nonneg this.1]
    simp [List.getD_eq_getElem?_getD,List.getElem?_eq_getElem hjz]
  obtain ⟨ds,hp,hv⟩:=dL hM hlen.symm
  have hd:=(MgA ((zs.take len).map Int.toNat)).len _ _ _ hp
  match ds,hd with
  | [d],_ =>
   have:d=.slice (some a) len cap:=hv.symm
   subst this
   exact hp
theorem yM {A0 A1:As}(h0:A0.p B ((cs.drop 0).take A0.n) w)(h1:A1.p B ((cs.drop A0.n).take A1.n) w)(hl:cs.length=A0.n+A1.n):(cat [A0,A1]).p B cs w :=
 yP (by simpa using hl) λ k A hk=>by
  match k,hk with
  | 0,hk=>simp at hk; subst hk; exact h0
  | 1,hk=>simp at hk; subst hk; simpa [offs] using h1
theorem rd_bo (h:DataW.trod enc Tryz.prog w base spare held fuel 4 cs=some x):∃ b,(BoA b).p w.heap.size cs w:=by
 obtain ⟨b,hb,_⟩:=DataW.trod_bool Tryz.underlying4 h
 exact ⟨b,hb⟩
end
structure OkG (p:GQ):Prop where
 re:longQ p.re=false
 im:longQ p.im=false
 pos:0<p.im
theorem div_pos {x y:Rat}(h:0<x)(h':0<y):0<x/y:=Rat.mul_pos h (Rat.inv_pos.2 h')
def cbl (cs:List Value):List Nat:=cs.filterMap blk
def vbl (v:Value):List Nat:=cbl v.cells.toList
def Sep (u v:Value):Prop:=∀ g∈vbl u,g ∉ vbl v
def SepAll (us:List Value)(v:Value):Prop:=∀ u∈us,Sep u v
theorem tV {A:As}(h:A.p B cs w):vbl (shape A.ag cs)=cbl cs:=by
 show cbl (shape A.ag cs).cells.toList=_
 rw [A.cells_shape h]
def PinA (v:Value)(A:As):As where
 n:=A.n
 ag:=A.ag
 p B cs w:=A.p B cs w∧shape A.ag cs=v
 deps:=A.deps
 len:=λ B cs w h=>A.len B cs w h.1
 one:=λ B cs w h=>A.one B cs w h.1
 ag1:=A.ag1
 cg:=λ B cs w w' hg h=>⟨A.cg B cs w w' hg h.1,h.2⟩
 wr:=λ B cs w w' g c T fz h1 h2 h3 h4 h=>⟨A.wr B cs w w' g c T fz h1 h2 h3 h4 h.1,h.2⟩
theorem E2 {A:As}{c:Prop}:WkA (A.and c) A:=⟨rfl,rfl,λ _ _ _ h=>h.2⟩
def NewA (A:As):Prop:=∀ B cs w,A.p B cs w→∀ g∈cbl cs,B≤g∧g<w.heap.size
def NodA (A:As):Prop:=∀ B cs w,A.p B cs w→(cbl cs).Nodup
def DisA (A:As):As where
 n:=A.n
 ag:=A.ag
 p B cs w:=A.p B cs w∧(cbl cs).Nodup
 deps:=A.deps
 len:=λ B cs w h=>A.len B cs w h.1
 one:=λ B cs w h=>A.one B cs w h.1
 ag1:=A.ag1
 cg:=λ B cs w w' hg h=>⟨A.cg B cs w w' hg h.1,h.2⟩
 wr:=λ B cs w w' g c T fz h1 h2 h3 h4 h=>⟨A.wr B cs w w' g c T fz h1 h2 h3 h4 h.1,h.2⟩
theorem dis_wk {A:As}:WkA (DisA A) A:=⟨rfl,rfl,λ _ _ _ h=>h.1⟩
theorem GT {A:As}:NodA (DisA A):=λ _ _ _ h=>h.2
theorem GU {A:As}(h:NewA A):NewA (DisA A):=λ B cs w hp=>h B cs w hp.1
theorem nk {A:As}(h:FreeA A A):FreeA (DisA A) (DisA A):=⟨rfl,rfl,λ B B' cs w hB hp=>⟨h.2.2 B B' cs w hB hp.1,hp.2⟩⟩
theorem li {a b:List Value}:cbl (a++b)=cbl a++cbl b:=kI ..
theorem rQ {B:Nat}{w:World}:∀ {l:List As} {ps:List (List Value)},(∀ A∈l,NewA A)→All2 (λ (A:As) c=>A.p B c w) l ps→∀ g∈cbl ps.flatten,B≤g∧g<w.heap.size
 | [],_,_,h,g,hg=>by cases h; cases hg
 | A::l,_,hn,h,g,hg=>by
  cases h with
  | cons h1 h2 =>
   rw [zN,li,qo] at hg
   rcases hg with hg | hg
   ·exact hn A (by simp) _ _ _ h1 g hg
   ·exact rQ (λ A' hA=>hn A' (by simp [hA])) h2 g hg
theorem wq {l:List As}(h:∀ A∈l,NewA A):NewA (cat l):=λ B cs w ⟨ps,e,hp⟩=>by
 subst e
 exact rQ h hp
def pins:List Value→List (Value × As)→List As
 | _,[]=>[]
 | us,(v,A)::l=>PinA v (A.and (SepAll us v))::pins (us++[v]) l
theorem vR:∀ {l:List (Value × As)} {us:List Value} {B:Nat} {w:World} {ps:List (List Value)},(∀ x∈l,NodA x.2)→All2 (λ (A:As) c=>A.p B c w) (pins us l) ps →
  All2 (λ (A:As) c=>A.p B c w) (l.map (·.2)) ps∧(cbl ps.flatten).Nodup∧∀ u∈us,∀ g∈vbl u,g ∉ cbl ps.flatten
 | [],us,B,w,ps,_,h=>by
  cases h
  exact ⟨.nil,jn,λ _ _ _ _ h=>by cases h⟩
 | (v,A)::l,us,B,w,ps,hn,h=>by
  cases h with
  | @cons _ c _ cs h1 h2 =>
   obtain ⟨q1,q2,q3⟩:=vR (λ x hx=>hn x (by simp [hx])) h2
   obtain ⟨⟨hsep,hA⟩,hv⟩:=h1
   have hvb:vbl v=cbl c:=by
    have hv':shape A.ag c=v:=hv
    rw [← hv']; exact tV hA
   refine ⟨.cons hA q1,?_,λ u hu g hg hm=>?_⟩
   ·rw [zN,li]
    refine jA.2 ⟨hn (v,A) (by simp) _ _ _ hA,q2,λ x hx y hy e=>?_⟩
    subst e
    exact q3 v (by simp) x (by rw [hvb]; exact hx) hy
   ·rw [zN,li,qo] at hm
    rcases hm with hm | hm
    ·exact hsep u hu g hg (by rw [hvb]; exact hm)
    ·exact q3 u (by simp [hu]) g hg hm
theorem so {l:List (Value × As)}(hn:∀ x∈l,NodA x.2):WkA (cat (pins [] l)) (DisA (cat (l.map (·.2)))):=by
 have hlen:∀ (us:List Value) (l:List (Value × As)),((pins us l).map (·.n)).sum=((l.map (·.2)).map (·.n)).sum:=by
  intro us l
  induction l generalizing us with
  | nil=>rfl
  | cons x l ih=>obtain ⟨v,A⟩:=x; simp only [pins,qN,z4,ih]; rfl
 refine ⟨(hlen [] l).symm,rfl,λ B cs w ⟨ps,e,hp⟩=>?_⟩
 obtain ⟨q1,q2,_⟩:=vR hn hp
 subst e
 exact ⟨⟨ps,rfl,q1⟩,q2⟩
namespace Rg
structure LeF where
 s:Nat
 T:TypeId
 H:Hd
 cr:Option Nat
 A0:As
 st:Option (Nat × ((Nat→Value)→As))
def LeF.on (ν:Nat→Value)(e:LeF):Le:=⟨e.s,e.T,e.H,e.cr,e.A0,match e.st with | none=>none | some (j,f)=>some (j,f ν)⟩
abbrev fam (ops:Array Oper)(N:Nat)(Γ:List (Nat × VA))(les:List LeF)(sp:List ((Nat→Value)→Sp))(anc:Nat→List Nat)(ν:Nat→Value):Rg:=⟨ops,N,Γ,les.map (LeF.on ν),sp.map (λ f=>f ν),anc⟩
def Dep {α:Type}(S:Nat→Bool)(f:(Nat→Value)→α):Prop:=∀ ν ν',(∀ k,S k=true→ν k=ν' k)→f ν=f ν'
def bef (anc:Nat→List Nat)(i k:Nat):Bool:=k==i || (anc i).contains k
def nuSet (ν:Nat→Value)(i:Nat)(v:Value):Nat→Value:=λ k=>if k=i then v else ν k
theorem wn {ν:Nat→Value}{i:Nat}:nuSet ν i v i=v:=qz rfl
theorem nu_ne {ν:Nat→Value}{i k:Nat}(h:k≠i):nuSet ν i v k=ν k:=qw h
section
variable {ops:Array Oper} {N:Nat} {Γ:List (Nat × VA)} {les:List LeF} {sp:List ((Nat→Value)→Sp)} {anc:Nat→List Nat} {ν ν':Nat→Value} {B:Nat} {w0:Bs} {L:Nat→Bool} {a:Act} {w:World} {P:Program} {Q:Exit→Act→World→Prop} {i:Nat}
theorem oB {deps:List TypeId}:clash (fam ops N Γ les sp anc ν) L deps=clash (fam ops N Γ les sp anc ν') L deps:=by
 unfold clash
 show (les.map (LeF.on ν)).any _=(les.map (LeF.on ν')).any _
 rw [List.any_map,List.any_map]
 congr 1
 funext e
 obtain ⟨s,T,H,cr,A0,st⟩:=e
 cases st with
 | none=>rfl
 | some x=>rfl
theorem pO (hdL:∀ e∈les,∀ j f,e.st=some (j,f)→Dep (bef anc j) f)(hc:Closed (fam ops N Γ les sp anc ν) L)(hn:∀ k,L k=true→ν k=ν' k){e:LeF}(he:e∈les):cur L (e.on ν)=cur L (e.on ν'):=by
 obtain ⟨s,T,H,cr,A0,st⟩:=e
 cases st with
 | none=>rfl
 | some x =>
  obtain ⟨j,f⟩:=x
  show (if crOk L cr=true then some (if L j=true then f ν else A0) else none)=(if crOk L cr=true then some (if L j=true then f ν' else A0) else none)
  cases hj:L j with
  | false=>rfl
  | true =>
   have:f ν=f ν':=hdL _ he j f rfl ν ν' λ k hk=>hn k (by
    simp only [bef,zw,xc] at hk
    rcases hk with rfl | hk
    ·exact hj
    ·exact hc j hj k hk)
   rw [this]
theorem D1 (hdS:∀ i f,sp[i]?=some f→Dep (bef anc i) f)(hc:Closed (fam ops N Γ les sp anc ν) L)(hn:∀ k,L k=true→ν k=ν' k){j:Nat}(hj:L j=true):(sp.map λ f=>f ν')[j]?=(sp.map λ f=>f ν)[j]?:=by
 rw [List.getElem?_map,List.getElem?_map]
 cases hs:sp[j]? with
 | none=>rfl
 | some f =>
  have:f ν=f ν':=hdS j f hs ν ν' λ k hk=>hn k (by
   simp only [bef,zw,xc] at hk
   rcases hk with rfl | hk
   ·exact hj
   ·exact hc j hj k hk)
  show some (f ν')=some (f ν)
  rw [this]
theorem Inv.nu (hdS:∀ i f,sp[i]?=some f→Dep (bef anc i) f)(hdL:∀ e∈les,∀ j f,e.st=some (j,f)→Dep (bef anc j) f)(hc:Closed (fam ops N Γ les sp anc ν) L)(hn:∀ k,L k=true→ν k=ν' k)(h:(fam ops N Γ les sp anc ν).Inv B w0 L a w):(fam ops N Γ les sp anc ν').Inv B w0 L a w:=by
 refine ⟨h.lo,h.defers,h.size,h.base,λ x hx h1 h2=>h.g x hx h1 (by rw [oB (ν':=ν')]; exact h2),λ i y d A hs hv hL h2=>?_,λ i d b k c hs hL hc'=>?_,λ e he A hA=>?_,λ e he f hf hne h1 h2=>?_⟩
 ·exact h.v i y d A (by rw [← hs]; exact (D1 hdS hc hn hL).symm) hv hL (by rw [oB (ν':=ν')]; exact h2)
 ·exact h.d i d b k c (by rw [← hs]; exact (D1 hdS hc hn hL).symm) hL hc'
 ·obtain ⟨e0,he0,rfl⟩:=qq.1 he
  exact h.c (e0.on ν) (qq.2 ⟨e0,he0,rfl⟩) A (by rw [pO hdL hc hn he0]; exact hA)
 ·obtain ⟨e0,he0,rfl⟩:=qq.1 he
  obtain ⟨f0,hf0,rfl⟩:=qq.1 hf
  exact h.x (e0.on ν) (qq.2 ⟨e0,he0,rfl⟩) (f0.on ν) (qq.2 ⟨f0,hf0,rfl⟩) hne (by rw [pO hdL hc hn he0]; exact h1) (by rw [pO hdL hc hn hf0]; exact h2)
def ObF (P:Program)(Q:Exit→Act→World→Prop)(ops:Array Oper)(N:Nat)(Γ:List (Nat × VA))(les:List LeF)(sp:List ((Nat→Value)→Sp))(anc:Nat→List Nat)(B:Nat)(w0:Bs)(i:Nat):Prop :=
 (∀ ν,(fam ops N Γ les sp anc ν).Ob P Q B w0 i)∨∃ (d:Nat) (A:(Nat→Value)→VA),sp[i]?=some (λ ν=>.v d (A ν))∧∀ ν a w,(fam ops N Γ les sp anc ν).Av B w0 i a w→∀ K:Act→World→Prop,(∀ v w',Grow w w'→(A (nuSet ν i v)).p B v w'→K (a.put (some d) v) w')→wpOp P ops Q i K a w
theorem stepV (hk:∀ ν,chk (fam ops N Γ les sp anc ν)=true)(hdS:∀ i f,sp[i]?=some f→Dep (bef anc i) f)(hdL:∀ e∈les,∀ j f,e.st=some (j,f)→Dep (bef anc j) f)(hob:ObF P Q ops N Γ les sp anc B w0 i)(h:(fam ops N Γ les sp anc ν).Inv B w0 L a w)(hc:Closed (fam ops N Γ les sp anc ν) L)(hL:L i=false)(ha:∀ j,(anc i).contains j=true→L j=true)(K:Act→World→Prop)
  (hK:∀ ν' a' w',(fam ops N Γ les sp anc ν').Inv B w0 (upd L i) a' w'→K a' w'):wpOp P ops Q i K a w:=by
 rcases hob with hob | ⟨d,A,hs,hob⟩
 ·exact step (hk ν) (hob ν) h hc hL ha K λ a' w' hi=>hK ν a' w' hi
 ·refine hob ν a w (h.av hc hL ha) K λ v w' hg hA=>hK (nuSet ν i v) _ _ ?_
  have hi':=h.nu (ν':=nuSet ν i v) hdS hdL hc λ k hk=>(nu_ne (λ e=>by rw [e,hL] at hk; cases hk)).symm
  have hs':(fam ops N Γ les sp anc (nuSet ν i v)).sp[i]?=some (.v d (A (nuSet ν i v))):=by
   show (sp.map _)[i]?=_
   rw [List.getElem?_map,hs]; rfl
  have hop:=(eL (hk (nuSet ν i v)) (chk_lt (hk _) hs')).1
  simp only [hs',ql,xc,qH] at hop
  exact hi'.put (hk _) hc hL hs' hop.1 hop.2 ⟨(λ e he=>by cases he),rfl⟩ hg
   (λ d' A' he=>by simp only [Sp.vl,Option.some.injEq,Prod.mk.injEq] at he; obtain ⟨rfl,rfl⟩:=he; exact ⟨rfl,hA⟩) (λ d' b k c he=>by cases he)
theorem drawV {id:Nat}(hm:P.follows .mixedOrders=true)(hanc:ancOk (fam ops N Γ les sp anc (λ _=>undef))=true)(hk:∀ ν,chk (fam ops N Γ les sp anc ν)=true)(hdS:∀ i f,sp[i]?=some f→Dep (bef anc i) f)(hdL:∀ e∈les,∀ j f,e.st=some (j,f)→Dep (bef anc j) f)(ν0:Nat→Value)(h:St B w0 N Γ Λ a w)(hles:∀ e∈(fam ops N Γ les sp anc ν0).les,e.cr=none→(⟨e.s,e.T,e.H,e.A0⟩:Lc)∈Λ)
  (hob:∀ i,i<ops.size→ObF P Q ops N Γ les sp anc B w0 i) (hQ:∀ ν a' w',Fin (fam ops N Γ les sp anc ν) B w0 a' w'→Q .normal a' w'):(Code.region id ops true).wp P Q a w:=by
 refine wp_region_any hm ?_
 have ho:∀ i,i<ops.size→∃ o,ops[i]?=some o∧(∀ j,(anc i).contains j=true→∃ e∈o.after,Region.binds .any e=true∧(e.on=j∨(anc e.on).contains j=true)) ∧
   ∀ e∈o.after,Region.binds .any e=true→e.on<i:=by
  intro i hi
  have:=qd.1 hanc i (by simpa using hi)
  cases hoi:ops[i]? with
  | none=>rw [hoi] at this; cases this
  | some o =>
   rw [hoi] at this
   simp only [ql] at this
   refine ⟨o,rfl,λ j hj=>?_,λ e he hb=>?_⟩
   ·have hh:=qd.1 this.1 j (by simpa using hj)
    obtain ⟨e,he,h1⟩:=ju.1 hh
    simp only [ql,zw,xc] at h1
    exact ⟨e,he,h1.1,h1.2⟩
   ·have hh:=zH.1 this.2 e he
    simpa [hb] using hh
 have hrd:∀ (listed:Array Bool) i,i∈Region.ready .any ops listed→i<ops.size∧listed.getD i true=false∧∀ o,ops[i]?=some o→∀ e∈o.after,Region.binds .any e=true→listed.getD e.on false=true:=by
  intro listed i hi
  unfold Region.ready at hi
  obtain ⟨h1,h2⟩:=zE.1 hi
  simp only [ql,qv] at h2
  refine ⟨by simpa using h1,h2.1,λ o hoi e he hb=>?_⟩
  have h3:=h2.2
  rw [hoi] at h3
  simp only [qL,xf] at h3
  have:=zH.1 h3 e he
  simpa [hb] using this
 have key:∀ fuel (listed:Array Bool) ν a w,listed.size=ops.size→(List.range ops.size).countP (λ i => !listed.getD i false)≤fuel→Closed (fam ops N Γ les sp anc (λ _=>undef)) (λ i=>listed.getD i false) →
   (fam ops N Γ les sp anc ν).Inv B w0 (λ i=>listed.getD i false) a w→wpAny P .any ops Q fuel listed a w:=by
  intro fuel
  have hend:∀ (listed:Array Bool) ν a w,listed.size=ops.size→Region.ready .any ops listed=[]→(fam ops N Γ les sp anc ν).Inv B w0 (λ i=>listed.getD i false) a w→Q .normal a w:=by
   intro listed ν a w hsz hr hi
   refine hQ ν a w ⟨hi.congr λ k=>?_⟩
   by_cases hkn:k<ops.size
   ·have:∀ k,k<ops.size→listed.getD k false=true:=by
     intro k
     induction k using Nat.strongRecOn with
     | _ k ih =>
      intro hkn
      cases hl:listed.getD k false with
      | true=>rfl
      | false =>
       exfalso
       obtain ⟨o,ho1,_,ho3⟩:=ho k hkn
       have:k∈Region.ready .any ops listed:=by
        unfold Region.ready
        refine zE.2 ⟨by simpa using hkn,?_⟩
        have h0:listed.getD k true=false:=by
         simp only [Array.getD,hsz,hkn,dite_true] at hl ⊢
         exact hl
        rw [h0,ho1]
        simp only [jq,jX,qL,xf]
        refine zH.2 λ e he=>?_
        cases hb:Region.binds .any e with
        | false=>rfl
        | true=>simpa using ih e.on (ho3 e he hb) (ze (ho3 e he hb) hkn)
       rw [hr] at this
       cases this
    simp [hkn,this k hkn]
   ·have:listed.getD k false=false:=by simp [Array.getD,hsz,hkn]
    simp [hkn,this]
  induction fuel with
  | zero =>
   intro listed ν a w hsz hcnt hcl hi
   have hr:Region.ready .any ops listed=[]:=by
    cases hrr:Region.ready .any ops listed with
    | nil=>rfl
    | cons i rest =>
     exfalso
     obtain ⟨h1,h2,_⟩:=hrd listed i (by rw [hrr]; simp)
     have:0<(List.range ops.size).countP (λ i => !listed.getD i false):=by
      refine jj.2 ⟨i,by simpa using h1,?_⟩
      simp only [Array.getD,hsz,h1,dite_true] at h2 ⊢
      simpa using h2
     omega
   exact ⟨hr,hend listed ν a w hsz hr hi⟩
  | succ fuel ih =>
   intro listed ν a w hsz hcnt hcl hi
   refine ⟨λ hr=>hend listed ν a w hsz hr hi,λ i hir=>?_⟩
   obtain ⟨h1,h2,h3⟩:=hrd listed i hir
   obtain ⟨o,ho1,ho2,_⟩:=ho i h1
   have hLi:listed.getD i false=false:=by
    simp only [Array.getD,hsz,h1,dite_true] at h2 ⊢
    exact h2
   have hanci:∀ j,(anc i).contains j=true→listed.getD j false=true:=by
    intro j hj
    obtain ⟨e,he,hb,hj'⟩:=ho2 j hj
    have hl:=h3 o ho1 e he hb
    rcases hj' with rfl | hj'
    ·exact hl
    ·exact hcl e.on hl j hj'
   have hup:∀ k,(listed.setIfInBounds i true).getD k false=upd (λ i=>listed.getD i false) i k:=by
    intro k
    unfold upd
    by_cases hki:k=i
    ·subst hki
     simp [hsz,h1]
    ·simp [hki,Array.getElem?_setIfInBounds_ne (λ e=>hki e.symm)]
   refine stepV hk hdS hdL (hob i h1) hi hcl hLi hanci _ λ ν' a' w' hi'=>ih _ ν' _ _ (by simpa using hsz) ?_ ?_ (hi'.congr hup)
   ·have:(List.range ops.size).countP (λ k => !(listed.setIfInBounds i true).getD k false)<(List.range ops.size).countP (λ k => !listed.getD k false):=by
     refine dP (x:=i) (λ x hx=>?_) (by simpa using h1) (by rw [hLi]; rfl) (by rw [hup,bP]; rfl)
     have hx':upd (λ i=>listed.getD i false) i x=false:=by
      rw [← hup]
      simpa only [qv] using hx
     rw [(d3 hx').2]
     rfl
    omega
   ·intro k hk' j hj
    have hk2:upd (λ i=>listed.getD i false) i k=true:=by rw [← hup]; exact hk'
    show (listed.setIfInBounds i true).getD j false=true
    rw [hup]
    rcases nT hk2 with rfl | h4
    ·exact cA _ (hanci j hj)
    ·exact cA _ (hcl k h4 j hj)
 refine key _ _ ν0 a _ (by simp) ?_ ?_ ?_
 ·refine qe (ja) (by simp)
 ·intro i hi
  exfalso
  simp only [Array.getD,qJ] at hi
  split at hi <;> simp at hi
 ·have hs:=start (R:=fam ops N Γ les sp anc ν0) h hles
  have hd:(fam ops N Γ les sp anc ν0).Inv B w0 (λ _=>false) a w.drew:=⟨hs.lo,hs.defers.grow (Grow.drew w) rfl,hs.size,hs.base.drew,λ x hx h1 h2=>x.2.grow _ _ _ _ (Grow.drew w) (hs.g x hx h1 h2),(λ i y d A _ _ hf=>by cases hf),(λ i d b k c _ hf=>by cases hf),
   λ e he A hA=>(hs.c e he A hA).grow (Grow.drew w),hs.x⟩
  refine Inv.congr hd λ k=>?_
  simp only [Array.getD,qJ]
  split <;> simp
end
def DepS (anc:Nat→List Nat):Nat→List ((Nat→Value)→Sp)→Prop
 | _,[]=>True
 | k,f::l=>Dep (bef anc k) f∧DepS anc (k+1) l
theorem DepS.at {anc:Nat→List Nat}:∀ {l:List ((Nat→Value)→Sp)} {k:Nat},DepS anc k l→∀ i f,l[i]?=some f→Dep (bef anc (k+i)) f
 | g::l,k,h,0,f,hf=>by
  simp at hf
  subst hf
  exact h.1
 | g::l,k,h,i+1,f,hf=>by
  have:=DepS.at h.2 i f (by simpa using hf)
  rwa [show k+1+i=k+(i+1) by omega] at this
def DepL (anc:Nat→List Nat):List LeF→Prop
 | []=>True
 | e::l=>(match e.st with | none=>True | some (j,f)=>Dep (bef anc j) f)∧DepL anc l
theorem DepL.mem {anc:Nat→List Nat}:∀ {l:List LeF},DepL anc l→∀ e∈l,∀ j f,e.st=some (j,f)→Dep (bef anc j) f
 | g::l,h,e,he,j,f,hf=>by
  rcases qt.1 he with rfl | he
  ·have h1:=h.1
   rw [hf] at h1
   exact h1
  ·exact DepL.mem h.2 e he j f hf
end Rg
open Rg in
def lesF (Λ:List Lc)(sts:List (Option (Nat × ((Nat→Value)→As))))(news:List LeF):List LeF:=(Λ.zip sts).map (λ x=>⟨x.1.s,x.1.T,x.1.H,none,x.1.A,x.2⟩)++news
open Rg in
def ObsF (P:Program)(Q:Exit→Act→World→Prop)(ops:Array Oper)(N:Nat)(Γ:List (Nat × VA))(les:List LeF)(sp:List ((Nat→Value)→Sp))(anc:Nat→List Nat)(B:Nat)(w0:Bs):Nat→Nat→Prop
 | _,0=>True
 | k,m+1=>ObF P Q ops N Γ les sp anc B w0 k∧ObsF P Q ops N Γ les sp anc B w0 (k+1) m
open Rg in
theorem ObsF.all {Q:Exit→Act→World→Prop}{ops:Array Oper}{N:Nat}{les:List LeF}{sp:List ((Nat→Value)→Sp)}{anc:Nat→List Nat}{k m:Nat}(h:ObsF P Q ops N Γ les sp anc B w0 k m):∀ j,k≤j→j<k+m→ObF P Q ops N Γ les sp anc B w0 j:=by
 induction m generalizing k with
 | zero=>intro j h1 h2; omega
 | succ m ih =>
  intro j h1 h2
  by_cases hj:j=k
  ·subst hj; exact h.1
  ·exact ih h.2 j zo zo
section
open Rg
variable {P:Program} {Q:Exit→Act→World→Prop} {B N:Nat} {w0:Bs} {Γ:List (Nat × VA)} {Λ:List Lc} {a:Act} {w:World}
theorem G5 {sts:List (Option (Nat × ((Nat→Value)→As)))}{news:List LeF}{ν:Nat→Value}(hn:news.all (λ e=>e.cr.isSome)=true):∀ e∈(lesF Λ sts news).map (LeF.on ν),e.cr=none→(⟨e.s,e.T,e.H,e.A0⟩:Lc)∈Λ:=by
 intro e he hcr
 obtain ⟨e0,he0,rfl⟩:=qq.1 he
 unfold lesF at he0
 rcases qo.1 he0 with he | he
 ·obtain ⟨x,hx,rfl⟩:=qq.1 he
  exact (List.of_mem_zip hx).1
 ·have:=qd.1 hn e0 he
  have h2:e0.cr=none:=hcr
  rw [h2] at this
  cases this
theorem go_drawV' {id:Nat}{ops:Array Oper}{sts:List (Option (Nat × ((Nat→Value)→As)))}{news:List LeF}{sp:List ((Nat→Value)→Sp)}(anc:List (List Nat))(src:List Src)(hm:P.follows .mixedOrders=true)(h:St B w0 N Γ Λ a w)
  (hob:ObsF P Q ops N Γ (lesF Λ sts news) sp (λ i=>anc.getD i []) B w0 0 ops.size) (hdS:DepS (λ i=>anc.getD i []) 0 sp) (hdL:DepL (λ i=>anc.getD i []) (lesF Λ sts news))
  (hn:news.all (λ e=>e.cr.isSome)=true) (hanc:Rg.ancOk (fam ops N Γ (lesF Λ sts news) sp (λ i=>anc.getD i []) (λ _=>undef))=true) (hk:∀ ν,Rg.chk (fam ops N Γ (lesF Λ sts news) sp (λ i=>anc.getD i []) ν)=true) (hsrc:∀ ν,src.all (okS (fam ops N Γ (lesF Λ sts news) sp (λ i=>anc.getD i []) ν))=true)
  (hQ:∀ ν a w,St B w0 N (src.filterMap (takeS (fam ops N Γ (lesF Λ sts news) sp (λ i=>anc.getD i []) ν))) (((lesF Λ sts news).map (LeF.on ν)).map λ e=>⟨e.s,e.T,e.H,Rg.last e⟩) a w→Q .normal a w):(Code.region id ops true).wp P Q a w :=
 Rg.drawV hm hanc hk (λ i f hf=>by have:=hdS.at i f hf; rwa [qO] at this) hdL.mem (λ _=>undef) h (G5 hn) (λ i hi=>hob.all i zo zo) λ ν a' w' hf=>hQ ν a' w' (eJ (hk ν) hf src (hsrc ν))
variable {ops:Array Oper} {les:List LeF} {sp:List ((Nat→Value)→Sp)} {anc:Nat→List Nat} {i:Nat}
theorem of_u (h:∀ ν,(fam ops N Γ les sp anc ν).Ob P Q B w0 i):ObF P Q ops N Γ les sp anc B w0 i:=.inl h
def LiveR (R:Rg)(B:Nat)(w0:Bs)(i:Nat)(us:List Value):Prop:=∀ a w,R.Av B w0 i a w→∀ u∈us,∀ g∈vbl u,g<w.heap.size
theorem iq {R:Rg}:LiveR R B w0 i []:=λ _ _ _ _ h=>by cases h
theorem nZ {R:Rg}{u:Value}{us:List Value}{x:Operand}{A:As}(hA:NewA A)(hx:Has R B w0 i x (PinA u A).va)(h:LiveR R B w0 i us):LiveR R B w0 i (u::us):=λ a w av v hv=>by
 rcases qt.1 hv with rfl | hv
 ·obtain ⟨cs,⟨h1,h2⟩,_⟩:=hx a w av
  intro g hg
  rw [← h2,tV h1] at hg
  exact (hA _ _ _ h1 g hg).2
 ·exact h a w av v hv
theorem pm {A:As}{c:Prop}(h:NewA A):NewA (A.and c):=λ B cs w hp=>h B cs w hp.2
theorem FJ {A:As}{c:Prop}(h:NodA A):NodA (A.and c):=λ B cs w hp=>h B cs w hp.2
theorem mC {d f:Nat}{A:As}{us:(Nat→Value)→List Value}{pre pre':List VA}{xs:List Operand}{at_:Array TypeId}
  (hs:sp[i]?=some (λ ν=>.v d (PinA (ν i) (A.and (SepAll (us ν) (ν i)))).va)) (ho:ops[i]?=some ⟨some d,.call ⟨.value (.func f),xs.toArray,at_⟩,T,ps,af,none⟩)
  (hc:Cn P f pre' A.va) (hnew:NewA A) (hfree:FreeA A A) (hup:All2 Up pre pre') (hx:∀ ν,HasL (fam ops N Γ les sp anc ν) B w0 i xs pre) (hus:∀ ν v,us (nuSet ν i v)=us ν) (hl:∀ ν,LiveR (fam ops N Γ les sp anc ν) B w0 i (us ν)):ObF P Q ops N Γ les sp anc B w0 i:=by
 refine .inr ⟨d,_,hs,λ ν a w av K hK=>?_⟩
 obtain ⟨⟨fn,hf,hn,hb⟩,hcall⟩:=hc
 have hrun:(execOp a.eval ⟨some d,.call ⟨.value (.func f),xs.toArray,at_⟩,T,ps,af,none⟩).run P w=.ok (.enter f (xs.map a.eval).toArray) w:=by
  simp only [execOp,resolve,Act.eval,Deferred.ofValue,Sem.run_bind,Sem.run_pure,Result.andThen_ok,invoke,bk hf hn hb]
  simp
 have hbw:=Av.bw av
 have hargs:All2 (λ (A:VA) v=>A.p w.heap.size v w) pre' (xs.map a.eval):=by
  have h1:=(hx ν).all av
  clear hcall hrun hx hs ho
  generalize xs.map a.eval=vs at h1
  induction hup generalizing vs with
  | nil=>cases h1; exact .nil
  | cons hu _ ih =>
   cases h1 with
   | cons h2 h3=>exact .cons (hu _ _ _ hbw h2) (ih _ h3)
 refine bu (R:=fam ops N Γ les sp anc ν) ho G ?_
 unfold Oper.wp
 rw [hrun]
 refine (hcall w.heap.size w _ (qi _) hargs).mono λ e w' ⟨v,he,⟨cs,hv,hsh⟩,hg⟩=>?_
 subst he
 refine hK v w' hg ⟨cs,⟨⟨?_,hfree.2.2 _ _ _ _ hbw hv⟩,?_⟩,hsh⟩
 ·rw [hus,wn]
  intro u hu g hgu hgv
  have h1:=hl ν a w av u hu g hgu
  rw [hsh,tV hv] at hgv
  have h2:=(hnew _ _ _ hv g hgv).1
  omega
 ·rw [wn]
  exact hsh.symm
end
theorem new_mg (l:List Nat):NewA (MgN l):=λ B cs w ⟨_,h⟩=>by
 rcases h with ⟨_,rfl⟩ | ⟨g,ext,rfl,_,h2,h3⟩
 ·intro g hg; cases hg
 ·intro g' hg
  have:g'=g:=by simpa [cbl,blk] using hg
  subst this
  exact ⟨h2,(Array.getElem?_eq_some_iff.1 h3).1⟩
theorem new_bo (b:Bool):NewA (BoA b):=λ B cs w h=>by
 have h':cs=[.bool b]:=h
 subst h'
 intro g hg; cases hg
theorem FN (x:RI):NewA (RIN x):=wq (λ A hA=>by
 simp at hA
 rcases hA with rfl | rfl
 ·exact new_bo _
 ·exact new_mg _)
theorem FI (x:RI):NodA (RIN x):=λ B cs w ⟨ps,e,h⟩=>by
 subst e
 cases h with
 | @cons _ c1 _ _ h1 h=>cases h with
  | @cons _ c2 _ _ h2 h =>
   cases h
   have e1:c1=[.bool x.neg]:=h1
   have l2:=(MgN x.mag).len _ _ _ h2
   subst e1
   match c2,l2 with
   | [v],_ =>
    show (List.filterMap blk [.bool x.neg,v]).Nodup
    have:List.filterMap blk [.bool x.neg,v]=List.filterMap blk [v]:=rfl
    rw [this]
    cases hb:blk v with
    | none=>simp [hb]
    | some g=>simp [hb]
def ZN (k:Nat)(z:Int):As:=(RIN (riOf z)).and (lz z≤k)
theorem rP {k:Nat}{z:Int}:NewA (ZN k z):=pm (FN _)
theorem nod_zn {k:Nat}{z:Int}:NodA (ZN k z):=FJ (FI _)
theorem BS {A:As}{c:Prop}(h:FreeA A A):FreeA (A.and c) (A.and c):=⟨rfl,rfl,λ B B' cs w hB hp=>⟨hp.1,h.2.2 B B' cs w hB hp.2⟩⟩
theorem mR {k:Nat}{z:Int}:FreeA (ZN k z) (ZN k z):=BS (du _)
theorem tO {k k':Nat}{z:Int}(h:k≤k'):WkA (ZN k z) (ZN k' z):=⟨rfl,rfl,λ _ _ _ hp=>⟨qe hp.1 h,hp.2⟩⟩
theorem zn_of {k:Nat}{z:Int}(h:lz z≤k):Wk (RIN (riOf z)).va (ZN k z).va:=λ _ _ _ ⟨cs,hp,hv⟩=>⟨cs,⟨h,hp⟩,hv⟩
theorem B9 {a b:Int}(h:((riOf a).neg==(riOf b).neg)=true):(RIN (rsig (riOf a).neg (digs (max (riOf a).mag.length (riOf b).mag.length+1) (val (riOf a).mag+val (riOf b).mag)))).va=(RIN (riOf (a+b))).va:=by
 have h':decide (a<0)=decide (b<0):=by simpa [riOf] using h
 rw [bv,bv,bV (bI _ _) (z:=a+b) (by show val (digs (max (limbs a.natAbs).length (limbs b.natAbs).length+1) _)=_; rw [tW]; simp only [qS] at h'; omega) (λ hz=>by show decide (a<0)=_; simp only [qS] at h' ⊢; omega)]
theorem B8 {a b:Int}(h:((riOf a).neg==(riOf b).neg)=false)(h2:b.natAbs≤a.natAbs):(RIN (rsig (riOf a).neg (limbs (val (riOf a).mag-val (riOf b).mag)))).va=(RIN (riOf (a+b))).va:=by
 have h':¬ decide (a<0)=decide (b<0):=by simpa [riOf] using h
 rw [bv,bv,bV (bi _).1 (z:=a+b) (by rw [aH]; simp only [qS] at h'; omega) (λ hz=>by show decide (a<0)=_; simp only [qS] at h' ⊢; omega)]
theorem B7 {a b:Int}(h:((riOf a).neg==(riOf b).neg)=false)(h2:a.natAbs≤b.natAbs):(RIN (rsig (riOf b).neg (limbs (val (riOf b).mag-val (riOf a).mag)))).va=(RIN (riOf (a+b))).va:=by
 have h':¬ decide (a<0)=decide (b<0):=by simpa [riOf] using h
 rw [bv,bv,bV (bi _).1 (z:=a+b) (by rw [aH]; simp only [qS] at h'; omega) (λ hz=>by show decide (b<0)=_; simp only [qS] at h' ⊢; omega)]
theorem Fq (p q:Int)(hp:lz p≤1099511627776)(hq:lz q≤1099511627776):Cn Tryz.prog 118 [Zi p,Zi q] ((RIN (riOf (p+q))).va):=by
 refine Cn.intro Tryz.func118 G zk nq (λ B w0 a U=>?_)
 have U:=zn [(0,Zi p),(1,Zi q)] [] U
 refine qb<|zg [] [⟨2,26,ptrH,some 0,_,none⟩,⟨3,26,ptrH,some 1,_,none⟩,⟨4,26,ptrH,some 2,_,none⟩] [.alc 0,.alc 1,.alc 2] [] U (zW 0 G (zW 1 G (zY G (Str.zero bn) o0))) (zz [] [O 2 26 _,O 3 26 _,O 4 26 _] λ a w U=>?_)
 refine zt<|qb<|zg [η,η,η] [] [.adr 5 2 (.some 0) True,.v 6 _,.adr 7 3 (.some 0) True,.v 8 _,.v 9 _] [.o 4] U (zO 0 G aV (zL 0 0 0 G ty_4 (zO 1 G aV (zL 2 1 0 G ty_4 (zv G (uW zk (vq 1 G) (vq 3 G)) o0))))) (zz [(9,_)] [O 2 26 _,O 3 26 _,O 4 26 _] λ a w U=>?_)
 refine aa<|aj U (zm 0 G) (λ hb0=>?_) (λ hb0=>?_)
 ·refine qb<|zgd [[],[0],[],[2],[],[4],[2,3,4,5],[0,1,2,3,4,5,6],[0,1,2,3,4,5,6,7]] [none,none,some (8,_)] [] [.adr 10 2 (.some 0) True,.v 11 _,.adr 12 2 (.some 1) True,.v 13 _,.adr 14 3 (.some 1) True,.v 15 _,.v 16 _,.v 17 _,.sto 2] [] ae U (zO 0 G aV (zL 0 0 0 G ty_4 (zO 0 G ay (zL 2 0 1 G aX (zO 1 G ay (zL 4 1 1 G aX (zQ G (add_c _ _ hp hq) (.p (vq 3 G) (vq 5 G)) (zQ G (d5 _ _) (.p (vq 1 G) (vq 6 G)) (zS 7 G ar o0))))))))) zk zk zk zk (zz [] [O 2 26 _,O 3 26 _,O 4 26 _] λ a w U=>?_)
  refine aa<|qg<|al ?_
  refine aC ?_ (aA G U (zm 2 G) ar)
  exact B9 hb0
 ·refine qh<|zt<|qb<|zg [η,η,η] [] [.adr 18 2 (.some 1) True,.v 19 _,.adr 20 3 (.some 1) True,.v 21 _,.v 22 _,.v 23 _] [.o 5] U (zO 0 G ay (zL 0 0 1 G aX (zO 1 G ay (zL 2 1 1 G aX (zQ G (rm _ _) (.p (vq 1 G) (vq 3 G)) (zv G (d9 (vq 4 G) ab) o0)))))) (zz [(23,_)] [O 2 26 _,O 3 26 _,O 4 26 _] λ a w U=>?_)
  refine aa<|aj U (zm 0 G) (λ hb1=>?_) (λ hb1=>?_)
  ·refine qb<|zgd [[],[0],[],[2],[],[4],[2,3,4,5],[0,1,2,3,4,5,6],[0,1,2,3,4,5,6,7]] [none,none,some (8,_)] [] [.adr 24 2 (.some 0) True,.v 25 _,.adr 26 2 (.some 1) True,.v 27 _,.adr 28 3 (.some 1) True,.v 29 _,.v 30 _,.v 31 _,.sto 2] [] ae U (zO 0 G aV (zL 0 0 0 G ty_4 (zO 0 G ay (zL 2 0 1 G aX (zO 1 G ay (zL 4 1 1 G aX (zQ G (Am _ _ hp (c8 (gH hb1)) (by show val (limbs _)≤val (limbs _); rw [aH,aH]; exact gH hb1)) (.p (vq 3 G) (vq 5 G)) (zQ G (d5 _ _) (.p (vq 1 G) (vq 6 G)) (zS 7 G ar o0))))))))) zk zk zk zk (zz [] [O 2 26 _,O 3 26 _,O 4 26 _] λ a w U=>?_)
   refine aa<|qg<|al ?_
   refine aC ?_ (aA G U (zm 2 G) ar)
   exact B8 hb0 (gH hb1)
  ·refine qh<|zt<|zgd [[],[0],[],[2],[],[4],[2,3,4,5],[0,1,2,3,4,5,6],[0,1,2,3,4,5,6,7]] [none,none,some (8,_)] [] [.adr 32 3 (.some 0) True,.v 33 _,.adr 34 3 (.some 1) True,.v 35 _,.adr 36 2 (.some 1) True,.v 37 _,.v 38 _,.v 39 _,.sto 2] [] ae U (zO 1 G aV (zL 0 1 0 G ty_4 (zO 1 G ay (zL 2 1 1 G aX (zO 0 G ay (zL 4 0 1 G aX (zQ G (Am _ _ hq (c8 (gG hb1)) (by show val (limbs _)≤val (limbs _); rw [aH,aH]; exact gG hb1)) (.p (vq 3 G) (vq 5 G)) (zQ G (d5 _ _) (.p (vq 1 G) (vq 6 G)) (zS 7 G ar o0))))))))) zk zk zk zk (zz [] [O 2 26 _,O 3 26 _,O 4 26 _] λ a w U=>?_)
   refine aa<|qg<|aC ?_ (aA G U (zm 2 G) ar)
   exact B7 hb0 (gG hb1)
section
variable {a b:Nat} {p q:Int} (ha:a≤549755813888)
include ha
variable (hb:b≤549755813888)
include hb
theorem vN:Cn Tryz.prog 118 [Zs a p,Zs b q] (ZN (max a b+1) (p+q)).va:=zs2 yo λ h h'=>(Fq p q zo zo).wkp (zn_of (by have:=nX p q; omega))
end
def QD (k:Nat)(q:Rat):As:=DisA (cat [ZN k q.num,ZN k (q.den:Int)])
theorem wo {k:Nat}{q:Rat}:NewA (QD k q):=GU (wq λ A hA=>by
 simp at hA
 rcases hA with rfl | rfl <;> exact rP)
theorem nod_qd {k:Nat}{q:Rat}:NodA (QD k q):=GT
theorem y9 {k:Nat}{q:Rat}:FreeA (QD k q) (QD k q):=nk (bF (.cons mR (.cons mR .nil)))
theorem iw {A A':As}(h:WkA A A'):WkA (DisA A) (DisA A'):=⟨h.1,h.2.1,λ B cs w hp=>⟨h.2.2 B cs w hp.1,hp.2⟩⟩
theorem Fm {u v:Value}{c d k:Nat}{q:Rat}(hc:c≤k)(hd:d≤k):WkA (cat [PinA u ((ZN c q.num).and (SepAll [] u)),PinA v ((ZN d (q.den:Int)).and (SepAll [u] v))]) (QD k q) :=
 (so (l:=[(u,ZN c q.num),(v,ZN d (q.den:Int))]) (λ x hx=>by
  simp at hx
  rcases hx with rfl | rfl <;> exact nod_zn)).trans (iw (bo (.cons (tO hc) (.cons (tO hd) .nil))))
theorem qd_of {k c:Nat}{q:Rat}(h1:lz q.num≤c)(h2:lz (q.den:Int)≤c):WkA (QD k q) (QD c q):=iw (bo (.cons ⟨rfl,rfl,λ _ _ _ hp=>⟨h1,hp.2⟩⟩ (.cons ⟨rfl,rfl,λ _ _ _ hp=>⟨h2,hp.2⟩⟩ .nil)))
theorem qd_cp {u v:Value}{c d k:Nat}{x:Rat}(hc:c≤k)(hd:d≤k):WkA (cat [PinA u ((ZN c (x.num+0)).and (SepAll [] u)),PinA v ((ZN d ((x.den:Int)+0)).and (SepAll [u] v))]) (QD k x):=by
 rw [jk,jk]
 exact Fm hc hd
theorem GV {c:Nat}{x:Rat}(hc:c≤137438953472):Cn Tryz.prog 27 [Qs c x] ((QD (max c 2+1) x).va):=by
 refine Cn.intro Tryz.func27 G zk nq (λ B w0 a U=>?_)
 have U:=zn [(0,Qs c x)] [] U
 refine qb<|zg [] [⟨1,28,ptrH,some 0,_,none⟩,⟨2,28,ptrH,some 1,_,none⟩] [.alc 0,.alc 1] [] U (zW 0 G (zY G (Str.zero aP) o0)) (zz [] [O 1 28 _,O 2 28 _] λ a w U=>?_)
 refine zt<|zg [η,η] [⟨3,26,ptrH,some 1,_,some (2,_)⟩] [.v 4 _,.alc 2,.sto 2] [] U (zQ G (of_z zd zd) (.cons ab .nil) (zY G (Str.zero bn) (zS 0 G ar o0))) (zz [] [O 1 28 _,O 2 28 _,O 3 26 _] λ a w U=>?_)
 refine zt<|go_drawV' [[],[0],[],[0,1,2],[],[4],[],[0,1,2,3,4,5,6],[0,1,2,3,4,5,6,7],[0,1,2,3,4,5,6,7,8]] (sts:=[none,some (9,λ ν=>_),none]) (news:=[]) (sp:=[(λ ν=>.adr 5 1 (.some 0) True),(λ ν=>.v 6 _),(λ ν=>.v 7 _),(λ ν=>.v 8 (PinA (ν 3) ((ZN (max c 2+1) (x.num+0)).and (SepAll [] (ν 3)))).va),(λ ν=>.adr 9 1 (.some 2) True),(λ ν=>.v 10 _),(λ ν=>.v 11 _),(λ ν=>.v 12 (PinA (ν 7) ((ZN (max c 2+1) ((x.den:Int)+0)).and (SepAll [ν 3] (ν 7)))).va),(λ ν=>.v 13 _),(λ ν=>.sto 1)]) [] ae U ⟨of_u λ ν=>ob_a rfl rfl (gk (lz0 0 rfl) aW),⟨of_u λ ν=>ob_v rfl rfl (aF 0 rfl zk trivial (lz0 0 rfl) (Sub.part 0 rfl rfl) ar),⟨of_u λ ν=>ob_v rfl rfl (df (lz0 2 rfl) ar),⟨mC (us:=λ ν=>[]) (xs:=[.tmp 6,.tmp 7]) rfl rfl (vN zo zo) rP mR (.cons upA_za.va (.cons upA_za.va .nil)) (λ ν=>(.p (vq 1 rfl) (vq 2 rfl))) (λ _ _=>rfl) (λ ν=>iq),⟨of_u λ ν=>ob_a rfl rfl (gk (lz0 0 rfl) aR),⟨of_u λ ν=>ob_v rfl rfl (aF 4 rfl zk trivial (lz0 0 rfl) (Sub.part 1 rfl rfl) ar),⟨of_u λ ν=>ob_v rfl rfl (df (lz0 2 rfl) ar),⟨mC (us:=λ ν=>[ν 3]) (xs:=[.tmp 10,.tmp 11]) rfl rfl (vN zo zo) rP mR (.cons upA_za.va (.cons upA_za.va .nil)) (λ ν=>(.p (vq 5 rfl) (vq 6 rfl))) (λ _ _=>rfl) (λ ν=>(nZ (pm rP) (vq 3 rfl) iq)),⟨of_u λ ν=>ob_v rfl rfl (aU (qs:=[(0,_),(1,_)]) aP (.cons ⟨rfl,vq 3 rfl,rfl⟩ (.cons ⟨rfl,vq 7 rfl,rfl⟩ .nil))),⟨of_u λ ν=>iV rfl rfl rfl (vq 8 rfl) ax (xA (b:=4) rfl rfl),trivial⟩⟩⟩⟩⟩⟩⟩⟩⟩⟩ ⟨(λ ν ν' h=>rfl),⟨(λ ν ν' h=>rfl),⟨(λ ν ν' h=>rfl),⟨(λ ν ν' h=>by first | rfl | simp only [h 3 rfl]),⟨(λ ν ν' h=>rfl),⟨(λ ν ν' h=>rfl),⟨(λ ν ν' h=>rfl),⟨(λ ν ν' h=>by first | rfl | simp only [h 3 rfl,h 7 rfl]),⟨(λ ν ν' h=>by first | rfl | simp only [h 3 rfl,h 7 rfl]),⟨(λ ν ν' h=>by first | rfl | simp only [h 3 rfl,h 7 rfl]),trivial⟩⟩⟩⟩⟩⟩⟩⟩⟩⟩ ⟨trivial,⟨(λ ν ν' h=>by first | rfl | simp only [h 3 rfl,h 7 rfl]),⟨trivial,trivial⟩⟩⟩ zk zk (λ ν=>by kernel_rfl) (λ ν=>by kernel_rfl) (λ ν2 a w U=>?_)
 have U:=zn [] [O 1 28 _,O 2 28 _,O 3 26 _] U
 refine aa<|qg<|ao ?_ (aA G U (zm 1 G) ax)
 exact (qd_cp zo zo).va
theorem pP {c:Nat}{x:Rat}(hc:c≤137438953472):Cn Tryz.prog 27 [Qs c x] (QD c x).va :=
 Cn.know (c:=lz x.num≤c∧lz (x.den:Int)≤c) se (λ B w args ha=>by cases ha with | cons h1 _=>exact Fl h1) λ h=>(GV hc).wkp (qd_of h.1 h.2).va
section
variable {P:Program} {R:Rg} {Q:Exit→Act→World→Prop} {B i:Nat} {w0:Bs}
theorem rH {g:Nat}:offP (ptrH.f g) (.some 0)=ptrH.f g:=by simp [ptrH,ptr,offP,add0]
theorem oI {b T':Nat}{A:As}(hl:Loc R i b T' A):Ad P Q R B w0 i (.move (.tmp b)) b (.some 0):=by
 intro d ty ps af gd a w av K hK
 obtain ⟨g,cs,h1,_⟩:=hl.ok av
 rw [h1,rH] at hK
 exact aY (w':=w) (v:=a.eval (.tmp b)) G (by rw [h1]; exact hK)
theorem oH {b t T':Nat}{A:As}(j:Nat)(hj:R.sp[j]?=some (.adr t b (.some 0) True))(hji:(R.anc i).contains j=true)(hl:Loc R i b T' A):Ad P Q R B w0 i (.nilCheck (.tmp t)) b (.some 0):=by
 intro d ty ps af gd a w av K hK
 obtain ⟨g,cs,h1,_⟩:=hl.ok av
 have h2:=av.d j t b (.some 0) True hji hj trivial
 rw [h1,rH] at h2 hK
 have h2':a.eval (.tmp t)=.pointer (some ⟨g,0,none⟩):=h2
 exact aY (w':=w) (v:=.pointer (some ⟨g,0,none⟩)) (by simp [execOp,h2']) hK
theorem ec {fn:Func}{RQ':Ending→World→Prop}(h:bPost P fn RQ' .ret a w):bPost P fn RQ' .normal a w:=h
theorem Dt {E:TypeId}:Wk (EqV (.slice none 0 0)) (SlA E D []).va:=λ _ v _ h=>by
 have e:v=.slice none 0 0:=h
 subst e
 exact ⟨[.slice none 0 0],⟨(λ A hA=>by cases hA),none,0,[],rfl,qi _,zc _,⟨[],rfl,.nil⟩,λ h=>by cases h⟩,rfl⟩
def Arr (P:Program)(T:TypeId)(Z:List As):Prop :=
 ∃ it z n E ie,P.info? T=some it∧it.zero=some z∧P.underlying T=some (.array n E)∧P.info? E=some ie∧(∀ f,f<Z.length→some (f*ie.size,ie.size)=(placesOf Z)[f]?)∧∀ B w,(cat Z).p B z.cells.toList w
theorem Arr.zero {Z:List As}(h:Arr P T Z):Zero P T (cat Z):=by
 obtain ⟨it,z,_,_,_,h1,h2,_,_,_,h3⟩:=h
 exact ⟨it,z,h1,h2,h3⟩
end
def goQ (m:MQ)(r:YQ):YQ:=⟨m.a*r.y+m.b*r.u,m.c*r.y+m.d*r.u⟩
section
variable {P:Program} {R:Rg} {Q:Exit→Act→World→Prop} {B:Nat} {w0:Bs} {a:Act} {w:World}
open Rg in
theorem Rg.draw2 {id:Nat}{n:Nat}(hsz2:R.ops.size=n+2)(hm:P.follows .mixedOrders=true)(hanc:ancOk R=true)(hk:R.chk=true)(h:St B w0 R.N R.Γ Λ a w)(hles:∀ e∈R.les,e.cr=none→(⟨e.s,e.T,e.H,e.A0⟩:Lc)∈Λ)
  (hob:∀ i,i<n→R.Ob P Q B w0 i) (ha1:∀ j,j<n→(R.anc n).contains j=true) (ha2:(R.anc (n+1)).contains n=true)
  (hQ:∀ a w,R.Inv B w0 (λ k=>decide (k<n)) a w→∀ K:Act→World→Prop,(∀ a' w',(∀ K':Act→World→Prop,(∀ a'' w'',Q .normal a'' w''→K' a'' w'')→wpOp P R.ops Q (n+1) K' a' w')→K a' w')→wpOp P R.ops Q n K a w) :
  (Code.region id R.ops true).wp P Q a w:=by
 refine wp_region_any hm ?_
 have ho:∀ i,i<R.ops.size→∃ o,R.ops[i]?=some o∧(∀ j,(R.anc i).contains j=true→∃ e∈o.after,Region.binds .any e=true∧(e.on=j∨(R.anc e.on).contains j=true)) ∧
   ∀ e∈o.after,Region.binds .any e=true→e.on<i:=by
  intro i hi
  have:=qd.1 hanc i (by simpa using hi)
  cases hoi:R.ops[i]? with
  | none=>rw [hoi] at this; cases this
  | some o =>
   rw [hoi] at this
   simp only [ql] at this
   refine ⟨o,rfl,λ j hj=>?_,λ e he hb=>?_⟩
   ·have hh:=qd.1 this.1 j (by simpa using hj)
    obtain ⟨e,he,h1⟩:=ju.1 hh
    simp only [ql,zw,xc] at h1
    exact ⟨e,he,h1.1,h1.2⟩
   ·have hh:=zH.1 this.2 e he
    simpa [hb] using hh
 have hrd:∀ (listed:Array Bool) i,i∈Region.ready .any R.ops listed→i<R.ops.size∧listed.getD i true=false∧∀ o,R.ops[i]?=some o→∀ e∈o.after,Region.binds .any e=true→listed.getD e.on false=true:=by
  intro listed i hi
  unfold Region.ready at hi
  obtain ⟨h1,h2⟩:=zE.1 hi
  simp only [ql,qv] at h2
  refine ⟨by simpa using h1,h2.1,λ o hoi e he hb=>?_⟩
  have h3:=h2.2
  rw [hoi] at h3
  simp only [qL,xf] at h3
  have:=zH.1 h3 e he
  simpa [hb] using this
 have hfull:∀ (listed:Array Bool),listed.size=R.ops.size→Region.ready .any R.ops listed=[]→∀ k,k<R.ops.size→listed.getD k false=true:=by
  intro listed hsz hr k
  induction k using Nat.strongRecOn with
  | _ k ih =>
   intro hkn
   cases hl:listed.getD k false with
   | true=>rfl
   | false =>
    exfalso
    obtain ⟨o,ho1,_,ho3⟩:=ho k hkn
    have:k∈Region.ready .any R.ops listed:=by
     unfold Region.ready
     refine zE.2 ⟨by simpa using hkn,?_⟩
     have h0:listed.getD k true=false:=by
      simp only [Array.getD,hsz,hkn,dite_true] at hl ⊢
      exact hl
     rw [h0,ho1]
     simp only [jq,jX,qL,xf]
     refine zH.2 λ e he=>?_
     cases hb:Region.binds .any e with
     | false=>rfl
     | true=>simpa using ih e.on (ho3 e he hb) (ze (ho3 e he hb) hkn)
    rw [hr] at this
    cases this
 have hset:∀ (listed:Array Bool) (i k:Nat),listed.size=R.ops.size→i<R.ops.size→(listed.setIfInBounds i true).getD k false=upd (λ i=>listed.getD i false) i k:=by
  intro listed i k hsz hi
  unfold upd
  by_cases hki:k=i
  ·subst hki
   simp [hsz,hi]
  ·simp [hki,Array.getElem?_setIfInBounds_ne (λ e=>hki e.symm)]
 have hpos:∀ (listed:Array Bool) (i:Nat),i<R.ops.size→listed.getD i false=false→0<(List.range R.ops.size).countP (λ k => !listed.getD k false):=λ listed i hi hl =>
  jj.2 ⟨i,by simpa using hi,by simp only [hl]; rfl⟩
 have hlt:∀ (listed:Array Bool) (i:Nat),listed.size=R.ops.size→i<R.ops.size→listed.getD i false=false→(List.range R.ops.size).countP (λ k => !(listed.setIfInBounds i true).getD k false)<(List.range R.ops.size).countP (λ k => !listed.getD k false):=by
  intro listed i hsz hi hLi
  refine dP (x:=i) (λ x hx=>?_) (by simpa using hi) (by rw [hLi]; rfl) (by rw [hset listed i i hsz hi,bP]; rfl)
  have hx':upd (λ i=>listed.getD i false) i x=false:=by
   rw [← hset listed i x hsz hi]
   simpa only [qv] using hx
  rw [(d3 hx').2]
  rfl
 have key:∀ fuel (listed:Array Bool) a w,listed.size=R.ops.size→(List.range R.ops.size).countP (λ i => !listed.getD i false)≤fuel→Closed R (λ i=>listed.getD i false) →
   listed.getD n false=false→listed.getD (n+1) false=false→R.Inv B w0 (λ i=>listed.getD i false) a w→wpAny P .any R.ops Q fuel listed a w:=by
  intro fuel
  induction fuel with
  | zero =>
   intro listed a w hsz hcnt hcl hn0 hn1 hi
   have:=hpos listed n zo hn0
   omega
  | succ fuel ih =>
   intro listed a w hsz hcnt hcl hn0 hn1 hi
   refine ⟨λ hr=>absurd (hfull listed hsz hr n zo) (by rw [hn0]; decide),λ i hir=>?_⟩
   obtain ⟨h1,h2,h3⟩:=hrd listed i hir
   obtain ⟨o,ho1,ho2,_⟩:=ho i h1
   have hLi:listed.getD i false=false:=by
    simp only [Array.getD,hsz,h1,dite_true] at h2 ⊢
    exact h2
   have hanci:∀ j,(R.anc i).contains j=true→listed.getD j false=true:=by
    intro j hj
    obtain ⟨e,he,hb,hj'⟩:=ho2 j hj
    have hl:=h3 o ho1 e he hb
    rcases hj' with rfl | hj'
    ·exact hl
    ·exact hcl e.on hl j hj'
   have hup:=λ k=>hset listed i k hsz h1
   by_cases hin:i<n
   ·refine step hk (hob i hin) hi hcl hLi hanci _ λ a' w' hi'=>ih _ _ _ (by simpa using hsz) (by have:=hlt listed i hsz h1 hLi; omega) ?_ ?_ ?_ (hi'.congr hup)
    ·intro k hk' j hj
     have hk2:upd (λ i=>listed.getD i false) i k=true:=by rw [← hup]; exact hk'
     show (listed.setIfInBounds i true).getD j false=true
     rw [hup]
     rcases nT hk2 with rfl | h4
     ·exact cA _ (hanci j hj)
     ·exact cA _ (hcl k h4 j hj)
    ·rw [hup,cH _ zo]; exact hn0
    ·rw [hup,cH _ zo]; exact hn1
   ·rcases (show i=n∨i=n+1 by omega) with rfl | rfl
    ·have hinv:R.Inv B w0 (λ k=>decide (k<i)) a w:=by
      refine hi.congr λ k=>?_
      by_cases hki:k<i
      ·rw [qC hki]; exact (hanci k (ha1 k hki)).symm
      ·rw [zb hki]
       by_cases hk2:k<R.ops.size
       ·rcases (show k=i∨k=i+1 by omega) with rfl | rfl
        ·exact hn0.symm
        ·exact hn1.symm
       ·have:listed.getD k false=false:=by simp [Array.getD,hsz,hk2]
        exact this.symm
     refine hQ a w hinv _ λ a' w' H=>?_
     have hsz':(listed.setIfInBounds i true).size=R.ops.size:=by simpa using hsz
     have hc':=hlt listed i hsz h1 hLi
     have hn1':(listed.setIfInBounds i true).getD (i+1) false=false:=by rw [hup,cH _ zo]; exact hn1
     have hp':=hpos _ (i+1) zo hn1'
     cases fuel with
     | zero=>omega
     | succ f =>
      refine ⟨λ hr=>absurd (hfull _ hsz' hr (i+1) zo) (by rw [hn1']; decide),λ i' hir'=>?_⟩
      obtain ⟨g1,g2,_⟩:=hrd _ i' hir'
      have hi':i'=i+1:=by
       by_cases hlo:i'≤i
       ·exfalso
        have:(listed.setIfInBounds i true).getD i' false=true:=by
         rw [hup]
         by_cases he:i'=i
         ·subst he; exact bP _ _
         ·exact cA _ (hanci i' (ha1 i' zo))
        simp only [Array.getD,hsz',g1,dite_true] at this g2
        rw [this] at g2
        cases g2
       ·omega
      subst hi'
      refine H _ λ a'' w'' hq=>?_
      have hnone:Region.ready .any R.ops ((listed.setIfInBounds i true).setIfInBounds (i+1) true)=[]:=by
       cases hrr:Region.ready .any R.ops ((listed.setIfInBounds i true).setIfInBounds (i+1) true) with
       | nil=>rfl
       | cons q rest =>
        exfalso
        obtain ⟨q1,q2,_⟩:=hrd _ q (by rw [hrr]; simp)
        have hsz'':((listed.setIfInBounds i true).setIfInBounds (i+1) true).size=R.ops.size:=by simpa using hsz
        have:((listed.setIfInBounds i true).setIfInBounds (i+1) true).getD q false=true:=by
         rw [hset _ (i+1) q hsz' zo]
         by_cases he:q=i+1
         ·subst he; exact bP _ _
         ·refine cA _ ?_
          show (listed.setIfInBounds i true).getD q false=true
          rw [hup]
          by_cases he2:q=i
          ·subst he2; exact bP _ _
          ·exact cA _ (hanci q (ha1 q zo))
        simp only [Array.getD,hsz'',q1,dite_true] at this q2
        rw [this] at q2
        cases q2
      cases f with
      | zero=>exact ⟨hnone,hq⟩
      | succ f=>exact ⟨λ _=>hq,λ j hj=>by rw [hnone] at hj; cases hj⟩
    ·have:=hanci n ha2
     rw [hn0] at this
     cases this
 refine key _ _ a _ (by simp) ?_ ?_ ?_ ?_ ?_
 ·refine qe (ja) (by simp)
 ·intro i hi
  exfalso
  simp only [Array.getD,qJ] at hi
  split at hi <;> simp at hi
 ·simp only [Array.getD,qJ]; split <;> simp
 ·simp only [Array.getD,qJ]; split <;> simp
 ·have hs:=start h hles
  have hd:R.Inv B w0 (λ _=>false) a w.drew:=⟨hs.lo,hs.defers.grow (Grow.drew w) rfl,hs.size,hs.base.drew,λ x hx h1 h2=>x.2.grow _ _ _ _ (Grow.drew w) (hs.g x hx h1 h2),(λ i y d A _ _ hf=>by cases hf),(λ i d b k c _ hf=>by cases hf),
   λ e he A hA=>(hs.c e he A hA).grow (Grow.drew w),hs.x⟩
  refine Inv.congr hd λ k=>?_
  simp only [Array.getD,qJ]
  split <;> simp
end
def cutW (w w':World):World:={ w' with heap:=w'.heap.extract 0 w.heap.size }
theorem DR (hs:w.heap.size≤w'.heap.size){k:Nat}(hk:k<w.heap.size):(cutW w w').heap[k]?=w'.heap[k]?:=by
 show (w'.heap.extract 0 w.heap.size)[k]?=_
 rw [Array.getElem?_extract]
 simp
 omega
theorem iz (hs:w.heap.size≤w'.heap.size):(cutW w w').heap.size=w.heap.size:=by
 show (w'.heap.extract 0 w.heap.size).size=_
 simp
 omega
theorem DQ {g:Nat}(h:w.grownBy w' (some g)):Wr g w (cutW w w') :=
 ⟨h.os,h.tape,h.output,iz h.size,λ k hk=>by
  by_cases hlt:k<w.heap.size
  ·rw [DR h.size hlt]
   exact h.block k hlt (λ e=>hk (by injection e))
  ·rw [Array.getElem?_eq_none (by rw [iz h.size]; omega),Array.getElem?_eq_none zo]⟩
theorem su {row:Option Nat}(h:w.grownBy w' row):Grow (cutW w w') w' :=
 ⟨rfl,rfl,rfl,by rw [iz h.size]; exact h.size,λ k hk=>by
  rw [iz h.size] at hk
  rw [DR h.size hk]⟩
theorem nU (h:w.grownBy w' none):Grow w w':=⟨h.os,h.tape,h.output,h.size,λ k hk=>h.block k hk (by simp)⟩
def RowOk (w:World)(b:Nat)(E:TypeId)(row:Option Nat):Prop:=∀ g,row=some g→b≤g∧∃ c fz,w.heap[g]?=some (.cells c E fz)
theorem DefOk.grown {a a':Act}{b:Nat}{E:TypeId}{row:Option Nat}(h:DefOk w0 a w)(hg:w.grownBy w' row)(hr:RowOk w b E row)(e:a'.defers=a.defers):DefOk w0 a' w' :=
 h.keep e λ D hD=>(hg.block D (Array.getElem?_eq_some_iff.1 hD).1 (λ e=>by
  obtain ⟨_,c,fz,hc⟩:=hr D e.symm
  rw [hc] at hD
  cases hD)).trans hD
theorem VA.grown {A:VA}{B b:Nat}{E:TypeId}{row:Option Nat}(hp:A.p B v w)(hg:w.grownBy w' row)(hr:RowOk w b E row)(hb:B≤b)(hE:E ∉ A.deps):A.p B v w':=by
 cases row with
 | none=>exact A.grow _ _ _ _ (nU hg) hp
 | some g =>
  obtain ⟨h1,c,fz,h2⟩:=hr g rfl
  exact A.grow _ _ _ _ (su hg) (A.wr _ _ _ _ _ _ _ _ h2 hE (qe hb h1) (DQ hg) hp)
theorem As.grown {A:As}{B b:Nat}{E:TypeId}{row:Option Nat}(hp:A.p B cs w)(hg:w.grownBy w' row)(hr:RowOk w b E row)(hb:B≤b)(hE:E ∉ A.deps):A.p B cs w':=by
 cases row with
 | none=>exact A.grow _ _ _ _ (nU hg) hp
 | some g =>
  obtain ⟨h1,c,fz,h2⟩:=hr g rfl
  exact A.grow _ _ _ _ (su hg) (A.wr _ _ _ _ _ _ _ _ h2 hE (qe hb h1) (DQ hg) hp)
def OwnR (b:Nat)(E:TypeId)(m:Nat)(D:List TypeId)(l:List As):VA where
 p B v w:=(∀ A∈l,A.n=m)∧(∀ A∈l,∀ T∈A.deps,T∈D)∧∃ ds,(cat l).p B ds w∧w.ownsRow b E m v l.length ds
 deps:=E::D
 cg:=by
  rintro B v w w' hg ⟨h1,h2,ds,h3,h4,h5⟩
  refine ⟨h1,h2,ds,(cat l).cg _ _ _ _ hg h3,h4,?_⟩
  rcases h5 with h5 | ⟨g,cap,cur,e1,e2,e3,e4⟩
  ·exact .inl h5
  ·exact .inr ⟨g,cap,cur,e1,e2,hg.heap e3,e4⟩
 wr:=by
  rintro B v w w' g c T fz hgc hT hB hW ⟨h1,h2,ds,h3,h4,h5⟩
  simp only [qt,not_or] at hT
  refine ⟨h1,h2,ds,(cat l).wr _ _ _ _ _ _ _ _ hgc (lk h2 hT.2) hB hW h3,h4,?_⟩
  rcases h5 with h5 | ⟨g0,cap,cur,e1,e2,e3,e4⟩
  ·exact .inl h5
  ·refine .inr ⟨g0,cap,cur,e1,e2,?_,e4⟩
   have hne:g0≠g:=by
    rintro rfl
    rw [hgc] at e3
    injection e3 with e3
    injection e3 with _ e3 _
    exact hT.1 e3
   rw [hW.block g0 hne]
   exact e3
theorem mw {b:Nat}{E:TypeId}{m:Nat}:Wk (EqV (.slice none 0 0)) (OwnR b E m D []):=λ _ v w h=>by
 have e:v=.slice none 0 0:=h
 subst e
 exact ⟨(λ A hA=>by cases hA),(λ A hA=>by cases hA),[],⟨[],rfl,.nil⟩,World.ownsRow_nil w b E m⟩
theorem lR {b:Nat}{E:TypeId}{m:Nat}{l:List As}:Wk (OwnR b E m D l) (SlA E D l).va:=λ B v w ⟨_,h2,ds,h3,h4,h5⟩=>by
 rcases h5 with ⟨rfl,h5⟩ | ⟨g,cap,cur,rfl,e2,e3,e4,e5,e6,e7⟩
 ·refine ⟨[.slice none 0 0],⟨h2,none,0,ds,by rw [h5],by omega,zc _,h3,λ h=>by omega⟩,rfl⟩
 ·refine ⟨[.slice (some ⟨g,0,none⟩) l.length cap],⟨h2,_,cap,ds,rfl,e4,e5,h3,λ _=>⟨g,0,rfl,(Array.getElem?_eq_some_iff.1 e3).1,.inr ⟨_,_,e3⟩,λ j u hu=>?_⟩⟩,rfl⟩
  rw [cell_of_row w g (0+j) cur E _ e3,qO]
  rw [← e7,List.getElem?_take] at hu
  split at hu
  ·simpa using hu
  ·cases hu
theorem mu {b:Nat}{E:TypeId}{m:Nat}{n:Nat}{ds:List Value}(h:w.ownsRow b E m v n ds):RowOk w b E v.ownBlock:=by
 intro g hg
 obtain ⟨_,⟨rfl,_⟩ | ⟨g',cap,cur,rfl,e2,e3,_⟩⟩:=h
 ·cases hg
 ·have:g'=g:=by injection hg
  subst this
  exact ⟨e2,_,_,e3⟩
theorem CM {α β:Type}{R':α→β→Prop}{l1 l2:List α}{m1 m2:List β}(h:All2 R' l1 m1)(h':All2 R' l2 m2):All2 R' (l1++l2) (m1++m2):=by
 induction h with
 | nil=>exact h'
 | cons h1 _ ih=>exact .cons h1 ih
theorem yR {l l':List As}{ds ds':List Value}(h:(cat l).p B ds w)(h':(cat l').p B ds' w):(cat (l++l')).p B (ds++ds') w:=by
 obtain ⟨ps,rfl,h1⟩:=h
 obtain ⟨ps',rfl,h2⟩:=h'
 exact ⟨ps++ps',by simp,CM h1 h2⟩
def VT:VA:=⟨λ _ _ _=>True,[],λ _ _ _ _ _ _=>trivial,λ _ _ _ _ _ _ _ _ _ _ _ _ _=>trivial⟩
theorem St.wkG {B N:Nat}(h:St B w0 N Γ Λ a w){s:Nat}{A A':VA}(k:Nat)(hm:Γ[k]?=some (s,A))(hw:Wk A A'):St B w0 N (Γ.set k (s,A')) Λ a w :=
 ⟨h.lo,h.defers,h.size,h.base,λ x hx=>by
  rcases qy hx with hx | rfl
  ·exact h.vals x hx
  ·exact hw _ _ _ (h.vals _ (qa hm)),h.locs,h.dis⟩
def lesN (Λ:List Lc):List Le:=Λ.map λ l=>⟨l.s,l.T,l.H,none,l.A,none⟩
section
variable {P:Program} {Q:Exit→Act→World→Prop} {B N:Nat} {w0:Bs} {Γ:List (Nat × VA)} {Λ:List Lc} {a:Act} {w:World}
end
theorem gR (base:Nat)(t ty e:TypeId)(i:TypeInfo)(size:Nat)(ht:P.underlying t=some (.slice e))(hi:P.info? e=some i)
  (v:Value) (n c:Nat) (xs:List Value) (hown:w.ownsRow base e size v n xs):(Builtin.append_ #[t,t] ty #[v,.slice none 0 c]).run P w=.ok v w:=by
 rcases hown.2 with ⟨rfl,rfl⟩ | ⟨g,cap,cur,rfl,_,_,hnc,_⟩
 ·simp [Builtin.append_,run_underlying ht,sizeOf,typeInfo,hi,Builtin.lenOf,Builtin.firstCells]
 ·simp [Builtin.append_,run_underlying ht,sizeOf,typeInfo,hi,Builtin.lenOf,Builtin.firstCells,hnc,storeCells]
theorem H4 {l:List As}{m:Nat}(hm:∀ A∈l,A.n=m):(cat l).n=l.length*m:=by
 induction l with
 | nil=>simp [cat]
 | cons A l ih =>
  have:=ih λ A' h=>hm A' (qX _ h)
  simp only [cat,qN,z4,zy] at this ⊢
  rw [this,hm A (by simp),xL,jO,xa]
theorem fK {S E T1:TypeId}{m bytes b B:Nat}{D D':List TypeId}{l xs:List As}{v u:Value}{it:TypeInfo}{z:Value}
  (hS:P.underlying S=some (.slice E)) (hi:P.info? E=some it) (hz:it.zero=some z) (hsz:it.size=m) (hby:it.bytes=bytes) (hzs:z.cells.size=m) (hm0:0<m) (hl:l.length+xs.length≤100000000000) (hb6:bytes≤1000)
  (hv:(OwnR b E m D l).p B v w) (hu:(SlA E D' xs).va.p B u w) (hD':∀ T∈D',T∈D) (hED:E ∉ D) (hxm:∀ x∈xs,x.n=m) (hbw:b≤w.heap.size) (hB:B≤b) :
  ∃ v' w',(Builtin.append_ #[S,S] T1 #[v,u]).run P w=.ok v' w'∧(OwnR b E m D (l++xs)).p B v' w'∧w.grownBy w' v.ownBlock∧RowOk w b E v.ownBlock:=by
 obtain ⟨h1,h2,ds,h3,h4⟩:=hv
 obtain ⟨cs,⟨hD,Ad,c,ds1,rfl,_,_,h5,h6⟩,hu'⟩:=hu
 have hu2:u=.slice Ad xs.length c:=hu'
 subst hu2
 have hl1:ds1.length=xs.length*m:=by rw [(cat xs).len _ _ _ h5,H4 hxm]
 have hro:=mu h4
 have hmx:l.length+xs.length≤maxLen:=by unfold maxLen; omega
 have hbt:(l.length+xs.length)*bytes≤140737488355328:=qe (xC hl hb6) zd
 have fin:∀ v' w',w'.ownsRow b E m v' (l.length+xs.length) (ds++ds1)→w.grownBy w' v.ownBlock→(OwnR b E m D (l++xs)).p B v' w':=λ v' w' r1 r2=>by
  refine ⟨λ A hA=>?_,λ A hA=>?_,ds++ds1,yR (As.grown h3 r2 hro hB (lk h2 hED)) (As.grown h5 r2 hro hB (lk (λ A hA T hT=>hD' T (hD A hA T hT)) hED)),by rw [qB]; exact r1⟩
  ·rcases qo.1 hA with hA | hA
   ·exact h1 A hA
   ·exact hxm A hA
  ·rcases qo.1 hA with hA | hA
   ·exact h2 A hA
   ·exact λ T hT=>hD' T (hD A hA T hT)
 have some_case:∀ a:Addr,Ad=some a→(∀ (j:Nat) u,ds1[j]?=some u→w.cell? (a.add j)=some u)→∃ v' w',(Builtin.append_ #[S,S] T1 #[v,.slice Ad xs.length c]).run P w=.ok v' w'∧(OwnR b E m D (l++xs)).p B v' w'∧w.grownBy w' v.ownBlock∧RowOk w b E v.ownBlock:=λ a ha hc=>by
  subst ha
  obtain ⟨v',w',hr,r1,r2,_⟩:=run_append_own (P:=P) w b S T1 E it z m bytes hS hi hz hsz hby hzs hm0 v l.length ds h4 a xs.length c ds1 hl1 hc ((cat xs).one _ _ _ h5) hmx hbt hbw
  exact ⟨v',w',hr,fin v' w' r1 r2,r2,hro⟩
 by_cases hx:0<xs.length
 ·obtain ⟨g1,o1,rfl,_,_,h8⟩:=h6 hx
  exact some_case _ rfl λ j u hj=>by rw [r8]; exact h8 j u hj
 ·have h0:xs.length=0:=by omega
  have hds0:ds1=[]:=kC.1 (by rw [hl1,h0,x3])
  cases Ad with
  | some a=>exact some_case a rfl λ j u hj=>by rw [hds0] at hj; simp at hj
  | none =>
   rw [h0]
   refine ⟨v,w,gR b S T1 E it m hS hi v l.length c ds h4,fin v w ?_ ⟨rfl,rfl,rfl,qi _,λ _ _ _=>rfl⟩,⟨rfl,rfl,rfl,qi _,λ _ _ _=>rfl⟩,hro⟩
   rw [h0,hds0,zj]
   exact h4
section
variable {P:Program} {R:Rg} {Q:Exit→Act→World→Prop} {B:Nat} {w0:Bs} {a:Act} {w:World}
open Rg in
theorem Rg.linK {id:Nat}{n m:Nat}(hsz:R.ops.size=n+m)(hanc:R.anc=λ i=>List.range i)(hk:R.chk=true)(h:St B w0 R.N R.Γ Λ a w)(hles:∀ e∈R.les,e.cr=none→(⟨e.s,e.T,e.H,e.A0⟩:Lc)∈Λ)
  (hob:∀ i,i<n→R.Ob P Q B w0 i) (hQ:∀ a w,R.Inv B w0 (λ k=>decide (k<n)) a w→wpOps P R.ops Q (List.range' n m) a w):(Code.region id R.ops false).wp P Q a w:=by
 refine wp_region ?_
 have key:∀ q k,k+q=n→∀ a w,R.Inv B w0 (λ j=>decide (j<k)) a w→wpOps P R.ops Q (List.range' k (q+m)) a w:=by
  intro q
  induction q with
  | zero =>
   intro k hkm a w hi
   have:k=n:=by omega
   subst this
   rw [qO]
   exact hQ a w hi
  | succ q ih =>
   intro k hkm a w hi
   rw [show q+1+m=(q+m)+1 by omega,List.range'_succ,qA]
   refine step hk (hob k zo) hi ?_ (by simp) ?_ _ λ a' w' hi'=>ih (k+1) zo a' w' (hi'.congr λ j=>?_)
   ·intro i hi j hj
    rw [hanc] at hj
    simp at hi hj ⊢
    omega
   ·intro j hj
    rw [hanc] at hj
    simpa using hj
   ·unfold upd
    by_cases h1:j=k
    ·subst h1; simp
    ·have h2:(j==k)=false:=by simpa using h1
     rw [h2,xB,qS]
     omega
 rw [List.range_eq_range',hsz]
 exact key n 0 zo a w ((start h hles).congr λ j=>by simp)
end
open Rg in
theorem gJ {Q:Exit→Act→World→Prop}{B N:Nat}{id:Nat}{ops:Array Oper}{sp:List Sp}(n:Nat)(src:List Nat)(i1 i2:Nat){S E T1 T2:TypeId}{s u d e m bytes:Nat}{ps1 ps2:String}{af1 af2:Array Edge}{D D':List TypeId}{l xs:List As}{A2:VA}{it:TypeInfo}{z:Value}
  (h:St B w0 N Γ Λ a w) (hob:Obs P Q ⟨ops,N,Γ,lesN Λ,sp,λ i=>List.range i⟩ B w0 0 n) (hn2:ops.size=n+2) (hk:Rg.chk ⟨ops,N,Γ,lesN Λ,sp,λ i=>List.range i⟩=true)
  (ho1:ops[n]?=some ⟨some d,.call ⟨.builtin .append,#[.tmp s,.tmp u],#[S,S]⟩,T1,ps1,af1,none⟩) (ho2:ops[n+1]?=some ⟨some e,.assign (.tmp d),T2,ps2,af2,none⟩)
  (hi1:i1<n) (h1:sp[i1]?=some (.v s (OwnR w0.w.heap.size E m D l))) (hi2:i2<n) (h2:sp[i2]?=some (.v u A2)) (hA2:∀ w u,A2.p B u w→Kept w0 w→(SlA E D' xs).va.p B u w)
  (hS:P.underlying S=some (.slice E)) (hi:P.info? E=some it) (hz:it.zero=some z) (hsz:it.size=m) (hby:it.bytes=bytes) (hzs:z.cells.size=m) (hm0:0<m) (hl:l.length+xs.length≤100000000000) (hb6:bytes≤1000)
  (hD':∀ T∈D',T∈D) (hED:E ∉ D) (hxm:∀ x∈xs,x.n=m) (hde:(d != e)=true) (hd:d<N) (he:e<N)
  (hsrc:src.all (λ k=>match Γ[k]? with | some y => !y.2.deps.contains E&&Rg.outG ⟨ops,N,Γ,lesN Λ,sp,λ i=>List.range i⟩ y.1 | none=>false)=true)
  (hΛ:Λ.all (λ l=>l.T != E && !l.A.deps.contains E&&l.s != d&&l.s != e)=true)
  (hQ:∀ a w,St B w0 N ((e,OwnR w0.w.heap.size E m D (l++xs))::src.filterMap (λ k=>Γ[k]?)) Λ a w→Q .normal a w):(Code.region id ops false).wp P Q a w:=by
 have hles0:∀ y∈lesN Λ,y.cr=none∧y.st=none∧(⟨y.s,y.T,y.H,y.A0⟩:Lc)∈Λ:=λ y hy=>by
  obtain ⟨l',hl',rfl⟩:=qq.1 hy
  exact ⟨rfl,rfl,hl'⟩
 refine Rg.linK (R:=⟨ops,N,Γ,lesN Λ,sp,λ i=>List.range i⟩) (m:=2) hn2 G hk h (λ y hy _=>(hles0 y hy).2.2) (λ i hi=>hob.all i zo zo) λ a1 w1 hinv=>?_
 have hcl:∀ deps,Rg.clash ⟨ops,N,Γ,lesN Λ,sp,λ i=>List.range i⟩ (λ k=>decide (k<n)) deps=false:=λ deps=>by
  unfold Rg.clash
  rw [xh]
  intro y hy
  rw [(hles0 y hy).2.1]
  simp
 have hv:=hinv.v i1 _ s _ h1 rfl (qC hi1) (hcl _)
 have hu:=hA2 _ _ (hinv.v i2 _ u _ h2 rfl (qC hi2) (hcl _)) hinv.base
 have hB:B≤w0.w.heap.size:=hinv.lo _ (.inl (qi _))
 obtain ⟨v',w',hr,r1,r2,r3⟩:=fK (T1:=T1) hS hi hz hsz hby hzs hm0 hl hb6 hv hu hD' hED hxm hinv.base.size hB
 have hdsz:d<a1.tmps.size:=by rw [hinv.size]; exact hd
 have hesz:e<(a1.put (some d) v').tmps.size:=by rw [size_put,hinv.size]; exact he
 have hne:d≠e:=by simpa using hde
 rw [List.range'_succ,qA]
 refine bu (R:=⟨ops,N,Γ,lesN Λ,sp,λ i=>List.range i⟩) ho1 G (aY (w':=w') (v:=v') (by simp [execOp,resolve,invoke,builtin,hr,Result.andThen]) ?_)
 rw [List.range'_succ,qA]
 refine bu (R:=⟨ops,N,Γ,lesN Λ,sp,λ i=>List.range i⟩) ho2 G (aY (w':=w') (v:=v') ?_ (hQ _ _ ?_))
 ·have:=aM a1 d v' hdsz
  simp [execOp,this]
 ·have hother:∀ t,t≠d→t≠e→((a1.put (some d) v').put (some e) v').eval (.tmp t)=a1.eval (.tmp t):=λ t h3 h4=>by
   rw [aq _ _ _ _ h4,aq _ _ _ _ h3]
  have hlc:∀ l'∈Λ,l'.T≠E∧E ∉ l'.A.deps∧l'.s≠d∧l'.s≠e:=λ l' hl'=>by
   have:=qd.1 hΛ l' hl'
   simp only [ql,bne_iff_ne,qv,qx,qk] at this
   exact ⟨this.1.1.1,this.1.1.2,this.1.2,this.2⟩
  have hcur:∀ l'∈Λ,(⟨l'.s,l'.T,l'.H,none,l'.A,none⟩:Le)∈lesN Λ:=λ l' hl'=>qq.2 ⟨l',hl',rfl⟩
  refine ⟨hinv.lo,hinv.defers.grown r2 r3 rfl,by rw [size_put,size_put]; exact hinv.size,?_,?_,?_,?_⟩
  ·exact ⟨r2.os.trans hinv.base.os,r2.tape.trans hinv.base.tape,r2.output.trans hinv.base.output,qe hinv.base.size r2.size,λ k hk hf =>
    (r2.block k (qE hk hinv.base.size) (λ e=>by have:=(r3 k e.symm).1; omega)).trans (hinv.base.block k hk hf)⟩
  ·intro y hy
   rcases qt.1 hy with rfl | hy
   ·show (OwnR w0.w.heap.size E m D (l++xs)).p B (((a1.put (some d) v').put (some e) v').eval (.tmp e)) w'
    rw [aM _ _ _ hesz]
    exact r1
   ·obtain ⟨k,hk1,hk2⟩:=qQ.1 hy
    have hs:=qd.1 hsrc k hk1
    simp only [hk2,ql,qv,qx,qk] at hs
    have hout:∀ q,q<ops.size→Rg.dst ⟨ops,N,Γ,lesN Λ,sp,λ i=>List.range i⟩ q≠some y.1:=λ q hq=>by
     have:=qd.1 hs.2 q (by simpa using hq)
     simpa using this
    have g1:y.1≠d:=λ e1=>hout n zo (by unfold Rg.dst; rw [ho1,e1]; rfl)
    have g2:y.1≠e:=λ e1=>hout (n+1) zo (by unfold Rg.dst; rw [ho2,e1]; rfl)
    rw [hother _ g1 g2]
    exact VA.grown (hinv.g y (qa hk2) (λ q hq hdq=>absurd hdq (hout q hq)) (hcl _)) r2 r3 hB hs.1
  ·intro l' hl'
   obtain ⟨g1,g2,g3,g4⟩:=hlc l' hl'
   obtain ⟨g,cs,e1,e2,e3,e4⟩:=hinv.c _ (hcur l' hl') l'.A rfl
   refine ⟨g,cs,by rw [hother _ g3 g4]; exact e1,e2,?_,As.grown e4 r2 r3 hB g2⟩
   rw [r2.block g (Array.getElem?_eq_some_iff.1 e3).1 (λ e5=>by
    obtain ⟨_,c,fz,e6⟩:=r3 g e5.symm
    rw [e3] at e6
    injection e6 with e6
    injection e6 with _ e6 _
    exact g1 e6)]
   exact e3
  ·intro l1 hl1 l2 hl2 hne'
   obtain ⟨_,_,g3,g4⟩:=hlc l1 hl1
   obtain ⟨_,_,g5,g6⟩:=hlc l2 hl2
   rw [hother _ g3 g4,hother _ g5 g6]
   exact hinv.x _ (hcur l1 hl1) _ (hcur l2 hl2) hne' G rfl
section
variable {P:Program} {Q:Exit→Act→World→Prop} {B N:Nat} {w0:Bs} {Γ:List (Nat × VA)} {Λ:List Lc} {a:Act} {w:World}
open Rg in
theorem Gt {id:Nat}{ops:Array Oper}{sp:List Sp}(anc:List (List Nat))(n:Nat)(src:List Nat)(i1 i2:Nat){S E T1 T2:TypeId}{s u d e m bytes:Nat}{ps1 ps2:String}{af1 af2:Array Edge}{D D':List TypeId}{l xs:List As}{A2:VA}{it:TypeInfo}{z:Value}
  (hm:P.follows .mixedOrders=true) (h:St B w0 N Γ Λ a w)
  (hob:Obs P Q ⟨ops,N,Γ,lesN Λ,sp,λ i=>anc.getD i []⟩ B w0 0 n) (hn2:ops.size=n+2)
  (hanc:Rg.ancOk ⟨ops,N,Γ,lesN Λ,sp,λ i=>anc.getD i []⟩=true) (hk:Rg.chk ⟨ops,N,Γ,lesN Λ,sp,λ i=>anc.getD i []⟩=true)
  (ha1:(List.range n).all (λ j=>(anc.getD n []).contains j)=true) (ha2:(anc.getD (n+1) []).contains n=true)
  (ho1:ops[n]?=some ⟨some d,.call ⟨.builtin .append,#[.tmp s,.tmp u],#[S,S]⟩,T1,ps1,af1,none⟩) (ho2:ops[n+1]?=some ⟨some e,.assign (.tmp d),T2,ps2,af2,none⟩)
  (hi1:i1<n) (h1:sp[i1]?=some (.v s (OwnR w0.w.heap.size E m D l))) (hi2:i2<n) (h2:sp[i2]?=some (.v u A2)) (hA2:∀ w u,A2.p B u w→Kept w0 w→(SlA E D' xs).va.p B u w)
  (hS:P.underlying S=some (.slice E)) (hi:P.info? E=some it) (hz:it.zero=some z) (hsz:it.size=m) (hby:it.bytes=bytes) (hzs:z.cells.size=m) (hm0:0<m) (hl:l.length+xs.length≤100000000000) (hb6:bytes≤1000)
  (hD':∀ T∈D',T∈D) (hED:E ∉ D) (hxm:∀ x∈xs,x.n=m) (hde:(d != e)=true) (hd:d<N) (he:e<N)
  (hsrc:src.all (λ k=>match Γ[k]? with | some y => !y.2.deps.contains E&&Rg.outG ⟨ops,N,Γ,lesN Λ,sp,λ i=>anc.getD i []⟩ y.1 | none=>false)=true)
  (hΛ:Λ.all (λ l=>l.T != E && !l.A.deps.contains E&&l.s != d&&l.s != e)=true)
  (hQ:∀ a w,St B w0 N ((e,OwnR w0.w.heap.size E m D (l++xs))::src.filterMap (λ k=>Γ[k]?)) Λ a w→Q .normal a w):(Code.region id ops true).wp P Q a w:=by
 have hles0:∀ y∈lesN Λ,y.cr=none∧y.st=none∧(⟨y.s,y.T,y.H,y.A0⟩:Lc)∈Λ:=λ y hy=>by
  obtain ⟨l',hl',rfl⟩:=qq.1 hy
  exact ⟨rfl,rfl,hl'⟩
 refine Rg.draw2 (R:=⟨ops,N,Γ,lesN Λ,sp,λ i=>anc.getD i []⟩) hn2 hm hanc hk h (λ y hy _=>(hles0 y hy).2.2) (λ i hi=>hob.all i zo zo) (λ j hj=>qd.1 ha1 j (by simpa using hj)) ha2 λ a1 w1 hinv K hK=>?_
 have hcl:∀ deps,Rg.clash ⟨ops,N,Γ,lesN Λ,sp,λ i=>anc.getD i []⟩ (λ k=>decide (k<n)) deps=false:=λ deps=>by
  unfold Rg.clash
  rw [xh]
  intro y hy
  rw [(hles0 y hy).2.1]
  simp
 have hv:=hinv.v i1 _ s _ h1 rfl (qC hi1) (hcl _)
 have hu:=hA2 _ _ (hinv.v i2 _ u _ h2 rfl (qC hi2) (hcl _)) hinv.base
 have hB:B≤w0.w.heap.size:=hinv.lo _ (.inl (qi _))
 obtain ⟨v',w',hr,r1,r2,r3⟩:=fK (T1:=T1) hS hi hz hsz hby hzs hm0 hl hb6 hv hu hD' hED hxm hinv.base.size hB
 have hdsz:d<a1.tmps.size:=by rw [hinv.size]; exact hd
 have hesz:e<(a1.put (some d) v').tmps.size:=by rw [size_put,hinv.size]; exact he
 have hne:d≠e:=by simpa using hde
 refine bu (R:=⟨ops,N,Γ,lesN Λ,sp,λ i=>anc.getD i []⟩) ho1 G (aY (w':=w') (v:=v') (by simp [execOp,resolve,invoke,builtin,hr,Result.andThen]) (hK _ _ λ K' hK'=>?_))
 refine bu (R:=⟨ops,N,Γ,lesN Λ,sp,λ i=>anc.getD i []⟩) ho2 G (aY (w':=w') (v:=v') ?_ (hK' _ _ (hQ _ _ ?_)))
 ·have:=aM a1 d v' hdsz
  simp [execOp,this]
 ·have hother:∀ t,t≠d→t≠e→((a1.put (some d) v').put (some e) v').eval (.tmp t)=a1.eval (.tmp t):=λ t h3 h4=>by
   rw [aq _ _ _ _ h4,aq _ _ _ _ h3]
  have hlc:∀ l'∈Λ,l'.T≠E∧E ∉ l'.A.deps∧l'.s≠d∧l'.s≠e:=λ l' hl'=>by
   have:=qd.1 hΛ l' hl'
   simp only [ql,bne_iff_ne,qv,qx,qk] at this
   exact ⟨this.1.1.1,this.1.1.2,this.1.2,this.2⟩
  have hcur:∀ l'∈Λ,(⟨l'.s,l'.T,l'.H,none,l'.A,none⟩:Le)∈lesN Λ:=λ l' hl'=>qq.2 ⟨l',hl',rfl⟩
  refine ⟨hinv.lo,hinv.defers.grown r2 r3 rfl,by rw [size_put,size_put]; exact hinv.size,?_,?_,?_,?_⟩
  ·exact ⟨r2.os.trans hinv.base.os,r2.tape.trans hinv.base.tape,r2.output.trans hinv.base.output,qe hinv.base.size r2.size,λ k hk hf =>
    (r2.block k (qE hk hinv.base.size) (λ e=>by have:=(r3 k e.symm).1; omega)).trans (hinv.base.block k hk hf)⟩
  ·intro y hy
   rcases qt.1 hy with rfl | hy
   ·show (OwnR w0.w.heap.size E m D (l++xs)).p B (((a1.put (some d) v').put (some e) v').eval (.tmp e)) w'
    rw [aM _ _ _ hesz]
    exact r1
   ·obtain ⟨k,hk1,hk2⟩:=qQ.1 hy
    have hs:=qd.1 hsrc k hk1
    simp only [hk2,ql,qv,qx,qk] at hs
    have hout:∀ q,q<ops.size→Rg.dst ⟨ops,N,Γ,lesN Λ,sp,λ i=>anc.getD i []⟩ q≠some y.1:=λ q hq=>by
     have:=qd.1 hs.2 q (by simpa using hq)
     simpa using this
    have g1:y.1≠d:=λ e1=>hout n zo (by unfold Rg.dst; rw [ho1,e1]; rfl)
    have g2:y.1≠e:=λ e1=>hout (n+1) zo (by unfold Rg.dst; rw [ho2,e1]; rfl)
    rw [hother _ g1 g2]
    exact VA.grown (hinv.g y (qa hk2) (λ q hq hdq=>absurd hdq (hout q hq)) (hcl _)) r2 r3 hB hs.1
  ·intro l' hl'
   obtain ⟨g1,g2,g3,g4⟩:=hlc l' hl'
   obtain ⟨g,cs,e1,e2,e3,e4⟩:=hinv.c _ (hcur l' hl') l'.A rfl
   refine ⟨g,cs,by rw [hother _ g3 g4]; exact e1,e2,?_,As.grown e4 r2 r3 hB g2⟩
   rw [r2.block g (Array.getElem?_eq_some_iff.1 e3).1 (λ e5=>by
    obtain ⟨_,c,fz,e6⟩:=r3 g e5.symm
    rw [e3] at e6
    injection e6 with e6
    injection e6 with _ e6 _
    exact g1 e6)]
   exact e3
  ·intro l1 hl1 l2 hl2 hne'
   obtain ⟨_,_,g3,g4⟩:=hlc l1 hl1
   obtain ⟨_,_,g5,g6⟩:=hlc l2 hl2
   rw [hother _ g3 g4,hother _ g5 g6]
   exact hinv.x _ (hcur l1 hl1) _ (hcur l2 hl2) hne' G rfl
end
def OwnB (b:Nat)(E:TypeId)(m:Nat)(D:List TypeId)(l:List As):VA where
 p B v w:=b≤w.heap.size∧B≤b∧(OwnR b E m D l).p B v w
 deps:=E::D
 cg:=λ B v w w' hg ⟨h1,h2,h3⟩=>⟨qe h1 hg.size,h2,(OwnR b E m D l).cg B v w w' hg h3⟩
 wr:=λ B v w w' g c T fz hgc hT hB hW ⟨h1,h2,h3⟩=>⟨by rw [hW.size]; exact h1,h2,(OwnR b E m D l).wr B v w w' g c T fz hgc hT hB hW h3⟩
def PtrLt (b:Nat):VA where
 p _ v _:=∃ g,blk v=some g∧g<b
 deps:=[]
 cg:=λ _ _ _ _ _ h=>h
 wr:=λ _ _ _ _ _ _ _ _ _ _ _ _ h=>h
open Rg in
theorem Gu {Q:Exit→Act→World→Prop}{B N:Nat}{id:Nat}{ops:Array Oper}{sp:List Sp}(n:Nat)(src:List Nat)(i1 i2 k3:Nat){S E T1 T2:TypeId}{s u d e m bytes b s3:Nat}{ps1 ps2:String}{af1 af2:Array Edge}{D D':List TypeId}{l xs:List As}{A2:VA}{it:TypeInfo}{z:Value}
  (h:St B w0 N Γ Λ a w) (hob:Obs P Q ⟨ops,N,Γ,lesN Λ,sp,λ i=>List.range i⟩ B w0 0 n) (hn2:ops.size=n+2) (hk:Rg.chk ⟨ops,N,Γ,lesN Λ,sp,λ i=>List.range i⟩=true)
  (ho1:ops[n]?=some ⟨some d,.call ⟨.builtin .append,#[.tmp s,.tmp u],#[S,S]⟩,T1,ps1,af1,none⟩) (ho2:ops[n+1]?=some ⟨some e,.assign (.tmp d),T2,ps2,af2,none⟩)
  (hi1:i1<n) (h1:sp[i1]?=some (.v s (OwnB b E m D l))) (hi2:i2<n) (h2:sp[i2]?=some (.v u A2)) (h3:Γ[k3]?=some (s3,PtrLt b)) (ho3:Rg.outG ⟨ops,N,Γ,lesN Λ,sp,λ i=>List.range i⟩ s3=true) (hwb:w0.w.heap.size≤b) (hA2:∀ w u,A2.p B u w→Kept w0 w→(SlA E D' xs).va.p B u w)
  (hS:P.underlying S=some (.slice E)) (hi:P.info? E=some it) (hz:it.zero=some z) (hsz:it.size=m) (hby:it.bytes=bytes) (hzs:z.cells.size=m) (hm0:0<m) (hl:l.length+xs.length≤100000000000) (hb6:bytes≤1000)
  (hD':∀ T∈D',T∈D) (hED:E ∉ D) (hxm:∀ x∈xs,x.n=m) (hde:(d != e)=true) (hd:d<N) (he:e<N)
  (hsrc:src.all (λ k=>match Γ[k]? with | some y => !y.2.deps.contains E&&Rg.outG ⟨ops,N,Γ,lesN Λ,sp,λ i=>List.range i⟩ y.1 | none=>false)=true)
  (hΛ:Λ.all (λ l=>(l.T != E || l.s==s3) && !l.A.deps.contains E&&l.s != d&&l.s != e)=true)
  (hQ:∀ a w,St B w0 N ((e,OwnB b E m D (l++xs))::src.filterMap (λ k=>Γ[k]?)) Λ a w→Q .normal a w):(Code.region id ops false).wp P Q a w:=by
 have hles0:∀ y∈lesN Λ,y.cr=none∧y.st=none∧(⟨y.s,y.T,y.H,y.A0⟩:Lc)∈Λ:=λ y hy=>by
  obtain ⟨l',hl',rfl⟩:=qq.1 hy
  exact ⟨rfl,rfl,hl'⟩
 refine Rg.linK (R:=⟨ops,N,Γ,lesN Λ,sp,λ i=>List.range i⟩) (m:=2) hn2 G hk h (λ y hy _=>(hles0 y hy).2.2) (λ i hi=>hob.all i zo zo) λ a1 w1 hinv=>?_
 have hcl:∀ deps,Rg.clash ⟨ops,N,Γ,lesN Λ,sp,λ i=>List.range i⟩ (λ k=>decide (k<n)) deps=false:=λ deps=>by
  unfold Rg.clash
  rw [xh]
  intro y hy
  rw [(hles0 y hy).2.1]
  simp
 obtain ⟨hbw,hB,hv⟩:=hinv.v i1 _ s _ h1 rfl (qC hi1) (hcl _)
 have hout:∀ t,Rg.outG ⟨ops,N,Γ,lesN Λ,sp,λ i=>List.range i⟩ t=true→∀ q,q<ops.size→Rg.dst ⟨ops,N,Γ,lesN Λ,sp,λ i=>List.range i⟩ q≠some t:=λ t ht q hq=>by
  have:=qd.1 ht q (by simpa using hq)
  simpa using this
 obtain ⟨g3,hg3,hlt3⟩:=hinv.g _ (qa h3) (λ q hq hdq=>absurd hdq (hout _ ho3 q hq)) (hcl _)
 have hu:=hA2 _ _ (hinv.v i2 _ u _ h2 rfl (qC hi2) (hcl _)) hinv.base
 obtain ⟨v',w',hr,r1,r2,r3⟩:=fK (T1:=T1) hS hi hz hsz hby hzs hm0 hl hb6 hv hu hD' hED hxm hbw hB
 have hdsz:d<a1.tmps.size:=by rw [hinv.size]; exact hd
 have hesz:e<(a1.put (some d) v').tmps.size:=by rw [size_put,hinv.size]; exact he
 have hne:d≠e:=by simpa using hde
 rw [List.range'_succ,qA]
 refine bu (R:=⟨ops,N,Γ,lesN Λ,sp,λ i=>List.range i⟩) ho1 G (aY (w':=w') (v:=v') (by simp [execOp,resolve,invoke,builtin,hr,Result.andThen]) ?_)
 rw [List.range'_succ,qA]
 refine bu (R:=⟨ops,N,Γ,lesN Λ,sp,λ i=>List.range i⟩) ho2 G (aY (w':=w') (v:=v') ?_ (hQ _ _ ?_))
 ·have:=aM a1 d v' hdsz
  simp [execOp,this]
 ·have hother:∀ t,t≠d→t≠e→((a1.put (some d) v').put (some e) v').eval (.tmp t)=a1.eval (.tmp t):=λ t h3 h4=>by
   rw [aq _ _ _ _ h4,aq _ _ _ _ h3]
  have hlc:∀ l'∈Λ,(l'.T≠E∨l'.s=s3)∧E ∉ l'.A.deps∧l'.s≠d∧l'.s≠e:=λ l' hl'=>by
   have:=qd.1 hΛ l' hl'
   simp only [ql,zw,xc,bne_iff_ne,qv,qx,qk] at this
   exact ⟨this.1.1.1,this.1.1.2,this.1.2,this.2⟩
  have hcur:∀ l'∈Λ,(⟨l'.s,l'.T,l'.H,none,l'.A,none⟩:Le)∈lesN Λ:=λ l' hl'=>qq.2 ⟨l',hl',rfl⟩
  refine ⟨hinv.lo,hinv.defers.grown r2 r3 rfl,by rw [size_put,size_put]; exact hinv.size,?_,?_,?_,?_⟩
  ·exact ⟨r2.os.trans hinv.base.os,r2.tape.trans hinv.base.tape,r2.output.trans hinv.base.output,qe hinv.base.size r2.size,λ k hk hf =>
    (r2.block k (qE hk hinv.base.size) (λ e=>by have:=(r3 k e.symm).1; omega)).trans (hinv.base.block k hk hf)⟩
  ·intro y hy
   rcases qt.1 hy with rfl | hy
   ·show (OwnB b E m D (l++xs)).p B (((a1.put (some d) v').put (some e) v').eval (.tmp e)) w'
    rw [aM _ _ _ hesz]
    exact ⟨qe hbw r2.size,hB,r1⟩
   ·obtain ⟨k,hk1,hk2⟩:=qQ.1 hy
    have hs:=qd.1 hsrc k hk1
    simp only [hk2,ql,qv,qx,qk] at hs
    have hout:=hout y.1 hs.2
    have g1:y.1≠d:=λ e1=>hout n zo (by unfold Rg.dst; rw [ho1,e1]; rfl)
    have g2:y.1≠e:=λ e1=>hout (n+1) zo (by unfold Rg.dst; rw [ho2,e1]; rfl)
    rw [hother _ g1 g2]
    exact VA.grown (hinv.g y (qa hk2) (λ q hq hdq=>absurd hdq (hout q hq)) (hcl _)) r2 r3 hB hs.1
  ·intro l' hl'
   obtain ⟨g1,g2,g3,g4⟩:=hlc l' hl'
   obtain ⟨g,cs,e1,e2,e3,e4⟩:=hinv.c _ (hcur l' hl') l'.A rfl
   refine ⟨g,cs,by rw [hother _ g3 g4]; exact e1,e2,?_,As.grown e4 r2 r3 hB g2⟩
   rw [r2.block g (Array.getElem?_eq_some_iff.1 e3).1 (λ e5=>by
    obtain ⟨h8,c,fz,e6⟩:=r3 g e5.symm
    rcases g1 with g1 | g1
    ·rw [e3] at e6
     injection e6 with e6
     injection e6 with _ e6 _
     exact g1 e6
    ·rw [← g1,e1,l'.H.ok] at hg3
     injection hg3 with hg3
     omega)]
   exact e3
  ·intro l1 hl1 l2 hl2 hne'
   obtain ⟨_,_,g3,g4⟩:=hlc l1 hl1
   obtain ⟨_,_,g5,g6⟩:=hlc l2 hl2
   rw [hother _ g3 g4,hother _ g5 g6]
   exact hinv.x _ (hcur l1 hl1) _ (hcur l2 hl2) hne' G rfl
theorem Cn.introF {f : FuncId} {fn : Func} {c : Code} {pre : List VA} {post : VA} (hf : P.funcs[f]? = some fn) (hb : fn.body = some c) (hn : (fn.name == "runtime.NumGoroutine") = false) (hsz : pre.length ≤ fn.ntmps)
  (h:∀ (B:Nat) (w0:Bs) (a:Act),NoF w0→St B w0 fn.ntmps (argΓ pre) [] a w0.w→c.wp P (bPost P fn (RQ B w0 post)) a w0.w):Cn P f pre post:=by
 refine ⟨⟨fn,hf,hn,by rw [hb]; rfl⟩,λ B w args hB ha=>(bS hf hb (h B ⟨w,λ _=>False,false⟩ _ (λ _ h=>h.elim) ?_)).mono λ _ _ ⟨v,he,hv,hk⟩=>⟨v,he,hv,hk.grow0⟩⟩
 have hl:=ha.length
 refine ⟨λ g hg=>qe hB (hg.resolve_right λ h=>h),DefOk.nil rfl,?_,Kept.refl _,All2.args ha,(λ l hl=>by cases hl),(λ l hl=>by cases hl)⟩
 simp only [zZ,zV,qJ]
 omega
theorem aT {R:Rg}{B i:Nat}{x:Operand}{A:VA}(hF:NoF w0)(hv:A.p B v w0.w)(h:Has R B w0 i x (EqV v)):Has R B w0 i x A:=λ a w av=>by
 have e:a.eval x=v:=h a w av
 rw [e]
 exact A.cg _ _ _ _ (hF.cg av.base) hv
theorem St.eqv {B N:Nat}(h:St B w0 N Γ Λ a w0.w){s:Nat}{A:VA}(k:Nat)(hm:Γ[k]?=some (s,A)):∃ v,A.p B v w0.w∧St B w0 N (Γ.set k (s,EqV v)) Λ a w0.w :=
 ⟨a.eval (.tmp s),h.vals _ (qa hm),h.lo,h.defers,h.size,h.base,λ x hx=>by
  rcases qy hx with hx | rfl
  ·exact h.vals x hx
  ·exact rfl,h.locs,h.dis⟩
theorem BT {l l':List VA}(h:All2 Free l l'){B B':Nat}(hB:B'≤B):∀ {vs:List Value},All2 (λ (A:VA) x=>A.p B x w) l vs→All2 (λ (A:VA) x=>A.p B' x w) l' vs:=by
 induction h with
 | nil=>intro vs hv; cases hv; exact .nil
 | cons h _ ih=>intro vs hv; cases hv with | cons h1 h2=>exact .cons (h _ _ _ _ hB h1) (ih h2)
theorem pG {l l':List VA}(h:All2 Free l l'):Free (Tu l) (Tu l'):=λ _ _ _ _ hB ⟨vs,e,hv⟩=>⟨vs,e,BT h hB hv⟩
def CnI (P:Program)(f:FuncId)(pre:List VA)(mk:Nat→VA):Prop :=
 (∃ fn, P.funcs[f]? = some fn ∧ (fn.name == "runtime.NumGoroutine") = false ∧ fn.body.isNone = false) ∧
 ∀ (B:Nat) (w:World) (args:List Value),B≤w.heap.size→All2 (λ A v=>A.p B v w) pre args →
  Calls P f args.toArray w λ e w'=>∃ v,e=.returned v∧(mk w.heap.size).p B v w'∧Grow w w'
theorem CnI.introF {f : FuncId} {fn : Func} {c : Code} {pre : List VA} {mk : Nat → VA} (hf : P.funcs[f]? = some fn) (hb : fn.body = some c) (hn : (fn.name == "runtime.NumGoroutine") = false) (hsz : pre.length ≤ fn.ntmps)
  (h:∀ (B:Nat) (w0:Bs) (a:Act),(∀ g,¬ w0.F g)→NoF w0→St B w0 fn.ntmps (argΓ pre) [] a w0.w→c.wp P (bPost P fn (RQ B w0 (mk w0.w.heap.size))) a w0.w):CnI P f pre mk:=by
 refine ⟨⟨fn,hf,hn,by rw [hb]; rfl⟩,λ B w args hB ha=>(bS hf hb (h B ⟨w,λ _=>False,false⟩ _ (λ _ h=>h) (λ _ h=>h.elim) ?_)).mono λ _ _ ⟨v,he,hv,hk⟩=>⟨v,he,hv,hk.grow0⟩⟩
 have hl:=ha.length
 refine ⟨λ g hg=>qe hB (hg.resolve_right λ h=>h),DefOk.nil rfl,?_,Kept.refl _,All2.args ha,(λ l hl=>by cases hl),(λ l hl=>by cases hl)⟩
 simp only [zZ,zV,qJ]
 omega
end Go.Proofs.YtedfcalhhldijaaGreatDoor
