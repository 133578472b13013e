import Derived.Test.YthdbhckhignfcaaGreatDoorBxAa
import Derived.Test.YthdbhckhignfcaaGreatDoorBxAc
import Derived.Test.YthdbhckhignfcaaGreatDoorBxAu
set_option linter.unusedVariables false
set_option linter.unusedSimpArgs false
set_option linter.unusedSectionVars false
set_option maxRecDepth 100000
namespace Go.Proofs.YthdbhckhignfcaaGreatDoor
open Go Go.RowKit
structure Slt.new (s:Slt):Prop where
 rv:RowV s.v s.xs.length
 z1:s.z.oneCell'=true
 n1:s.n≤1000000
 lx:s.xs.length≤2000000000
 uv:s.u=s.v
 yx:s.ys=s.xs
structure Fik (A:Nat→As) (s t:Slt) (c:Nat→Prop):Prop where
 v:t.v=s.v
 u:t.u=s.v
 yx:t.ys=t.xs
 z:t.z=s.z
 n:t.n=s.n
 l:t.xs.length=s.xs.length
 m:∀ q x,t.xs[q]?=some x→c q→isMk A s.n x
def FiK (A:Nat→As)(L M:List Slt)(i k:Nat):Prop:=M.length=L.length∧∀ (j:Nat) s,L[j]?=some s→∃ t,M[j]?=some t∧Fik A s t (fun q=>j<i∨(j=i∧q<k))
theorem fik_0 {A:Nat→As}{L:List Slt}(h:∀ s∈L,s.new):FiK A L L 0 0:=⟨rfl,fun j s hs=>⟨s,hs,rfl,(h s (List.mem_of_getElem? hs)).uv,(h s (List.mem_of_getElem? hs)).yx,rfl,rfl,rfl,fun q x _ hc=>by omega⟩⟩
theorem zsr {A:Nat→As}{L M:List Slt}{i k j:Nat}{s:Slt}(h:FiK A L M i k)(hs:L[j]?=some s):∃ t,M[j]?=some t∧Fik A s t (fun q=>j<i∨(j=i∧q<k)):=h.2 j s hs
theorem zsp {A:Nat→As}{L M:List Slt}{i k:Nat}{s t:Slt}{ds:List Value}(h:FiK A L M i k)(hs:L[i]?=some s)(ht:M[i]?=some t)(hd:isMk A s.n ds):FiK A L (M.set i { t with xs:=t.xs.set k ds,ys:=t.xs.set k ds }) i (k+1):=by
 have hlt:=(List.getElem?_eq_some_iff.1 ht).1
 refine ⟨by rw [List.length_set]; exact h.1,fun j s' hj=>?_⟩
 obtain ⟨t',h1,h2⟩:=h.2 j s' hj
 by_cases e:j=i
 ·subst e
  rw [hs] at hj
  injection hj with hj
  subst hj
  rw [ht] at h1
  injection h1 with h1
  subst h1
  refine ⟨_,List.getElem?_set_self hlt,h2.v,h2.u,rfl,h2.z,h2.n,by rw [List.length_set]; exact h2.l,fun q x hq hc=>?_⟩
  by_cases e2:q=k
  ·subst e2
   have hq':(t.xs.set q ds)[q]?=some x:=hq
   rw [List.getElem?_set] at hq'
   simp only [if_true] at hq'
   split at hq'
   ·injection hq' with hq'
    subst hq'
    exact hd
   ·cases hq'
  ·have hq':(t.xs.set k ds)[q]?=some x:=hq
   rw [List.getElem?_set_ne (fun e3=>e2 e3.symm)] at hq'
   exact h2.m q x hq' zo
 ·refine ⟨t',by rw [List.getElem?_set_ne (fun e2=>e e2.symm)]; exact h1,h2.v,h2.u,h2.yx,h2.z,h2.n,h2.l,fun q x hq hc=>h2.m q x hq ?_⟩
  rcases hc with hc | ⟨hc,_⟩
  ·exact .inl hc
  ·exact absurd hc e
theorem zsq {A:Nat→As}{L M:List Slt}{i:Nat}{s:Slt}(h:FiK A L M i s.xs.length)(hs:L[i]?=some s):FiK A L M (i+1) 0:=by
 refine ⟨h.1,fun j s' hj=>?_⟩
 obtain ⟨t,h1,h2⟩:=h.2 j s' hj
 refine ⟨t,h1,h2.v,h2.u,h2.yx,h2.z,h2.n,h2.l,fun q x hq hc=>h2.m q x hq ?_⟩
 rcases hc with hc | ⟨_,hc⟩
 ·by_cases e:j=i
  ·subst e
   rw [hs] at hj
   injection hj with hj
   subst hj
   have:=(List.getElem?_eq_some_iff.1 hq).1
   exact .inr ⟨rfl,by rw [← h2.l]; exact this⟩
  ·exact .inl zo
 ·omega
structure Slt.full (A:Nat→As) (s:Slt):Prop extends s.new where
 xm:∀ x∈s.xs,isMk A s.n x
theorem zyp {A:Nat→As}{s t:Slt}{c:Nat→Prop}(h:Fik A s t c)(hs:s.new):t.new:=⟨by rw [h.v,h.l]; exact hs.rv,by rw [h.z]; exact hs.z1,by rw [h.n]; exact hs.n1,by rw [h.l]; exact hs.lx,by rw [h.u,h.v],h.yx⟩
theorem zyq {A:Nat→As}{L M:List Slt}{i k:Nat}(h:FiK A L M i k){t:Slt}(ht:t∈M):∃ j s,L[j]?=some s∧Fik A s t (fun q=>j<i∨(j=i∧q<k)):=by
 obtain ⟨j,hj⟩:=List.getElem?_of_mem ht
 have hlt:=(List.getElem?_eq_some_iff.1 hj).1
 rw [h.1] at hlt
 obtain ⟨t',h1,h2⟩:=h.2 j _ (List.getElem?_eq_getElem hlt)
 rw [hj] at h1
 injection h1 with h1
 subst h1
 exact ⟨j,_,List.getElem?_eq_getElem hlt,h2⟩
theorem zyo {A:Nat→As}{L M:List Slt}{i k:Nat}(h:FiK A L M i k)(hn:∀ s∈L,s.new):OneK M:=fun t ht=>by
 obtain ⟨j,s,hs,hf⟩:=zyq h ht
 have:=zyp hf (hn s (List.mem_of_getElem? hs))
 exact ⟨this.rv.one,this.z1⟩
def allFull (A:Nat→As)(L M:List Slt):Prop:=M.length=L.length∧∀ t∈M,t.full A
theorem zyr {A:Nat→As}{L M:List Slt}{i:Nat}(h:FiK A L M i 0)(hi:L.length≤i)(hn:∀ s∈L,s.new):allFull A L M:=⟨h.1,fun t ht=>by
 obtain ⟨j,s,hs,hf⟩:=zyq h ht
 refine ⟨zyp hf (hn s (List.mem_of_getElem? hs)),fun x hx=>?_⟩
 obtain ⟨q,hq⟩:=List.getElem?_of_mem hx
 rw [hf.n]
 exact hf.m q x hq (.inl (by have:=(List.getElem?_eq_some_iff.1 hs).1; omega))⟩
structure GrewK (A:Nat→As) (s t:Slt):Prop where
 v:t.v=s.v
 xs:t.xs=s.xs
 n:t.n=s.n
 z:t.z=t.u
 yl:t.ys.length=s.xs.length+70
 ym:∀ y∈t.ys,isMk A s.n y
def GrK (A:Nat→As)(L M:List Slt)(i:Nat):Prop:=M.length=L.length∧∀ (j:Nat) s,L[j]?=some s→∃ t,M[j]?=some t∧(j<i→GrewK A s t)∧(i≤j→t=s)
theorem grk_0 {A:Nat→As}{L:List Slt}:GrK A L L 0:=⟨rfl,fun j s h=>⟨s,h,fun h=>absurd h (Nat.not_lt_zero _),fun _=>rfl⟩⟩
theorem grk_at {A:Nat→As}{L M:List Slt}{i:Nat}{s:Slt}(h:GrK A L M i)(hs:L[i]?=some s):M[i]?=some s:=by
 obtain ⟨t,h1,_,h2⟩:=h.2 i s hs
 rw [h1,h2 (Nat.le_refl _)]
def Slt.ext (s:Slt)(u:Value)(ys:List (List Value)):Slt:={ s with u:=u,ys:=ys }
theorem zsf {A:Nat→As}{L M:List Slt}{i:Nat}{s:Slt}{u:Value}{ys:List (List Value)}(h:GrK A L M i)(hs:L[i]?=some s)(hl:ys.length=s.xs.length+70)(hy:∀ y∈ys,isMk A s.n y):GrK A L (M.set i { s.ext u ys with z:=u }) (i+1):=by
 refine ⟨by rw [List.length_set]; exact h.1,fun j s' hj=>?_⟩
 by_cases e:j=i
 ·subst e
  rw [hs] at hj
  injection hj with hj
  subst hj
  refine ⟨_,List.getElem?_set_self (by rw [h.1]; exact (List.getElem?_eq_some_iff.1 hs).1),fun _=>⟨rfl,rfl,rfl,rfl,hl,hy⟩,fun h=>by omega⟩
 ·obtain ⟨t,h1,h2,h3⟩:=h.2 j s' hj
  exact ⟨t,by rw [List.getElem?_set_ne (fun e2=>e e2.symm)]; exact h1,fun h=>h2 zo,fun h=>h3 zo⟩
theorem zy5 {A:Nat→As}{L M:List Slt}{i:Nat}(h:GrK A L M i){t:Slt}(ht:t∈M):∃ s∈L,GrewK A s t∨t=s:=by
 obtain ⟨j,hj⟩:=List.getElem?_of_mem ht
 have hlt:=(List.getElem?_eq_some_iff.1 hj).1
 rw [h.1] at hlt
 obtain ⟨t',h1,h2,h3⟩:=h.2 j _ (List.getElem?_eq_getElem hlt)
 rw [hj] at h1
 injection h1 with h1
 subst h1
 refine ⟨_,List.getElem_mem hlt,?_⟩
 by_cases e:j<i
 ·exact .inl (h2 e)
 ·exact .inr (h3 zo)
structure Slt.done (A:Nat→As) (t:Slt):Prop where
 rv:RowV t.v t.xs.length
 zu:t.z=t.u
 xm:∀ x∈t.xs,isMk A t.n x
 ym:∀ y∈t.ys,isMk A t.n y
 yl:t.ys.length=t.xs.length+70
 n1:t.n≤1000000
 lx:t.xs.length≤2000000000
def allDone (A:Nat→As)(L M:List Slt):Prop:=M.length=L.length∧∀ t∈M,t.done A
theorem zy6 {A:Nat→As}{L M:List Slt}{i:Nat}(h:GrK A L M i)(hi:L.length≤i)(hf:∀ s∈L,s.full A):allDone A L M:=⟨h.1,fun t ht=>by
 obtain ⟨j,hj⟩:=List.getElem?_of_mem ht
 have hlt:=(List.getElem?_eq_some_iff.1 hj).1
 rw [h.1] at hlt
 obtain ⟨t',h1,h2,_⟩:=h.2 j _ (List.getElem?_eq_getElem hlt)
 rw [hj] at h1
 injection h1 with h1
 subst h1
 have hG:=h2 zo
 have hs:=hf _ (List.getElem_mem hlt)
 exact ⟨by rw [hG.v,hG.xs]; exact hs.rv,hG.z,by rw [hG.xs,hG.n]; exact hs.xm,by rw [hG.n]; exact hG.ym,by rw [hG.xs]; exact hG.yl,by rw [hG.n]; exact hs.n1,by rw [hG.xs]; exact hs.lx⟩⟩
theorem zjc {M:List Slt}{i:Nat}{x y:Slt}:(M.set i x).set i y=M.set i y:=by simp
theorem zof {M:List Slt}{i:Nat}{x:Slt}(h:M[i]?=some x):M.set i x=M:=by
 obtain ⟨h1,h2⟩:=List.getElem?_eq_some_iff.1 h
 subst h2
 simp
theorem extK_0 {s:Slt}(h:s.new):s.ext s.v s.xs=s:=by
 have h1:=h.uv
 have h2:=h.yx
 obtain ⟨v,xs,u,ys,z,n⟩:=s
 simp only at h1 h2
 subst h1 h2
 rfl
theorem mk_mem {A:Nat→As}{n:Nat}{ys:List (List Value)}{ds:List Value}(h:∀ y∈ys,isMk A n y)(hd:isMk A n ds):∀ y∈ys++[ds],isMk A n y:=fun y hy=>by
 rcases List.mem_append.1 hy with hy | hy
 ·exact h y hy
 ·obtain rfl:=List.mem_singleton.1 hy; exact hd
theorem zmf {A:As}{n k:Nat}(h:k<n):(List.replicate n A)[k]?=some A:=by rw [List.getElem?_replicate,if_pos h]
theorem zri {A:As}{n m:Nat}(h:A.n=m):∀ X∈List.replicate n A,X.n=m:=fun X hX=>by rw [(List.mem_replicate.1 hX).2]; exact h
end Go.Proofs.YthdbhckhignfcaaGreatDoor
