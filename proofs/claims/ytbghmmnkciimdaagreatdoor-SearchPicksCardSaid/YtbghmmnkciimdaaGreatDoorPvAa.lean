import Derived.KernelRfl
import Derived.WalkKit
import Derived.Orders
import Derived.Great.BuildSlice
import Derived.Deep.LoopGhost
import Derived.OrdersIn
import Derived.RangeFuncNested
import Derived.Sort.LoopGhostIn
set_option linter.all false
set_option maxRecDepth 100000
namespace Go.Proofs.YtbghmmnkciimdaaGreatDoor
theorem zk {p : Prop} (h : p := by kernel_rfl) : p := h
theorem zo {p : Prop} (h : p := by omega) : p := h
theorem zd {p : Prop} (h : p := by decide) : p := h
theorem zm {α : Type _}{l : List α}{a : α} (i : Nat) (h : l[i]? = some a) : a ∈ l := List.mem_of_getElem? h
end Go.Proofs.YtbghmmnkciimdaaGreatDoor
namespace Go.Proofs.YtbghmmnkciimdaaGreatDoor
def val:List Nat→Nat
 | []=>0
 | x::xs=>x+4294967296*val xs
def okL (l:List Nat):Prop:=∀ x∈l,x<4294967296
@[simp] theorem sF:val []=0:=rfl
@[simp] theorem d7 (x:Nat) (xs:List Nat):val (x::xs)=x+4294967296*val xs:=rfl
theorem cU:okL []:=λ _ h=>by cases h
theorem okL_cons {x:Nat}{xs:List Nat}:okL (x::xs)↔x<4294967296∧okL xs:=by simp [okL]
theorem okL_append {l m:List Nat}:okL (l++m)↔okL l∧okL m:=by
 simp only [okL,List.mem_append];exact ⟨λ h=>⟨λ x hx=>h x (.inl hx),λ x hx=>h x (.inr hx)⟩,λ h x hx=>hx.elim (h.1 x) (h.2 x)⟩
theorem iX (l m:List Nat):val (l++m)=val l+4294967296^l.length*val m:=by
 induction l with
 | nil=>simp
 | cons x xs ih=>simp only [List.cons_append,d7,ih,List.length_cons,Nat.pow_succ,Nat.mul_add];rw [← Nat.mul_assoc,Nat.mul_comm 4294967296 (_^_)];omega
theorem fF {l:List Nat}(h:okL l):val l<4294967296^l.length:=by
 induction l with
 | nil=>simp
 | cons x xs ih =>
  have h':=okL_cons.1 h;have:=ih h'.2;simp only [d7,List.length_cons,Nat.pow_succ];omega
theorem lT (l:List Nat)(x:Nat):val (l++[x])=val l+4294967296^l.length*x:=by
 rw [iX];simp
theorem rh (n:Nat):val (List.replicate n 0)=0:=by
 induction n with
 | zero=>rfl
 | succ n ih=>simp [List.replicate_succ,ih]
def Canon (l:List Nat):Prop:=okL l∧l.getLast?≠some 0
theorem nk:Canon []:=⟨cU,by simp⟩
theorem Canon.tail {x:Nat}{xs:List Nat}(h:Canon (x::xs)):Canon xs:=by
 refine ⟨(okL_cons.1 h.1).2,λ e=>h.2 ?_⟩;cases xs with
 | nil=>simp at e
 | cons y ys=>simpa [List.getLast?_cons_cons] using e
theorem Canon.val_pos {l:List Nat}(h:Canon l)(hl:l≠[]):0<val l:=by
 induction l with
 | nil=>exact absurd rfl hl
 | cons x xs ih =>
  cases xs with
  | nil =>
   have:x≠0:=λ e=>h.2 (by simp [e]);simp only [d7,sF];omega
  | cons y ys=>have:=ih h.tail (by simp);simp only [d7] at *;omega
theorem DR {l m:List Nat}(hl:Canon l)(hm:Canon m)(h:val l=val m):l=m:=by
 induction l generalizing m with
 | nil =>
  cases m with
  | nil=>rfl
  | cons y ys=>have:=hm.val_pos (by simp);simp only [sF] at h;omega
 | cons x xs ih =>
  cases m with
  | nil=>have:=hl.val_pos (by simp);simp only [sF] at h;omega
  | cons y ys =>
   have hx:=(okL_cons.1 hl.1).1;have hy:=(okL_cons.1 hm.1).1;simp only [d7] at h;have e1:x=y:=by omega
   have e2:val xs=val ys:=by omega
   rw [e1,ih hl.tail hm.tail e2]
def aA (n:Nat):List Nat:=if h:n=0 then [] else n%4294967296::aA (n/4294967296)
termination_by n
decreasing_by omega
theorem bE:aA 0=[]:=by rw [aA];simp
theorem dh {n:Nat}(h:n≠0):aA n=n%4294967296::aA (n/4294967296):=by rw [aA];simp [h]
theorem aI (n:Nat):val (aA n)=n:=by
 induction n using Nat.strongRecOn with
 | _ n ih =>
  by_cases h:n=0
  ·subst h;rw [bE];rfl
  ·rw [dh h,d7,ih _ zo];omega
theorem bm (n:Nat):Canon (aA n):=by
 induction n using Nat.strongRecOn with
 | _ n ih =>
  by_cases h:n=0
  ·subst h;rw [bE];exact nk
  ·rw [dh h];have h1:=ih (n/4294967296) zo;refine ⟨okL_cons.2 ⟨by omega,h1.1⟩,λ e=>?_⟩;by_cases h2:n/4294967296=0
   ·rw [h2,bE] at e;simp at e;omega
   ·rw [dh h2] at e h1;rw [List.getLast?_cons_cons] at e;exact h1.2 e
theorem rO {l:List Nat}(h:Canon l):aA (val l)=l:=DR (bm _) h (aI _)
theorem ez {n k:Nat}(h:n<4294967296^k):(aA n).length≤k:=by
 induction k generalizing n with
 | zero =>
  have:n=0:=by simpa using h
  subst this;rw [bE];simp
 | succ k ih =>
  by_cases h0:n=0
  ·subst h0;rw [bE];simp
  ·rw [dh h0];have:=ih (n:=n/4294967296) (by rw [Nat.pow_succ] at h;exact Nat.div_lt_of_lt_mul (by rw [Nat.mul_comm];exact h));simp;omega
theorem cz {n k:Nat}(h:(aA n).length≤k):n<4294967296^k:=by
 have:=fF (bm n).1;rw [aI] at this;exact Nat.lt_of_lt_of_le this (Nat.pow_le_pow_right zo h)
theorem Canon.lt_val {l:List Nat}(h:Canon l)(hl:l≠[]):4294967296^(l.length-1)≤val l:=by
 induction l with
 | nil=>exact absurd rfl hl
 | cons x xs ih =>
  cases xs with
  | nil=>have:=h.val_pos hl;simp at *;omega
  | cons y ys =>
   have:=ih h.tail (by simp);simp only [List.length_cons,Nat.add_sub_cancel,Nat.pow_succ] at *;rw [d7];omega
def bx:List Nat→List Nat
 | []=>[]
 | x::xs=>match bx xs with
  | []=>if x=0 then [] else [x]
  | y::ys=>x::y::ys
theorem ri (l:List Nat):val (bx l)=val l:=by
 induction l with
 | nil=>rfl
 | cons x xs ih =>
  unfold bx;cases h:bx xs with
  | nil=>rw [h] at ih;by_cases hx:x=0 <;> simp [hx] at ih ⊢ <;> omega
  | cons y ys=>rw [h] at ih;simp only [d7] at ih ⊢;omega
theorem tL {l:List Nat}(h:okL l):Canon (bx l):=by
 induction l with
 | nil=>exact nk
 | cons x xs ih =>
  have h':=okL_cons.1 h;have i:=ih h'.2;unfold bx;cases hh:bx xs with
  | nil =>
   by_cases hx:x=0
   ·simp [hx];exact nk
   ·simp only [hx,if_false];exact ⟨okL_cons.2 ⟨h'.1,cU⟩,by simpa using hx⟩
  | cons y ys =>
   rw [hh] at i;exact ⟨okL_cons.2 ⟨h'.1,i.1⟩,by rw [List.getLast?_cons_cons];exact i.2⟩
theorem dD {l:List Nat}(h:okL l):bx l=aA (val l):=by
 rw [← ri];exact (rO (tL h)).symm
theorem iZ (l:List Nat):bx l=l.take (bx l).length:=by
 induction l with
 | nil=>rfl
 | cons x xs ih =>
  unfold bx;cases hh:bx xs with
  | nil=>by_cases hx:x=0 <;> simp [hx]
  | cons y ys=>rw [hh] at ih;simp only [List.length_cons,List.take_succ_cons] at ih ⊢;rw [← ih]
theorem AI (l:List Nat):(bx l).length≤l.length:=by
 rw [iZ];simp;omega
theorem mq (l:List Nat):bx (l++[0])=bx l:=by
 induction l with
 | nil=>simp [bx]
 | cons x xs ih=>simp only [List.cons_append,bx,ih]
theorem nF (l:List Nat){x:Nat}(hx:x≠0):bx (l++[x])=l++[x]:=by
 induction l with
 | nil=>simp [bx,hx]
 | cons y ys ih =>
  simp only [List.cons_append,bx,ih];cases h:ys++[x] with
  | nil=>simp at h
  | cons a b=>rfl
def digs:Nat→Nat→List Nat
 | 0,_=>[]
 | n+1,m=>m%4294967296::digs n (m/4294967296)
theorem ay (n m:Nat):(digs n m).length=n:=by
 induction n generalizing m with
 | zero=>rfl
 | succ n ih=>simp [digs,ih]
theorem bY (n m:Nat):okL (digs n m):=by
 induction n generalizing m with
 | zero=>exact cU
 | succ n ih=>exact okL_cons.2 ⟨Nat.mod_lt _ zo,ih _⟩
theorem dU (n m:Nat):val (digs n m)=m%4294967296^n:=by
 induction n generalizing m with
 | zero=>simp [digs,Nat.mod_one]
 | succ n ih =>
  rw [digs,d7,ih,Nat.pow_succ,Nat.mul_comm (4294967296^n),Nat.mod_mul]
theorem iO (n m:Nat):digs (n+1) m=digs n m++[m/4294967296^n%4294967296]:=by
 induction n generalizing m with
 | zero=>simp [digs]
 | succ n ih =>
  rw [digs,ih];simp only [digs,List.cons_append];rw [Nat.div_div_eq_div_mul,Nat.pow_succ,Nat.mul_comm 4294967296]
theorem gx {n m m':Nat}(h:m%4294967296^n=m'%4294967296^n):digs n m=digs n m':=by
 induction n generalizing m m' with
 | zero=>rfl
 | succ n ih =>
  rw [Nat.pow_succ,Nat.mul_comm (4294967296^n),Nat.mod_mul,Nat.mod_mul] at h;have e1:m%4294967296=m'%4294967296:=by omega
  have e2:m/4294967296%4294967296^n=m'/4294967296%4294967296^n:=by omega
  rw [digs,digs,e1,ih e2]
theorem Gg {l:List Nat}(h:okL l):digs l.length (val l)=l:=by
 induction l with
 | nil=>rfl
 | cons x xs ih =>
  have h':=okL_cons.1 h;simp only [List.length_cons,digs,d7];have e1:(x+4294967296*val xs)%4294967296=x:=by omega
  have e2:(x+4294967296*val xs)/4294967296=val xs:=by omega
  rw [e1,e2,ih h'.2]
theorem mZ {l:List Nat}{n m:Nat}(h:okL l)(hl:l.length=n)(hv:val l=m):l=digs n m:=by
 subst hl hv;exact (Gg h).symm
theorem l3 {n m:Nat}(h:m<4294967296^n):bx (digs n m)=aA m:=by
 rw [dD (bY n m),dU,Nat.mod_eq_of_lt h]
theorem bG {l:List Nat}{i:Nat}(h:i<l.length):val (l.take (i+1))=val (l.take i)+4294967296^i*l[i]:=by
 rw [List.take_succ_eq_append_getElem h,lT,List.length_take,Nat.min_eq_left zo]
theorem cT {l:List Nat}(h:okL l)(i:Nat):val (l.take i)<4294967296^i:=by
 have h1:=fF (l:=l.take i) (λ x hx=>h x (List.mem_of_mem_take hx));exact Nat.lt_of_lt_of_le h1 (Nat.pow_le_pow_right zo (by simp;omega))
theorem rj {l:List Nat}{i:Nat}(h:i<l.length):val l=val (l.take i)+4294967296^i*(l[i]+4294967296*val (l.drop (i+1))):=by
 have e:l=l.take i++l[i]::l.drop (i+1):=by rw [List.getElem_cons_drop,List.take_append_drop]
 have:=iX (l.take i) (l[i]::l.drop (i+1));rw [← e,d7,List.length_take,Nat.min_eq_left zo] at this;exact this
def cN (a b:List Nat):Int:=if a.length≠b.length then (a.length:Int)-b.length else if val a<val b then -1 else if val b<val a then 1 else 0
theorem ua {a b:List Nat}{i:Nat}(ha:okL a)(hi:i<a.length)(hj:i<b.length)(hd:a.drop (i+1)=b.drop (i+1))(hlt:a[i]<b[i]):val a<val b:=by
 rw [rj hi,rj hj,hd];have h1:=cT ha i;have h2:4294967296^i*(a[i]+4294967296*val (b.drop (i+1)))+4294967296^i≤4294967296^i*(b[i]+4294967296*val (b.drop (i+1))):=by
  rw [← Nat.mul_succ];exact Nat.mul_le_mul_left _ zo
 omega
theorem lN {a b:List Nat}{i:Nat}(hi:i<a.length)(hj:i<b.length)(hd:a.drop (i+1)=b.drop (i+1))(he:a[i]=b[i]):a.drop i=b.drop i:=by
 rw [List.drop_eq_getElem_cons hi,List.drop_eq_getElem_cons hj,hd,he]
def bH (a b:List Nat)(i:Nat):Nat:=val (a.take i)+val (b.take i)
theorem g7 (a b:List Nat):bH a b 0=0:=rfl
theorem g9 {a b:List Nat}{i:Nat}(hi:i<a.length):bH a b (i+1)=bH a b i+4294967296^i*(a[i]+b.getD i 0):=by
 unfold bH;rw [bG hi];by_cases hb:i<b.length
 ·rw [bG hb,Nat.mul_add];simp [hb];omega
 ·rw [List.take_of_length_le (l:=b) (i:=i+1) zo,List.take_of_length_le (l:=b) (i:=i) zo];simp [hb];omega
theorem od {s i d:Nat}:(s+4294967296^i*d)/4294967296^i=s/4294967296^i+d:=by
 rw [Nat.add_mul_div_left _ _ (Nat.pow_pos zo)]
theorem carry_step' {s i d:Nat}:(s+4294967296^i*d)/4294967296^(i+1)=(s/4294967296^i+d)/4294967296:=by
 rw [Nat.pow_succ,← Nat.div_div_eq_div_mul,od]
theorem er {s i d:Nat}:digs (i+1) (s+4294967296^i*d)=digs i s++[(s/4294967296^i+d)%4294967296]:=by
 rw [iO,od]
 congr 1
 exact gx (by rw [Nat.add_mul_mod_self_left])
theorem fv {a b:List Nat}(ha:okL a)(hb:okL b)(i:Nat):bH a b i/4294967296^i≤1:=by
 have h1:=cT ha i;have h2:=cT hb i;unfold bH;have:(val (a.take i)+val (b.take i))/4294967296^i<2:=by
  rw [Nat.div_lt_iff_lt_mul (Nat.pow_pos zo)];omega
 omega
theorem rm {a b:List Nat}(h:b.length≤a.length):bH a b a.length=val a+val b:=by
 unfold bH;rw [List.take_of_length_le (Nat.le_refl _),List.take_of_length_le h]
end Go.Proofs.YtbghmmnkciimdaaGreatDoor
namespace Go.Proofs.YtbghmmnkciimdaaGreatDoor
open Go Go.RowKit
abbrev Xx (P:Program)(f:FuncId):Prop:=∃ fn,P.funcs[f]?=some fn∧(fn.name== "runtime.NumGoroutine")=false∧fn.body.isNone=false
def Grow (w w':World):Prop:=Below w.heap.size w w'
theorem Grow.refl (w:World):Grow w w:=Below.refl _ _
theorem Grow.trans {a b c:World}(h:Grow a b)(k:Grow b c):Grow a c:=Below.trans h (Below.mono k h.size)
theorem Grow.alloc (w:World)(o:Obj):Grow w (w.alloc o):=(Below.refl _ _).alloc (Nat.le_refl _) _
theorem Grow.drew (w:World):Grow w w.drew:=(Below.refl _ _).drew
theorem Grow.heap {w w':World}(h:Grow w w'){g:Nat}{o:Obj}(hg:w.heap[g]?=some o):w'.heap[g]?=some o :=
 (h.block g (Array.getElem?_eq_some_iff.1 hg).1).trans hg
theorem Grow.le {w w':World}(h:Grow w w'):w.heap.size≤w'.heap.size:=h.size
structure Cg (w w':World):Prop where
 size:w.heap.size≤w'.heap.size
 keep:∀ (g:Nat) (c:Array Value) (T:TypeId) (fz:Nat × Nat),w.heap[g]?=some (.cells c T fz)→w'.heap[g]?=some (.cells c T fz)
theorem Grow.cg {w w':World}(h:Grow w w'):Cg w w':=⟨h.size,λ _ _ _ _ hg=>h.heap hg⟩
theorem Cg.refl (w:World):Cg w w:=⟨Nat.le_refl _,λ _ _ _ _ h=>h⟩
theorem Cg.trans {a b c:World}(h:Cg a b)(k:Cg b c):Cg a c:=⟨Nat.le_trans h.size k.size,λ _ _ _ _ hg=>k.keep _ _ _ _ (h.keep _ _ _ _ hg)⟩
theorem Cg.heap {w w':World}(h:Cg w w'){g:Nat}{c:Array Value}{T:TypeId}{fz:Nat × Nat}(hg:w.heap[g]?=some (.cells c T fz)):w'.heap[g]?=some (.cells c T fz):=h.keep _ _ _ _ hg
theorem Cg.le {w w':World}(h:Cg w w'):w.heap.size≤w'.heap.size:=h.size
theorem Cg.cell {w w':World}(h:Cg w w'){a:Addr}{v:Value}(hc:w.cell? a=some v):w'.cell? a=some v:=by
 obtain ⟨o,ho,hoc⟩:=cells_of_cell hc;cases o with
 | cells c T fz=>rw [← hc];exact World.cell?_of_block ((h.heap ho).trans ho.symm)
 | _=>simp [Obj.isCells] at hoc
structure Wr (g:Nat) (w w':World):Prop where
 os:w'.os=w.os
 tape:w'.tape=w.tape
 output:w'.output=w.output
 size:w'.heap.size=w.heap.size
 block:∀ k,k≠g→w'.heap[k]?=w.heap[k]?
theorem Wr.setRow (w:World)(g:Nat)(cs:Array Value):Wr g w (w.setRow g cs) :=
 ⟨rfl,rfl,rfl,by simp,λ k hk=>setRow_other w g k cs zo⟩
structure Bs where
 w:World
 F:Nat→Prop
 nd:Bool
def Bs.may (b:Bs)(g:Nat):Prop:=b.w.heap.size≤g∨b.F g
structure Kept (b:Bs) (w:World):Prop where
 os:w.os=b.w.os
 tape:w.tape=b.w.tape
 output:w.output=b.w.output
 size:b.w.heap.size≤w.heap.size
 block:∀ k,k<b.w.heap.size→¬ b.F k→w.heap[k]?=b.w.heap[k]?
theorem Kept.refl (b:Bs):Kept b b.w:=⟨rfl,rfl,rfl,Nat.le_refl _,λ _ _ _=>rfl⟩
theorem Kept.grow {b:Bs}{w w':World}(h:Kept b w)(g:Grow w w'):Kept b w' :=
 ⟨g.os.trans h.os,g.tape.trans h.tape,g.output.trans h.output,Nat.le_trans h.size g.size,λ k hk hf=>(g.block k (Nat.lt_of_lt_of_le hk h.size)).trans (h.block k hk hf)⟩
theorem Kept.wr {b:Bs}{w w':World}{g:Nat}(h:Kept b w)(hw:Wr g w w')(hg:b.may g):Kept b w' :=
 ⟨hw.os.trans h.os,hw.tape.trans h.tape,hw.output.trans h.output,by rw [hw.size];exact h.size,λ k hk hf=>(hw.block k (λ e=>by subst e;rcases hg with h1|h1;omega;exact hf h1)).trans (h.block k hk hf)⟩
theorem Kept.drew {b:Bs}{w:World}(h:Kept b w):Kept b w.drew:=h.grow (Grow.drew w)
abbrev But (g:Nat)(w w':World):Prop:=Kept ⟨w,λ k=>k=g,false⟩ w'
theorem But.split {g:Nat}{w w':World}{cs cs':Array Value}{T:TypeId}(h:But g w w')(h0:w.heap[g]?=some (.cells cs T (0,0)))(h1:w'.heap[g]?=some (.cells cs' T (0,0))):Wr g w (w.setRow g cs')∧Grow (w.setRow g cs') w':=by
 refine ⟨Wr.setRow _ _ _,h.os,h.tape,h.output,by rw [(Wr.setRow w g cs').size];exact h.size,λ k hk=>?_⟩;by_cases e:k=g
 ·subst e;rw [h1,setRow_heap w k _ _ _ _ h0]
 ·rw [(Wr.setRow w g cs').block k e];exact h.block k (by rw [(Wr.setRow w g cs').size] at hk;exact hk) e
theorem Kept.but {b:Bs}{w w':World}{g:Nat}(h:Kept b w)(hw:But g w w')(hg:b.may g):Kept b w' :=
 ⟨hw.os.trans h.os,hw.tape.trans h.tape,hw.output.trans h.output,Nat.le_trans h.size hw.size,λ k hk hf=>(hw.block k (Nat.lt_of_lt_of_le hk h.size) (λ e=>by subst e;rcases hg with h1|h1;omega;exact hf h1)).trans (h.block k hk hf)⟩
theorem Kept.grow0 {w w':World}(h:Kept ⟨w,λ _=>False,false⟩ w'):Grow w w':=⟨h.os,h.tape,h.output,h.size,λ k hk=>h.block k hk (λ h=>h)⟩
theorem Grow.kept {w w':World}(h:Grow w w'):Kept ⟨w,λ _=>False,false⟩ w':=⟨h.os,h.tape,h.output,h.size,λ k hk _=>h.block k hk⟩
def NoF (b:Bs):Prop:=∀ k,b.F k→∀ (c:Array Value) (T:TypeId) (fz:Nat × Nat),b.w.heap[k]?≠some (.cells c T fz)
theorem NoF.cg {b:Bs}{w:World}(h:NoF b)(hk:Kept b w):Cg b.w w:=⟨hk.size,λ g c T fz hg=>(hk.block g (Array.getElem?_eq_some_iff.1 hg).1 (λ hf=>h g hf c T fz hg)).trans hg⟩
structure VA where
 p:Nat→Value→World→Prop
 deps:List TypeId
 cg:∀ (B:Nat) (v:Value) (w w':World),Cg w w'→p B v w→p B v w'
 wr:∀ (B:Nat) (v:Value) (w w':World) (g:Nat) (c:Array Value) (T:TypeId) (fz:Nat × Nat),w.heap[g]?=some (.cells c T fz)→T ∉ deps→B≤g→Wr g w w'→p B v w→p B v w'
structure As where
 n:Nat
 ag:Bool
 p:Nat→List Value→World→Prop
 deps:List TypeId
 len:∀ (B:Nat) (cs:List Value) (w:World),p B cs w→cs.length=n
 one:∀ (B:Nat) (cs:List Value) (w:World),p B cs w→∀ c∈cs,c.oneCell'=true
 ag1:ag=false→n=1
 cg:∀ (B:Nat) (cs:List Value) (w w':World),Cg w w'→p B cs w→p B cs w'
 wr:∀ (B:Nat) (cs:List Value) (w w':World) (g:Nat) (c:Array Value) (T:TypeId) (fz:Nat × Nat),w.heap[g]?=some (.cells c T fz)→T ∉ deps→B≤g→Wr g w w'→p B cs w→p B cs w'
theorem VA.grow (A:VA)(B:Nat)(v:Value)(w w':World)(h:Grow w w')(hp:A.p B v w):A.p B v w':=A.cg B v w w' h.cg hp
theorem As.grow (A:As)(B:Nat)(cs:List Value)(w w':World)(h:Grow w w')(hp:A.p B cs w):A.p B cs w':=A.cg B cs w w' h.cg hp
def cL (ag:Bool)(cs:List Value):Value:=if ag then .agg cs.toArray else cs.headD undef
theorem nh {c:Value}(h:c.oneCell'=true):c.cells = #[c]:=by
 cases c <;> first|rfl|simp [Value.oneCell'] at h
theorem As.cells_shape (A:As){B:Nat}{cs:List Value}{w:World}(h:A.p B cs w):(cL A.ag cs).cells=cs.toArray:=by
 unfold cL;cases hag:A.ag with
 | true=>rfl
 | false =>
  have hl:=A.len _ _ _ h;rw [A.ag1 hag] at hl
  match cs,hl with
  | [c],_=>simpa using nh (A.one _ _ _ h c (by simp))
def As.va (A:As):VA where
 p B v w:=∃ cs,A.p B cs w∧v=cL A.ag cs
 deps:=A.deps
 cg:=λ B _ w w' h ⟨cs,hp,hv⟩=>⟨cs,A.cg B cs w w' h hp,hv⟩
 wr:=λ B _ w w' g c T fz h1 h2 h3 h4 ⟨cs,hp,hv⟩=>⟨cs,A.wr B cs w w' g c T fz h1 h2 h3 h4 hp,hv⟩
def blk:Value→Option Nat
 | .pointer (some a)=>some a.block
 | .slice (some a) _ _=>some a.block
 | _=>none
structure Hd where
 f:Nat→Value
 ok:∀ g,blk (f g)=some g
def ptr (g:Nat):Value:=.pointer (some ⟨g,0,none⟩)
def ptrH:Hd:=⟨ptr,λ _=>rfl⟩
def slH (n c:Nat):Hd:=⟨λ g=>.slice (some ⟨g,0,none⟩) n c,λ _=>rfl⟩
structure Lc where
 s:Nat
 T:TypeId
 H:Hd
 A:As
inductive Ky where
 | none
 | some (k:Nat)
 | fn (φ:Value→Value)
def offP:Value→Ky→Value
 | v,.fn φ=>φ v
 | v,.none=>v
 | .pointer (some a),.some k=>.pointer (some (a.add k))
 | .slice (some a) _ _,.some k=>.pointer (some (a.add k))
 | v,.some _=>v
def LcOk (B:Nat)(m:Nat→Prop)(s:Nat)(T:TypeId)(H:Hd)(A:As)(a:Act)(w:World):Prop :=
 ∃ g cs,a.eval (.tmp s)=H.f g∧m g∧w.heap[g]?=some (.cells (List.toArray cs) T (0,0))∧A.p B cs w
theorem LcOk.grow {B:Nat}{m:Nat→Prop}{s:Nat}{T:TypeId}{H:Hd}{A:As}{a:Act}{w w':World}(h:LcOk B m s T H A a w)(hg:Grow w w'):LcOk B m s T H A a w':=by
 obtain ⟨g,cs,h1,h2,h3,h4⟩:=h;exact ⟨g,cs,h1,h2,hg.heap h3,A.grow _ _ _ _ hg h4⟩
theorem LcOk.eval {B:Nat}{m:Nat→Prop}{s:Nat}{T:TypeId}{H:Hd}{A:As}{a a':Act}{w:World}(h:LcOk B m s T H A a w)(he:a'.eval (.tmp s)=a.eval (.tmp s)):LcOk B m s T H A a' w:=by
 obtain ⟨g,cs,h1,h2,h3,h4⟩:=h;exact ⟨g,cs,he.trans h1,h2,h3,h4⟩
abbrev mark (D:Nat):Deferred:={ target:=.collected D,args := #[] }
structure DefOk (w0:Bs) (a:Act) (w:World):Prop where
 all:∀ d∈a.defers,∃ D,d=mark D∧w0.may D∧w.heap[D]?=some (.deferred (some []))
 nodup:a.defers.Nodup
 none:w0.nd=true→a.defers=[]
theorem DefOk.nil {w0:Bs}{a:Act}{w:World}(h:a.defers=[]):DefOk w0 a w:=⟨by rw [h];simp,by rw [h];simp,λ _=>h⟩
theorem DefOk.keep {w0:Bs}{a a':Act}{w w':World}(h:DefOk w0 a w)(e:a'.defers=a.defers)(hk:∀ D:Nat,w.heap[D]?=some (.deferred (some []))→w'.heap[D]?=some (.deferred (some []))):DefOk w0 a' w' :=
 ⟨λ d hd=>by
  rw [e] at hd;obtain ⟨D,h1,h2,h3⟩:=h.all d hd;exact ⟨D,h1,h2,hk D h3⟩,by rw [e];exact h.nodup,λ hn=>e.trans (h.none hn)⟩
theorem DefOk.grow {w0:Bs}{a a':Act}{w w':World}(h:DefOk w0 a w)(hg:Grow w w')(e:a'.defers=a.defers):DefOk w0 a' w':=h.keep e λ _ hD=>hg.heap hD
theorem DefOk.but {w0:Bs}{a a':Act}{w w':World}{g:Nat}{c:Array Value}{T:TypeId}{fz:Nat × Nat}(h:DefOk w0 a w)(hb:But g w w')(hc:w.heap[g]?=some (.cells c T fz))(e:a'.defers=a.defers):DefOk w0 a' w' :=
 h.keep e λ D hD=>(hb.block D (Array.getElem?_eq_some_iff.1 hD).1 (λ e=>by have e':D=g:=e;rw [e',hc] at hD;cases hD)).trans hD
structure St (B:Nat) (w0:Bs) (N:Nat) (Γ:List (Nat × VA)) (Λ:List Lc) (a:Act) (w:World):Prop where
 lo:∀ g,w0.may g→B≤g
 defers:DefOk w0 a w
 size:a.tmps.size=N
 base:Kept w0 w
 vals:∀ x∈Γ,x.2.p B (a.eval (.tmp x.1)) w
 locs:∀ l∈Λ,LcOk B w0.may l.s l.T l.H l.A a w
 dis:∀ l∈Λ,∀ m∈Λ,l.s≠m.s→blk (a.eval (.tmp l.s))≠blk (a.eval (.tmp m.s))
structure Le where
 s:Nat
 T:TypeId
 H:Hd
 cr:Option Nat
 A0:As
 st:Option (Nat × As)
inductive Sp where
 | v (d:Nat) (A:VA)
 | adr (d b:Nat) (k:Ky) (c:Prop)
 | alc (e:Nat)
 | sto (e:Nat)
 | cal (d:Nat) (A:VA) (e:Nat)      -- a call that writes local e,and leaves a value
 | skp                                   -- shown apart
def Sp.vl:Sp→Option (Nat × VA) | .v d A=>some (d,A) | .cal d A _=>some (d,A) | _=>none
def Sp.wr:Sp→Option Nat | .sto e=>some e | .cal _ _ e=>some e|_=>none
structure Rg where
 ops:Array Oper
 N:Nat
 Γ:List (Nat × VA)
 les:List Le
 sp:List Sp
 anc:Nat→List Nat
namespace Rg
def crOk (f:Nat→Bool):Option Nat→Bool|none=>true|some i=>f i
def cur (L:Nat→Bool)(e:Le):Option As :=
 if crOk L e.cr then some (match e.st with|none=>e.A0|some (j,A1)=>if L j then A1 else e.A0) else none
variable (R:Rg)
def dst (i:Nat):Option Nat:=(R.ops[i]?).bind (·.dst)
def clash (L:Nat→Bool)(deps:List TypeId):Bool:=R.les.any λ e=>match e.st with|some (j,_)=>L j&&deps.contains e.T|none=>false
structure Inv (B:Nat) (w0:Bs) (L:Nat→Bool) (a:Act) (w:World):Prop where
 lo:∀ g,w0.may g→B≤g
 defers:DefOk w0 a w
 size:a.tmps.size=R.N
 base:Kept w0 w
 g:∀ x∈R.Γ,(∀ k,k<R.ops.size→R.dst k=some x.1→L k=false)→R.clash L x.2.deps=false→x.2.p B (a.eval (.tmp x.1)) w
 v:∀ i y d A,R.sp[i]?=some y→y.vl=some (d,A)→L i=true→R.clash L A.deps=false→A.p B (a.eval (.tmp d)) w
 d:∀ i d b k c,R.sp[i]?=some (.adr d b k c)→L i=true→c→a.eval (.tmp d)=offP (a.eval (.tmp b)) k
 c:∀ e∈R.les,∀ A,cur L e=some A→LcOk B w0.may e.s e.T e.H A a w
 x:∀ e∈R.les,∀ f∈R.les,e.s≠f.s→(cur L e).isSome=true→(cur L f).isSome=true→blk (a.eval (.tmp e.s))≠blk (a.eval (.tmp f.s))
def before (i j:Nat):Bool:=j==i || (R.anc j).contains i      -- i has come up no later than j: j is i or waits for it
def okG (i:Nat)(t:Nat):Bool:=(List.range R.ops.size).all λ k=>R.dst k != some t || R.before i k
def okD (i:Nat)(deps:List TypeId):Bool:=R.les.all λ e=>match e.st with|some (j,_) => !deps.contains e.T || R.before i j|none=>true
def phase (i:Nat)(e:Le):Option As :=
 if crOk (R.anc i).contains e.cr then
  match e.st with
  | none=>some e.A0
  | some (j,A1)=>if (R.anc i).contains j then some A1 else if R.before i j then some e.A0 else none
 else none
structure Av (B:Nat) (w0:Bs) (i:Nat) (a:Act) (w:World):Prop where
 lo:∀ g,w0.may g→B≤g
 size:a.tmps.size=R.N
 base:Kept w0 w
 g:∀ x∈R.Γ,R.okG i x.1=true→R.okD i x.2.deps=true→x.2.p B (a.eval (.tmp x.1)) w
 v:∀ j y d A,(R.anc i).contains j=true→R.sp[j]?=some y→y.vl=some (d,A)→R.okD i A.deps=true→A.p B (a.eval (.tmp d)) w
 d:∀ j d b k c,(R.anc i).contains j=true→R.sp[j]?=some (.adr d b k c)→c→a.eval (.tmp d)=offP (a.eval (.tmp b)) k
 c:∀ e∈R.les,∀ A,R.phase i e=some A→LcOk B w0.may e.s e.T e.H A a w
variable (P:Program)(Q:Exit→Act→World→Prop)
def Ob (B:Nat)(w0:Bs)(i:Nat):Prop :=
 match R.sp[i]? with
 | none=>False
 | some .skp=>False
 | some (.v d A)=>∀ a w,R.Av B w0 i a w→∀ K:Act→World→Prop,(∀ v w',Grow w w'→A.p B v w'→K (a.put (some d) v) w')→wpOp P R.ops Q i K a w
 | some (.adr d b k c)=>∀ a w,R.Av B w0 i a w→∀ K:Act→World→Prop,(∀ v,(c→v=offP (a.eval (.tmp b)) k)→K (a.put (some d) v) w)→wpOp P R.ops Q i K a w
 | some (.alc e)=>match R.les[e]? with
  | none=>False
  | some l=>∀ a w,R.Av B w0 i a w→∀ K:Act→World→Prop,(∀ g cs w',Grow w w'→w.heap.size≤g→w'.heap[g]?=some (.cells (List.toArray cs) l.T (0,0))→l.A0.p B cs w'→K (a.put (some l.s) (l.H.f g)) w')→wpOp P R.ops Q i K a w
 | some (.sto e)=>match R.les[e]? with
  | some { s:=s,T:=T,H:=H,A0:=A0,st:=some (_,A1),.. }=>∀ a w,R.Av B w0 i a w→∀ g cs,a.eval (.tmp s)=H.f g→w.heap[g]?=some (.cells (List.toArray cs) T (0,0))→A0.p B cs w →
    ∀ K:Act→World→Prop,(∀ cs',A1.p B cs' w→K a (w.setRow g (List.toArray cs')))→wpOp P R.ops Q i K a w
  | _=>False
 | some (.cal d A e)=>match R.les[e]? with
  | some { s:=s,T:=T,H:=H,A0:=A0,st:=some (_,A1),.. }=>∀ a w,R.Av B w0 i a w→∀ g cs,a.eval (.tmp s)=H.f g→B≤g→w.heap[g]?=some (.cells (List.toArray cs) T (0,0))→A0.p B cs w →
    (∀ m∈R.les,m.s≠s→(R.phase i m).isSome=true→blk (a.eval (.tmp m.s))≠some g) →
    ∀ K:Act→World→Prop,(∀ v cs' w',But g w w'→w'.heap[g]?=some (.cells (List.toArray cs') T (0,0))→A1.p B cs' w'→A.p B v w'→K (a.put (some d) v) w')→wpOp P R.ops Q i K a w
  | _=>False
def chk:Bool :=
 R.sp.length==R.ops.size &&
 (List.range R.ops.size).all (λ i =>
  (match R.sp[i]? with
   | some (.v d _)=>R.dst i==some d&&d<R.N
   | some (.adr d b _ _)=>R.dst i==some d&&d<R.N&&(List.range R.ops.size).all λ k=>R.dst k != some b || (R.anc i).contains k
   | some (.alc e)=>(match R.les[e]? with|some l=>R.dst i==some l.s&&l.cr==some i&&l.s<R.N|none=>false)
   | some (.sto e)=>(match R.les[e]? with|some l=>R.dst i==none&&(match l.st with|some (j,_)=>j==i|none=>false)&&crOk (R.anc i).contains l.cr|none=>false)
   | some (.cal d _ e)=>R.dst i==some d&&d<R.N&&(match R.les[e]? with|some l=>(match l.st with|some (j,_)=>j==i|none=>false)&&crOk (R.anc i).contains l.cr|none=>false)
   | some .skp=>true
   | none=>false) &&
  (List.range R.ops.size).all (λ k=>k==i || R.dst k==none || R.dst k != R.dst i)) &&
 R.les.zipIdx.all (λ (l,e) =>
  (List.range R.ops.size).all (λ k=>R.dst k != some l.s || l.cr==some k) &&
  (match l.st with|some (j,_)=>(match R.sp[j]? with|some y=>y.wr==some e|none=>false) | none=>true) &&
  (match l.cr with|some c=>(match R.sp[c]? with|some (.alc f)=>f==e|_=>false) | none=>true) &&
  R.les.zipIdx.all (λ (m,f)=>f==e || m.s != l.s) &&
  R.les.all (λ m=>match m.st with|some _ => !l.A0.deps.contains m.T&&(match l.st with|some (_,A) => !A.deps.contains m.T|none=>true) | none=>true))
section
variable {R:Rg}
theorem aM (a:Act)(d:Nat)(v:Value)(h:d<a.tmps.size):(a.put (some d) v).eval (.tmp d)=v:=by
 simp [Act.put,Act.eval,h]
theorem an (a:Act)(d t:Nat)(v:Value)(h:t≠d):(a.put (some d) v).eval (.tmp t)=a.eval (.tmp t):=by
 simp [Act.put,Act.eval,Array.getElem?_setIfInBounds_ne (λ e=>h e.symm)]
theorem size_put (a:Act)(d:Nat)(v:Value):(a.put (some d) v).tmps.size=a.tmps.size:=by simp [Act.put]
def upd (L:Nat→Bool)(i:Nat):Nat→Bool:=λ k=>k==i || L k
theorem ci (L:Nat→Bool)(i:Nat):upd L i i=true:=by simp [upd]
theorem cX (L:Nat→Bool){i k:Nat}(h:L k=true):upd L i k=true:=by simp [upd,h]
theorem d9 (L:Nat→Bool){i k:Nat}(h:k≠i):upd L i k=L k:=by simp [upd,h]
theorem rG {L:Nat→Bool}{i k:Nat}(h:upd L i k=true):k=i∨L k=true:=by simpa [upd] using h
theorem dK {L:Nat→Bool}{i k:Nat}(h:upd L i k=false):k≠i∧L k=false:=by simpa [upd] using h
theorem eS {L:Nat→Bool}{i:Nat}{deps:List TypeId}(h:R.clash (upd L i) deps=false):R.clash L deps=false:=by
 unfold clash at *;rw [List.any_eq_false] at *;intro e he;have:=h e he;cases U:e.st with
 | none=>simp
 | some x =>
  obtain ⟨j,A⟩:=x;simp only [U,Bool.and_eq_true,not_and,Bool.not_eq_true] at this ⊢;exact λ hl=>this (cX L hl)
theorem sm {L:Nat→Bool}{i:Nat}{deps:List TypeId}{l:Le}{A1:As}(hl:l∈R.les)(U:l.st=some (i,A1))(h:R.clash (upd L i) deps=false):l.T ∉ deps:=by
 unfold clash at h;rw [List.any_eq_false] at h;have:=h l hl;simp only [U,ci,Bool.true_and] at this;simpa using this
def cG (R:Rg)(L:Nat→Bool):Prop:=∀ i,L i=true→∀ j,(R.anc i).contains j=true→L j=true
theorem fX {L:Nat→Bool}{i k:Nat}(hc:cG R L)(hi:L i=false)(h:R.before i k=true):L k=false:=by
 unfold before at h;rcases Bool.or_eq_true _ _▸h with h|h
 ·have:k=i:=by simpa using h
  rw [this];exact hi
 ·cases hk:L k with
  | false=>rfl
  | true=>rw [hc k hk i h] at hi;cases hi
theorem Inv.av {B:Nat}{w0:Bs}{L:Nat→Bool}{a:Act}{w:World}(h:R.Inv B w0 L a w)(hc:cG R L){i:Nat}(hi:L i=false)(ha:∀ j,(R.anc i).contains j=true→L j=true):R.Av B w0 i a w:=by
 have hcl:∀ deps,R.okD i deps=true→R.clash L deps=false:=by
  intro deps hd;unfold clash;rw [List.any_eq_false];intro e he;unfold okD at hd;have:=List.all_eq_true.1 hd e he;cases U:e.st with
  | none=>simp
  | some x =>
   obtain ⟨j,A⟩:=x;simp only [U,Bool.or_eq_true,Bool.not_eq_true'] at this;rcases this with h1|h1
   ·rw [h1];simp
   ·simp [fX hc hi h1]
 refine ⟨h.lo,h.size,h.base,?_,?_,?_,?_⟩
 ·intro x hx hg hd;refine h.g x hx (λ k hk hdk=>?_) (hcl _ hd);unfold okG at hg;have:=List.all_eq_true.1 hg k (by simpa using hk);simp only [hdk,bne_self_eq_false,Bool.false_or] at this;exact fX hc hi this
 ·intro j y d A hj hs hy hd;exact h.v j y d A hs hy (ha j hj) (hcl _ hd)
 ·intro j d b k c hj hs;exact h.d j d b k c hs (ha j hj)
 ·intro e he A hp;refine h.c e he A ?_;unfold phase at hp;unfold cur;split at hp
  ·rename_i hcr;have h1:crOk L e.cr=true:=by
    cases hcc:e.cr with
    | none=>rfl
    | some c=>rw [hcc] at hcr;exact ha c hcr
   rw [if_pos h1];cases U:e.st with
   | none=>simpa [U] using hp
   | some x =>
    obtain ⟨j,A1⟩:=x;simp only [U] at hp ⊢;split at hp
    ·rename_i hj;rw [ha j hj];simpa using hp
    ·split at hp
     ·rename_i hb;rw [fX hc hi hb];simpa using hp
     ·cases hp
  ·cases hp
theorem Lt (h:R.chk=true):R.sp.length=R.ops.size:=by
 unfold chk at h;simp only [Bool.and_eq_true,beq_iff_eq] at h;exact h.1.1
theorem fW (h:R.chk=true){i:Nat}(hi:i<R.ops.size) :
  (match R.sp[i]? with
   | some (.v d _)=>R.dst i==some d&&d<R.N
   | some (.adr d b _ _)=>R.dst i==some d&&d<R.N&&(List.range R.ops.size).all λ k=>R.dst k != some b || (R.anc i).contains k
   | some (.alc e)=>(match R.les[e]? with|some l=>R.dst i==some l.s&&l.cr==some i&&l.s<R.N|none=>false)
   | some (.sto e)=>(match R.les[e]? with|some l=>R.dst i==none&&(match l.st with|some (j,_)=>j==i|none=>false)&&crOk (R.anc i).contains l.cr|none=>false)
   | some (.cal d _ e)=>R.dst i==some d&&d<R.N&&(match R.les[e]? with|some l=>(match l.st with|some (j,_)=>j==i|none=>false)&&crOk (R.anc i).contains l.cr|none=>false)
   | some .skp=>true
   | none=>false)=true∧∀ k,k<R.ops.size→k≠i→R.dst k=none∨R.dst k≠R.dst i:=by
 unfold chk at h;simp only [Bool.and_eq_true] at h;have h2:=List.all_eq_true.1 h.1.2 i (by simpa using hi);rw [Bool.and_eq_true] at h2;refine ⟨h2.1,λ k hk hne=>?_⟩;have:=List.all_eq_true.1 h2.2 k (by simpa using hk);simp only [Bool.or_eq_true,beq_iff_eq,bne_iff_ne] at this;rcases this with (h3|h3) | h3
 ·exact absurd h3 hne
 ·exact .inl h3
 ·exact .inr h3
theorem chk_le (h:R.chk=true){e:Nat}{l:Le}(he:R.les[e]?=some l) :
  (∀ k,k<R.ops.size→R.dst k=some l.s→l.cr=some k)∧(∀ j A,l.st=some (j,A)→∃ y,R.sp[j]?=some y∧y.wr=some e) ∧
  (∀ c,l.cr=some c→R.sp[c]?=some (.alc e)) ∧
  (∀ f m,R.les[f]?=some m→f≠e→m.s≠l.s) ∧
  (∀ m∈R.les,m.st.isSome=true→m.T ∉ l.A0.deps∧∀ j A,l.st=some (j,A)→m.T ∉ A.deps):=by
 unfold chk at h;simp only [Bool.and_eq_true] at h;have hm:(l,e)∈R.les.zipIdx:=List.mem_zipIdx_iff_getElem?.2 he;have h2:=List.all_eq_true.1 h.2 _ hm;simp only [Bool.and_eq_true] at h2;obtain ⟨⟨⟨⟨h3,h4⟩,h4'⟩,h5⟩,h6⟩:=h2;refine ⟨λ k hk hd=>?_,λ j A U=>?_,λ c hcr=>?_,λ f m hf hne=>?_,λ m hm U=>?_⟩
 ·have:=List.all_eq_true.1 h3 k (by simpa using hk);simp only [hd,bne_self_eq_false,Bool.false_or,beq_iff_eq] at this;exact this
 ·rw [U] at h4;cases hs:R.sp[j]? with
  | none=>simp [hs] at h4
  | some y=>exact ⟨y,rfl,by simpa [hs] using h4⟩
 ·rw [hcr] at h4';cases hs:R.sp[c]? with
  | none=>simp [hs] at h4'
  | some y=>cases y <;> simp [hs] at h4';rw [h4']
 ·have:=List.all_eq_true.1 h5 (m,f) (List.mem_zipIdx_iff_getElem?.2 hf);simp only [Bool.or_eq_true,beq_iff_eq,bne_iff_ne] at this;rcases this with h7|h7
  ·exact absurd h7 hne
  ·exact h7
 ·have:=List.all_eq_true.1 h6 m hm;cases hst':m.st with
  | none=>rw [hst'] at U;simp at U
  | some y =>
   simp only [hst',Bool.and_eq_true,Bool.not_eq_true',List.contains_eq_mem,decide_eq_false_iff_not] at this;refine ⟨this.1,λ j A hl=>?_⟩;have t:=this.2;simpa [hl] using t
theorem chk_lt (h:R.chk=true){i:Nat}{y:Sp}(hs:R.sp[i]?=some y):i<R.ops.size:=by
 rw [← Lt h];exact (List.getElem?_eq_some_iff.1 hs).1
theorem wS (h:R.chk=true){i:Nat}{y:Sp}(hs:R.sp[i]?=some y){d:Nat}{A:VA}(hv:y.vl=some (d,A)):R.dst i=some d∧d<R.N:=by
 have hop:=(fW h (chk_lt h hs)).1;cases y with
 | v d' A' =>
  simp only [Sp.vl,Option.some.injEq,Prod.mk.injEq] at hv;obtain ⟨rfl,rfl⟩:=hv;simpa [hs] using hop
 | cal d' A' e =>
  simp only [Sp.vl,Option.some.injEq,Prod.mk.injEq] at hv;obtain ⟨rfl,rfl⟩:=hv;simp only [hs,Bool.and_eq_true,beq_iff_eq,decide_eq_true_eq] at hop;exact hop.1
 | _=>simp [Sp.vl] at hv
theorem HQ (h:R.chk=true){i:Nat}{y:Sp}(hs:R.sp[i]?=some y){e:Nat}(hw:y.wr=some e):∃ l A1,R.les[e]?=some l∧l.st=some (i,A1)∧crOk (R.anc i).contains l.cr=true∧R.dst i=y.vl.map (·.1):=by
 have hop:=(fW h (chk_lt h hs)).1;cases y with
 | sto e' =>
  simp only [Sp.wr,Option.some.injEq] at hw;subst hw;cases he:R.les[e']? with
  | none=>simp [hs,he] at hop
  | some l =>
   simp only [hs,he,Bool.and_eq_true,beq_iff_eq] at hop;cases U:l.st with
   | none=>simp [U] at hop
   | some x =>
    obtain ⟨j,A⟩:=x;simp only [U,beq_iff_eq] at hop;exact ⟨l,A,rfl,by rw [U,hop.1.2],hop.2,by simpa [Sp.vl] using hop.1.1⟩
 | cal d A' e' =>
  simp only [Sp.wr,Option.some.injEq] at hw;subst hw;cases he:R.les[e']? with
  | none=>simp [hs,he] at hop
  | some l =>
   simp only [hs,he,Bool.and_eq_true,beq_iff_eq] at hop;cases U:l.st with
   | none=>simp [U] at hop
   | some x =>
    obtain ⟨j,A⟩:=x;simp only [U,beq_iff_eq] at hop;exact ⟨l,A,rfl,by rw [U,hop.2.1],hop.2.2,by simpa [Sp.vl] using hop.1.1⟩
 | _=>simp [Sp.wr] at hw
theorem fu {L:Nat→Bool}{i:Nat}{e:Le}(h1:e.cr≠some i)(h2:∀ A,e.st≠some (i,A)):cur (upd L i) e=cur L e:=by
 have e1:crOk (upd L i) e.cr=crOk L e.cr:=by
  cases hc:e.cr with
  | none=>rfl
  | some c=>exact d9 L (λ hh=>h1 (by rw [hc,hh]))
 unfold cur;rw [e1];cases U:e.st with
 | none=>rfl
 | some x =>
  obtain ⟨j,A⟩:=x;simp only [d9 L (i:=i) (k:=j) (λ hh=>h2 A (by rw [U,hh]))]
variable {B:Nat}{w0:Bs}{L:Nat→Bool}{a:Act}{w w':World}{i:Nat}
theorem fg {l:Le}(h:l∈R.les):∃ e:Nat,R.les[e]?=some l:=List.getElem?_of_mem h
theorem Inv.put (hk:R.chk=true)(h:R.Inv B w0 L a w)(hc:cG R L)(hL:L i=false){y:Sp}(hs:R.sp[i]?=some y){d:Nat}{v:Value}(hd:R.dst i=some d)(hdN:d<R.N)
  (hy:(∀ e,y≠.alc e)∧y.wr=none) (hg:Grow w w') (hv:∀ d' A,y.vl=some (d',A)→d'=d∧A.p B v w') (hD:∀ d' b k c,y=.adr d' b k c→d'=d∧b≠d∧(c→v=offP (a.eval (.tmp b)) k)) :
  R.Inv B w0 (upd L i) (a.put (some d) v) w':=by
 have hi:=chk_lt hk hs;have hnd:∀ j,j≠i→∀ t,R.dst j=some t→t≠d:=by
  intro j hj t ht he;subst he;by_cases hjn:j<R.ops.size
  ·rcases (fW hk hi).2 j hjn hj with h1|h1
   ·rw [h1] at ht;cases ht
   ·exact h1 (by rw [ht,hd])
  ·unfold Rg.dst at ht;rw [Array.getElem?_eq_none zo] at ht;cases ht
 have hles:∀ l∈R.les,l.cr≠some i∧(∀ A,l.st≠some (i,A))∧l.s≠d:=by
  intro l hl;obtain ⟨e,he⟩:=fg hl;obtain ⟨c1,c2,c3,_⟩:=chk_le hk he;have hcr:l.cr≠some i:=λ hh=>by
   have:=c3 i hh;rw [hs] at this;exact hy.1 e (by injection this)
  refine ⟨hcr,λ A hh=>?_,λ hh=>hcr (c1 i hi (by rw [hd,hh]))⟩;obtain ⟨y',h1,h2⟩:=c2 i A hh;rw [hs] at h1;injection h1 with h1;rw [← h1,hy.2] at h2;cases h2
 refine ⟨h.lo,h.defers.grow hg rfl,by rw [size_put];exact h.size,h.base.grow hg,?_,?_,?_,?_,?_⟩
 ·intro x hx hnk hcl;have hne:x.1≠d:=λ he=>by
   have:=hnk i hi (by rw [hd,he]);rw [ci] at this;cases this
  rw [an _ _ _ _ hne];exact x.2.grow _ _ _ _ hg (h.g x hx (λ k hkn hdk=>(dK (hnk k hkn hdk)).2) (eS hcl))
 ·intro j y' d' A hsj hyl hLj hcl;by_cases hj:j=i
  ·subst hj;rw [hs] at hsj;injection hsj with hsj;subst hsj;obtain ⟨rfl,hA⟩:=hv d' A hyl;rw [aM _ _ _ (by rw [h.size];exact hdN)];exact hA
  ·have hLj':L j=true:=by rwa [d9 L hj] at hLj
   rw [an _ _ _ _ (hnd j hj d' (wS hk hsj hyl).1)];exact A.grow _ _ _ _ hg (h.v j y' d' A hsj hyl hLj' (eS hcl))
 ·intro j d' b k c hsj hLj hcc;by_cases hj:j=i
  ·subst hj;rw [hs] at hsj;injection hsj with hsj;obtain ⟨rfl,hb,hv'⟩:=hD d' b k c hsj;rw [aM _ _ _ (by rw [h.size];exact hdN),an _ _ _ _ hb];exact hv' hcc
  ·have hLj':L j=true:=by rwa [d9 L hj] at hLj
   have hop:=(fW hk (chk_lt hk hsj)).1;simp only [hsj,Bool.and_eq_true,beq_iff_eq] at hop;have hb:b≠d:=λ he=>by
    have:=List.all_eq_true.1 hop.2 i (by simpa using hi);simp only [hd,he,bne_self_eq_false,Bool.false_or] at this;rw [hc j hLj' i this] at hL;cases hL
   rw [an _ _ _ _ (hnd j hj d' hop.1.1),an _ _ _ _ hb];exact h.d j d' b k c hsj hLj' hcc
 ·intro e he A hcur;rw [fu (hles e he).1 (hles e he).2.1] at hcur;exact ((h.c e he A hcur).grow hg).eval (an _ _ _ _ (hles e he).2.2)
 ·intro e he f hf hne h1 h2;rw [fu (hles e he).1 (hles e he).2.1] at h1;rw [fu (hles f hf).1 (hles f hf).2.1] at h2;rw [an _ _ _ _ (hles e he).2.2,an _ _ _ _ (hles f hf).2.2];exact h.x e he f hf hne h1 h2
theorem Hd.inj {H H':Hd}{g g':Nat}(h:blk (H.f g)=blk (H'.f g')):g=g':=by
 rw [H.ok,H'.ok] at h;injection h
theorem Inv.alc (hk:R.chk=true)(h:R.Inv B w0 L a w)(hc:cG R L)(hL:L i=false){e:Nat}{l:Le}(hs:R.sp[i]?=some (.alc e))(he:R.les[e]?=some l){cs:List Value}(hg:Grow w w'){g:Nat}(hge:w.heap.size≤g)(hgh:w'.heap[g]?=some (.cells (List.toArray cs) l.T (0,0)))(hp:l.A0.p B cs w') :
  R.Inv B w0 (upd L i) (a.put (some l.s) (l.H.f g)) w':=by
 have hi:=chk_lt hk hs;have hop:=(fW hk hi).1;simp only [hs,he,Bool.and_eq_true,beq_iff_eq,decide_eq_true_eq] at hop;obtain ⟨⟨hd,hcr⟩,hdN⟩:=hop;have hl:l∈R.les:=List.mem_iff_getElem?.2 ⟨e,he⟩;have hnd:∀ j,j≠i→∀ t,R.dst j=some t→t≠l.s:=by
  intro j hj t ht hh;subst hh;by_cases hjn:j<R.ops.size
  ·rcases (fW hk hi).2 j hjn hj with h1|h1
   ·rw [h1] at ht;cases ht
   ·exact h1 (by rw [ht,hd])
  ·unfold Rg.dst at ht;rw [Array.getElem?_eq_none zo] at ht;cases ht
 have hles:∀ m∈R.les,m.s≠l.s→m.cr≠some i∧∀ A,m.st≠some (i,A):=by
  intro m hm hne;obtain ⟨f,hf⟩:=fg hm;obtain ⟨_,c2,c3,_⟩:=chk_le hk hf;refine ⟨λ hh=>?_,λ A hh=>?_⟩
  ·have:=c3 i hh;rw [hs] at this;injection this with this;injection this with this;subst this;rw [he] at hf;injection hf with hf;exact hne (by rw [hf])
  ·obtain ⟨y',h1,h2⟩:=c2 i A hh;rw [hs] at h1;injection h1 with h1;rw [← h1] at h2;cases h2
 have hsame:∀ m∈R.les,m.s=l.s→m=l:=by
  intro m hm hh;obtain ⟨f,hf⟩:=fg hm;by_cases hfe:f=e
  ·subst hfe;rw [he] at hf;injection hf with hf;exact hf.symm
  ·exact absurd hh ((chk_le hk he).2.2.2.1 f m hf hfe)
 have hcurl:cur (upd L i) l=some l.A0:=by
  unfold cur;rw [hcr];simp only [crOk,ci,if_true];cases U:l.st with
  | none=>rfl
  | some x =>
   obtain ⟨j,A1⟩:=x;obtain ⟨y',hsj,hwj⟩:=(chk_le hk he).2.1 j A1 U;have hji:j≠i:=λ hh=>by rw [hh,hs] at hsj;injection hsj with hsj;rw [← hsj] at hwj;cases hwj
   obtain ⟨l',_,he',_,hopj,_⟩:=HQ hk hsj hwj;rw [he] at he';injection he' with he';rw [← he',hcr] at hopj;have hLj:L j=false:=by
    cases hh:L j with
    | false=>rfl
    | true=>rw [hc j hh i hopj] at hL;cases hL
   simp [d9 L hji,hLj]
 refine ⟨h.lo,h.defers.grow hg rfl,by rw [size_put];exact h.size,h.base.grow hg,?_,?_,?_,?_,?_⟩
 ·intro x hx hnk hcl;have hne:x.1≠l.s:=λ hh=>by
   have:=hnk i hi (by rw [hd,hh]);rw [ci] at this;cases this
  rw [an _ _ _ _ hne];exact x.2.grow _ _ _ _ hg (h.g x hx (λ k hkn hdk=>(dK (hnk k hkn hdk)).2) (eS hcl))
 ·intro j y' d' A hsj hyl hLj hcl;have hj:j≠i:=λ hh=>by rw [hh,hs] at hsj;injection hsj with hsj;rw [← hsj] at hyl;cases hyl
  have hLj':L j=true:=by rwa [d9 L hj] at hLj
  rw [an _ _ _ _ (hnd j hj d' (wS hk hsj hyl).1)];exact A.grow _ _ _ _ hg (h.v j y' d' A hsj hyl hLj' (eS hcl))
 ·intro j d' b k c hsj hLj hcc;have hj:j≠i:=λ hh=>by rw [hh,hs] at hsj;injection hsj with hsj;cases hsj
  have hLj':L j=true:=by rwa [d9 L hj] at hLj
  have hop:=(fW hk (chk_lt hk hsj)).1;simp only [hsj,Bool.and_eq_true,beq_iff_eq] at hop;have hb:b≠l.s:=λ hh=>by
   have:=List.all_eq_true.1 hop.2 i (by simpa using hi);simp only [hd,hh,bne_self_eq_false,Bool.false_or] at this;rw [hc j hLj' i this] at hL;cases hL
  rw [an _ _ _ _ (hnd j hj d' hop.1.1),an _ _ _ _ hb];exact h.d j d' b k c hsj hLj' hcc
 ·intro m hm A hcur;by_cases hms:m.s=l.s
  ·obtain rfl:=hsame m hm hms;rw [hcurl] at hcur;injection hcur with hcur;subst hcur;exact ⟨g,cs,aM _ _ _ (by rw [h.size];exact hdN),.inl (Nat.le_trans h.base.size hge),hgh,hp⟩
  ·rw [fu (hles m hm hms).1 (hles m hm hms).2] at hcur;exact ((h.c m hm A hcur).grow hg).eval (an _ _ _ _ hms)
 ·have hlt:∀ m∈R.les,m.s≠l.s→(cur (upd L i) m).isSome=true→blk (a.eval (.tmp m.s))≠blk (l.H.f g):=by
   intro m hm hms h1 h2;rw [fu (hles m hm hms).1 (hles m hm hms).2] at h1;obtain ⟨A,hA⟩:=Option.isSome_iff_exists.1 h1;obtain ⟨g',cs',e1,_,e3,_⟩:=h.c m hm A hA;rw [e1] at h2;have:=Hd.inj h2;have:=(Array.getElem?_eq_some_iff.1 e3).1;omega
  intro m hm f hf hne h1 h2;by_cases hms:m.s=l.s
  ·have hfs:f.s≠l.s:=λ hh=>hne (by rw [hms,hh]);rw [hms,aM _ _ _ (by rw [h.size];exact hdN),an _ _ _ _ hfs];exact λ hh=>hlt f hf hfs h2 hh.symm
  ·by_cases hfs:f.s=l.s
   ·rw [hfs,aM _ _ _ (by rw [h.size];exact hdN),an _ _ _ _ hms];exact hlt m hm hms h1
   ·rw [fu (hles m hm hms).1 (hles m hm hms).2] at h1;rw [fu (hles f hf hfs).1 (hles f hf hfs).2] at h2;rw [an _ _ _ _ hms,an _ _ _ _ hfs];exact h.x m hm f hf hne h1 h2
theorem Inv.sto (hk:R.chk=true)(h:R.Inv B w0 L a w)(hL:L i=false)(hc:cG R L)(ha:∀ j,(R.anc i).contains j=true→L j=true){y:Sp}{e:Nat}{l:Le}{A1:As}(hs:R.sp[i]?=some y)(hw:y.wr=some e)(he:R.les[e]?=some l)
  (U:l.st=some (i,A1)) {g:Nat}{cs cs':List Value}{v:Value} (hev:a.eval (.tmp l.s)=l.H.f g) (hgb:w0.may g) (hgh:w.heap[g]?=some (.cells (List.toArray cs) l.T (0,0)))
  (hbut:But g w w') (hgh':w'.heap[g]?=some (.cells (List.toArray cs') l.T (0,0))) (hp:A1.p B cs' w') (hvl:∀ d A,y.vl=some (d,A)→A.p B v w') :
  R.Inv B w0 (upd L i) (a.put (R.dst i) v) w':=by
 have hi:=chk_lt hk hs;obtain ⟨l',A1',he',hst',hcr,hdv⟩:=HQ hk hs hw;rw [he] at he';injection he' with he';subst he';have hl:l∈R.les:=List.mem_iff_getElem?.2 ⟨e,he⟩;have hB:B≤g:=h.lo g hgb;obtain ⟨hW,hG⟩:=hbut.split hgh hgh';have surv:∀ (A:VA) (u:Value),l.T ∉ A.deps→A.p B u w→A.p B u w':=λ A u hT hA=>A.grow _ _ _ _ hG (A.wr _ _ _ _ g _ _ _ hgh hT hB hW hA);have survA:∀ (A:As) (u:List Value),l.T ∉ A.deps→A.p B u w→A.p B u w':=λ A u hT hA=>A.grow _ _ _ _ hG (A.wr _ _ _ _ g _ _ _ hgh hT hB hW hA);have hput:∀ t,R.dst i≠some t→(a.put (R.dst i) v).eval (.tmp t)=a.eval (.tmp t):=by
  intro t ht;cases hd:R.dst i with
  | none=>rfl
  | some d=>exact an _ _ _ _ (λ hh=>ht (by rw [hd,hh]))
 have hnl:∀ m∈R.les,R.dst i≠some m.s:=by
  intro m hm hh;obtain ⟨f,hf⟩:=fg hm;obtain ⟨c1,_,c3,_⟩:=chk_le hk hf;have h1:=c3 i (c1 i hi hh);rw [hs] at h1;injection h1 with h1;rw [h1] at hw;cases hw
 have hnd:∀ j,j≠i→∀ t,R.dst j=some t→R.dst i≠some t:=by
  intro j hj t ht hh;by_cases hjn:j<R.ops.size
  ·rcases (fW hk hi).2 j hjn hj with h1|h1
   ·rw [h1] at ht;cases ht
   ·exact h1 (by rw [ht,hh])
  ·unfold Rg.dst at ht;rw [Array.getElem?_eq_none zo] at ht;cases ht
 have hsame:∀ m∈R.les,m.s=l.s→m=l:=by
  intro m hm hh;obtain ⟨f,hf⟩:=fg hm;by_cases hfe:f=e
  ·subst hfe;rw [he] at hf;injection hf with hf;exact hf.symm
  ·exact absurd hh ((chk_le hk he).2.2.2.1 f m hf hfe)
 have hles:∀ m∈R.les,m.s≠l.s→m.cr≠some i∧∀ A,m.st≠some (i,A):=by
  intro m hm hne;obtain ⟨f,hf⟩:=fg hm;obtain ⟨_,c2,c3,_⟩:=chk_le hk hf;refine ⟨λ hh=>?_,λ A hh=>?_⟩
  ·have:=c3 i hh;rw [hs] at this;injection this with this;rw [this] at hw;cases hw
  ·obtain ⟨y',h1,h2⟩:=c2 i A hh;rw [hs] at h1;injection h1 with h1;rw [← h1,hw] at h2;injection h2 with h2;subst h2;rw [he] at hf;injection hf with hf;exact hne (by rw [hf])
 have hcrL:crOk L l.cr=true:=by
  cases hc:l.cr with
  | none=>rfl
  | some c=>rw [hc] at hcr;exact ha c hcr
 have hcrU:crOk (upd L i) l.cr=true:=by
  cases hc:l.cr with
  | none=>rfl
  | some c=>rw [hc] at hcrL;exact cX L hcrL
 have hcurl:cur (upd L i) l=some A1:=by
  unfold cur;rw [hcrU,U];simp [ci]
 have hcurL:(cur L l).isSome=true:=by
  unfold cur;rw [hcrL]
  rfl
 have hdeps:∀ m∈R.les,l.T ∉ m.A0.deps∧∀ j A,m.st=some (j,A)→l.T ∉ A.deps:=λ m hm=>by
  obtain ⟨f,hf⟩:=fg hm;exact (chk_le hk hf).2.2.2.2 l hl (by rw [U];rfl)
 refine ⟨h.lo,h.defers.but hbut hgh (by cases R.dst i <;> rfl),by cases R.dst i with|none=>exact h.size|some d=>(rw [size_put];exact h.size),h.base.but hbut hgb,?_,?_,?_,?_,?_⟩
 ·intro x hx hnk hcl;have hne:R.dst i≠some x.1:=λ hh=>by
   have:=hnk i hi hh;rw [ci] at this;cases this
  rw [hput _ hne];exact surv _ _ (sm hl U hcl) (h.g x hx (λ k hkn hdk=>(dK (hnk k hkn hdk)).2) (eS hcl))
 ·intro j y' d' A hsj hyl hLj hcl;by_cases hj:j=i
  ·subst hj;rw [hs] at hsj;injection hsj with hsj;subst hsj;have hd:=wS hk hs hyl;rw [hd.1,aM _ _ _ (by rw [h.size];exact hd.2)];exact hvl d' A hyl
  ·have hLj':L j=true:=by rwa [d9 L hj] at hLj
   rw [hput _ (hnd j hj d' (wS hk hsj hyl).1)];exact surv _ _ (sm hl U hcl) (h.v j y' d' A hsj hyl hLj' (eS hcl))
 ·intro j d' b k c hsj hLj hcc;have hj:j≠i:=λ hh=>by rw [hh,hs] at hsj;injection hsj with hsj;rw [hsj] at hw;cases hw
  have hLj':L j=true:=by rwa [d9 L hj] at hLj
  have hop:=(fW hk (chk_lt hk hsj)).1;simp only [hsj,Bool.and_eq_true,beq_iff_eq] at hop;have hb:R.dst i≠some b:=λ hh=>by
   have:=List.all_eq_true.1 hop.2 i (by simpa using hi);simp only [hh,bne_self_eq_false,Bool.false_or] at this;rw [hc j hLj' i this] at hL;cases hL
  rw [hput _ (hnd j hj d' hop.1.1),hput _ hb];exact h.d j d' b k c hsj hLj' hcc
 ·intro m hm A hcur;by_cases hms:m.s=l.s
  ·obtain rfl:=hsame m hm hms;rw [hcurl] at hcur;injection hcur with hcur;subst hcur;exact ⟨g,cs',(hput _ (hnl m hm)).trans hev,hgb,hgh',hp⟩
  ·rw [fu (hles m hm hms).1 (hles m hm hms).2] at hcur;obtain ⟨g',c',e1,e2,e3,e4⟩:=h.c m hm A hcur;have hne:g'≠g:=λ hh=>h.x m hm l hl hms (by rw [hcur];rfl) hcurL (by rw [e1,hev,hh,m.H.ok,l.H.ok]);have hnd:l.T ∉ A.deps:=by
    unfold cur at hcur;split at hcur
    ·injection hcur with hcur;cases hst':m.st with
     | none=>rw [hst'] at hcur;rw [← hcur];exact (hdeps m hm).1
     | some x =>
      obtain ⟨j,A'⟩:=x;simp only [hst'] at hcur;split at hcur
      ·rw [← hcur];exact (hdeps m hm).2 j A' hst'
      ·rw [← hcur];exact (hdeps m hm).1
    ·cases hcur
   exact ⟨g',c',(hput _ (hnl m hm)).trans e1,e2,(hbut.block g' (Array.getElem?_eq_some_iff.1 e3).1 hne).trans e3,survA _ _ hnd e4⟩
 ·have hcs:∀ m∈R.les,(cur (upd L i) m).isSome=true→(cur L m).isSome=true:=by
   intro m hm h1;by_cases hms:m.s=l.s
   ·obtain rfl:=hsame m hm hms;exact hcurL
   ·rwa [fu (hles m hm hms).1 (hles m hm hms).2] at h1
  exact λ m hm f hf hne h1 h2=>by
   rw [hput _ (hnl m hm),hput _ (hnl f hf)];exact h.x m hm f hf hne (hcs m hm h1) (hcs f hf h2)
variable {P:Program}{Q:Exit→Act→World→Prop}
theorem step (hk:R.chk=true)(hob:R.Ob P Q B w0 i)(h:R.Inv B w0 L a w)(hc:cG R L)(hL:L i=false)(ha:∀ j,(R.anc i).contains j=true→L j=true)(K:Act→World→Prop)
  (hK:∀ a' w',R.Inv B w0 (upd L i) a' w'→K a' w'):wpOp P R.ops Q i K a w:=by
 have hav:=h.av hc hL ha;unfold Ob at hob;cases hs:R.sp[i]? with
 | none=>rw [hs] at hob;exact hob.elim
 | some y =>
  have hi:=chk_lt hk hs;have hop:=(fW hk hi).1;cases y with
  | skp =>
   rw [hs] at hob;exact hob.elim
  | v d A =>
   simp only [hs,Bool.and_eq_true,beq_iff_eq,decide_eq_true_eq] at hob hop;exact hob a w hav K λ v w' hg hA=>hK _ _ (h.put hk hc hL hs hop.1 hop.2 ⟨(λ e he=>by cases he),rfl⟩ hg
    (λ d' A' he=>by simp only [Sp.vl,Option.some.injEq,Prod.mk.injEq] at he;obtain ⟨rfl,rfl⟩:=he;exact ⟨rfl,hA⟩) (λ d' b k c he=>by cases he))
  | adr d b k c =>
   simp only [hs,Bool.and_eq_true,beq_iff_eq,decide_eq_true_eq] at hob hop;exact hob a w hav K λ v hv=>hK _ _ (h.put hk hc hL hs hop.1.1 hop.1.2 ⟨(λ e he=>by cases he),rfl⟩ (Grow.refl _)
    (λ d' A' he=>by cases he) (λ d' b' k' c' he=>by
     injection he with h1 h2 h3 h4;subst h1;subst h2;subst h3;subst h4;refine ⟨rfl,λ hbd=>?_,hv⟩;have:=List.all_eq_true.1 hop.2 i (by simpa using hi);simp only [hop.1.1,hbd,bne_self_eq_false,Bool.false_or] at this;rw [ha i this] at hL;cases hL))
  | alc e =>
   simp only [hs] at hob;cases he:R.les[e]? with
   | none=>rw [he] at hob;exact hob.elim
   | some l =>
    rw [he] at hob;exact hob a w hav K λ g cs w' hg hge hgh hp=>hK _ _ (h.alc hk hc hL hs he hg hge hgh hp)
  | sto e =>
   simp only [hs] at hob;cases he:R.les[e]? with
   | none=>rw [he] at hob;exact hob.elim
   | some l =>
    obtain ⟨s,T,H,cr,A0,st⟩:=l;rw [he] at hob;simp only [hs,he,Bool.and_eq_true] at hop;cases st with
    | none=>exact hob.elim
    | some x =>
     obtain ⟨j,A1⟩:=x;have hji:j=i:=by simpa using hop.1.2
     subst hji;have hl:=List.mem_of_getElem? he;obtain ⟨g,cs,e1,e2,e3,e4⟩:=h.c _ hl A0 (by
      have hcr:crOk L cr=true:=by
       cases cr with
       | none=>rfl
       | some c=>exact ha c hop.2
      simp [cur,hcr,hL])
     exact hob a w hav g cs e1 e3 e4 K λ cs' hp=>by
      have hd:R.dst j=none:=by simpa using hop.1.1
      have hW:Wr g w (w.setRow g (List.toArray cs')):=Wr.setRow _ _ _;have hh:(w.setRow g (List.toArray cs')).heap[g]?=some (.cells (List.toArray cs') T (0,0)):=setRow_heap w g _ _ _ _ e3;have hTd:T ∉ A1.deps:=by
       obtain ⟨f,hf⟩:=fg hl;exact ((chk_le hk hf).2.2.2.2 _ hl rfl).2 _ _ rfl
      have:=h.sto (w':=w.setRow g (List.toArray cs')) (v:=undef) hk hL hc ha hs rfl he rfl e1 e2 e3 ⟨rfl,rfl,rfl,by simp,λ k _ hne=>hW.block k hne⟩ hh (A1.wr _ _ _ _ g _ _ _ e3 hTd (h.lo g e2) hW hp) (λ d A hv=>by cases hv);rw [hd] at this;exact hK _ _ this
  | cal d A e =>
   simp only [hs] at hob;cases he:R.les[e]? with
   | none=>rw [he] at hob;exact hob.elim
   | some l =>
    obtain ⟨s,T,H,cr,A0,st⟩:=l;rw [he] at hob;simp only [hs,he,Bool.and_eq_true,beq_iff_eq,decide_eq_true_eq] at hop;cases st with
    | none=>exact hob.elim
    | some x =>
     obtain ⟨j,A1⟩:=x;have hji:j=i:=by simpa using hop.2.1
     subst hji;have hl:=List.mem_of_getElem? he;have hcur:cur L ⟨s,T,H,cr,A0,some (j,A1)⟩=some A0:=by
      have hcr:crOk L cr=true:=by
       cases cr with
       | none=>rfl
       | some c=>exact ha c hop.2.2
      simp [cur,hcr,hL]
     obtain ⟨g,cs,e1,e2,e3,e4⟩:=h.c _ hl A0 hcur;refine hob a w hav g cs e1 (h.lo g e2) e3 e4 (λ m hm hne hph=>?_) K λ v cs' w' hbut hgh' hp hA=>?_
     ·obtain ⟨A',hA'⟩:=Option.isSome_iff_exists.1 hph;obtain ⟨g',c',f1,f2,f3,f4⟩:=hav.c m hm A' hA';have hmc:(cur L m).isSome=true:=by
       unfold phase at hA';split at hA'
       ·rename_i hcr;have:crOk L m.cr=true:=by
         cases hcc:m.cr with
         | none=>rfl
         | some c=>rw [hcc] at hcr;exact ha c hcr
        unfold cur;rw [this]
        rfl
       ·cases hA'
      have:=h.x m hm _ hl hne hmc (by rw [hcur];rfl);rw [e1,H.ok] at this;exact this
     ·have:=h.sto hk hL hc ha hs rfl he rfl e1 e2 e3 hbut hgh' hp (v:=v) (λ d' A' hv=>by simp only [Sp.vl,Option.some.injEq,Prod.mk.injEq] at hv;obtain ⟨rfl,rfl⟩:=hv;exact hA);rw [hop.1.1] at this;exact hK _ _ this
structure Fin (R:Rg) (B:Nat) (w0:Bs) (a:Act) (w:World):Prop where
 inv:R.Inv B w0 (λ k=>decide (k<R.ops.size)) a w
def noClash (R:Rg)(deps:List TypeId):Bool:=R.les.all λ e=>e.st.isNone || !deps.contains e.T
def outG (R:Rg)(t:Nat):Bool:=(List.range R.ops.size).all λ k=>R.dst k != some t
def last (e:Le):As:=match e.st with|none=>e.A0|some (_,A)=>A
theorem o7 {deps:List TypeId}(h:noClash R deps=true):R.clash L deps=false:=by
 unfold clash;rw [List.any_eq_false];intro e he;have:=List.all_eq_true.1 h e he;cases U:e.st with
 | none=>simp
 | some x =>
  simp only [U,Option.isNone_some,Bool.false_or,Bool.not_eq_true'] at this;rw [this];simp
theorem Inv.congr {L':Nat→Bool}(h:R.Inv B w0 L a w)(he:∀ k,L' k=L k):R.Inv B w0 L' a w:=by
 have:L'=L:=funext he;rw [this];exact h
theorem Fin.st (hk:R.chk=true)(h:Fin R B w0 a w){Γ':List (Nat × VA)}
  (hΓ:∀ x∈Γ',(noClash R x.2.deps=true∧((x∈R.Γ∧outG R x.1=true)∨∃ (i:Nat) (y:Sp),R.sp[i]?=some y∧y.vl=some x))) :
  St B w0 R.N Γ' (R.les.map λ e=>⟨e.s,e.T,e.H,last e⟩) a w:=by
 have hL:∀ (i:Nat) {y:Sp},R.sp[i]?=some y→decide (i<R.ops.size)=true:=λ i y hs=>by simpa using chk_lt hk hs
 have hcur:∀ e∈R.les,cur (λ k=>decide (k<R.ops.size)) e=some (last e):=by
  intro e he;obtain ⟨f,hf⟩:=fg he;obtain ⟨_,c2,c3,_⟩:=chk_le hk hf;have h1:crOk (λ k=>decide (k<R.ops.size)) e.cr=true:=by
   cases hc:e.cr with
   | none=>rfl
   | some c=>exact hL c (c3 c hc)
  unfold cur last;rw [h1];cases U:e.st with
  | none=>rfl
  | some x =>
   obtain ⟨j,A⟩:=x;obtain ⟨y',hy',_⟩:=c2 j A U;have:=hL j hy';simp only [this,if_true]
 refine ⟨h.inv.lo,h.inv.defers,h.inv.size,h.inv.base,?_,?_,?_⟩
 ·intro x hx;obtain ⟨h1,h2⟩:=hΓ x hx;rcases h2 with ⟨h3,h4⟩|⟨i,y,h3,h5⟩
  ·refine h.inv.g x h3 (λ k hkn hdk=>?_) (o7 h1);have:=List.all_eq_true.1 h4 k (by simpa using hkn);simp [hdk] at this
  ·exact h.inv.v i y _ _ h3 h5 (hL i h3) (o7 h1)
 ·intro l hl;obtain ⟨e,he,rfl⟩:=List.mem_map.1 hl;exact h.inv.c e he _ (hcur e he)
 ·intro l hl m hm hne;obtain ⟨e,he,rfl⟩:=List.mem_map.1 hl;obtain ⟨f,hf,rfl⟩:=List.mem_map.1 hm;exact h.inv.x e he f hf hne (by rw [hcur e he];rfl) (by rw [hcur f hf];rfl)
theorem start {Λ:List Lc}(h:St B w0 R.N R.Γ Λ a w)(hles:∀ e∈R.les,e.cr=none→(⟨e.s,e.T,e.H,e.A0⟩:Lc)∈Λ):R.Inv B w0 (λ _=>false) a w:=by
 have hcur:∀ e∈R.les,∀ A,cur (λ _=>false) e=some A→e.cr=none∧A=e.A0:=by
  intro e _ A hA;unfold cur at hA;cases hc:e.cr with
  | some c=>simp [hc,crOk] at hA
  | none =>
   simp only [hc,crOk,if_true,Option.some.injEq,Bool.false_eq_true,if_false] at hA;refine ⟨rfl,?_⟩;cases U:e.st with
   | none=>rw [U] at hA;exact hA.symm
   | some x=>rw [U] at hA;exact hA.symm
 refine ⟨h.lo,h.defers,h.size,h.base,λ x hx _ _=>h.vals x hx,(λ i y d A _ _ hf=>by cases hf),(λ i d b k c _ hf=>by cases hf),?_,?_⟩
 ·intro e he A hA;obtain ⟨h1,h2⟩:=hcur e he A hA;subst h2;exact h.locs _ (hles e he h1)
 ·intro e he f hf hne h1 h2;obtain ⟨A,hA⟩:=Option.isSome_iff_exists.1 h1;obtain ⟨A',hA'⟩:=Option.isSome_iff_exists.1 h2;exact h.dis _ (hles e he (hcur e he A hA).1) _ (hles f hf (hcur f hf A' hA').1) hne
theorem lin {id:Nat}{Λ:List Lc}(hanc:R.anc=λ i=>List.range i)(hk:R.chk=true)(h:St B w0 R.N R.Γ Λ a w)(hles:∀ e∈R.les,e.cr=none→(⟨e.s,e.T,e.H,e.A0⟩:Lc)∈Λ)
  (hob:∀ i,i<R.ops.size→R.Ob P Q B w0 i) (hQ:∀ a' w',Fin R B w0 a' w'→Q .normal a' w'):(Code.region id R.ops false).wp P Q a w:=by
 refine wp_region ?_;have key:∀ m k,k+m=R.ops.size→∀ a w,R.Inv B w0 (λ j=>decide (j<k)) a w→wpOps P R.ops Q (List.range' k m) a w:=by
  intro m
  induction m with
  | zero =>
   intro k hkm a w hi;have:k=R.ops.size:=by omega
   subst this;exact hQ a w ⟨hi⟩
  | succ m ih =>
   intro k hkm a w hi;rw [List.range'_succ,wpOps_cons];refine step hk (hob k zo) hi ?_ (by simp) ?_ _ λ a' w' hi'=>ih (k+1) zo a' w' (hi'.congr λ j=>?_)
   ·intro i hi j hj;rw [hanc] at hj;simp at hi hj ⊢;omega
   ·intro j hj;rw [hanc] at hj;simpa using hj
   ·unfold upd;by_cases h1:j=k
    ·subst h1;simp
    ·have h2:(j==k)=false:=by simpa using h1
     rw [h2,Bool.false_or,decide_eq_decide];omega
 rw [List.range_eq_range'];exact key _ 0 zo a w ((start h hles).congr λ j=>by simp)
def ancOk (R:Rg):Bool :=
 (List.range R.ops.size).all λ i=>match R.ops[i]? with
  | none=>false
  | some o=>(R.anc i).all (λ j=>o.after.any λ e=>Region.binds .any e&&(e.on==j || (R.anc e.on).contains j))&&o.after.all λ e => !Region.binds .any e || decide (e.on<i)
theorem eR {α:Type}{p q:α→Bool}(hpq:∀ x,q x=true→p x=true):∀ {l:List α}{x:α},x∈l→p x=true→q x=false→l.countP q<l.countP p
 | y::l,x,hx,h1,h2=>by
  have hle:l.countP q≤l.countP p:=List.countP_mono_left λ z _ hz=>hpq z hz;rcases List.mem_cons.1 hx with rfl|hx
  ·rw [List.countP_cons,List.countP_cons,h1,h2];simp;omega
  ·have:=eR hpq hx h1 h2;rw [List.countP_cons,List.countP_cons];cases hq:q y with
   | true=>rw [hpq y hq];simp;omega
   | false=>simp;split <;> omega
theorem draw {id:Nat}{Λ:List Lc}(hm:P.follows .mixedOrders=true)(hanc:ancOk R=true)(hk:R.chk=true)(h:St B w0 R.N R.Γ Λ a w)(hles:∀ e∈R.les,e.cr=none→(⟨e.s,e.T,e.H,e.A0⟩:Lc)∈Λ)
  (hob:∀ i,i<R.ops.size→R.Ob P Q B w0 i) (hQ:∀ a' w',Fin R B w0 a' w'→Q .normal a' w'):(Code.region id R.ops true).wp P Q a w:=by
 refine wp_region_any hm ?_;have ho:∀ i,i<R.ops.size→∃ o,R.ops[i]?=some o∧(∀ j,(R.anc i).contains j=true→∃ e∈o.after,Region.binds .any e=true∧(e.on=j∨(R.anc e.on).contains j=true)) ∧
   ∀ e∈o.after,Region.binds .any e=true→e.on<i:=by
  intro i hi;have:=List.all_eq_true.1 hanc i (by simpa using hi);cases hoi:R.ops[i]? with
  | none=>rw [hoi] at this;cases this
  | some o =>
   rw [hoi] at this;simp only [Bool.and_eq_true] at this;refine ⟨o,rfl,λ j hj=>?_,λ e he hb=>?_⟩
   ·have hh:=List.all_eq_true.1 this.1 j (by simpa using hj);obtain ⟨e,he,h1⟩:=Array.any_eq_true'.1 hh;simp only [Bool.and_eq_true,Bool.or_eq_true,beq_iff_eq] at h1;exact ⟨e,he,h1.1,h1.2⟩
   ·have hh:=Array.all_eq_true'.1 this.2 e he;simpa [hb] using hh
 have hrd:∀ (listed:Array Bool) i,i∈Region.ready .any R.ops listed→i<R.ops.size∧listed.getD i true=false∧∀ o,R.ops[i]?=some o→∀ e∈o.after,Region.binds .any e=true→listed.getD e.on false=true:=by
  intro listed i hi;unfold Region.ready at hi;obtain ⟨h1,h2⟩:=List.mem_filter.1 hi;simp only [Bool.and_eq_true,Bool.not_eq_true'] at h2;refine ⟨by simpa using h1,h2.1,λ o hoi e he hb=>?_⟩;have h3:=h2.2;rw [hoi] at h3;simp only [Option.map_some,Option.getD_some] at h3;have:=Array.all_eq_true'.1 h3 e he;simpa [hb] using this
 have key:∀ fuel (listed:Array Bool) a w,listed.size=R.ops.size→(List.range R.ops.size).countP (λ i => !listed.getD i false)≤fuel→cG R (λ i=>listed.getD i false) →
   R.Inv B w0 (λ i=>listed.getD i false) a w→wpAny P .any R.ops Q fuel listed a w:=by
  intro fuel;have hend:∀ (listed:Array Bool) a w,listed.size=R.ops.size→Region.ready .any R.ops listed=[]→R.Inv B w0 (λ i=>listed.getD i false) a w→Q .normal a w:=by
   intro listed a w hsz hr hi;refine hQ a w ⟨hi.congr λ k=>?_⟩;by_cases hkn:k<R.ops.size
   ·have:∀ k,k<R.ops.size→listed.getD k false=true:=by
     intro k
     induction k using Nat.strongRecOn with
     | _ k ih =>
      intro hkn;cases hl:listed.getD k false with
      | true=>rfl
      | false =>
       exfalso;obtain ⟨o,ho1,_,ho3⟩:=ho k hkn;have:k∈Region.ready .any R.ops listed:=by
        unfold Region.ready;refine List.mem_filter.2 ⟨by simpa using hkn,?_⟩;have h0:listed.getD k true=false:=by
         simp only [Array.getD,hsz,hkn,dite_true] at hl ⊢;exact hl
        rw [h0,ho1];simp only [Bool.not_false,Bool.true_and,Option.map_some,Option.getD_some];refine Array.all_eq_true'.2 λ e he=>?_;cases hb:Region.binds .any e with
        | false=>rfl
        | true=>simpa using ih e.on (ho3 e he hb) (Nat.lt_trans (ho3 e he hb) hkn)
       rw [hr] at this;cases this
    simp [hkn,this k hkn]
   ·have:listed.getD k false=false:=by simp [Array.getD,hsz,hkn]
    simp [hkn,this]
  induction fuel with
  | zero =>
   intro listed a w hsz hcnt hcl hi;have hr:Region.ready .any R.ops listed=[]:=by
    cases hrr:Region.ready .any R.ops listed with
    | nil=>rfl
    | cons i rest =>
     exfalso;obtain ⟨h1,h2,_⟩:=hrd listed i (by rw [hrr];simp);have:0<(List.range R.ops.size).countP (λ i => !listed.getD i false):=by
      refine List.countP_pos_iff.2 ⟨i,by simpa using h1,?_⟩;simp only [Array.getD,hsz,h1,dite_true] at h2 ⊢;simpa using h2
     omega
   exact ⟨hr,hend listed a w hsz hr hi⟩
  | succ fuel ih =>
   intro listed a w hsz hcnt hcl hi;refine ⟨λ hr=>hend listed a w hsz hr hi,λ i hir=>?_⟩;obtain ⟨h1,h2,h3⟩:=hrd listed i hir;obtain ⟨o,ho1,ho2,_⟩:=ho i h1;have hLi:listed.getD i false=false:=by
    simp only [Array.getD,hsz,h1,dite_true] at h2 ⊢;exact h2
   have hanci:∀ j,(R.anc i).contains j=true→listed.getD j false=true:=by
    intro j hj;obtain ⟨e,he,hb,hj'⟩:=ho2 j hj;have hl:=h3 o ho1 e he hb;rcases hj' with rfl|hj'
    ·exact hl
    ·exact hcl e.on hl j hj'
   have hup:∀ k,(listed.setIfInBounds i true).getD k false=upd (λ i=>listed.getD i false) i k:=by
    intro k;unfold upd;by_cases hki:k=i
    ·subst hki;simp [hsz,h1]
    ·simp [hki,Array.getElem?_setIfInBounds_ne (λ e=>hki e.symm)]
   refine step hk (hob i h1) hi hcl hLi hanci _ λ a' w' hi'=>ih _ _ _ (by simpa using hsz) ?_ ?_ (hi'.congr hup)
   ·have:(List.range R.ops.size).countP (λ k => !(listed.setIfInBounds i true).getD k false)<(List.range R.ops.size).countP (λ k => !listed.getD k false):=by
     refine eR (x:=i) (λ x hx=>?_) (by simpa using h1) (by rw [hLi];rfl) (by rw [hup,ci];rfl);have hx':upd (λ i=>listed.getD i false) i x=false:=by
      rw [← hup];simpa only [Bool.not_eq_true'] using hx
     rw [(dK hx').2]
     rfl
    omega
   ·intro k hk' j hj;have hk2:upd (λ i=>listed.getD i false) i k=true:=by rw [← hup];exact hk'
    show (listed.setIfInBounds i true).getD j false=true;rw [hup];rcases rG hk2 with rfl|h4
    ·exact cX _ (hanci j hj)
    ·exact cX _ (hcl k h4 j hj)
 refine key _ _ a _ (by simp) ?_ ?_ ?_
 ·refine Nat.le_trans (List.countP_le_length) (by simp)
 ·intro i hi;exfalso;simp only [Array.getD,Array.size_replicate] at hi;split at hi <;> simp at hi
 ·have hs:=start h hles;have hd:R.Inv B w0 (λ _=>false) a w.drew:=⟨hs.lo,hs.defers.grow (Grow.drew w) rfl,hs.size,hs.base.drew,λ x hx h1 h2=>x.2.grow _ _ _ _ (Grow.drew w) (hs.g x hx h1 h2),(λ i y d A _ _ hf=>by cases hf),(λ i d b k c _ hf=>by cases hf),
   λ e he A hA=>(hs.c e he A hA).grow (Grow.drew w),hs.x⟩
  refine Inv.congr hd λ k=>?_;simp only [Array.getD,Array.size_replicate];split <;> simp
end
end Rg
end Go.Proofs.YtbghmmnkciimdaaGreatDoor
namespace Go.Proofs.YtbghmmnkciimdaaGreatDoor
open Go Go.RowKit
inductive All2 {α β:Type} (R:α→β→Prop):List α→List β→Prop
 | nil:All2 R [] []
 | cons {a:α}{b:β}{as:List α}{bs:List β}:R a b→All2 R as bs→All2 R (a::as) (b::bs)
theorem All2.length {α β:Type}{R:α→β→Prop}{as:List α}{bs:List β}(h:All2 R as bs):as.length=bs.length:=by
 induction h with
 | nil=>rfl
 | cons _ _ ih=>simp [ih]
theorem All2.get {α β:Type}{R:α→β→Prop}{as:List α}{bs:List β}(h:All2 R as bs):∀ {i:Nat}{a:α},as[i]?=some a→∃ b,bs[i]?=some b∧R a b:=by
 induction h with
 | nil=>intro i a h;simp at h
 | cons hr _ ih =>
  intro i a h;cases i with
  | zero=>simp at h;subst h;exact ⟨_,rfl,hr⟩
  | succ i=>simp at h ⊢;exact ih h
theorem All2.mono {α β:Type}{R S:α→β→Prop}{as:List α}{bs:List β}(h:All2 R as bs)(f:∀ a b,R a b→S a b):All2 S as bs:=by
 induction h with
 | nil=>exact .nil
 | cons hr _ ih=>exact .cons (f _ _ hr) ih
theorem All2.one {α β:Type}{R:α→β→Prop}{a:α}{bs:List β}(h:All2 R [a] bs):∃ b,bs=[b]∧R a b:=by
 cases h with|cons h t=>cases t;exact ⟨_,rfl,h⟩
theorem All2.two {α β:Type}{R:α→β→Prop}{a a':α}{bs:List β}(h:All2 R [a,a'] bs):∃ b b',bs=[b,b']∧R a b∧R a' b':=by
 cases h with|cons h t=>cases t with|cons h' t=>cases t;exact ⟨_,_,rfl,h,h'⟩
def Cn (P:Program)(f:FuncId)(pre:List VA)(post:VA):Prop :=
 (Xx P f) ∧
 ∀ (B:Nat) (w:World) (args:List Value),B≤w.heap.size→All2 (λ A v=>A.p B v w) pre args →
  Calls P f args.toArray w λ e w'=>∃ v,e=.returned v∧post.p B v w'∧Grow w w'
structure Shut (Ds:List Nat) (w w':World):Prop where
 os:w'.os=w.os
 tape:w'.tape=w.tape
 output:w'.output=w.output
 size:w'.heap.size=w.heap.size
 block:∀ k,k ∉ Ds→w'.heap[k]?=w.heap[k]?
def ce (P:Program)(fn:Func)(R:Ending→World→Prop):Exit→Act→World→Prop
 | .normal,a,w | .ret,a,w=>∃ Ds:List Nat,a.defers=Ds.map mark∧Ds.Nodup∧(∀ D∈Ds,w.heap[D]?=some (.deferred (some [])))∧∀ w',Shut Ds w w'→∃ v,(results fn a.tmps).run P w'=.ok v w'∧R (.returned v) w'
 | _,_,_=>False
theorem fQ {P:Program}{fn:Func}{tmps:Array Value}{R:Ending→World→Prop}:∀ (Ds:List Nat) (w:World),Ds.Nodup→(∀ D∈Ds,w.heap[D]?=some (.deferred (some [])))→(∀ w',Shut Ds w w'→∃ v,(results fn tmps).run P w'=.ok v w'∧R (.returned v) w')→LeavesInM Fence.wide 0 P fn tmps R (Ds.map mark) .returning w
 | [],w,_,_,h=>h w ⟨rfl,rfl,rfl,rfl,λ _ _=>rfl⟩
 | D::Ds,w,nd,hD,h=>by
  have hd:=hD D (by simp);have hlt:=(Array.getElem?_eq_some_iff.1 hd).1;refine ⟨by simp,.inl ⟨D,_,rfl,run_takeDeferred hd,fQ Ds _ (List.nodup_cons.1 nd).2 (λ D' hD'=>?_) λ w' hs=>h w' ⟨hs.os,hs.tape,hs.output,by rw [hs.size];simp,λ k hk=>?_⟩⟩⟩
  ·rw [World.putObj_heap_other (λ e:D'=D=>(List.nodup_cons.1 nd).1 (by rw [← e];exact hD'))];exact hD D' (List.mem_cons_of_mem _ hD')
  ·simp only [List.mem_cons,not_or] at hk;rw [hs.block k hk.2,World.putObj_heap_other hk.1]
theorem cm {P:Program}{f:FuncId}{fn:Func}{c:Code}{args:Array Value}{w:World}{R:Ending→World→Prop}(hf:P.funcs[f]?=some fn)(hb:fn.body=some c)
  (h:c.wp P (ce P fn R) { tmps:=args++Array.replicate (fn.ntmps-args.size) undef,defers:=[] } w):Calls P f args w R:=by
 refine (callsIn_wide (n:=0)).1 (callsIn_of_wp_marks hf hb trivial (wpIn_wide.2 (wp_mono h λ e a w hq=>?_)) rfl);cases e with
 | normal =>
  obtain ⟨Ds,e,nd,hD,hr⟩:=hq;show LeavesInM _ _ _ _ _ _ a.defers _ _;rw [e];exact fQ Ds w nd hD hr
 | ret =>
  obtain ⟨Ds,e,nd,hD,hr⟩:=hq;show LeavesInM _ _ _ _ _ _ a.defers _ _;rw [e];exact fQ Ds w nd hD hr
 | _=>exact hq.elim
theorem DefOk.list {w0:Bs}{a:Act}{w:World}(h:DefOk w0 a w):∃ Ds:List Nat,a.defers=Ds.map mark∧Ds.Nodup∧∀ D∈Ds,w0.may D∧w.heap[D]?=some (.deferred (some [])):=by
 have key:∀ l:List Deferred,l.Nodup→(∀ d∈l,∃ D,d=mark D∧w0.may D∧w.heap[D]?=some (.deferred (some [])))→∃ Ds:List Nat,l=Ds.map mark∧Ds.Nodup∧∀ D∈Ds,w0.may D∧w.heap[D]?=some (.deferred (some [])):=by
  intro l
  induction l with
  | nil=>exact λ _ _=>⟨[],rfl,.nil,λ _ h=>by cases h⟩
  | cons d l ih =>
   intro nd hl;obtain ⟨Ds,rfl,nd',hD⟩:=ih (List.nodup_cons.1 nd).2 λ d hd=>hl d (List.mem_cons_of_mem _ hd);obtain ⟨D,rfl,hm,hh⟩:=hl d (by simp);refine ⟨D::Ds,rfl,List.nodup_cons.2 ⟨λ hm=>(List.nodup_cons.1 nd).1 (List.mem_map.2 ⟨D,hm,rfl⟩),nd'⟩,λ D' hD'=>?_⟩;rcases List.mem_cons.1 hD' with rfl|hD'
   ·exact ⟨hm,hh⟩
   ·exact hD D' hD'
 exact key _ h.nodup h.all
theorem Fq {l m:List Nat}(h:l.map mark=m.map mark):l=m:=by
 induction l generalizing m with
 | nil=>cases m with
  | nil=>rfl
  | cons _ _=>cases h
 | cons x l ih=>cases m with
  | nil=>cases h
  | cons y m =>
   simp only [List.map_cons,List.cons.injEq,Deferred.mk.injEq,Target.collected.injEq,and_true] at h;rw [h.1,ih h.2]
theorem St.shut {B:Nat}{w0:Bs}{N:Nat}{Γ:List (Nat × VA)}{Λ:List Lc}{a:Act}{w w':World}(h:St B w0 N Γ Λ a w){Ds:List Nat}(e:a.defers=Ds.map mark)(hs:Shut Ds w w'):St B w0 N Γ Λ { a with defers:=[] } w':=by
 obtain ⟨Ds',e',nd,hD⟩:=h.defers.list;obtain rfl:Ds=Ds':=Fq (e.symm.trans e');have hc:Cg w w':=⟨by rw [hs.size];exact Nat.le_refl _,λ g c T fz hg=>(hs.block g (λ hm=>by rw [(hD g hm).2] at hg;cases hg)).trans hg⟩;refine ⟨h.lo,DefOk.nil rfl,h.size,⟨hs.os.trans h.base.os,hs.tape.trans h.base.tape,hs.output.trans h.base.output,by rw [hs.size];exact h.base.size,λ k hk hf=>?_⟩,λ x hx=>x.2.cg _ _ _ _ hc (h.vals x hx),λ l hl=>?_,h.dis⟩
 ·refine (hs.block k (λ hm=>?_)).trans (h.base.block k hk hf);rcases (hD k hm).1 with h1|h1
  ·omega
  ·exact hf h1
 ·obtain ⟨g,cs,h1,h2,h3,h4⟩:=h.locs l hl;exact ⟨g,cs,h1,h2,hc.heap h3,l.A.cg _ _ _ _ hc h4⟩
theorem gz {P:Program}{fn:Func}{R:Ending→World→Prop}{B:Nat}{w0:Bs}{N:Nat}{Γ:List (Nat × VA)}{Λ:List Lc}{a:Act}{w:World}(h:St B w0 N Γ Λ a w)
  (k:∀ w',St B w0 N Γ Λ { a with defers:=[] } w'→∃ v,(results fn a.tmps).run P w'=.ok v w'∧R (.returned v) w'):ce P fn R .ret a w:=by
 obtain ⟨Ds,e,nd,hD⟩:=h.defers.list;exact ⟨Ds,e,nd,λ D hm=>(hD D hm).2,λ w' hs=>k w' (h.shut e hs)⟩
theorem sw {P:Program}{fn:Func}{R R':Ending→World→Prop}{B:Nat}{w0:Bs}{N:Nat}{Γ:List (Nat × VA)}{Λ:List Lc}{a:Act}{w:World}(h:St B w0 N Γ Λ a w)(hb:ce P fn R .ret a w)
  (k:∀ v w',St B w0 N Γ Λ { a with defers:=[] } w'→R (.returned v) w'→R' (.returned v) w'):ce P fn R' .ret a w:=by
 obtain ⟨Ds,e,nd,hD,hr⟩:=hb;refine ⟨Ds,e,nd,hD,λ w' hs=>?_⟩;obtain ⟨v,h1,h2⟩:=hr w' hs;exact ⟨v,h1,k v w' (h.shut e hs) h2⟩
def RQ (B:Nat)(w0:Bs)(post:VA):Ending→World→Prop:=λ e w'=>∃ v,e=.returned v∧post.p B v w'∧Kept w0 w'
def argΓ (pre:List VA):List (Nat × VA):=pre.zipIdx.map λ x=>(x.2,x.1)
theorem All2.args {B:Nat}{w:World}{N:Nat}:∀ {pre:List VA}{args:List Value},All2 (λ (A:VA) v=>A.p B v w) pre args→∀ (x:Nat × VA),x∈argΓ pre→x.2.p B ((⟨args.toArray++Array.replicate N undef,[]⟩:Act).eval (.tmp x.1)) w:=by
 intro pre args h x hx;unfold argΓ at hx;obtain ⟨y,hy,rfl⟩:=List.mem_map.1 hx;obtain ⟨v,hv,hp⟩:=h.get (List.mem_zipIdx_iff_getElem?.1 hy);have hlt:y.2<args.length:=(List.getElem?_eq_some_iff.1 hv).1;have:(⟨args.toArray++Array.replicate N undef,[]⟩:Act).eval (.tmp y.2)=v:=by
  simp [Act.eval,Array.getElem?_append,hlt];rw [List.getElem?_eq_getElem hlt] at hv;simpa using hv
 rw [this];exact hp
theorem Cn.intro {P:Program}{f:FuncId}{fn:Func}{c:Code}{pre:List VA}{post:VA}(hf:P.funcs[f]?=some fn)(hb:fn.body=some c)(hn:(fn.name== "runtime.NumGoroutine")=false)(hsz:pre.length≤fn.ntmps)
  (h:∀ (B:Nat) (w0:Bs) (a:Act),St B w0 fn.ntmps (argΓ pre) [] a w0.w→c.wp P (ce P fn (RQ B w0 post)) a w0.w):Cn P f pre post:=by
 refine ⟨⟨fn,hf,hn,by rw [hb];rfl⟩,λ B w args hB ha=>(cm hf hb (h B ⟨w,λ _=>False,false⟩ _ ?_)).mono λ _ _ ⟨v,he,hv,hk⟩=>⟨v,he,hv,hk.grow0⟩⟩;have hl:=ha.length;refine ⟨λ g hg=>Nat.le_trans hB (hg.resolve_right λ h=>h),DefOk.nil rfl,?_,Kept.refl _,All2.args ha,(λ l hl=>by cases hl),(λ l hl=>by cases hl)⟩;simp only [Array.size_append,List.size_toArray,Array.size_replicate];omega
theorem Cn.mono {P:Program}{f:FuncId}{pre:List VA}{post post':VA}(h:Cn P f pre post)(hp:∀ B v w,post.p B v w→post'.p B v w):Cn P f pre post' :=
 ⟨h.1,λ B w args hB ha=>(h.2 B w args hB ha).mono λ _ _ ⟨v,he,hv,hg⟩=>⟨v,he,hp _ _ _ hv,hg⟩⟩
def NumA (k:IntKind)(n:Int):As where
 n:=1
 ag:=false
 p _ cs _:=cs=[.int k n]
 deps:=[]
 len:=λ _ _ _ h=>by rw [h];rfl
 one:=λ _ _ _ h=>by rw [h];simp [Value.oneCell']
 ag1:=λ _=>rfl
 cg:=λ _ _ _ _ _ h=>h
 wr:=λ _ _ _ _ _ _ _ _ _ _ _ _ h=>h
def BoA (b:Bool):As where
 n:=1
 ag:=false
 p _ cs _:=cs=[.bool b]
 deps:=[]
 len:=λ _ _ _ h=>by rw [h];rfl
 one:=λ _ _ _ h=>by rw [h];simp [Value.oneCell']
 ag1:=λ _=>rfl
 cg:=λ _ _ _ _ _ h=>h
 wr:=λ _ _ _ _ _ _ _ _ _ _ _ _ h=>h
abbrev In (n:Int):VA:=(NumA .i64 n).va
abbrev Bo (b:Bool):VA:=(BoA b).va
theorem bj {k:IntKind}{n:Int}{B:Nat}{v:Value}{w:World}(h:(NumA k n).va.p B v w):v=.int k n:=by
 obtain ⟨cs,h1,h2⟩:=h;have h1':cs=[.int k n]:=h1;subst h1';exact h2
theorem dS {b:Bool}{B:Nat}{v:Value}{w:World}(h:(BoA b).va.p B v w):v=.bool b:=by
 obtain ⟨cs,h1,h2⟩:=h;have h1':cs=[.bool b]:=h1;subst h1';exact h2
theorem bV (k:IntKind)(n:Int)(B:Nat)(w:World):(NumA k n).va.p B (.int k n) w:=⟨_,rfl,rfl⟩
theorem dJ (b:Bool)(B:Nat)(w:World):(BoA b).va.p B (.bool b) w:=⟨_,rfl,rfl⟩
def cat (l:List As):As where
 n:=(l.map (·.n)).sum
 ag:=true
 p B cs w:=∃ ps:List (List Value),cs=ps.flatten∧All2 (λ A c=>A.p B c w) l ps
 deps:=l.flatMap (·.deps)
 len:=by
  rintro B cs w ⟨ps,rfl,h⟩
  induction h with
  | nil=>rfl
  | cons h _ ih=>simp [ih,As.len _ _ _ _ h]
 one:=by
  rintro B cs w ⟨ps,rfl,h⟩
  induction h with
  | nil=>simp
  | cons h _ ih =>
   intro c hc;simp only [List.flatten_cons,List.mem_append] at hc;rcases hc with hc|hc
   ·exact As.one _ _ _ _ h c hc
   ·exact ih c hc
 ag1:=λ h=>by cases h
 cg:=by
  rintro B cs w w' hg ⟨ps,rfl,h⟩;exact ⟨ps,rfl,h.mono λ A c hc=>A.cg _ _ _ _ hg hc⟩
 wr:=by
  rintro B cs w w' g c T fz h1 h2 h3 h4 ⟨ps,rfl,h⟩;refine ⟨ps,rfl,?_⟩
  induction h with
  | nil=>exact .nil
  | cons h _ ih =>
   simp only [List.flatMap_cons,List.mem_append,not_or] at h2;exact .cons (As.wr _ _ _ _ _ _ _ _ _ h1 h2.1 h3 h4 h) (ih h2.2)
theorem wX {l:List As}{B:Nat}{cs:List Value}{w:World}(h:(cat l).p B cs w){f:Nat}{A:As}(hf:l[f]?=some A) :
  A.p B ((cs.drop ((l.take f).map (·.n)).sum).take A.n) w∧((l.take f).map (·.n)).sum+A.n≤cs.length:=by
 obtain ⟨ps,rfl,h⟩:=h
 induction h generalizing f with
 | nil=>simp at hf
 | cons hh ht ih =>
  rename_i A0 c0 as bs;have hl:=As.len _ _ _ _ hh;cases f with
  | zero =>
   simp at hf;subst hf;simp only [List.take_zero,List.map_nil,List.sum_nil,List.drop_zero,List.flatten_cons,List.length_append,Nat.zero_add];rw [List.take_append_of_le_length zo,List.take_of_length_le zo];exact ⟨hh,by omega⟩
  | succ f =>
   simp at hf;obtain ⟨h1,h2⟩:=ih hf;simp only [List.take_succ_cons,List.map_cons,List.sum_cons,List.flatten_cons,List.length_append];have e:(c0++bs.flatten).drop (A0.n+((as.take f).map (·.n)).sum)=bs.flatten.drop ((as.take f).map (·.n)).sum:=by
    rw [List.drop_append,List.drop_of_length_le zo,List.nil_append,hl]
    congr 1
    omega
   rw [e];exact ⟨h1,by omega⟩
def Tu (l:List VA):VA where
 p B v w:=∃ vs:List Value,v=.tuple vs.toArray∧All2 (λ A x=>A.p B x w) l vs
 deps:=l.flatMap (·.deps)
 cg:=by
  rintro B v w w' hg ⟨vs,rfl,h⟩;exact ⟨vs,rfl,h.mono λ A c hc=>A.cg _ _ _ _ hg hc⟩
 wr:=by
  rintro B v w w' g c T fz h1 h2 h3 h4 ⟨vs,rfl,h⟩;refine ⟨vs,rfl,?_⟩
  induction h with
  | nil=>exact .nil
  | cons h _ ih =>
   simp only [List.flatMap_cons,List.mem_append,not_or] at h2;exact .cons (VA.wr _ _ _ _ _ _ _ _ _ h1 h2.1 h3 h4 h) (ih h2.2)
section
variable {P:Program}{Q:Exit→Act→World→Prop}{R:Rg}{B:Nat}{w0:Bs}{i:Nat}
def Has (R:Rg)(B:Nat)(w0:Bs)(i:Nat)(x:Operand)(A:VA):Prop:=∀ a w,R.Av B w0 i a w→A.p B (a.eval x) w
inductive HasL (R:Rg) (B:Nat) (w0:Bs) (i:Nat):List Operand→List VA→Prop
 | nil:HasL R B w0 i [] []
 | cons {x:Operand}{A:VA}{xs:List Operand}{As:List VA}:Has R B w0 i x A→HasL R B w0 i xs As→HasL R B w0 i (x::xs) (A::As)
theorem Qv {t:Nat}{A:VA}(k:Nat)(h:R.Γ[k]?=some (t,A))(h1:R.okG i t=true)(h2:R.okD i A.deps=true):Has R B w0 i (.tmp t) A :=
 λ _ _ av=>av.g (t,A) (List.mem_of_getElem? h) h1 h2
theorem Qu {t:Nat}{A:VA}(j:Nat)(h:R.sp[j]?=some (.v t A))(h1:(R.anc i).contains j=true)(h2:R.okD i A.deps=true):Has R B w0 i (.tmp t) A :=
 λ _ _ av=>av.v j _ t A h1 h rfl h2
theorem KC {t e:Nat}{A:VA}(j:Nat)(h:R.sp[j]?=some (.cal t A e))(h1:(R.anc i).contains j=true)(h2:R.okD i A.deps=true):Has R B w0 i (.tmp t) A :=
 λ _ _ av=>av.v j _ t A h1 h rfl h2
theorem ab {k:IntKind}{n:Int}:Has R B w0 i (.const (.int k n)) (NumA k n).va:=λ _ w _=>bV k n B w
theorem aE {b:Bool}:Has R B w0 i (.const (.bool b)) (Bo b):=λ _ w _=>dJ b B w
theorem HasL.all {a:Act}{w:World}(av:R.Av B w0 i a w){xs:List Operand}{As:List VA}(h:HasL R B w0 i xs As):All2 (λ (A:VA) v=>A.p B v w) As (xs.map a.eval):=by
 induction h with
 | nil=>exact .nil
 | cons hh _ ih=>exact .cons (hh _ _ av) ih
theorem Av.bw {a:Act}{w:World}(av:R.Av B w0 i a w):B≤w.heap.size:=Nat.le_trans (av.lo _ (.inl (Nat.le_refl _))) av.base.size
theorem bA {o:Oper}{K:Act→World→Prop}{a:Act}{w:World}(ho:R.ops[i]?=some o)(hg:o.guard=none)(h:o.wp P a w K Q):wpOp P R.ops Q i K a w:=by
 unfold wpOp;simp only [ho,Region.wanted,hg,if_true];exact .inl h
theorem bf {o:Oper}{K:Act→World→Prop}{a:Act}{w w':World}{v:Value}(hr:(execOp a.eval o).run P w=.ok (.value v) w')(h:K (a.put o.dst v) w'):o.wp P a w K Q:=by
 unfold Oper.wp;rw [hr];exact h
theorem wp_skip' {o:Oper}{K:Act→World→Prop}{a:Act}{w w':World}(hr:(execOp a.eval o).run P w=.ok .skip w')(h:K (a.put o.dst undef) w'):o.wp P a w K Q:=by
 unfold Oper.wp;rw [hr];exact h
def Wv (P:Program)(Q:Exit→Act→World→Prop)(R:Rg)(B:Nat)(w0:Bs)(i:Nat)(op:Op)(A:VA):Prop :=
 ∀ (d:Nat) (T:TypeId) (ps:String) (af:Array Edge) (gd:Option (Nat × Bool)) (a:Act) (w:World),R.Av B w0 i a w →
  ∀ K:Act→World→Prop,(∀ v w',Grow w w'→A.p B v w'→K (a.put (some d) v) w')→Oper.wp P ⟨some d,op,T,ps,af,gd⟩ a w K Q
theorem ob_v {d:Nat}{A:VA}{op:Op}{T:TypeId}{ps:String}{af:Array Edge}(hs:R.sp[i]?=some (.v d A))(ho:R.ops[i]?=some ⟨some d,op,T,ps,af,none⟩)(h:Wv P Q R B w0 i op A):R.Ob P Q B w0 i:=by
 unfold Rg.Ob;rw [hs];exact λ a w av K hK=>bA ho rfl (h d T ps af none a w av K hK)
def Wh (c:Prop)(A:VA):VA where
 p B v w:=(c→A.p B v w)∧(¬ c→v=undef)
 deps:=A.deps
 cg:=λ B v w w' hg h=>⟨λ hc=>A.cg B v w w' hg (h.1 hc),h.2⟩
 wr:=λ B v w w' g c T fz h1 h2 h3 h4 h=>⟨λ hc=>A.wr B v w w' g c T fz h1 h2 h3 h4 (h.1 hc),h.2⟩
theorem ae {x:Operand}{c:Prop}{A:VA}(h:Has R B w0 i x (Wh c A))(hc:c):Has R B w0 i x A:=λ a w av=>(h a w av).1 hc
theorem fR {x:Operand}{c d:Prop}{A:VA}(h:Has R B w0 i x (Wh (c∧d) A))(hc:c):Has R B w0 i x (Wh d A):=λ a w av=>⟨λ hd=>(h a w av).1 ⟨hc,hd⟩,λ hd=>(h a w av).2 λ hcd=>hd hcd.2⟩
theorem nL {a:Act}{w:World}{j dj:Nat}(av:R.Av B w0 i a w)(hj:R.dst j=some dj)(hdj:dj<R.N):yielded R.ops a.tmps j=match a.eval (.tmp dj) with | .bool b=>some b|_=>none:=by
 unfold yielded;unfold Rg.dst at hj;rw [hj];have hsz:dj<a.tmps.size:=by rw [av.size];exact hdj
 have:a.tmps[dj]?=some (a.eval (.tmp dj)):=by
  simp only [Act.eval,Array.getD,hsz,dite_true];exact Array.getElem?_eq_getElem hsz
 simp only [Option.bind_some,this];cases a.eval (.tmp dj) <;> rfl
theorem rg {a:Act}{w:World}{j dj:Nat}{want b:Bool}{o:Oper}(hgd:o.guard=some (j,want))(av:R.Av B w0 i a w)(hj:R.dst j=some dj)(hdj:dj<R.N)(hb:Has R B w0 i (.tmp dj) (Bo b)):Region.wanted o (yielded R.ops a.tmps)=(b==want):=by
 have e:=dS (hb a w av);have hy:=nL av hj hdj;rw [e] at hy;simp only [Region.wanted,hgd,hy];cases b <;> cases want <;> rfl
theorem nN {a:Act}{w:World}{j dj:Nat}{want b:Bool}{c:Prop}{o:Oper}(hgd:o.guard=some (j,want))(av:R.Av B w0 i a w)(hj:R.dst j=some dj)(hdj:dj<R.N)(hb:Has R B w0 i (.tmp dj) (Wh c (Bo b))) :
  (Region.wanted o (yielded R.ops a.tmps)=true↔c∧b=want):=by
 have hy:=nL av hj hdj;obtain ⟨h1,h2⟩:=hb a w av;simp only [Region.wanted,hgd,hy];by_cases hc:c
 ·rw [dS (h1 hc)];cases b <;> cases want <;> simp [hc]
 ·rw [h2 hc];simp [undef,hc]
theorem Qe {d j dj:Nat}{want b:Bool}{A:VA}{op:Op}{T:TypeId}{ps:String}{af:Array Edge}(hs:R.sp[i]?=some (.v d (Wh (b=want) A)))
  (ho:R.ops[i]?=some ⟨some d,op,T,ps,af,some (j,want)⟩) (hj:R.dst j=some dj) (hb:Has R B w0 i (.tmp dj) (Bo b)) (hdj:dj<R.N) (h:b=want→Wv P Q R B w0 i op A):R.Ob P Q B w0 i:=by
 unfold Rg.Ob;rw [hs];intro a w av K hK;have hw:=rg (o:=⟨some d,op,T,ps,af,some (j,want)⟩) rfl av hj hdj hb;unfold wpOp;simp only [ho,hw];by_cases hbw:b=want
 ·rw [if_pos (by simpa using hbw)];exact .inl (h hbw d T ps af _ a w av K λ v w' hg hv=>hK v w' hg ⟨λ _=>hv,λ hc=>absurd hbw hc⟩)
 ·rw [if_neg (by simpa using hbw)];exact hK undef w (Grow.refl w) ⟨λ hc=>absurd hc hbw,λ _=>rfl⟩
theorem bT {d j dj:Nat}{want b:Bool}{c:Prop}{A:VA}{op:Op}{T:TypeId}{ps:String}{af:Array Edge}(hs:R.sp[i]?=some (.v d (Wh (c∧b=want) A)))
  (ho:R.ops[i]?=some ⟨some d,op,T,ps,af,some (j,want)⟩) (hj:R.dst j=some dj) (hb:Has R B w0 i (.tmp dj) (Wh c (Bo b))) (hdj:dj<R.N) (h:c∧b=want→Wv P Q R B w0 i op A):R.Ob P Q B w0 i:=by
 unfold Rg.Ob;rw [hs];intro a w av K hK;have hw:=nN (o:=⟨some d,op,T,ps,af,some (j,want)⟩) rfl av hj hdj hb;unfold wpOp;simp only [ho];by_cases hbw:c∧b=want
 ·rw [if_pos (hw.2 hbw)];exact .inl (h hbw d T ps af _ a w av K λ v w' hg hv=>hK v w' hg ⟨λ _=>hv,λ hc=>absurd hbw hc⟩)
 ·rw [if_neg (λ hh=>hbw (hw.1 hh))];exact hK undef w (Grow.refl w) ⟨λ hc=>absurd hc hbw,λ _=>rfl⟩
theorem bk {op:Op}{A:VA}(h:∀ (d:Nat) (T:TypeId) (ps:String) (af:Array Edge) (gd:Option (Nat × Bool)) (a:Act) (w:World),R.Av B w0 i a w→∃ v w',(execOp a.eval ⟨some d,op,T,ps,af,gd⟩).run P w=.ok (.value v) w'∧Grow w w'∧A.p B v w'):Wv P Q R B w0 i op A :=
 λ d T ps af gd a w av K hK=>by
  obtain ⟨v,w',h1,h2,h3⟩:=h d T ps af gd a w av;exact bf h1 (hK v w' h2 h3)
theorem aq {x:Operand}{A:VA}(hx:Has R B w0 i x A):Wv P Q R B w0 i (.move x) A:=bk λ _ _ _ _ _ a w av=>⟨_,w,rfl,Grow.refl w,hx a w av⟩
theorem aR {x:Operand}{A:VA}(hx:Has R B w0 i x A):Wv P Q R B w0 i (.assign x) A:=bk λ _ _ _ _ _ a w av=>⟨_,w,rfl,Grow.refl w,hx a w av⟩
theorem bi {f:FuncId}{fn:Func}(hf:P.funcs[f]?=some fn)(hn:(fn.name== "runtime.NumGoroutine")=false)(hb:fn.body.isNone=false)(args:Array Value)(w:World) :
  (callFunc f args).run P w=.ok (.enter f args) w:=by
 have h1:fn.name≠ "runtime.NumGoroutine":=by simpa using hn
 have h2:¬ fn.body=none:=by intro h;rw [h] at hb;cases hb
 simp [callFunc,hf,h1,h2]
theorem be {A:VA}{f:FuncId}{xs:List Operand}{As:List VA}{at_:Array TypeId}(hc:Cn P f As A)(hx:HasL R B w0 i xs As):Wv P Q R B w0 i (.call ⟨.value (.func f),xs.toArray,at_⟩) A:=by
 intro d T ps af gd a w av K hK;obtain ⟨⟨fn,hf,hn,hb⟩,hcall⟩:=hc;have hrun:(execOp a.eval ⟨some d,.call ⟨.value (.func f),xs.toArray,at_⟩,T,ps,af,gd⟩).run P w=.ok (.enter f (xs.map a.eval).toArray) w:=by
  simp only [execOp,resolve,Act.eval,Deferred.ofValue,Sem.run_bind,Sem.run_pure,Result.andThen_ok,invoke,bi hf hn hb];simp
 unfold Oper.wp;rw [hrun];exact (hcall B w _ (Av.bw av) (hx.all av)).mono λ e w' ⟨v,he,hv,hg⟩=>by subst he;exact hK v w' hg hv
theorem aQ {t k:Nat}{A:VA}{l:List VA}(hx:Has R B w0 i (.tmp t) (Tu l))(hk:l[k]?=some A):Wv P Q R B w0 i (.extract (.tmp t) k) A :=
 bk λ _ _ _ _ _ a w av=>by
  obtain ⟨vs,hv,hl⟩:=hx a w av;obtain ⟨v,hv',hp⟩:=hl.get hk;refine ⟨v,w,?_,Grow.refl w,hp⟩;simp [execOp,hv,Instr.extract,hv']
theorem rB {k:IntKind}{op:BinOp}{x y:Operand}{xt yt:TypeId}{m n c:Int}(hx:Has R B w0 i x (NumA k m).va)(hy:Has R B w0 i y (NumA k n).va)
  (h:∀ w,(binOp op xt (.int k m) (.int k n)).run P w=.ok (.int k c) w):Wv P Q R B w0 i (.binOp op xt x y yt) (NumA k c).va :=
 bk λ _ _ _ _ _ a w av=>by
  have e1:=bj (hx a w av);have e2:=bj (hy a w av);refine ⟨.int k c,w,?_,Grow.refl w,bV _ _ _ _⟩;have hg:(eqGuard op xt x y (.int k m) (.int k n)).run P w=.ok () w:=by unfold eqGuard;split <;> rfl
  simp only [execOp,e1,e2,Sem.run_bind,hg,h,Result.andThen_ok,Sem.run_pure]
theorem yo {k:IntKind}{op:BinOp}{x y:Operand}{xt yt:TypeId}{m n:Int}{c:Bool}(hx:Has R B w0 i x (NumA k m).va)(hy:Has R B w0 i y (NumA k n).va)
  (h:∀ w,(binOp op xt (.int k m) (.int k n)).run P w=.ok (.bool c) w):Wv P Q R B w0 i (.binOp op xt x y yt) (Bo c) :=
 bk λ _ _ _ _ _ a w av=>by
  have e1:=bj (hx a w av);have e2:=bj (hy a w av);refine ⟨.bool c,w,?_,Grow.refl w,dJ _ _ _⟩;have hg:(eqGuard op xt x y (.int k m) (.int k n)).run P w=.ok () w:=by unfold eqGuard;split <;> rfl
  simp only [execOp,e1,e2,Sem.run_bind,hg,h,Result.andThen_ok,Sem.run_pure]
section
variable {k:IntKind}{x y:Operand}{xt yt:TypeId}{m n:Int}(hx:Has R B w0 i x (NumA k m).va)(hy:Has R B w0 i y (NumA k n).va)
include hx hy
theorem bC:Wv P Q R B w0 i (.binOp .eql xt x y yt) (Bo (m==n)):=yo hx hy λ w=>by rw [binOp_eql];rfl
theorem ca:Wv P Q R B w0 i (.binOp .neq xt x y yt) (Bo (m != n)):=yo hx hy λ w=>by rw [binOp_neq];rfl
theorem aN:Wv P Q R B w0 i (.binOp .lss xt x y yt) (Bo (decide (m<n))):=yo hx hy λ w=>by rw [binOp_lss];rfl
theorem l9:Wv P Q R B w0 i (.binOp .leq xt x y yt) (Bo (decide (m≤n))):=yo hx hy λ w=>by rw [binOp_leq];rfl
theorem cM:Wv P Q R B w0 i (.binOp .gtr xt x y yt) (Bo (decide (m>n))):=yo hx hy λ w=>by rw [binOp_gtr];rfl
theorem dP:Wv P Q R B w0 i (.binOp .geq xt x y yt) (Bo (decide (m≥n))):=yo hx hy λ w=>by rw [binOp_geq];rfl
theorem aL {c:Int}(h:k.wrap (m+n)=c):Wv P Q R B w0 i (.binOp .add xt x y yt) (NumA k c).va:=rB hx hy λ w=>by rw [binOp_add,← h];rfl
theorem cH {c:Int}(h:k.wrap (m-n)=c):Wv P Q R B w0 i (.binOp .sub xt x y yt) (NumA k c).va:=rB hx hy λ w=>by rw [binOp_sub,← h];rfl
theorem mF {c:Int}(h:k.wrap (m*n)=c):Wv P Q R B w0 i (.binOp .mul xt x y yt) (NumA k c).va:=rB hx hy λ w=>by rw [binOp_mul,← h];rfl
end
theorem dc {x:Operand}{T:TypeId}{b:Bool}(hx:Has R B w0 i x (Bo b)):Wv P Q R B w0 i (.unOp .not T x) (Bo (!b)) :=
 bk λ _ _ _ _ _ a w av=>⟨.bool (!b),w,by simp [execOp,dS (hx a w av),Op.unary],Grow.refl w,dJ _ _ _⟩
theorem H7 {c x y:Operand}{p:Bool}{A:VA}(hc:Has R B w0 i c (Bo p))(hx:p=true→Has R B w0 i x A)(hy:p=false→Has R B w0 i y A):Wv P Q R B w0 i (.pick c x y) A :=
 bk λ _ _ _ _ _ a w av=>by
  have e:=dS (hc a w av);cases p with
  | true=>exact ⟨_,w,by simp [execOp,e,asBool],Grow.refl w,hx rfl a w av⟩
  | false=>exact ⟨_,w,by simp [execOp,e,asBool],Grow.refl w,hy rfl a w av⟩
theorem bv {c x:Operand}{p q:Bool}(hc:Has R B w0 i c (Bo p))(hx:Has R B w0 i x (Wh (p=true) (Bo q))):Wv P Q R B w0 i (.pick c x (.const (.bool false))) (Bo (p&&q)) :=
 H7 hc (λ h=>by rw [h];exact ae hx h) (λ h=>by rw [h];exact aE)
theorem r_or {c x:Operand}{p q:Bool}(hc:Has R B w0 i c (Bo p))(hx:Has R B w0 i x (Wh (p=false) (Bo q))):Wv P Q R B w0 i (.pick c (.const (.bool true)) x) (Bo (p || q)) :=
 H7 hc (λ h=>by rw [h];exact aE) (λ h=>by rw [h];exact ae hx h)
theorem add0 (g k:Nat):(⟨g,0,none⟩:Addr).add k=⟨g,k,none⟩:=by unfold Addr.add;split <;> simp_all
theorem Af (g o k:Nat):(⟨g,o,none⟩:Addr).add k=⟨g,o+k,none⟩:=by unfold Addr.add;split <;> simp_all
def Fld (P:Program)(T:TypeId)(f k n:Nat):Prop :=
 ∃ fields fd,P.underlying T=some (.struct fields)∧fields[f]?=some fd∧fd.offset=k∧(P.info? fd.type).map (·.size)=some n∧n≠0
def Ty (P:Program)(ty:TypeId)(n:Nat)(ag:Bool):Prop :=
 (P.info? ty).map (·.size)=some n∧(P.underlying ty).map (λ d=>match d with | .struct _ | .array _ _=>true|_=>false)=some ag
def LocH (R:Rg)(i:Nat)(s:Nat)(T:TypeId)(H:Hd)(A:As):Prop:=∃ l∈R.les,l.s=s∧l.T=T∧l.H=H∧R.phase i l=some A
abbrev Loc (R:Rg)(i:Nat)(s:Nat)(T:TypeId)(A:As):Prop:=LocH R i s T ptrH A
theorem LocH.ok {s:Nat}{T:TypeId}{H:Hd}{A:As}(h:LocH R i s T H A){a:Act}{w:World}(av:R.Av B w0 i a w):LcOk B w0.may s T H A a w:=by
 obtain ⟨l,hl,rfl,rfl,rfl,hp⟩:=h;exact av.c l hl A hp
theorem eh {T:TypeId}{f k n:Nat}(hf:Fld P T f k n)(g o:Nat)(w:World):(Instr.fieldAt T (.pointer (some ⟨g,o,none⟩)) f).run P w=.ok (.pointer (some ⟨g,o+k,none⟩)) w:=by
 obtain ⟨fields,fd,h1,h2,h3,h4,h5⟩:=hf;cases hi:P.info? fd.type with
 | none=>rw [hi] at h4;simp at h4
 | some it =>
  rw [hi] at h4;have hs:it.size≠0:=by simp at h4;omega
  subst h3;simp [Instr.fieldAt,run_underlying h1,h2,Instr.sureAddr,fieldPlace,sizeOf,typeInfo,hi,hs,Af]
def Ad (P:Program)(Q:Exit→Act→World→Prop)(R:Rg)(B:Nat)(w0:Bs)(i:Nat)(op:Op)(b:Nat)(k:Ky):Prop :=
 ∀ (d:Nat) (T:TypeId) (ps:String) (af:Array Edge) (gd:Option (Nat × Bool)) (a:Act) (w:World),R.Av B w0 i a w →
  ∀ K:Act→World→Prop,K (a.put (some d) (offP (a.eval (.tmp b)) k)) w→Oper.wp P ⟨some d,op,T,ps,af,gd⟩ a w K Q
theorem ob_a {d b:Nat}{k:Ky}{op:Op}{T:TypeId}{ps:String}{af:Array Edge}(hs:R.sp[i]?=some (.adr d b k True))(ho:R.ops[i]?=some ⟨some d,op,T,ps,af,none⟩)(h:Ad P Q R B w0 i op b k):R.Ob P Q B w0 i:=by
 unfold Rg.Ob;rw [hs];exact λ a w av K hK=>bA ho rfl (h d T ps af none a w av K (hK _ λ _=>rfl))
theorem yC {d b j dj:Nat}{k:Ky}{want q:Bool}{op:Op}{T:TypeId}{ps:String}{af:Array Edge}(hs:R.sp[i]?=some (.adr d b k (q=want)))(ho:R.ops[i]?=some ⟨some d,op,T,ps,af,some (j,want)⟩)
  (hj:R.dst j=some dj) (hb:Has R B w0 i (.tmp dj) (Bo q)) (hdj:dj<R.N) (h:q=want→Ad P Q R B w0 i op b k):R.Ob P Q B w0 i:=by
 unfold Rg.Ob;rw [hs];intro a w av K hK;have hw:=rg (o:=⟨some d,op,T,ps,af,some (j,want)⟩) rfl av hj hdj hb;unfold wpOp;simp only [ho,hw];by_cases hbw:q=want
 ·rw [if_pos (by simpa using hbw)];exact .inl (h hbw d T ps af _ a w av K (hK _ λ _=>rfl))
 ·rw [if_neg (by simpa using hbw)];exact hK undef λ hc=>absurd hc hbw
theorem gJ {d b j dj:Nat}{k:Ky}{want q:Bool}{c:Prop}{op:Op}{T:TypeId}{ps:String}{af:Array Edge}(hs:R.sp[i]?=some (.adr d b k (c∧q=want)))(ho:R.ops[i]?=some ⟨some d,op,T,ps,af,some (j,want)⟩)
  (hj:R.dst j=some dj) (hb:Has R B w0 i (.tmp dj) (Wh c (Bo q))) (hdj:dj<R.N) (h:c∧q=want→Ad P Q R B w0 i op b k):R.Ob P Q B w0 i:=by
 unfold Rg.Ob;rw [hs];intro a w av K hK;have hw:=nN (o:=⟨some d,op,T,ps,af,some (j,want)⟩) rfl av hj hdj hb;unfold wpOp;simp only [ho];by_cases hbw:c∧q=want
 ·rw [if_pos (hw.2 hbw)];exact .inl (h hbw d T ps af _ a w av K (hK _ λ _=>rfl))
 ·rw [if_neg (λ hh=>hbw (hw.1 hh))];exact hK undef λ hc=>absurd hc hbw
theorem fY {b T':Nat}{T:TypeId}{f k n:Nat}{A:As}(hl:Loc R i b T' A)(hf:Fld P T f k n):Ad P Q R B w0 i (.fieldAddr T (.tmp b) f) b (.some k):=by
 intro d ty ps af gd a w av K hK;obtain ⟨g,cs,h1,_⟩:=hl.ok av;refine bf (w':=w) (v:=.pointer (some ⟨g,k,none⟩)) ?_ ?_
 ·have:=eh hf g 0 w;simp only [Nat.zero_add] at this;simp [execOp,h1,ptrH,ptr,this]
 ·rw [h1] at hK;simpa [ptrH,ptr,offP,add0] using hK
theorem dT {b t k1 T':Nat}{c:Prop}{T:TypeId}{f k n:Nat}{A:As}(j:Nat)(hj:R.sp[j]?=some (.adr t b (.some k1) c))(hji:(R.anc i).contains j=true)(hcc:c)(hl:Loc R i b T' A)(hf:Fld P T f k n):Ad P Q R B w0 i (.fieldAddr T (.tmp t) f) b (.some (k1+k)):=by
 intro d ty ps af gd a w av K hK;obtain ⟨g,cs,h1,_⟩:=hl.ok av;have h2:=av.d j t b (.some k1) c hji hj hcc;rw [h1] at h2;have h2':a.eval (.tmp t)=.pointer (some ⟨g,k1,none⟩):=by rw [h2];simp [ptrH,ptr,offP,add0]
 refine bf (w':=w) (v:=.pointer (some ⟨g,k1+k,none⟩)) ?_ ?_
 ·simp [execOp,h2',eh hf g k1 w]
 ·rw [h1] at hK;simpa [ptrH,ptr,offP,add0] using hK
theorem dv {ty:TypeId}{n:Nat}{ag:Bool}(ht:Ty P ty n ag)(w:World)(g k:Nat)(cs:List Value)(hl:cs.length=n)(h1:ag=false→n=1)(hc:∀ j v,cs[j]?=some v→w.cell? ⟨g,k+j,none⟩=some v) :
  (loadVar ty ⟨g,k,none⟩).run P w=.ok (cL ag cs) w:=by
 obtain ⟨h2,h3⟩:=ht;cases hi:P.info? ty with
 | none=>rw [hi] at h2;simp at h2
 | some it =>
  rw [hi] at h2;have hs:it.size=n:=by simpa using h2
  cases hu:P.underlying ty with
  | none=>rw [hu] at h3;simp at h3
  | some dd =>
   rw [hu] at h3;have hagg:(isAgg ty).run P w=.ok ag w:=by
    unfold isAgg;rw [Sem.run_bind,run_underlying hu w];simp only [Option.map_some,Option.some.injEq] at h3;cases dd <;> simp_all
   have hload:=run_loadCells_list (P:=P) w ⟨g,k,none⟩ cs (λ j v hv=>by rw [Af];exact hc j v hv);cases ag with
   | true =>
    rw [hl] at hload;simp [loadVar,hagg,sizeOf,typeInfo,hi,hs,hload,cL]
   | false =>
    have hn:=h1 rfl
    match cs,hl with
    | [c],_ =>
     have:=hc 0 c rfl;simp only [Nat.add_zero] at this;simp [loadVar,hagg,this,cL]
    | [],hl=>simp at hl;omega
    | _::_::_,hl=>simp at hl;omega
def Sub (A:As)(k:Nat)(A':As):Prop:=∀ B cs w,A.p B cs w→A'.p B ((cs.drop k).take A'.n) w∧k+A'.n≤cs.length
theorem Sub.all (A:As):Sub A 0 A:=λ B cs w h=>by
 have:=A.len _ _ _ h;simp only [List.drop_zero];rw [List.take_of_length_le zo];exact ⟨h,by omega⟩
def offs (l:List As)(f:Nat):Nat:=((l.take f).map (·.n)).sum
theorem Sub.part {l:List As}{A:As}(f:Nat){k:Nat}(h:l[f]?=some A)(hk:offs l f=k):Sub (cat l) k A:=λ _ _ _ hp=>by subst hk;exact wX hp h
theorem Sub.trans {A B' C:As}{k1 k2 k:Nat}(h1:Sub A k1 B')(h2:Sub B' k2 C)(hk:k1+k2=k):Sub A k C:=λ B cs w hp=>by
 subst hk;obtain ⟨p1,l1⟩:=h1 B cs w hp;obtain ⟨p2,l2⟩:=h2 B _ w p1;rw [List.length_take,List.length_drop] at l2;have e:(((cs.drop k1).take B'.n).drop k2).take C.n=(cs.drop (k1+k2)).take C.n:=by
  rw [List.drop_take,List.drop_drop,List.take_take]
  congr 1
  omega
 rw [e] at p2;exact ⟨p2,by omega⟩
theorem iR {w:World}{g k:Nat}{cs:List Value}{T:TypeId}{fr:Nat × Nat}(hg:w.heap[g]?=some (.cells cs.toArray T fr))(n:Nat):∀ j v,((cs.drop k).take n)[j]?=some v→w.cell? ⟨g,k+j,none⟩=some v:=by
 intro j v hv;rw [cell_of_row w g (k+j) cs.toArray T fr hg];rw [List.getElem?_take] at hv;split at hv
 ·rw [List.getElem?_drop] at hv;simpa using hv
 ·cases hv
theorem eL {s:Nat}{T:TypeId}{A:As}{ty:TypeId}(hl:Loc R i s T A)(ht:Ty P ty A.n A.ag):Wv P Q R B w0 i (.load ty (.tmp s)) A.va :=
 bk λ _ _ _ _ _ a w av=>by
  obtain ⟨g,cs,h1,_,h3,h4⟩:=hl.ok av;have hlen:=A.len _ _ _ h4;refine ⟨cL A.ag cs,w,?_,Grow.refl w,⟨cs,h4,rfl⟩⟩;have:=dv ht w g 0 cs hlen A.ag1 (λ j v hv=>by rw [Nat.zero_add,cell_of_row w g j cs.toArray T _ h3];simpa using hv);simp [execOp,h1,ptrH,ptr,Instr.loadAt,Instr.sureAddr,this]
theorem aB {s t k:Nat}{c:Prop}{T:TypeId}{A A':As}{ty:TypeId}(j:Nat)(hj:R.sp[j]?=some (.adr t s (.some k) c))(hji:(R.anc i).contains j=true)(hcc:c)(hl:Loc R i s T A)(hsub:Sub A k A')(ht:Ty P ty A'.n A'.ag) :
  Wv P Q R B w0 i (.load ty (.tmp t)) A'.va :=
 bk λ _ _ _ _ _ a w av=>by
  obtain ⟨g,cs,h1,_,h3,h4⟩:=hl.ok av;have h2:=av.d j t s (.some k) c hji hj hcc;rw [h1] at h2;have h2':a.eval (.tmp t)=.pointer (some ⟨g,k,none⟩):=by rw [h2];simp [ptrH,ptr,offP,add0]
  obtain ⟨p1,l1⟩:=hsub _ _ _ h4;refine ⟨cL A'.ag ((cs.drop k).take A'.n),w,?_,Grow.refl w,⟨_,p1,rfl⟩⟩;have:=dv ht w g k _ (A'.len _ _ _ p1) A'.ag1 (iR h3 A'.n);simp [execOp,h2',Instr.loadAt,Instr.sureAddr,this]
def Zero (P:Program)(T:TypeId)(A:As):Prop:=∃ it z,P.info? T=some it∧it.zero=some z∧∀ B w,A.p B z.cells.toList w
theorem No {e d:Nat}{T:TypeId}{A:As}{st:Option (Nat × As)}{ty:TypeId}{ps:String}{af:Array Edge}(hs:R.sp[i]?=some (.alc e))(he:R.les[e]?=some ⟨d,T,ptrH,some i,A,st⟩)
  (ho:R.ops[i]?=some ⟨some d,.alloc T,ty,ps,af,none⟩) (hz:Zero P T A):R.Ob P Q B w0 i:=by
 unfold Rg.Ob;simp only [hs,he];intro a w av K hK;obtain ⟨it,z,h1,h2,h3⟩:=hz;refine bA ho rfl (bf (w':=w.alloc (.cells z.cells T)) (v:=ptr w.heap.size) ?_ (hK _ z.cells.toList _ (Grow.alloc _ _) (Nat.le_refl _) (by rw [Array.toArray_toList];exact heap_alloc_new w _) (h3 _ _)));simp [execOp,Instr.alloc,zeroValue,typeInfo,h1,h2,newVar,newRow,ptr]
theorem C6 {e d:Nat}{T:TypeId}{A:As}{st:Option (Nat × As)}{x:Operand}{ty:TypeId}{ps:String}{af:Array Edge}(hs:R.sp[i]?=some (.alc e))(he:R.les[e]?=some ⟨d,T,ptrH,some i,A,st⟩)
  (ho:R.ops[i]?=some ⟨some d,.box T x,ty,ps,af,none⟩) (hx:Has R B w0 i x A.va):R.Ob P Q B w0 i:=by
 unfold Rg.Ob;simp only [hs,he];intro a w av K hK;obtain ⟨cs,hp,hv⟩:=hx a w av;refine bA ho rfl (bf (w':=w.alloc (.cells cs.toArray T)) (v:=ptr w.heap.size) ?_ (hK _ cs _ (Grow.alloc _ _) (Nat.le_refl _) (heap_alloc_new w _) (A.grow _ _ _ _ (Grow.alloc _ _) hp)));simp [execOp,hv,Instr.box,newVar,newRow,ptr,A.cells_shape hp]
theorem bW {ty:TypeId}{n:Nat}{ag:Bool}(ht:Ty P ty n ag)(w:World)(g k:Nat)(T:TypeId)(old:Array Value)(v:Value)(cs:List Value)(hv:v.cells=cs.toArray)(hn:cs.length=n)(hk:k+n≤old.size)
  (h1:∀ c∈cs,c.oneCell'=true) (hg:w.heap[g]?=some (.cells old T (0,0))) :
  (storeVar ty ⟨g,k,none⟩ v).run P w=.ok () (w.setRow g (old.toList.take k++cs++old.toList.drop (k+n)).toArray):=by
 obtain ⟨h2,_⟩:=ht;cases hi:P.info? ty with
 | none=>rw [hi] at h2;simp at h2
 | some it =>
  rw [hi] at h2;have hs:it.size=n:=by simpa using h2
  have:=run_storeCells_at (P:=P) g k T cs 0 old w hg zo h1;simp only [Nat.add_zero,hn] at this;simp [storeVar,sizeOf,typeInfo,hi,hs,hv,hn,this]
theorem lI {e s:Nat}{T:TypeId}{cr:Option Nat}{A0 A1:As}{x:Operand}{ty ty':TypeId}{ps:String}{af:Array Edge}(hs:R.sp[i]?=some (.sto e))(he:R.les[e]?=some ⟨s,T,ptrH,cr,A0,some (i,A1)⟩)
  (ho:R.ops[i]?=some ⟨none,.store ty (.tmp s) x,ty',ps,af,none⟩) (hx:Has R B w0 i x A1.va) (ht:Ty P ty A1.n A1.ag) (hn:A0.n=A1.n):R.Ob P Q B w0 i:=by
 unfold Rg.Ob;simp only [hs,he];intro a w av g cs h1 h3 h4 K hK;obtain ⟨cs',hp,hv⟩:=hx a w av;have l0:=A0.len _ _ _ h4;have l1:=A1.len _ _ _ hp;refine bA ho rfl (wp_skip' (w':=w.setRow g cs'.toArray) ?_ (hK cs' hp));have:=bW ht w g 0 T cs.toArray _ cs' (A1.cells_shape hp) l1 (by simp;omega) (A1.one _ _ _ hp) h3;rw [List.drop_of_length_le (by simp;omega)] at this;simp only [List.take_zero,List.nil_append,List.append_nil] at this;simp [execOp,h1,ptrH,ptr,hv,Instr.storeAt,Instr.sureAddr,this]
def dt (cs:List Value)(k:Nat)(c:List Value):List Value:=cs.take k++c++cs.drop (k+c.length)
def Put (A:As)(k:Nat)(A' A1:As):Prop:=∀ B cs c w,A.p B cs w→A'.p B c w→k+A'.n≤cs.length∧A1.p B (dt cs k c) w
theorem df {e s t k:Nat}{T:TypeId}{cr:Option Nat}{A0 A' A1:As}{x:Operand}{ty ty':TypeId}{ps:String}{af:Array Edge}(j:Nat)(hs:R.sp[i]?=some (.sto e))(he:R.les[e]?=some ⟨s,T,ptrH,cr,A0,some (i,A1)⟩)
  (ho:R.ops[i]?=some ⟨none,.store ty (.tmp t) x,ty',ps,af,none⟩) (hj:R.sp[j]?=some (.adr t s (.some k) True)) (hji:(R.anc i).contains j=true) (hx:Has R B w0 i x A'.va) (ht:Ty P ty A'.n A'.ag) (hput:Put A0 k A' A1):R.Ob P Q B w0 i:=by
 unfold Rg.Ob;simp only [hs,he];intro a w av g cs h1 h3 h4 K hK;obtain ⟨cs',hp,hv⟩:=hx a w av;have h2:=av.d j t s (.some k) True hji hj trivial;rw [h1] at h2;have h2':a.eval (.tmp t)=.pointer (some ⟨g,k,none⟩):=by rw [h2];simp [ptrH,ptr,offP,add0]
 obtain ⟨hlen,hp1⟩:=hput B cs cs' w h4 hp;have l1:=A'.len _ _ _ hp;refine bA ho rfl (wp_skip' (w':=w.setRow g (dt cs k cs').toArray) ?_ (hK _ hp1));have:=bW ht w g k T cs.toArray _ cs' (A'.cells_shape hp) l1 (by simpa using hlen) (A'.one _ _ _ hp) h3;simp only at this;simp [execOp,h2',hv,Instr.storeAt,Instr.sureAddr,this,dt,l1]
theorem DN {l:List As}{f:Nat}{A A':As}(hf:l[f]?=some A)(hn:A'.n=A.n):Put (cat l) (offs l f) A' (cat (l.set f A')):=by
 intro B cs c w hcs hc;obtain ⟨ps,rfl,h⟩:=hcs;have lc:=A'.len _ _ _ hc;unfold offs
 induction h generalizing f with
 | nil=>simp at hf
 | cons hh ht ih =>
  rename_i A0 c0 as bs;have hl:=As.len _ _ _ _ hh;cases f with
  | zero =>
   simp at hf;subst hf;refine ⟨by simp;omega,c::bs,?_,.cons hc ht⟩;simp only [dt,List.take_zero,List.map_nil,List.sum_nil,List.nil_append,Nat.zero_add,List.flatten_cons];rw [List.drop_append,List.drop_of_length_le zo,List.nil_append,lc,hn,hl,Nat.sub_self,List.drop_zero]
  | succ f =>
   simp at hf;obtain ⟨h1,ps',h2,h3⟩:=ih hf;refine ⟨by simp at h1 ⊢;omega,c0::ps',?_,by simpa using .cons hh h3⟩;simp only [dt,List.take_succ_cons,List.map_cons,List.sum_cons,List.flatten_cons] at h2 ⊢;rw [← h2,List.take_append,List.take_of_length_le zo,List.drop_append,List.drop_of_length_le zo];have e1:A0.n+((as.take f).map (·.n)).sum-c0.length=((as.take f).map (·.n)).sum:=by omega
   have e2:A0.n+((as.take f).map (·.n)).sum+c.length-c0.length=((as.take f).map (·.n)).sum+c.length:=by omega
   rw [e1,e2];simp [List.append_assoc]
theorem Put.part {l:List As}{A A':As}(f:Nat){k:Nat}(h:l[f]?=some A)(hn:A'.n=A.n)(hk:offs l f=k):Put (cat l) k A' (cat (l.set f A')):=by subst hk;exact DN h hn
def lE:List As→List (Nat × As)→List As
 | l,[]=>l
 | l,x::xs=>lE (l.set x.1 x.2) xs
def dW (Z:List As):List (Nat × Nat):=(List.range Z.length).map λ f=>(offs Z f,(Z[f]?.map (·.n)).getD 0)
def Str (P:Program)(T:TypeId)(Z:List As):Prop :=
 ∃ it z fields,P.info? T=some it∧it.zero=some z∧P.underlying T=some (.struct fields)∧fields.toList.mapM (λ f=>(P.info? f.type).map λ i=>(f.offset,i.size))=some (dW Z)∧∀ B w,(cat Z).p B z.cells.toList w
theorem Str.of {T:TypeId}{Z:List As}{z:Value}{fields:Array Field}(h1:(P.info? T).bind (·.zero)=some z)(h2:P.underlying T=some (.struct fields))
  (h3:fields.toList.mapM (λ f=>(P.info? f.type).map λ i=>(f.offset,i.size))=some (dW Z)) (h4:∀ B w,(cat Z).p B z.cells.toList w):Str P T Z:=by
 obtain ⟨it,e1,e2⟩:=Option.bind_eq_some_iff.1 h1;exact ⟨it,z,fields,e1,e2,h2,h3,h4⟩
theorem Zero.of {T:TypeId}{A:As}{z:Value}(h1:(P.info? T).bind (·.zero)=some z)(h4:∀ B w,A.p B z.cells.toList w):Zero P T A:=by
 obtain ⟨it,e1,e2⟩:=Option.bind_eq_some_iff.1 h1;exact ⟨it,z,e1,e2,h4⟩
theorem Str.zero {T:TypeId}{Z:List As}(h:Str P T Z):Zero P T (cat Z):=by
 obtain ⟨it,z,_,h1,h2,_,_,h3⟩:=h;exact ⟨it,z,h1,h2,h3⟩
theorem s0 (cells:Array Value)(off:Nat)(c:Array Value)(h:off+c.size≤cells.size) :
  (c.zipIdx.foldl (λ cs (x:Value × Nat)=>cs.setIfInBounds (off+x.2) x.1) cells).toList=dt cells.toList off c.toList:=by
 have e:c.zipIdx.foldl (λ cs (x:Value × Nat)=>cs.setIfInBounds (off+x.2) x.1) cells=(c.toList.zipIdx 0).foldl (λ cs (x:Value × Nat)=>cs.setIfInBounds (off+x.2) x.1) cells:=by
  rw [← Array.foldl_toList]
  congr 1
  simp
 obtain ⟨h1,h2⟩:=Great.foldl_set off c.toList 0 cells;rw [e];apply List.ext_getElem?;intro k;have:=h2 k;simp only [Nat.add_zero,Array.length_toList] at this;rw [Array.getElem?_toList,this];unfold dt;simp only [Array.length_toList];by_cases hk:k<off
 ·rw [if_neg zo,List.append_assoc,List.getElem?_append_left (by simp;omega),List.getElem?_take_of_lt hk];simp
 ·by_cases hk2:k<off+c.size
  ·rw [if_pos zo,List.append_assoc,List.getElem?_append_right (by simp;omega),List.getElem?_append_left (by simp;omega)];simp only [List.length_take,Array.length_toList]
   congr 1
   omega
  ·rw [if_neg zo,List.getElem?_append_right (by simp;omega),List.getElem?_drop];simp only [List.length_append,List.length_take,Array.length_toList];rw [show off+c.size+(k-(min off cells.size+c.size))=k by omega];simp
theorem wA {Z:List As}{places:List (Nat × Nat)}(hpl:places=dW Z){B:Nat}{w:World}:∀ (ps:List (Nat × Value)) (qs:List (Nat × As)) (Z':List As) (cells:Array Value),
  Z'.map (·.n)=Z.map (·.n)→(cat Z').p B cells.toList w→All2 (λ (q:Nat × As) (p:Nat × Value)=>p.1=q.1∧q.2.va.p B p.2 w∧(Z[q.1]?).map (·.n)=some q.2.n) qs ps →
  ∃ cells',Instr.fill (places.toArray[·]?) cells ps=some cells'∧(cat (lE Z' qs)).p B cells'.toList w
 | [],qs,Z',cells,_,hc,h=>by cases h;exact ⟨cells,rfl,hc⟩
 | (f,v)::ps,[],_,_,_,_,h=>by cases h
 | (f,v)::ps,(g,A')::qs,Z',cells,hn,hc,h=>by
  cases h with
  | cons h ht =>
   obtain ⟨h1,h2,h3⟩:=h;simp only at h1 h2 h3;subst h1;obtain ⟨c,hp,hv⟩:=h2;have lc:=A'.len _ _ _ hp;have hcells:=A'.cells_shape hp;have hfz:f<Z.length:=by
    rcases Nat.lt_or_ge f Z.length with hlt|hge
    ·exact hlt
    ·rw [List.getElem?_eq_none hge] at h3;cases h3
   have hlen:Z'.length=Z.length:=by simpa using congrArg List.length hn
   have hA:Z'[f]?=some (Z'[f]'zo):=List.getElem?_eq_getElem _;have hAn:A'.n=(Z'[f]'zo).n:=by
    have e1:(Z'.map (·.n))[f]?=(Z.map (·.n))[f]?:=by rw [hn]
    rw [List.getElem?_map,List.getElem?_map,h3,hA] at e1;simpa using e1.symm
   have hoffs:offs Z' f=offs Z f:=by unfold offs;rw [List.map_take,List.map_take,hn]
   have hplace:places.toArray[f]?=some (offs Z f,A'.n):=by
    subst hpl;simp [dW,hfz];rw [List.getElem?_eq_getElem hfz] at h3;simpa using h3
   obtain ⟨hl,hp1⟩:=DN hA hAn B cells.toList c w hc hp;rw [hoffs] at hl hp1;have hvc:v.cells=c.toArray:=by rw [hv];exact hcells
   have hsz:v.cells.size=A'.n:=by rw [hvc];simpa using lc
   have ih:=wA hpl ps qs (Z'.set f A') ((c.toArray.zipIdx.foldl (λ cs (x:Value × Nat)=>cs.setIfInBounds (offs Z f+x.2) x.1) cells)) (by
     rw [List.map_set,hn];apply List.ext_getElem?;intro k;rw [List.getElem?_set];split
     ·rename_i hk;subst hk;rw [if_pos (by simpa using hfz),List.getElem?_map,h3]
     ·rfl) (by
     rw [s0 _ _ _ (by simp at hl ⊢;omega)];exact hp1) ht
   obtain ⟨cells',e1,e2⟩:=ih;refine ⟨cells',?_,e2⟩;unfold Instr.fill;rw [hplace];simp only;rw [if_neg]
   ·rw [hvc];exact e1
   ·simp only [hsz,ne_eq,not_true_eq_false,decide_false,Bool.false_or,decide_eq_true_eq];simp at hl;omega
theorem aT {T:TypeId}{Z:List As}{xs:List (Nat × Operand)}{qs:List (Nat × As)}(hT:Str P T Z)(hx:All2 (λ (q:Nat × As) (x:Nat × Operand)=>x.1=q.1∧Has R B w0 i x.2 q.2.va∧(Z[q.1]?).map (·.n)=some q.2.n) qs xs) :
  Wv P Q R B w0 i (.build T xs.toArray) (cat (lE Z qs)).va :=
 bk λ d T' ps af gd a w av=>by
  obtain ⟨it,z,fields,h1,h2,h3,h4,h5⟩:=hT;have hps:All2 (λ (q:Nat × As) (p:Nat × Value)=>p.1=q.1∧q.2.va.p B p.2 w∧(Z[q.1]?).map (·.n)=some q.2.n) qs (xs.map λ x=>(x.1,a.eval x.2)):=by
   induction hx with
   | nil=>exact .nil
   | cons h _ ih=>exact .cons ⟨h.1,h.2.1 a w av,h.2.2⟩ ih
  obtain ⟨cells',e1,e2⟩:=wA (places:=dW Z) rfl (xs.map λ x=>(x.1,a.eval x.2)) qs Z z.cells rfl (h5 B w) hps;refine ⟨.agg cells',w,?_,Grow.refl w,cells'.toList,e2,by simp [cL,cat]⟩;have hb:P.built T (xs.map λ x=>(x.1,a.eval x.2))=some cells':=by
   unfold Program.built;simp only [h1,h3,h2,h4];exact e1
  have:=run_build (P:=P) w T ((xs.map λ x=>(x.1,a.eval x.2)).toArray) cells' (by simpa using hb);simp [execOp,this]
def Safe (B:Nat)(E:TypeId)(b:Nat)(w:World):Prop:=b<B∨∃ c fz,w.heap[b]?=some (.cells c E fz)
theorem nj {D:List TypeId}{l:List As}{T:TypeId}(hD:∀ A∈l,∀ T∈A.deps,T∈D)(h:T ∉ D):T ∉ (cat l).deps:=λ hm=>by
 obtain ⟨A,hA,hT⟩:=List.mem_flatMap.1 hm;exact h (hD A hA T hT)
def SlA (E:TypeId)(D:List TypeId)(l:List As):As where
 n:=1
 ag:=false
 p B cs w:=(∀ A∈l,∀ T∈A.deps,T∈D)∧∃ A c ds,cs=[.slice A l.length c]∧l.length≤c∧c≤maxLen∧(cat l).p B ds w ∧
  (0<l.length→∃ b o,A=some ⟨b,o,none⟩∧b<w.heap.size∧Safe B E b w∧∀ j v,ds[j]?=some v→w.cell? ⟨b,o+j,none⟩=some v)
 deps:=E::D
 len:=by rintro B cs w ⟨_,A,c,ds,rfl,_⟩;rfl
 one:=by rintro B cs w ⟨_,A,c,ds,rfl,_⟩;simp [Value.oneCell']
 ag1:=λ _=>rfl
 cg:=by
  rintro B cs w w' hg ⟨hD,A,c,ds,rfl,h1,h2,h3,h4⟩;refine ⟨hD,A,c,ds,rfl,h1,h2,(cat l).cg _ _ _ _ hg h3,λ hn=>?_⟩;obtain ⟨b,o,h5,h6,h7,h8⟩:=h4 hn;refine ⟨b,o,h5,Nat.lt_of_lt_of_le h6 hg.le,?_,λ j v hv=>?_⟩
  ·rcases h7 with h7|⟨c',fz,h7⟩
   ·exact .inl h7
   ·exact .inr ⟨c',fz,hg.heap h7⟩
  ·exact hg.cell (h8 j v hv)
 wr:=by
  rintro B cs w w' g c0 T fz hg hT hB hW ⟨hD,A,c,ds,rfl,h1,h2,h3,h4⟩;simp only [List.mem_cons,not_or] at hT;refine ⟨hD,A,c,ds,rfl,h1,h2,(cat l).wr _ _ _ _ _ _ _ _ hg (nj hD hT.2) hB hW h3,λ hn=>?_⟩;obtain ⟨b,o,h5,h6,h7,h8⟩:=h4 hn;have hbg:b≠g:=by
   rintro rfl;rcases h7 with h7|⟨c',fz',h7⟩
   ·omega
   ·rw [hg] at h7;injection h7 with h7;injection h7 with _ h7;exact hT.1 h7
  refine ⟨b,o,h5,by rw [hW.size];exact h6,?_,λ j v hv=>?_⟩
  ·rcases h7 with h7|⟨c',fz',h7⟩
   ·exact .inl h7
   ·exact .inr ⟨c',fz',(hW.block b hbg).trans h7⟩
  ·rw [← h8 j v hv];exact World.cell?_of_block (hW.block b hbg)
def As.and (A:As)(c:Prop):As where
 n:=A.n
 ag:=A.ag
 p B cs w:=c∧A.p B cs w
 deps:=A.deps
 len:=λ B cs w h=>A.len B cs w h.2
 one:=λ B cs w h=>A.one B cs w h.2
 ag1:=A.ag1
 cg:=λ B cs w w' hg h=>⟨h.1,A.cg B cs w w' hg h.2⟩
 wr:=λ B cs w w' g c T fz h1 h2 h3 h4 h=>⟨h.1,A.wr B cs w w' g c T fz h1 h2 h3 h4 h.2⟩
theorem bg {x:Operand}{S E E':TypeId}{D:List TypeId}{l:List As}(hS:P.underlying S=some (.slice E'))(hx:Has R B w0 i x (SlA E D l).va):Wv P Q R B w0 i (.call ⟨.builtin .len,#[x],#[S]⟩) (In l.length) :=
 bk λ d T ps af gd a w av=>by
  obtain ⟨cs,⟨_,A,c,ds,rfl,_⟩,hv⟩:=hx a w av;refine ⟨.int .i64 l.length,w,?_,Grow.refl w,bV _ _ _ _⟩;have hv':a.eval x=.slice A l.length c:=hv;simp [execOp,resolve,invoke,builtin,hv',Builtin.len_,run_underlying hS,goInt]
def ElP (E:TypeId)(A:As):VA where
 p B v w:=∃ b o cs,v=.pointer (some ⟨b,o,none⟩)∧b<w.heap.size∧Safe B E b w∧A.p B cs w∧∀ j u,cs[j]?=some u→w.cell? ⟨b,o+j,none⟩=some u
 deps:=E::A.deps
 cg:=by
  rintro B v w w' hg ⟨b,o,cs,rfl,h1,h2,h3,h4⟩;refine ⟨b,o,cs,rfl,Nat.lt_of_lt_of_le h1 hg.le,?_,A.cg _ _ _ _ hg h3,λ j u hu=>?_⟩
  ·rcases h2 with h7|⟨c',fz,h7⟩
   ·exact .inl h7
   ·exact .inr ⟨c',fz,hg.heap h7⟩
  ·exact hg.cell (h4 j u hu)
 wr:=by
  rintro B v w w' g c0 T fz hg hT hB hW ⟨b,o,cs,rfl,h1,h2,h3,h4⟩;simp only [List.mem_cons,not_or] at hT;have hbg:b≠g:=by
   rintro rfl;rcases h2 with h7|⟨c',fz',h7⟩
   ·omega
   ·rw [hg] at h7;injection h7 with h7;injection h7 with _ h7;exact hT.1 h7
  refine ⟨b,o,cs,rfl,by rw [hW.size];exact h1,?_,A.wr _ _ _ _ _ _ _ _ hg hT.2 hB hW h3,λ j u hu=>?_⟩
  ·rcases h2 with h7|⟨c',fz',h7⟩
   ·exact .inl h7
   ·exact .inr ⟨c',fz',(hW.block b hbg).trans h7⟩
  ·rw [← h4 j u hu];exact World.cell?_of_block (hW.block b hbg)
def Sl (P:Program)(S E:TypeId)(m:Nat):Prop:=P.underlying S=some (.slice E)∧(P.info? E).map (·.size)=some m
theorem uD {l:List As}{m:Nat}(h:∀ A∈l,A.n=m){k:Nat}(hk:k≤l.length):offs l k=k*m:=by
 unfold offs
 induction k generalizing l with
 | zero=>simp
 | succ k ih =>
  cases l with
  | nil=>simp at hk
  | cons A l =>
   simp only [List.take_succ_cons,List.map_cons,List.sum_cons];rw [ih (λ A hA=>h A (by simp [hA])) (by simpa using hk),h A (by simp),Nat.succ_mul,Nat.add_comm]
theorem bB {x y:Operand}{S E:TypeId}{D:List TypeId}{l:List As}{m k:Nat}{kd:IntKind}{A:As}(hS:Sl P S E m)(hm:∀ A∈l,A.n=m)(hx:Has R B w0 i x (SlA E D l).va)(hy:Has R B w0 i y (NumA kd k).va)(hk:l[k]?=some A) :
  Wv P Q R B w0 i (.indexAddr S x y) (ElP E A) :=
 bk λ d T ps af gd a w av=>by
  obtain ⟨cs,⟨_,Ad,c,ds,rfl,h1,h2,h3,h4⟩,hv⟩:=hx a w av;have hlt:k<l.length:=(List.getElem?_eq_some_iff.1 hk).1;obtain ⟨b,o,rfl,h6,h7,h8⟩:=h4 zo;have hv':a.eval x=.slice (some ⟨b,o,none⟩) l.length c:=hv;obtain ⟨p1,l1⟩:=wX h3 hk;have ho:=uD hm (k:=k) zo;unfold offs at ho;rw [ho] at p1 l1;refine ⟨.pointer (some ⟨b,o+k*m,none⟩),w,?_,Grow.refl w,b,o+k*m,_,rfl,h6,h7,p1,λ j u hu=>?_⟩
  ·obtain ⟨hs1,hs2⟩:=hS;cases hi:P.info? E with
   | none=>rw [hi] at hs2;simp at hs2
   | some it =>
    rw [hi] at hs2;have hsz:it.size=m:=by simpa using hs2
    have e:=bj (hy a w av);have hk2:¬ l.length≤k:=by omega
    simp [execOp,hv',e,Instr.indexAt,asIntOf,run_underlying hs1,hk2,sizeOf,typeInfo,hi,hsz,Af]
  ·rw [List.getElem?_take] at hu;split at hu
   ·rw [List.getElem?_drop] at hu;rw [← h8 _ u hu]
    congr 2
    omega
   ·cases hu
theorem ao {x:Operand}{E ty:TypeId}{A:As}(hx:Has R B w0 i x (ElP E A))(ht:Ty P ty A.n A.ag):Wv P Q R B w0 i (.load ty x) A.va :=
 bk λ d T ps af gd a w av=>by
  obtain ⟨b,o,cs,hv,h1,h2,h3,h4⟩:=hx a w av;refine ⟨cL A.ag cs,w,?_,Grow.refl w,cs,h3,rfl⟩;have:=dv ht w b o cs (A.len _ _ _ h3) A.ag1 h4;simp [execOp,hv,Instr.loadAt,Instr.sureAddr,this]
theorem bK {x:Operand}{E T:TypeId}{f k n:Nat}{A A':As}(hx:Has R B w0 i x (ElP E A))(hf:Fld P T f k n)(hs:Sub A k A'):Wv P Q R B w0 i (.fieldAddr T x f) (ElP E A') :=
 bk λ d T' ps af gd a w av=>by
  obtain ⟨b,o,cs,hv,h1,h2,h3,h4⟩:=hx a w av;obtain ⟨p1,l1⟩:=hs _ _ _ h3;refine ⟨.pointer (some ⟨b,o+k,none⟩),w,by simp [execOp,hv,eh hf b o w],Grow.refl w,b,o+k,_,rfl,h1,?_,p1,λ j u hu=>?_⟩
  ·exact h2
  ·rw [List.getElem?_take] at hu;split at hu
   ·rw [List.getElem?_drop] at hu;rw [← h4 _ u hu,Nat.add_assoc]
   ·cases hu
theorem oa {w:World}:∀ {l:List As}{vs:List Value},All2 (λ (A:As) v=>A.va.p B v w) l vs→(cat l).p B (vs.flatMap λ v=>v.cells.toList) w:=by
 intro l vs h;refine ⟨vs.map λ v=>v.cells.toList,by rw [List.flatMap_def],?_⟩
 induction h with
 | nil=>exact .nil
 | cons h _ ih =>
  obtain ⟨cs,hp,rfl⟩:=h;refine .cons ?_ ih;have e:=As.cells_shape _ hp;show As.p _ B (cL _ cs).cells.toList w;rw [e];exact hp
theorem bR {S E:TypeId}{D:List TypeId}{l:List As}{m:Nat}{xs:List Operand}(hD:∀ A∈l,∀ T∈A.deps,T∈D)(hS:Sl P S E m)(hz:((P.info? E).bind (·.zero)).isSome=true)(hm:∀ A∈l,A.n=m)(hm0:0<m)(hl0:0<l.length)(hsmall:l.length*m≤16777216)
  (hx:All2 (λ (A:As) x=>Has R B w0 i x A.va) l xs) {ps':Array (Nat × Operand)} (hps:ps'.toList=(xs.zipIdx 0).map λ x=>(x.2,x.1)) {n:Nat} (hn:n=l.length):Wv P Q R B w0 i (.buildSlice S n ps') (SlA E D l).va :=
 bk λ d T ps af gd a w av=>by
  subst hn;obtain ⟨hs1,hs2⟩:=hS;cases hi:P.info? E with
  | none=>rw [hi] at hs2;simp at hs2
  | some it =>
   rw [hi] at hs2 hz;have hsz:it.size=m:=by simpa using hs2
   obtain ⟨z,hzz⟩:=Option.isSome_iff_exists.1 hz;simp only [Option.bind_some] at hzz;have hvs:All2 (λ (A:As) v=>A.va.p B v w) l (xs.map a.eval):=by
    clear hps hm hl0 hsmall hD
    induction hx with
    | nil=>exact .nil
    | cons h _ ih=>exact .cons (h a w av) ih
   have hlen:=hvs.length;have hvn:∀ v∈xs.map a.eval,v.cells.size=m:=by
    intro v hv;obtain ⟨k,hk⟩:=List.getElem?_of_mem hv;have hkl:k<l.length:=by rw [hlen];exact (List.getElem?_eq_some_iff.1 hk).1
    obtain ⟨v',hv',cs,hp,he⟩:=hvs.get (List.getElem?_eq_getElem hkl);rw [hk] at hv';injection hv' with hv';subst hv';rw [he,As.cells_shape _ hp];have:=As.len _ _ _ _ hp;simp [this];exact hm _ (by simp)
   have hf:=Great.fill_whole hm0 (xs.map a.eval) ((Array.range (l.length*m)).map (z.cells[· % z.cells.size]!)) hvn (by simp [hlen]);have hrun:=run_buildSlice (P:=P) w S E l.length (ps'.map λ x=>(x.1,a.eval x.2)) ((xs.map a.eval).flatMap λ v=>v.cells.toList).toArray it z hs1 hi hzz (by rw [hsz];omega) (by rw [hsz];exact Nat.ne_of_gt (Nat.mul_pos hl0 hm0)) (by
    rw [hsz,← hf]
    congr 1
    rw [Array.toList_map,hps];simp [List.zipIdx_map,List.map_map,Function.comp_def])
   refine ⟨.slice (some ⟨w.heap.size,0,none⟩) l.length l.length,w.alloc (.cells ((xs.map a.eval).flatMap λ v=>v.cells.toList).toArray E),?_,Grow.alloc _ _,_,⟨hD,_,_,_,rfl,Nat.le_refl _,?_,(cat l).grow _ _ _ _ (Grow.alloc _ _) (oa hvs),λ _=>?_⟩,rfl⟩
   ·simp [execOp,hrun]
   ·have:l.length≤l.length*m:=Nat.le_mul_of_pos_right _ hm0;unfold maxLen;omega
   ·refine ⟨w.heap.size,0,rfl,by simp,.inr ⟨_,_,heap_alloc_new w _⟩,λ j v hv=>?_⟩;rw [Nat.zero_add,cell_of_row _ _ _ _ _ _ (heap_alloc_new w _)];simpa using hv
variable {N:Nat}{Γ:List (Nat × VA)}{Λ:List Lc}{a:Act}{w:World}
theorem am {fn:Func}{t:Nat}{A:VA}(hr:fn.results = #[.tmp t])(h:St B w0 N Γ Λ a w)(hm:(t,A)∈Γ):ce P fn (RQ B w0 A) .ret a w :=
 gz h λ w h=>⟨_,results_tmp hr a.tmps P w,_,rfl,h.vals _ hm,h.base⟩
theorem uk {s:Nat}{T ty:TypeId}{A:As}(h:St B w0 N Γ Λ a w)(hm:(⟨s,T,ptrH,A⟩:Lc)∈Λ)(ht:Ty P ty A.n A.ag):∃ v,A.va.p B v w∧((do loadVar ty (← asAddr (a.tmps.getD s undef)):Sem Value)).run P w=.ok v w:=by
 obtain ⟨g,cs,h1,_,h3,h4⟩:=h.locs _ hm;refine ⟨cL A.ag cs,⟨cs,h4,rfl⟩,?_⟩;have:=dv ht w g 0 cs (A.len _ _ _ h4) A.ag1 (λ j v hv=>by rw [Nat.zero_add,cell_of_row w g j cs.toArray T _ h3];simpa using hv);have e:a.tmps.getD s undef=ptr g:=h1;rw [e];simp [ptr,asAddr,this]
theorem au {fn:Func}{s:Nat}{T ty:TypeId}{A:As}(hr:fn.results = #[.cell s ty])(h:St B w0 N Γ Λ a w)(hm:(⟨s,T,ptrH,A⟩:Lc)∈Λ)(ht:Ty P ty A.n A.ag):ce P fn (RQ B w0 A.va) .ret a w:=by
 refine gz h λ w h=>?_;obtain ⟨v,hv,hrun⟩:=uk h hm ht;refine ⟨v,?_,v,rfl,hv,h.base⟩;simp only [Sem.run_bind] at hrun;simp only [Array.getD_eq_getD_getElem?] at hrun;simp [results,hr,hrun]
inductive Res (P:Program) (Γ:List (Nat × VA)) (Λ:List Lc):List ResultVar→List VA→Prop
 | nil:Res P Γ Λ [] []
 | tmp {t:Nat}{A:VA}{rs:List ResultVar}{As:List VA}:(t,A)∈Γ→Res P Γ Λ rs As→Res P Γ Λ (.tmp t::rs) (A::As)
 | cell {s:Nat}{T ty:TypeId}{A:As}{rs:List ResultVar}{As:List VA}:(⟨s,T,ptrH,A⟩:Lc)∈Λ→Ty P ty A.n A.ag→Res P Γ Λ rs As→Res P Γ Λ (.cell s ty::rs) (A.va::As)
theorem Res.run (h:St B w0 N Γ Λ a w){rs:List ResultVar}{As:List VA}(hr:Res P Γ Λ rs As):∃ vs,All2 (λ (A:VA) v=>A.p B v w) As vs ∧
  (rs.mapM (λ (x:ResultVar)=>(match x with | .tmp t=>(pure (a.tmps.getD t undef):Sem Value) | .cell x t=>do loadVar t (← asAddr (a.tmps.getD x undef)):Sem Value))).run P w=.ok vs w:=by
 induction hr with
 | nil=>exact ⟨[],.nil,rfl⟩
 | tmp hm _ ih =>
  obtain ⟨vs,h1,h2⟩:=ih;exact ⟨_::vs,.cons (h.vals _ hm) h1,by rw [List.mapM_cons];simp only [Sem.run_bind,Sem.run_pure,Result.andThen_ok,h2];rfl⟩
 | cell hm ht _ ih =>
  obtain ⟨vs,h1,h2⟩:=ih;obtain ⟨v,hv,hrun⟩:=uk h hm ht;refine ⟨v::vs,.cons hv h1,?_⟩;rw [List.mapM_cons];simp only [Sem.run_bind] at hrun ⊢;rw [hrun];simp only [Result.andThen_ok,h2,Sem.run_pure]
theorem Res.length {rs:List ResultVar}{As:List VA}(hr:Res P Γ Λ rs As):rs.length=As.length:=by
 induction hr with
 | nil=>rfl
 | tmp _ _ ih=>simp [ih]
 | cell _ _ _ ih=>simp [ih]
theorem aP {fn:Func}{rs:List ResultVar}{As:List VA}(hr:fn.results=rs.toArray)(h:St B w0 N Γ Λ a w)(hres:Res P Γ Λ rs As)(h2:rs.length≠1):ce P fn (RQ B w0 (Tu As)) .ret a w:=by
 refine gz h λ w h=>?_;obtain ⟨vs,h1,h3⟩:=hres.run h;have hl:=h1.length;have hl2:=hres.length;refine ⟨.tuple vs.toArray,?_,_,rfl,⟨vs,rfl,h1⟩,h.base⟩;have hne:¬ vs.toArray.size=1:=by simp;omega
 unfold results;rw [hr,List.mapM_toArray];simp only [Sem.run_bind,Sem.run_map]
 erw [h3]
 simp only [Result.andThen_ok,Sem.run_pure,hne,dite_false]
theorem aa {next:Act→World→Prop}{Q:Exit→Act→World→Prop}(h:next a w):Exit.then next Q .normal a w:=h
theorem zt {x y:Code}{Q Q2:Exit→Act→World→Prop}(h:x.wp P (Exit.then (y.wp P Q) Q) a w):Exit.then ((Code.seq x y).wp P Q) Q2 .normal a w:=wp_seq h
theorem ai {next:Act→World→Prop}{Q:Exit→Act→World→Prop}{id:Nat}(h:Q (.exit id) a w):Exit.then next Q (.exit id) a w:=h
theorem aj {next:Act→World→Prop}{Q:Exit→Act→World→Prop}(h:Q .ret a w):Exit.then next Q .ret a w:=h
theorem ak {id:Nat}{Q:Exit→Act→World→Prop}(h:Q .normal a w):Exit.inBlock id Q .normal a w:=h
theorem aD {id:Nat}{Q:Exit→Act→World→Prop}(h:Q .ret a w):Exit.inBlock id Q .ret a w:=h
theorem az {id:Nat}{Q:Exit→Act→World→Prop}(h:Q .normal a w):Exit.inBlock id Q (.exit id) a w:=by
 simpa [Exit.inBlock] using h
theorem blk_exit' {id id':Nat}{Q:Exit→Act→World→Prop}(hne:id'≠id)(h:Q (.exit id') a w):Exit.inBlock id Q (.exit id') a w:=by
 simpa [Exit.inBlock,hne] using h
theorem cd {Q:Exit→Act→World→Prop}{t:Nat}{b:Bool}{x y:Code}(h:St B w0 N Γ Λ a w)(hm:(t,Bo b)∈Γ)(ht:b=true→x.wp P Q a w)(hf:b=false→y.wp P Q a w):(Code.cond (.tmp t) x y).wp P Q a w :=
 wp_cond_split (dS (h.vals _ hm)) ht hf
def bD (Λ:List Lc)(sts:List (Option (Nat × As)))(news:List Le):List Le:=(Λ.zip sts).map (λ x=>⟨x.1.s,x.1.T,x.1.H,none,x.1.A,x.2⟩)++news
inductive Src where
 | g (k:Nat)
 | o (i:Nat)
def cC (R:Rg):Src→Option (Nat × VA)
 | .g k=>R.Γ[k]?
 | .o i=>match R.sp[i]? with|some y=>y.vl|none=>none
def okS (R:Rg):Src→Bool
 | .g k=>match R.Γ[k]? with|some x=>Rg.noClash R x.2.deps&&Rg.outG R x.1|none=>false
 | .o i=>match R.sp[i]? with|some y=>(match y.vl with|some (_,A)=>Rg.noClash R A.deps|none=>false) | none=>false
def Obs (P:Program)(Q:Exit→Act→World→Prop)(R:Rg)(B:Nat)(w0:Bs):Nat→Nat→Prop
 | _,0=>True
 | k,m+1=>R.Ob P Q B w0 k∧Obs P Q R B w0 (k+1) m
theorem Obs.all {k m:Nat}(h:Obs P Q R B w0 k m):∀ j,k≤j→j<k+m→R.Ob P Q B w0 j:=by
 induction m generalizing k with
 | zero=>intro j h1 h2;omega
 | succ m ih =>
  intro j h1 h2;by_cases hj:j=k
  ·subst hj;exact h.1
  ·exact ih h.2 j zo zo
theorem iz {Λ:List Lc}{sts:List (Option (Nat × As))}{news:List Le}(hn:news.all (λ e=>e.cr.isSome)=true):∀ e∈bD Λ sts news,e.cr=none→(⟨e.s,e.T,e.H,e.A0⟩:Lc)∈Λ:=by
 intro e he hcr;unfold bD at he;rcases List.mem_append.1 he with he|he
 ·obtain ⟨x,hx,rfl⟩:=List.mem_map.1 he;exact (List.of_mem_zip hx).1
 ·have:=List.all_eq_true.1 hn e he;rw [hcr] at this;cases this
theorem fp {a:Act}{w:World}(hk:R.chk=true)(h:Rg.Fin R B w0 a w)(src:List Src)(hsrc:src.all (okS R)=true):St B w0 R.N (src.filterMap (cC R)) (R.les.map λ e=>⟨e.s,e.T,e.H,Rg.last e⟩) a w:=by
 refine h.st hk λ x hx=>?_;obtain ⟨s,hs,he⟩:=List.mem_filterMap.1 hx;have ho:=List.all_eq_true.1 hsrc s hs;cases s with
 | g k =>
  simp only [cC] at he;simp only [okS,he,Bool.and_eq_true] at ho;exact ⟨ho.1,.inl ⟨List.mem_of_getElem? he,ho.2⟩⟩
 | o j =>
  simp only [cC] at he;cases hj:R.sp[j]? with
  | none=>rw [hj] at he;cases he
  | some y =>
   simp only [hj] at he;simp only [okS,hj,he] at ho;exact ⟨ho,.inr ⟨j,y,hj,he⟩⟩
theorem rY {id:Nat}{ops:Array Oper}{sts:List (Option (Nat × As))}{news:List Le}{sp:List Sp}(src:List Src)(h:St B w0 N Γ Λ a w)
  (hob:Obs P Q ⟨ops,N,Γ,bD Λ sts news,sp,λ i=>List.range i⟩ B w0 0 ops.size)
  (hn:news.all (λ e=>e.cr.isSome)=true) (hk:Rg.chk ⟨ops,N,Γ,bD Λ sts news,sp,λ i=>List.range i⟩=true) (hsrc:src.all (okS ⟨ops,N,Γ,bD Λ sts news,sp,λ i=>List.range i⟩)=true)
  (hQ:∀ a w,St B w0 N (src.filterMap (cC ⟨ops,N,Γ,bD Λ sts news,sp,λ i=>List.range i⟩)) ((bD Λ sts news).map λ e=>⟨e.s,e.T,e.H,Rg.last e⟩) a w→Q .normal a w):(Code.region id ops false).wp P Q a w :=
 Rg.lin (R:=⟨ops,N,Γ,bD Λ sts news,sp,λ i=>List.range i⟩) rfl hk h (iz hn) (λ i hi=>hob.all i zo (by simpa using hi)) λ a' w' hf=>hQ a' w' (fp hk hf src hsrc)
theorem lp {id:Nat}{ops:Array Oper}{sts:List (Option (Nat × As))}{news:List Le}{sp:List Sp}(anc:List (List Nat))(src:List Src)(hm:P.follows .mixedOrders=true)(h:St B w0 N Γ Λ a w)
  (hob:Obs P Q ⟨ops,N,Γ,bD Λ sts news,sp,λ i=>anc.getD i []⟩ B w0 0 ops.size)
  (hn:news.all (λ e=>e.cr.isSome)=true) (hanc:Rg.ancOk ⟨ops,N,Γ,bD Λ sts news,sp,λ i=>anc.getD i []⟩=true) (hk:Rg.chk ⟨ops,N,Γ,bD Λ sts news,sp,λ i=>anc.getD i []⟩=true) (hsrc:src.all (okS ⟨ops,N,Γ,bD Λ sts news,sp,λ i=>anc.getD i []⟩)=true)
  (hQ:∀ a w,St B w0 N (src.filterMap (cC ⟨ops,N,Γ,bD Λ sts news,sp,λ i=>anc.getD i []⟩)) ((bD Λ sts news).map λ e=>⟨e.s,e.T,e.H,Rg.last e⟩) a w→Q .normal a w):(Code.region id ops true).wp P Q a w :=
 Rg.draw (R:=⟨ops,N,Γ,bD Λ sts news,sp,λ i=>anc.getD i []⟩) hm hanc hk h (iz hn) (λ i hi=>hob.all i zo (by simpa using hi)) λ a' w' hf=>hQ a' w' (fp hk hf src hsrc)
theorem cW {b:Nat}:Ad P Q R B w0 i (.move (.tmp b)) b .none:=λ _ _ _ _ _ a w _ _ hK=>bf (w':=w) (v:=a.eval (.tmp b)) rfl hK
theorem nB {b:Nat}:Ad P Q R B w0 i (.assign (.tmp b)) b .none:=λ _ _ _ _ _ a w _ _ hK=>bf (w':=w) (v:=a.eval (.tmp b)) rfl hK
theorem E6 {t b:Nat}(j:Nat)(hj:R.sp[j]?=some (.adr t b .none True))(hji:(R.anc i).contains j=true):Ad P Q R B w0 i (.assign (.tmp t)) b .none:=λ _ _ _ _ _ a w av _ hK=>by
 have h3:a.eval (.tmp t)=a.eval (.tmp b):=av.d j t b .none True hji hj trivial;exact bf (w':=w) (v:=a.eval (.tmp t)) rfl (by rw [h3];exact hK)
def oj (P:Program)(S E:TypeId)(k:IntKind):Prop:=P.underlying S=some (.slice E)∧(P.info? E).bind (·.zero)=some (.int k 0)∧(P.info? E).map (·.size)=some 1∧((P.info? E).map (·.bytes)).isSome=true∧∀ it,P.info? E=some it→it.bytes≤8
def Nums (k:IntKind)(l:List Nat):As where
 n:=l.length
 ag:=true
 p _ cs _:=cs=l.map λ (x:Nat)=>Value.int k x
 deps:=[]
 len:=λ _ _ _ h=>by rw [h];simp
 one:=λ _ _ _ h=>by rw [h];simp [Value.oneCell']
 ag1:=λ h=>by cases h
 cg:=λ _ _ _ _ _ h=>h
 wr:=λ _ _ _ _ _ _ _ _ _ _ _ _ h=>h
theorem eF {e d n:Nat}{S E:TypeId}{kk:IntKind}{st:Option (Nat × As)}{x y:Operand}{ty:TypeId}{ps:String}{af:Array Edge}(hs:R.sp[i]?=some (.alc e))(he:R.les[e]?=some ⟨d,E,slH n n,some i,Nums kk (List.replicate n 0),st⟩)
  (ho:R.ops[i]?=some ⟨some d,.makeSlice S x y,ty,ps,af,none⟩) (hM:oj P S E kk) (hx:Has R B w0 i x (In n)) (hy:Has R B w0 i y (In n)) (hn:n≤17592186044416):R.Ob P Q B w0 i:=by
 unfold Rg.Ob;simp only [hs,he];intro a w av K hK;obtain ⟨h1,h2,h3,h4,h5⟩:=hM;obtain ⟨it,hi,hz⟩:=Option.bind_eq_some_iff.1 h2;have hsz:it.size=1:=by rw [hi] at h3;simpa using h3
 have hby:=h5 it hi;have hm:=run_make (P:=P) w S E it (.int kk 0) h1 hi hz .i64 .i64 n n zo (Int.le_refl _) (by
  have:it.bytes*n≤8*n:=Nat.mul_le_mul_right _ hby;have h6:((it.bytes*n:Nat):Int)≤281474976710656:=by omega
  rwa [Int.natCast_mul] at h6) zo
 have e1:=bj (hx a w av);have e2:=bj (hy a w av);have hcells:madeCells (Value.int kk 0).cells (n*it.size)=((List.replicate n 0).map λ (x:Nat)=>Value.int kk x).toArray:=by
  rw [hsz,Nat.mul_one];apply Array.ext_getElem?;intro j;simp only [madeCells,Value.cells,List.map_replicate];by_cases hj:j<n
  ·simp [hj,Nat.mod_one]
  ·simp [hj]
 simp only [Int.toNat_natCast] at hm;rw [hcells] at hm;refine bA ho rfl (bf (w':=w.alloc (.cells ((List.replicate n 0).map λ (x:Nat)=>Value.int kk x).toArray E)) (v:=(slH n n).f w.heap.size) ?_ (hK _ _ _ (Grow.alloc _ _) (Nat.le_refl _) (heap_alloc_new w _) rfl));simp [execOp,e1,e2,hm,slH]
theorem eU {b t k n c:Nat}{T S E:TypeId}{A:As}{y:Operand}{kd:IntKind}(j:Nat)(hj:R.sp[j]?=some (.adr t b .none True))(hji:(R.anc i).contains j=true)(hl:LocH R i b T (slH n c) A)(hS:Sl P S E 1)(hy:Has R B w0 i y (NumA kd k).va)(hk:k<n) :
  Ad P Q R B w0 i (.indexAddr S (.tmp t) y) b (.some k):=by
 intro d ty ps af gd a w av K hK;obtain ⟨g,cs,h1,_⟩:=hl.ok av;have h2:=av.d j t b .none True hji hj trivial;have h3:a.eval (.tmp t)=.slice (some ⟨g,0,none⟩) n c:=h2.trans h1;have e:=bj (hy a w av);obtain ⟨hs1,hs2⟩:=hS;rw [h1] at hK;refine bf (w':=w) (v:=.pointer (some ⟨g,k,none⟩)) ?_ (by simpa [slH,offP,add0] using hK);cases hi:P.info? E with
 | none=>rw [hi] at hs2;simp at hs2
 | some it =>
  rw [hi] at hs2;have hsz:it.size=1:=by simpa using hs2
  have hk2:¬ n≤k:=by omega
  simp [execOp,h3,e,Instr.indexAt,asIntOf,run_underlying hs1,hk2,sizeOf,typeInfo,hi,hsz,add0]
theorem oY {k:IntKind}{l:List Nat}{j:Nat}(h:j<l.length):Sub (Nums k l) j (NumA k (l[j]:Nat)):=λ B cs w hp=>by
 have hp':cs=l.map λ (x:Nat)=>Value.int k x:=hp;subst hp';refine ⟨?_,by simp [NumA];omega⟩;show _=[Value.int k (l[j]:Nat)];have e:(NumA k (l[j]:Nat)).n=1:=rfl;rw [e,List.drop_eq_getElem_cons (by simpa using h)];simp
theorem bJ {k:IntKind}{l:List Nat}{j x:Nat}(h:j<l.length):Put (Nums k l) j (NumA k (x:Nat)) (Nums k (l.set j x)):=λ B cs c w hp hc=>by
 have hp':cs=l.map λ (x:Nat)=>Value.int k x:=hp;have hc':c=[Value.int k x]:=hc;subst hp' hc';refine ⟨by simp [NumA];omega,?_⟩;show _=(l.set j x).map λ (x:Nat)=>Value.int k x;unfold dt;rw [List.map_set,List.set_eq_take_append_cons_drop,if_pos (by simpa using h)];simp [List.append_assoc]
theorem sT {s t k:Nat}{T:TypeId}{H:Hd}{A A':As}{ty:TypeId}(j:Nat)(hj:R.sp[j]?=some (.adr t s (.some k) True))(hji:(R.anc i).contains j=true)(hl:LocH R i s T H A)(hH:∀ g,offP (H.f g) (.some k)=.pointer (some ⟨g,k,none⟩))(hsub:Sub A k A')(ht:Ty P ty A'.n A'.ag) :
  Wv P Q R B w0 i (.load ty (.tmp t)) A'.va :=
 bk λ _ _ _ _ _ a w av=>by
  obtain ⟨g,cs,h1,_,h3,h4⟩:=hl.ok av;have h2:=av.d j t s (.some k) True hji hj trivial;rw [h1,hH] at h2;obtain ⟨p1,l1⟩:=hsub _ _ _ h4;refine ⟨cL A'.ag ((cs.drop k).take A'.n),w,?_,Grow.refl w,⟨_,p1,rfl⟩⟩;have:=dv ht w g k _ (A'.len _ _ _ p1) A'.ag1 (iR h3 A'.n);simp [execOp,h2,Instr.loadAt,Instr.sureAddr,this]
theorem cK {e s t k:Nat}{T:TypeId}{H:Hd}{cr:Option Nat}{A0 A' A1:As}{x:Operand}{ty ty':TypeId}{ps:String}{af:Array Edge}(j:Nat)(hs:R.sp[i]?=some (.sto e))(he:R.les[e]?=some ⟨s,T,H,cr,A0,some (i,A1)⟩)
  (ho:R.ops[i]?=some ⟨none,.store ty (.tmp t) x,ty',ps,af,none⟩) (hj:R.sp[j]?=some (.adr t s (.some k) True)) (hji:(R.anc i).contains j=true) (hH:∀ g,offP (H.f g) (.some k)=.pointer (some ⟨g,k,none⟩)) (hx:Has R B w0 i x A'.va) (ht:Ty P ty A'.n A'.ag) (hput:Put A0 k A' A1):R.Ob P Q B w0 i:=by
 unfold Rg.Ob;simp only [hs,he];intro a w av g cs h1 h3 h4 K hK;obtain ⟨cs',hp,hv⟩:=hx a w av;have h2:=av.d j t s (.some k) True hji hj trivial;rw [h1,hH] at h2;obtain ⟨hlen,hp1⟩:=hput B cs cs' w h4 hp;have l1:=A'.len _ _ _ hp;refine bA ho rfl (wp_skip' (w':=w.setRow g (dt cs k cs').toArray) ?_ (hK _ hp1));have:=bW ht w g k T cs.toArray _ cs' (A'.cells_shape hp) l1 (by simpa using hlen) (A'.one _ _ _ hp) h3;simp only at this;simp [execOp,h2,hv,Instr.storeAt,Instr.sureAddr,this,dt,l1]
theorem cw (n c k g:Nat):offP ((slH n c).f g) (.some k)=.pointer (some ⟨g,k,none⟩):=by simp [slH,offP,add0]
theorem MW {t b n c:Nat}{T S E':TypeId}{A:As}(j:Nat)(hj:R.sp[j]?=some (.adr t b .none True))(hji:(R.anc i).contains j=true)(hl:LocH R i b T (slH n c) A)(hS:P.underlying S=some (.slice E')) :
  Wv P Q R B w0 i (.call ⟨.builtin .len,#[.tmp t],#[S]⟩) (In n) :=
 bk λ d T' ps af gd a w av=>by
  obtain ⟨g,cs,h1,_⟩:=hl.ok av;have h2:=av.d j t b .none True hji hj trivial;have h3:a.eval (.tmp t)=.slice (some ⟨g,0,none⟩) n c:=h2.trans h1;refine ⟨.int .i64 n,w,?_,Grow.refl w,bV _ _ _ _⟩;simp [execOp,resolve,invoke,builtin,h3,Builtin.len_,run_underlying hS,goInt]
theorem oX {kk:IntKind}{l:List Nat}:∀ A∈l.map (λ (x:Nat)=>NumA kk x),∀ T∈A.deps,T∈([]:List TypeId):=by
 intro A hA T hT;obtain ⟨x,_,rfl⟩:=List.mem_map.1 hA;exact hT
def SlO (_E:TypeId)(D:List TypeId)(l:List As)(p:Prop):As where
 n:=1
 ag:=false
 p B cs w:=p∧(∀ A∈l,∀ T∈A.deps,T∈D)∧∃ A c ds,cs=[.slice A l.length c]∧l.length≤c∧c≤maxLen∧(cat l).p B ds w ∧
  (0<l.length→∃ b o,A=some ⟨b,o,none⟩∧b<w.heap.size∧b<B∧∀ j v,ds[j]?=some v→w.cell? ⟨b,o+j,none⟩=some v)
 deps:=D
 len:=by rintro B cs w ⟨_,_,A,c,ds,rfl,_⟩;rfl
 one:=by rintro B cs w ⟨_,_,A,c,ds,rfl,_⟩;simp [Value.oneCell']
 ag1:=λ _=>rfl
 cg:=by
  rintro B cs w w' hg ⟨hp,hD,A,c,ds,rfl,h1,h2,h3,h4⟩;refine ⟨hp,hD,A,c,ds,rfl,h1,h2,(cat l).cg _ _ _ _ hg h3,λ hn=>?_⟩;obtain ⟨b,o,h5,h6,h7,h8⟩:=h4 hn;exact ⟨b,o,h5,Nat.lt_of_lt_of_le h6 hg.le,h7,λ j v hv=>hg.cell (h8 j v hv)⟩
 wr:=by
  rintro B cs w w' g c0 T fz hg hT hB hW ⟨hp,hD,A,c,ds,rfl,h1,h2,h3,h4⟩;refine ⟨hp,hD,A,c,ds,rfl,h1,h2,(cat l).wr _ _ _ _ _ _ _ _ hg (nj hD hT) hB hW h3,λ hn=>?_⟩;obtain ⟨b,o,h5,h6,h7,h8⟩:=h4 hn;refine ⟨b,o,h5,by rw [hW.size];exact h6,h7,λ j v hv=>?_⟩;rw [← h8 j v hv];exact World.cell?_of_block (hW.block b zo)
theorem SlO.use {E:TypeId}{D:List TypeId}{l:List As}{p:Prop}{B:Nat}{v:Value}{w:World}(h:(SlO E D l p).va.p B v w):((SlA E D l).and p).va.p B v w:=by
 obtain ⟨cs,⟨hp,hD,A,c,ds,h0,h1,h2,h3,h4⟩,hv⟩:=h;refine ⟨cs,⟨hp,hD,A,c,ds,h0,h1,h2,h3,λ hn=>?_⟩,hv⟩;obtain ⟨b,o,e1,e2,e3,e4⟩:=h4 hn;exact ⟨b,o,e1,e2,.inl e3,e4⟩
theorem aC {x:Operand}{E:TypeId}{D:List TypeId}{l:List As}{p:Prop}(h:Has R B w0 i x (SlO E D l p).va):Has R B w0 i x ((SlA E D l).and p).va:=λ a w av=>SlO.use (h a w av)
theorem bz {x:Operand}{A:As}{p:Prop}(h:Has R B w0 i x (A.and p).va):Has R B w0 i x A.va:=λ a w av=>by
 obtain ⟨cs,⟨_,hp⟩,hv⟩:=h a w av;exact ⟨cs,hp,hv⟩
def RnOk (R:Rg):List (Nat × Nat)→Prop
 | []=>True
 | x::xs=>(∃ j:Nat,R.sp[j]?=some (.adr x.1 x.2 .none True))∧RnOk R xs
theorem RnOk.mem {R:Rg}:∀ {rn:List (Nat × Nat)},RnOk R rn→∀ x∈rn,∃ j:Nat,R.sp[j]?=some (.adr x.1 x.2 .none True)
 | _::_,h,x,hx=>by
  rcases List.mem_cons.1 hx with rfl|hx
  ·exact h.1
  ·exact RnOk.mem h.2 x hx
def oldS (rn:List (Nat × Nat))(s:Nat):Nat:=((rn.find? λ x=>x.1==s).map (·.2)).getD s
theorem O3 {a:Act}{w:World}(hk:R.chk=true)(h:Rg.Fin R B w0 a w)(src:List Src)(hsrc:src.all (okS R)=true)(rn:List (Nat × Nat))(Λ':List Lc)
  (hΛ:(R.les.map λ e=>(⟨e.s,e.T,e.H,Rg.last e⟩:Lc))=Λ'.map λ l=>⟨oldS rn l.s,l.T,l.H,l.A⟩) (hin:Λ'.all (λ l=>Λ'.all λ m=>l.s==m.s || oldS rn l.s != oldS rn m.s)=true)
  (hrn:RnOk R rn):St B w0 R.N (src.filterMap (cC R)) Λ' a w:=by
 have st:=fp hk h src hsrc;rw [hΛ] at st;have he:∀ l∈Λ',a.eval (.tmp l.s)=a.eval (.tmp (oldS rn l.s)):=by
  intro l _;unfold oldS;cases hf:rn.find? λ x=>x.1==l.s with
  | none=>rfl
  | some x =>
   have hx:=List.mem_of_find?_eq_some hf;have hxs:x.1=l.s:=by simpa using List.find?_some hf
   obtain ⟨j,hj⟩:=hrn.mem x hx;have:=h.inv.d j x.1 x.2 .none True hj (by simpa using Rg.chk_lt hk hj) trivial;rw [hxs] at this;exact this
 refine ⟨st.lo,st.defers,st.size,st.base,st.vals,λ l hl=>?_,λ l hl m hm hne=>?_⟩
 ·have h1:=st.locs ⟨oldS rn l.s,l.T,l.H,l.A⟩ (List.mem_map.2 ⟨l,hl,rfl⟩);obtain ⟨g,cs,e1,e2,e3,e4⟩:=h1;exact ⟨g,cs,(he l hl).trans e1,e2,e3,e4⟩
 ·have h1:=List.all_eq_true.1 (List.all_eq_true.1 hin l hl) m hm;simp only [Bool.or_eq_true,beq_iff_eq,bne_iff_ne] at h1;rw [he l hl,he m hm];exact st.dis ⟨oldS rn l.s,l.T,l.H,l.A⟩ (List.mem_map.2 ⟨l,hl,rfl⟩) ⟨oldS rn m.s,m.T,m.H,m.A⟩ (List.mem_map.2 ⟨m,hm,rfl⟩) (h1.resolve_left hne)
theorem dz {N:Nat}{Γ:List (Nat × VA)}{Λ:List Lc}{a:Act}{w:World}{id:Nat}{ops:Array Oper}{sts:List (Option (Nat × As))}{news:List Le}{sp:List Sp}(src:List Src)(rn:List (Nat × Nat))(Λ':List Lc)(h:St B w0 N Γ Λ a w)
  (hob:Obs P Q ⟨ops,N,Γ,bD Λ sts news,sp,λ i=>List.range i⟩ B w0 0 ops.size)
  (hn:news.all (λ e=>e.cr.isSome)=true) (hk:Rg.chk ⟨ops,N,Γ,bD Λ sts news,sp,λ i=>List.range i⟩=true) (hsrc:src.all (okS ⟨ops,N,Γ,bD Λ sts news,sp,λ i=>List.range i⟩)=true)
  (hrn:RnOk ⟨ops,N,Γ,bD Λ sts news,sp,λ i=>List.range i⟩ rn) (hΛ:((bD Λ sts news).map λ e=>(⟨e.s,e.T,e.H,Rg.last e⟩:Lc))=Λ'.map λ l=>⟨oldS rn l.s,l.T,l.H,l.A⟩) (hin:Λ'.all (λ l=>Λ'.all λ m=>l.s==m.s || oldS rn l.s != oldS rn m.s)=true)
  (hQ:∀ a w,St B w0 N (src.filterMap (cC ⟨ops,N,Γ,bD Λ sts news,sp,λ i=>List.range i⟩)) Λ' a w→Q .normal a w):(Code.region id ops false).wp P Q a w :=
 Rg.lin (R:=⟨ops,N,Γ,bD Λ sts news,sp,λ i=>List.range i⟩) rfl hk h (iz hn) (λ i hi=>hob.all i zo (by simpa using hi)) λ a' w' hf=>hQ a' w' (O3 hk hf src hsrc rn Λ' hΛ hin hrn)
theorem Kj {s:Nat}{T:TypeId}{H:Hd}{cr:Option Nat}{A0:As}{st:Option (Nat × As)}(e:Nat)(he:R.les[e]?=some ⟨s,T,H,cr,A0,st⟩)(hp:R.phase i ⟨s,T,H,cr,A0,st⟩=some A0):LocH R i s T H A0:=⟨_,List.mem_of_getElem? he,rfl,rfl,rfl,hp⟩
theorem vq {t:Nat}{A:VA}(j:Nat)(h:R.sp[j]?=some (.v t A))(h1:(R.anc i).contains j=true:=by kernel_rfl)(h2:R.okD i A.deps=true:=by kernel_rfl):Has R B w0 i (.tmp t) A:=Qu j h h1 h2
theorem gq {t:Nat}{A:VA}(k:Nat)(h:R.Γ[k]?=some (t,A))(h1:R.okG i t=true:=by kernel_rfl)(h2:R.okD i A.deps=true:=by kernel_rfl):Has R B w0 i (.tmp t) A:=Qv k h h1 h2
theorem lz0 {s:Nat}{T:TypeId}{H:Hd}{cr:Option Nat}{A0:As}{st:Option (Nat × As)}(e:Nat)(he:R.les[e]?=some ⟨s,T,H,cr,A0,st⟩)(hp:R.phase i ⟨s,T,H,cr,A0,st⟩=some A0:=by kernel_rfl):LocH R i s T H A0:=Kj e he hp
theorem nq {m n:Nat}(h:Nat.ble m n=true:=by kernel_rfl):m≤n:=Nat.le_of_ble_eq_true h
theorem o0 {k:Nat}:Obs P Q R B w0 k 0:=trivial
theorem oc {k m:Nat}(h:R.Ob P Q B w0 k)(h2:Obs P Q R B w0 (k+1) m):Obs P Q R B w0 k (m+1):=⟨h,h2⟩
theorem zv {d:Nat}{A:VA}{op:Op}{T:TypeId}{ps:String}{af:Array Edge}{k m:Nat}(hs:(R.sp[k]?,R.ops[k]?)=(some (.v d A),some ⟨some d,op,T,ps,af,none⟩))(h:Wv P Q R B w0 k op A)(h2:Obs P Q R B w0 (k+1) m):Obs P Q R B w0 k (m+1):=oc (ob_v (congrArg Prod.fst hs) (congrArg Prod.snd hs) h) h2
theorem zB {d dj j:Nat}{want b:Bool}{A:VA}{op:Op}{T:TypeId}{ps:String}{af:Array Edge}{k m:Nat}(q:Nat)(hs:(R.sp[k]?,R.ops[k]?,R.dst j,R.sp[q]?)=(some (.v d (Wh (b=want) A)),some ⟨some d,op,T,ps,af,some (j,want)⟩,some dj,some (.v dj (Bo b))))(h:b=want→Wv P Q R B w0 k op A)(h2:Obs P Q R B w0 (k+1) m)(h1:(R.anc k).contains q=true:=by kernel_rfl)(h3:R.okD k (Bo b).deps=true:=by kernel_rfl)(hdj:Nat.ble (dj+1) R.N=true:=by kernel_rfl):Obs P Q R B w0 k (m+1):=oc (Qe (congrArg Prod.fst hs) (congrArg (λ x=>x.2.1) hs) (congrArg (λ x=>x.2.2.1) hs) (vq q (congrArg (λ x=>x.2.2.2) hs) h1 h3) (Nat.le_of_ble_eq_true hdj) h) h2
theorem zC {d dj j s f kk n:Nat}{want b:Bool}{T T1 T':TypeId}{cr:Option Nat}{A0:As}{st:Option (Nat × As)}{ps:String}{af:Array Edge}{k m:Nat}(q e:Nat)(hs:(R.sp[k]?,R.ops[k]?,R.dst j,R.sp[q]?,R.les[e]?)=(some (.adr d s (.some kk) (b=want)),some ⟨some d,.fieldAddr T (.tmp s) f,T',ps,af,some (j,want)⟩,some dj,some (.v dj (Bo b)),some ⟨s,T1,ptrH,cr,A0,st⟩))(hf:Fld P T f kk n)(h2:Obs P Q R B w0 (k+1) m)(h1:(R.anc k).contains q=true:=by kernel_rfl)(h3:R.okD k (Bo b).deps=true:=by kernel_rfl)(hdj:Nat.ble (dj+1) R.N=true:=by kernel_rfl)(hp:R.phase k ⟨s,T1,ptrH,cr,A0,st⟩=some A0:=by kernel_rfl):Obs P Q R B w0 k (m+1):=oc (yC (congrArg Prod.fst hs) (congrArg (λ x=>x.2.1) hs) (congrArg (λ x=>x.2.2.1) hs) (vq q (congrArg (λ x=>x.2.2.2.1) hs) h1 h3) (Nat.le_of_ble_eq_true hdj) (λ _=>fY (lz0 e (congrArg (λ x=>x.2.2.2.2) hs) hp) hf)) h2
theorem zO {d s f kk n:Nat}{T T1 T':TypeId}{cr:Option Nat}{A0:As}{st:Option (Nat × As)}{ps:String}{af:Array Edge}{k m:Nat}(e:Nat)(hs:(R.sp[k]?,R.ops[k]?,R.les[e]?)=(some (.adr d s (.some kk) True),some ⟨some d,.fieldAddr T (.tmp s) f,T',ps,af,none⟩,some ⟨s,T1,ptrH,cr,A0,st⟩))(hf:Fld P T f kk n)(h2:Obs P Q R B w0 (k+1) m)(hp:R.phase k ⟨s,T1,ptrH,cr,A0,st⟩=some A0:=by kernel_rfl):Obs P Q R B w0 k (m+1):=oc (ob_a (congrArg Prod.fst hs) (congrArg (λ x=>x.2.1) hs) (fY (lz0 e (congrArg (λ x=>x.2.2) hs) hp) hf)) h2
theorem zS {e s t:Nat}{T:TypeId}{cr:Option Nat}{A0 A1:As}{ty ty':TypeId}{ps:String}{af:Array Edge}{k m:Nat}(q:Nat)(hs:(R.sp[k]?,R.les[e]?,R.ops[k]?,R.sp[q]?)=(some (.sto e),some ⟨s,T,ptrH,cr,A0,some (k,A1)⟩,some ⟨none,.store ty (.tmp s) (.tmp t),ty',ps,af,none⟩,some (.v t A1.va)))(ht:Ty P ty A1.n A1.ag)(h2:Obs P Q R B w0 (k+1) m)(h1:(R.anc k).contains q=true:=by kernel_rfl)(h3:R.okD k A1.va.deps=true:=by kernel_rfl)(hn:A0.n=A1.n:=by kernel_rfl):Obs P Q R B w0 k (m+1):=oc (lI (congrArg Prod.fst hs) (congrArg (λ x=>x.2.1) hs) (congrArg (λ x=>x.2.2.1) hs) (vq q (congrArg (λ x=>x.2.2.2) hs) h1 h3) ht hn) h2
theorem zW {e d t:Nat}{T:TypeId}{A:As}{st:Option (Nat × As)}{ty:TypeId}{ps:String}{af:Array Edge}{k m:Nat}(q:Nat)(hs:(R.sp[k]?,R.les[e]?,R.ops[k]?,R.Γ[q]?)=(some (.alc e),some ⟨d,T,ptrH,some k,A,st⟩,some ⟨some d,.box T (.tmp t),ty,ps,af,none⟩,some (t,A.va)))(h2:Obs P Q R B w0 (k+1) m)(h1:R.okG k t=true:=by kernel_rfl)(h3:R.okD k A.va.deps=true:=by kernel_rfl):Obs P Q R B w0 k (m+1):=oc (C6 (congrArg Prod.fst hs) (congrArg (λ x=>x.2.1) hs) (congrArg (λ x=>x.2.2.1) hs) (gq q (congrArg (λ x=>x.2.2.2) hs) h1 h3)) h2
theorem zY {e d:Nat}{T:TypeId}{A:As}{st:Option (Nat × As)}{ty:TypeId}{ps:String}{af:Array Edge}{k m:Nat}(hs:(R.sp[k]?,R.les[e]?,R.ops[k]?)=(some (.alc e),some ⟨d,T,ptrH,some k,A,st⟩,some ⟨some d,.alloc T,ty,ps,af,none⟩))(hz:Zero P T A)(h2:Obs P Q R B w0 (k+1) m):Obs P Q R B w0 k (m+1):=oc (No (congrArg Prod.fst hs) (congrArg (λ x=>x.2.1) hs) (congrArg (λ x=>x.2.2) hs) hz) h2
theorem zQ {d:Nat}{A:VA}{f:FuncId}{xs:List Operand}{As:List VA}{at_:Array TypeId}{T:TypeId}{ps:String}{af:Array Edge}{k m:Nat}(hs:(R.sp[k]?,R.ops[k]?)=(some (.v d A),some ⟨some d,.call ⟨.value (.func f),xs.toArray,at_⟩,T,ps,af,none⟩))(hc:Cn P f As A)(hx:HasL R B w0 k xs As)(h2:Obs P Q R B w0 (k+1) m):Obs P Q R B w0 k (m+1):=oc (ob_v (congrArg Prod.fst hs) (congrArg Prod.snd hs) (be hc hx)) h2
theorem HasL.o {x:Operand}{A:VA}{i:Nat}(h:Has R B w0 i x A):HasL R B w0 i [x] [A]:=.cons h .nil
theorem HasL.p {x y:Operand}{A C:VA}{i:Nat}(h:Has R B w0 i x A)(h':Has R B w0 i y C):HasL R B w0 i [x,y] [A,C]:=.cons h (.cons h' .nil)
theorem All2.o {α β:Type}{r:α→β→Prop}{a:α}{b:β}(h:r a b):All2 r [a] [b]:=.cons h .nil
theorem All2.p {α β:Type}{r:α→β→Prop}{a a':α}{b b':β}(h:r a b)(h':r a' b'):All2 r [a,a'] [b,b']:=.cons h (.cons h' .nil)
theorem zE {d:Nat}{A:VA}{x:Operand}{T:TypeId}{ps:String}{af:Array Edge}{k:Nat}(hs:(R.sp[k]?,R.ops[k]?)=(some (.v d A),some ⟨some d,.assign x,T,ps,af,none⟩))(h:Has R B w0 k x A):Obs P Q R B w0 k 1:=oc (ob_v (congrArg Prod.fst hs) (congrArg Prod.snd hs) (aR h)) o0
theorem zV {d t:Nat}{A:VA}{T:TypeId}{ps:String}{af:Array Edge}{k m:Nat}(j:Nat)(hs:(R.sp[k]?,R.ops[k]?,R.sp[j]?)=(some (.v d A),some ⟨some d,.move (.tmp t),T,ps,af,none⟩,some (.v t A)))(h2:Obs P Q R B w0 (k+1) m)(h1:(R.anc k).contains j=true:=by kernel_rfl)(h3:R.okD k A.deps=true:=by kernel_rfl):Obs P Q R B w0 k (m+1):=oc (ob_v (congrArg Prod.fst hs) (congrArg (λ x=>x.2.1) hs) (aq (vq j (congrArg (λ x=>x.2.2) hs) h1 h3))) h2
theorem zM {d t:Nat}{A:VA}{T:TypeId}{ps:String}{af:Array Edge}{k m:Nat}(j:Nat)(hs:(R.sp[k]?,R.ops[k]?,R.Γ[j]?)=(some (.v d A),some ⟨some d,.move (.tmp t),T,ps,af,none⟩,some (t,A)))(h2:Obs P Q R B w0 (k+1) m)(h1:R.okG k t=true:=by kernel_rfl)(h3:R.okD k A.deps=true:=by kernel_rfl):Obs P Q R B w0 k (m+1):=oc (ob_v (congrArg Prod.fst hs) (congrArg (λ x=>x.2.1) hs) (aq (gq j (congrArg (λ x=>x.2.2) hs) h1 h3))) h2
theorem zA {d t:Nat}{A:VA}{T:TypeId}{ps:String}{af:Array Edge}{k m:Nat}(j:Nat)(hs:(R.sp[k]?,R.ops[k]?,R.sp[j]?)=(some (.v d A),some ⟨some d,.assign (.tmp t),T,ps,af,none⟩,some (.v t A)))(h2:Obs P Q R B w0 (k+1) m)(h1:(R.anc k).contains j=true:=by kernel_rfl)(h3:R.okD k A.deps=true:=by kernel_rfl):Obs P Q R B w0 k (m+1):=oc (ob_v (congrArg Prod.fst hs) (congrArg (λ x=>x.2.1) hs) (aR (vq j (congrArg (λ x=>x.2.2) hs) h1 h3))) h2
theorem zL {d t s kk:Nat}{A:As}{l:List As}{T ty T':TypeId}{ps:String}{af:Array Edge}{cr:Option Nat}{st:Option (Nat × As)}{k m:Nat}(j e f:Nat)(hs:(R.sp[k]?,R.ops[k]?,R.sp[j]?,R.les[e]?,l[f]?)=(some (.v d A.va),some ⟨some d,.load ty (.tmp t),T',ps,af,none⟩,some (.adr t s (.some kk) True),some ⟨s,T,ptrH,cr,cat l,st⟩,some A))(ht:Ty P ty A.n A.ag)(h2:Obs P Q R B w0 (k+1) m)(h1:(R.anc k).contains j=true:=by kernel_rfl)(h3:R.phase k ⟨s,T,ptrH,cr,cat l,st⟩=some (cat l):=by kernel_rfl)(h4:offs l f=kk:=by kernel_rfl):Obs P Q R B w0 k (m+1):=oc (ob_v (congrArg Prod.fst hs) (congrArg (λ x=>x.2.1) hs) (aB j (congrArg (λ x=>x.2.2.1) hs) h1 trivial (lz0 e (congrArg (λ x=>x.2.2.2.1) hs) h3) (Sub.part f (congrArg (λ x=>x.2.2.2.2) hs) h4) ht)) h2
theorem zl {d s:Nat}{A:As}{T ty T':TypeId}{ps:String}{af:Array Edge}{cr:Option Nat}{st:Option (Nat × As)}{k m:Nat}(e:Nat)(hs:(R.sp[k]?,R.ops[k]?,R.les[e]?)=(some (.v d A.va),some ⟨some d,.load ty (.tmp s),T',ps,af,none⟩,some ⟨s,T,ptrH,cr,A,st⟩))(ht:Ty P ty A.n A.ag)(h2:Obs P Q R B w0 (k+1) m)(h3:R.phase k ⟨s,T,ptrH,cr,A,st⟩=some A:=by kernel_rfl):Obs P Q R B w0 k (m+1):=oc (ob_v (congrArg Prod.fst hs) (congrArg (λ x=>x.2.1) hs) (eL (lz0 e (congrArg (λ x=>x.2.2) hs) h3) ht)) h2
theorem gl {id:Nat}{ops:Array Oper}{sts:List (Option (Nat × As))}{news:List Le}{sp:List Sp}(src:List Src)(h:St B w0 N Γ Λ a w)
  (hob:Obs P Q ⟨ops,N,Γ,bD Λ sts news,sp,λ i=>List.range i⟩ B w0 0 ops.size)
  (hQ:∀ a w,St B w0 N (src.filterMap (cC ⟨ops,N,Γ,bD Λ sts news,sp,λ i=>List.range i⟩)) ((bD Λ sts news).map λ e=>⟨e.s,e.T,e.H,Rg.last e⟩) a w→Q .normal a w)
  (hn:news.all (λ e=>e.cr.isSome)=true:=by kernel_rfl) (hk:Rg.chk ⟨ops,N,Γ,bD Λ sts news,sp,λ i=>List.range i⟩=true:=by kernel_rfl) (hsrc:src.all (okS ⟨ops,N,Γ,bD Λ sts news,sp,λ i=>List.range i⟩)=true:=by kernel_rfl):(Code.region id ops false).wp P Q a w :=
 rY src h hob hn hk hsrc hQ
theorem aJ {fn:Func}{A A':VA}{a:Act}{w:World}(h:A=A')(hb:ce P fn (RQ B w0 A) .ret a w):ce P fn (RQ B w0 A') .ret a w:=by subst h;exact hb
def EqV (v:Value):VA where
 p _ x _:=x=v
 deps:=[]
 cg:=λ _ _ _ _ _ h=>h
 wr:=λ _ _ _ _ _ _ _ _ _ _ _ _ h=>h
theorem aX {v:Value}:Has R B w0 i (.const v) (EqV v):=λ _ _ _=>rfl
theorem St.sel {N:Nat}{Γ:List (Nat × VA)}{Λ:List Lc}{a:Act}{w:World}(h:St B w0 N Γ Λ a w)(l:List Nat):St B w0 N (l.filterMap λ k=>Γ[k]?) Λ a w :=
 ⟨h.lo,h.defers,h.size,h.base,λ x hx=>by
  obtain ⟨k,_,hk⟩:=List.mem_filterMap.1 hx;exact h.vals x (List.mem_of_getElem? hk),h.locs,h.dis⟩
theorem gH {xt:TypeId}(hT:P.underlying xt=some .bool)(p q:Bool)(w:World):(Op.equal xt (.bool p) (.bool q)).run P w=.ok (p==q) w:=by
 show (Op.equalIn (9999+1) xt (.bool p) (.bool q)).run P w=_;unfold Op.equalIn;rw [Sem.run_bind,run_underlying hT w]
 rfl
theorem BB {x y:Operand}{xt yt:TypeId}{p q:Bool}(hT:P.underlying xt=some .bool)(hx:Has R B w0 i x (Bo p))(hy:Has R B w0 i y (Bo q)):Wv P Q R B w0 i (.binOp .eql xt x y yt) (Bo (p==q)) :=
 bk λ _ _ _ _ _ a w av=>by
  have e1:=dS (hx a w av);have e2:=dS (hy a w av);exact ⟨.bool (p==q),w,(by simp only [execOp,e1,e2,eqGuard,binOp,Sem.run_bind,gH hT];rfl),Grow.refl w,dJ _ _ _⟩
theorem mE {x y:Operand}{xt yt:TypeId}{p q:Bool}(hT:P.underlying xt=some .bool)(hx:Has R B w0 i x (Bo p))(hy:Has R B w0 i y (Bo q)):Wv P Q R B w0 i (.binOp .neq xt x y yt) (Bo (!(p==q))) :=
 bk λ _ _ _ _ _ a w av=>by
  have e1:=dS (hx a w av);have e2:=dS (hy a w av);exact ⟨.bool (!(p==q)),w,(by simp only [execOp,e1,e2,eqGuard,binOp,Sem.run_bind,gH hT];rfl),Grow.refl w,dJ _ _ _⟩
end
abbrev Sp.t (n:Nat){b:Bool}(A:VA):Sp:=.v n (Wh (b=true) A)
abbrev Sp.f (n:Nat){b:Bool}(A:VA):Sp:=.v n (Wh (b=false) A)
abbrev η:Option (Nat × As):=none
theorem zn {B N:Nat}{w0:Bs}{a:Act}{w:World}(Γ:List (Nat × VA))(Λ:List Lc)(h:St B w0 N Γ Λ a w):St B w0 N Γ Λ a w:=h
theorem zz {B N:Nat}{w0:Bs}{R0:Act→World→Prop}(Γ:List (Nat × VA))(Λ:List Lc)(h:∀ a w,St B w0 N Γ Λ a w→R0 a w):∀ a w,St B w0 N Γ Λ a w→R0 a w:=h
theorem zy {N:Nat}{R0:Nat→Bs→Act→Prop}(Γ:List (Nat × VA))(h:∀ B w0 a,St B w0 N Γ [] a w0.w→R0 B w0 a):∀ B w0 a,St B w0 N Γ [] a w0.w→R0 B w0 a:=h
theorem zR {P:Program}{B N:Nat}{w0:Bs}{Γ:List (Nat × VA)}{Λ:List Lc}{a:Act}{w:World}{fn:Func}{t:Nat}{A A':VA}(i:Nat)(h:St B w0 N Γ Λ a w)(hr:fn.results = #[.tmp t])(hm:Γ[i]?=some (t,A))(e:A=A'):Code.ret.wp P (ce P fn (RQ B w0 A')) a w:=wp_ret (aJ e (am hr h (List.mem_of_getElem? hm)))
theorem zN {P:Program}{B N:Nat}{w0:Bs}{Γ:List (Nat × VA)}{Λ:List Lc}{a:Act}{w:World}{fn:Func}{t:Nat}{A A':VA}{Q:Exit→Act→World→Prop}(i:Nat)(h:St B w0 N Γ Λ a w)(hr:fn.results = #[.tmp t])(hm:Γ[i]?=some (t,A))(e:A=A'):Exit.then (Code.ret.wp P (ce P fn (RQ B w0 A'))) Q .normal a w:=aa (zR i h hr hm e)
theorem zJ {P:Program}{B N:Nat}{w0:Bs}{Γ:List (Nat × VA)}{Λ:List Lc}{a:Act}{w:World}{Q Q2:Exit→Act→World→Prop}{t:Nat}{b:Bool}{x y:Code}(i:Nat)(h:St B w0 N Γ Λ a w)(hm:Γ[i]?=some (t,Bo b))(ht:b=true→x.wp P Q a w)(hf:b=false→y.wp P Q a w):Exit.then ((Code.cond (.tmp t) x y).wp P Q) Q2 .normal a w:=aa (cd h (List.mem_of_getElem? hm) ht hf)
section
variable {P:Program}{Q:Exit→Act→World→Prop}{B N:Nat}{w0:Bs}{Γ:List (Nat × VA)}{Λ:List Lc}{a:Act}{w:World}
theorem zg {id:Nat}{ops:Array Oper}(sts:List (Option (Nat × As)))(news:List Le)(sp:List Sp)(src:List Src)(h:St B w0 N Γ Λ a w)
  (hob:Obs P Q ⟨ops,N,Γ,bD Λ sts news,sp,λ i=>List.range i⟩ B w0 0 ops.size)
  (hQ:∀ a w,St B w0 N (src.filterMap (cC ⟨ops,N,Γ,bD Λ sts news,sp,λ i=>List.range i⟩)) ((bD Λ sts news).map λ e=>⟨e.s,e.T,e.H,Rg.last e⟩) a w→Q .normal a w)
  (hn:news.all (λ e=>e.cr.isSome)=true:=by kernel_rfl) (hk:Rg.chk ⟨ops,N,Γ,bD Λ sts news,sp,λ i=>List.range i⟩=true:=by kernel_rfl) (hsrc:src.all (okS ⟨ops,N,Γ,bD Λ sts news,sp,λ i=>List.range i⟩)=true:=by kernel_rfl):(Code.region id ops false).wp P Q a w :=
 rY src h hob hn hk hsrc hQ
theorem zh {id:Nat}{ops:Array Oper}(sp:List Sp)(src:List Src)(h:St B w0 N Γ Λ a w)
  (hob:Obs P Q ⟨ops,N,Γ,bD Λ [] [],sp,λ i=>List.range i⟩ B w0 0 ops.size)
  (hQ:∀ a w,St B w0 N (src.filterMap (cC ⟨ops,N,Γ,bD Λ [] [],sp,λ i=>List.range i⟩)) ((bD Λ [] []).map λ e=>⟨e.s,e.T,e.H,Rg.last e⟩) a w→Q .normal a w)
  (hk:Rg.chk ⟨ops,N,Γ,bD Λ [] [],sp,λ i=>List.range i⟩=true:=by kernel_rfl) (hsrc:src.all (okS ⟨ops,N,Γ,bD Λ [] [],sp,λ i=>List.range i⟩)=true:=by kernel_rfl):(Code.region id ops false).wp P Q a w :=
 rY src h hob rfl hk hsrc hQ
theorem zgA {id:Nat}{ops:Array Oper}(sts:List (Option (Nat × As)))(news:List Le)(sp:List Sp)(src:List Src)
  (hob:Obs P Q ⟨ops,N,Γ,bD Λ sts news,sp,λ i=>List.range i⟩ B w0 0 ops.size)
  (hQ:∀ a w,St B w0 N (src.filterMap (cC ⟨ops,N,Γ,bD Λ sts news,sp,λ i=>List.range i⟩)) ((bD Λ sts news).map λ e=>⟨e.s,e.T,e.H,Rg.last e⟩) a w→Q .normal a w)
  (hn:news.all (λ e=>e.cr.isSome)=true:=by kernel_rfl) (hk:Rg.chk ⟨ops,N,Γ,bD Λ sts news,sp,λ i=>List.range i⟩=true:=by kernel_rfl) (hsrc:src.all (okS ⟨ops,N,Γ,bD Λ sts news,sp,λ i=>List.range i⟩)=true:=by kernel_rfl):∀ a w,St B w0 N Γ Λ a w→(Code.region id ops false).wp P Q a w:=λ _ _ h =>
 rY src h hob hn hk hsrc hQ
theorem zhA {id:Nat}{ops:Array Oper}(sp:List Sp)(src:List Src)
  (hob:Obs P Q ⟨ops,N,Γ,bD Λ [] [],sp,λ i=>List.range i⟩ B w0 0 ops.size)
  (hQ:∀ a w,St B w0 N (src.filterMap (cC ⟨ops,N,Γ,bD Λ [] [],sp,λ i=>List.range i⟩)) ((bD Λ [] []).map λ e=>⟨e.s,e.T,e.H,Rg.last e⟩) a w→Q .normal a w)
  (hk:Rg.chk ⟨ops,N,Γ,bD Λ [] [],sp,λ i=>List.range i⟩=true:=by kernel_rfl) (hsrc:src.all (okS ⟨ops,N,Γ,bD Λ [] [],sp,λ i=>List.range i⟩)=true:=by kernel_rfl):∀ a w,St B w0 N Γ Λ a w→(Code.region id ops false).wp P Q a w:=λ _ _ h =>
 rY src h hob rfl hk hsrc hQ
theorem ztA {P:Program}{x y:Code}{Q Q2:Exit→Act→World→Prop}{H:Act→World→Prop}(h:∀ a w,H a w→x.wp P (Exit.then (y.wp P Q) Q) a w):∀ a w,H a w→Exit.then ((Code.seq x y).wp P Q) Q2 .normal a w:=λ a w u=>wp_seq (h a w u)
theorem znA {K:Act→World→Prop}{Q:Exit→Act→World→Prop}{H:Act→World→Prop}(h:∀ a w,H a w→K a w):∀ a w,H a w→Exit.then K Q .normal a w:=λ a w u=>aa (h a w u)
theorem zsA {P:Program}{x y:Code}{Q:Exit→Act→World→Prop}{H:Act→World→Prop}(h:∀ a w,H a w→x.wp P (Exit.then (y.wp P Q) Q) a w):∀ a w,H a w→(Code.seq x y).wp P Q a w:=λ a w u=>wp_seq (h a w u)
theorem zgd {id:Nat}{ops:Array Oper}(anc:List (List Nat))(sts:List (Option (Nat × As)))(news:List Le)(sp:List Sp)(src:List Src)(hm:P.follows .mixedOrders=true)(h:St B w0 N Γ Λ a w)
  (hob:Obs P Q ⟨ops,N,Γ,bD Λ sts news,sp,λ i=>anc.getD i []⟩ B w0 0 ops.size)
  (hn:news.all (λ e=>e.cr.isSome)=true) (hanc:Rg.ancOk ⟨ops,N,Γ,bD Λ sts news,sp,λ i=>anc.getD i []⟩=true) (hk:Rg.chk ⟨ops,N,Γ,bD Λ sts news,sp,λ i=>anc.getD i []⟩=true) (hsrc:src.all (okS ⟨ops,N,Γ,bD Λ sts news,sp,λ i=>anc.getD i []⟩)=true)
  (hQ:∀ a w,St B w0 N (src.filterMap (cC ⟨ops,N,Γ,bD Λ sts news,sp,λ i=>anc.getD i []⟩)) ((bD Λ sts news).map λ e=>⟨e.s,e.T,e.H,Rg.last e⟩) a w→Q .normal a w):(Code.region id ops true).wp P Q a w :=
 lp anc src hm h hob hn hanc hk hsrc hQ
end
theorem G {α:Sort _}{a:α}:a=a:=rfl
abbrev O (s T:Nat)(A:As):Lc:=⟨s,T,ptrH,A⟩
abbrev zpH (s T:Nat){n c:Nat}(A:As):Lc:=⟨s,T,slH n c,A⟩
abbrev zpL (s T k:Nat)(A:As):Le:=⟨s,T,ptrH,some k,A,none⟩
abbrev Wm:=@List.range
abbrev W6 (n:Nat){A0 A1:VA}(l:List Sp:=[]):List Sp:=.v n A0::.v (n+1) A1::l
abbrev Wb (n:Nat){A0 A1 A2:VA}(l:List Sp:=[]):List Sp:=.v n A0::.v (n+1) A1::.v (n+2) A2::l
abbrev Ww (n:Nat){A0 A1 A2 A3:VA}(l:List Sp:=[]):List Sp:=.v n A0::.v (n+1) A1::.v (n+2) A2::.v (n+3) A3::l
abbrev Wd (n:Nat){A0 A1 A2 A3 A4:VA}(l:List Sp:=[]):List Sp:=.v n A0::.v (n+1) A1::.v (n+2) A2::.v (n+3) A3::.v (n+4) A4::l
abbrev Wl (n:Nat){A0 A1 A2 A3 A4 A5:VA}(l:List Sp:=[]):List Sp:=.v n A0::.v (n+1) A1::.v (n+2) A2::.v (n+3) A3::.v (n+4) A4::.v (n+5) A5::l
abbrev WG (n:Nat){A0 A1 A2 A3 A4 A5 A6:VA}(l:List Sp:=[]):List Sp:=.v n A0::.v (n+1) A1::.v (n+2) A2::.v (n+3) A3::.v (n+4) A4::.v (n+5) A5::.v (n+6) A6::l
abbrev W9 (n:Nat){A0 A1 A2 A3 A4 A5 A6 A7:VA}(l:List Sp:=[]):List Sp:=.v n A0::.v (n+1) A1::.v (n+2) A2::.v (n+3) A3::.v (n+4) A4::.v (n+5) A5::.v (n+6) A6::.v (n+7) A7::l
abbrev Wo (n:Nat){A0 A1 A2 A3 A4 A5 A6 A7 A8:VA}(l:List Sp:=[]):List Sp:=.v n A0::.v (n+1) A1::.v (n+2) A2::.v (n+3) A3::.v (n+4) A4::.v (n+5) A5::.v (n+6) A6::.v (n+7) A7::.v (n+8) A8::l
abbrev Wn (n:Nat){A0 A1 A2 A3 A4 A5 A6 A7 A8 A9:VA}(l:List Sp:=[]):List Sp:=.v n A0::.v (n+1) A1::.v (n+2) A2::.v (n+3) A3::.v (n+4) A4::.v (n+5) A5::.v (n+6) A6::.v (n+7) A7::.v (n+8) A8::.v (n+9) A9::l
abbrev WM (n:Nat){A0 A1 A2 A3 A4 A5 A6 A7 A8 A9 A10:VA}(l:List Sp:=[]):List Sp:=.v n A0::.v (n+1) A1::.v (n+2) A2::.v (n+3) A3::.v (n+4) A4::.v (n+5) A5::.v (n+6) A6::.v (n+7) A7::.v (n+8) A8::.v (n+9) A9::.v (n+10) A10::l
abbrev Wg (n:Nat){A0 A1 A2 A3 A4 A5 A6 A7 A8 A9 A10 A11:VA}(l:List Sp:=[]):List Sp:=.v n A0::.v (n+1) A1::.v (n+2) A2::.v (n+3) A3::.v (n+4) A4::.v (n+5) A5::.v (n+6) A6::.v (n+7) A7::.v (n+8) A8::.v (n+9) A9::.v (n+10) A10::.v (n+11) A11::l
abbrev WH (n:Nat){A0 A1 A2 A3 A4 A5 A6 A7 A8 A9 A10 A11 A12 A13 A14:VA}(l:List Sp:=[]):List Sp:=.v n A0::.v (n+1) A1::.v (n+2) A2::.v (n+3) A3::.v (n+4) A4::.v (n+5) A5::.v (n+6) A6::.v (n+7) A7::.v (n+8) A8::.v (n+9) A9::.v (n+10) A10::.v (n+11) A11::.v (n+12) A12::.v (n+13) A13::.v (n+14) A14::l
abbrev We (l:List Src:=[]):List Src:=.g 0::.g 1::l
abbrev W7 (l:List Src:=[]):List Src:=.g 0::.g 1::.g 2::l
abbrev Wp (l:List Src:=[]):List Src:=.g 0::.g 1::.g 2::.g 3::l
abbrev Wi (l:List Src:=[]):List Src:=.g 0::.g 1::.g 2::.g 3::.g 4::l
abbrev Wq (l:List Src:=[]):List Src:=.g 0::.g 1::.g 2::.g 3::.g 4::.g 5::l
abbrev Wx (l:List Src:=[]):List Src:=.g 0::.g 1::.g 2::.g 3::.g 4::.g 5::.g 6::l
abbrev WE (l:List Src:=[]):List Src:=.g 0::.g 1::.g 2::.g 3::.g 4::.g 5::.g 6::.g 7::l
abbrev WD (l:List Src:=[]):List Src:=.g 0::.g 1::.g 2::.g 3::.g 4::.g 5::.g 6::.g 7::.g 8::l
abbrev WA (l:List Src:=[]):List Src:=.g 0::.g 1::.g 2::.g 3::.g 4::.g 5::.g 6::.g 7::.g 8::.g 9::l
abbrev WL (l:List Src:=[]):List Src:=.g 0::.g 1::.g 2::.g 3::.g 4::.g 5::.g 6::.g 7::.g 8::.g 9::.g 10::l
abbrev WI (l:List Src:=[]):List Src:=.g 0::.g 1::.g 2::.g 3::.g 4::.g 5::.g 6::.g 7::.g 8::.g 9::.g 10::.g 11::l
abbrev WN (l:List Src:=[]):List Src:=.g 0::.g 1::.g 2::.g 3::.g 4::.g 5::.g 6::.g 7::.g 8::.g 9::.g 10::.g 11::.g 12::l
abbrev WO (l:List Src:=[]):List Src:=.g 0::.g 1::.g 2::.g 3::.g 4::.g 5::.g 6::.g 7::.g 8::.g 9::.g 10::.g 11::.g 12::.g 13::l
abbrev Wc (n0 n1:Nat){A0 A1:VA}:List (Nat × VA):=[(n0,A0),(n1,A1)]
abbrev Wa (n0 n1 n2:Nat){A0 A1 A2:VA}:List (Nat × VA):=[(n0,A0),(n1,A1),(n2,A2)]
abbrev Wf (n0 n1 n2 n3:Nat){A0 A1 A2 A3:VA}:List (Nat × VA):=[(n0,A0),(n1,A1),(n2,A2),(n3,A3)]
abbrev W8 (n0 n1 n2 n3 n4:Nat){A0 A1 A2 A3 A4:VA}:List (Nat × VA):=[(n0,A0),(n1,A1),(n2,A2),(n3,A3),(n4,A4)]
abbrev Wj (n0 n1 n2 n3 n4 n5:Nat){A0 A1 A2 A3 A4 A5:VA}:List (Nat × VA):=[(n0,A0),(n1,A1),(n2,A2),(n3,A3),(n4,A4),(n5,A5)]
abbrev Wu (n0 n1 n2 n3 n4 n5 n6:Nat){A0 A1 A2 A3 A4 A5 A6:VA}:List (Nat × VA):=[(n0,A0),(n1,A1),(n2,A2),(n3,A3),(n4,A4),(n5,A5),(n6,A6)]
abbrev Wy (n0 n1 n2 n3 n4 n5 n6 n7:Nat){A0 A1 A2 A3 A4 A5 A6 A7:VA}:List (Nat × VA):=[(n0,A0),(n1,A1),(n2,A2),(n3,A3),(n4,A4),(n5,A5),(n6,A6),(n7,A7)]
abbrev WF (n0 n1 n2 n3 n4 n5 n6 n7 n8:Nat){A0 A1 A2 A3 A4 A5 A6 A7 A8:VA}:List (Nat × VA):=[(n0,A0),(n1,A1),(n2,A2),(n3,A3),(n4,A4),(n5,A5),(n6,A6),(n7,A7),(n8,A8)]
abbrev Wz (n0 n1 n2 n3 n4 n5 n6 n7 n8 n9:Nat){A0 A1 A2 A3 A4 A5 A6 A7 A8 A9:VA}:List (Nat × VA):=[(n0,A0),(n1,A1),(n2,A2),(n3,A3),(n4,A4),(n5,A5),(n6,A6),(n7,A7),(n8,A8),(n9,A9)]
abbrev WB (n0 n1 n2 n3 n4 n5 n6 n7 n8 n9 n10:Nat){A0 A1 A2 A3 A4 A5 A6 A7 A8 A9 A10:VA}:List (Nat × VA):=[(n0,A0),(n1,A1),(n2,A2),(n3,A3),(n4,A4),(n5,A5),(n6,A6),(n7,A7),(n8,A8),(n9,A9),(n10,A10)]
abbrev WC (n0 n1 n2 n3 n4 n5 n6 n7 n8 n9 n10 n11:Nat){A0 A1 A2 A3 A4 A5 A6 A7 A8 A9 A10 A11:VA}:List (Nat × VA):=[(n0,A0),(n1,A1),(n2,A2),(n3,A3),(n4,A4),(n5,A5),(n6,A6),(n7,A7),(n8,A8),(n9,A9),(n10,A10),(n11,A11)]
abbrev WJ (n0 n1 n2 n3 n4 n5 n6 n7 n8 n9 n10 n11 n12:Nat){A0 A1 A2 A3 A4 A5 A6 A7 A8 A9 A10 A11 A12:VA}:List (Nat × VA):=[(n0,A0),(n1,A1),(n2,A2),(n3,A3),(n4,A4),(n5,A5),(n6,A6),(n7,A7),(n8,A8),(n9,A9),(n10,A10),(n11,A11),(n12,A12)]
abbrev WK (n0 n1 n2 n3 n4 n5 n6 n7 n8 n9 n10 n11 n12 n13:Nat){A0 A1 A2 A3 A4 A5 A6 A7 A8 A9 A10 A11 A12 A13:VA}:List (Nat × VA):=[(n0,A0),(n1,A1),(n2,A2),(n3,A3),(n4,A4),(n5,A5),(n6,A6),(n7,A7),(n8,A8),(n9,A9),(n10,A10),(n11,A11),(n12,A12),(n13,A13)]
abbrev WP (n0 n1 n2 n3 n4 n5 n6 n7 n8 n9 n10 n11 n12 n13 n14 n15:Nat){A0 A1 A2 A3 A4 A5 A6 A7 A8 A9 A10 A11 A12 A13 A14 A15:VA}:List (Nat × VA):=[(n0,A0),(n1,A1),(n2,A2),(n3,A3),(n4,A4),(n5,A5),(n6,A6),(n7,A7),(n8,A8),(n9,A9),(n10,A10),(n11,A11),(n12,A12),(n13,A13),(n14,A14),(n15,A15)]
abbrev Un {A0 A1 A2:As}:List Lc:=[O 2 26 A0,O 3 26 A1,O 4 26 A2]
abbrev WZ:List Src:=[.g 0,.g 1,.g 2,.o 0]
abbrev Rl {A0 A1:VA}:List (Nat × VA):=[(0,A0),(2,A1)]
abbrev WS:List Src:=[.g 0,.g 1,.o 0]
abbrev WT {A0 A1 A2:VA}:List (Nat × VA):=[(0,A0),(1,A1),(4,A2)]
abbrev UA {A0:VA}:List Sp:=[.v 2 A0]
abbrev U4:List (Option (Nat × As)):=[none]
abbrev UD {A0 A1:As}:List Lc:=[O 2 26 A0,O 3 26 A1]
abbrev RU {A0:As}:List Lc:=[O 0 60 A0]
abbrev Ux {A0:VA}:List (Nat × VA):=[(2,A0)]
abbrev UQ:List (List Nat):=[[],[0],[],[2],[],[4],[2,3,4,5],[0,1,2,3,4,5,6],[0,1,2,3,4,5,6,7]]
abbrev WR {A0:VA}:List Sp:=[.v 4 A0]
abbrev U6:List (Option (Nat × As)):=[η]
abbrev UF:List (Option (Nat × As)):=[none,none]
abbrev RA:List (List Nat):=[[],[0],[],[2],[0,1,2,3],[],[5],[],[7],[0,1,2,3,4,5,6,7,8],[0,1,2,3,4,5,6,7,8,9],[0,1,2,3,4,5,6,7,8,9,10]]
abbrev U1:List Src:=[.g 0,.g 1,.o 2]
abbrev U3 {A0:VA}:List (Nat × VA):=[(4,A0)]
abbrev Uo:List (Option (Nat × As)):=[none,none,none]
abbrev S9 {A0:As}:List Lc:=[O 2 30 A0]
abbrev Um:List Sp:=[.alc 0,.alc 1,.alc 2]
abbrev Rk:List Src:=[.g 0,.o 0]
abbrev Sw {A0 A1 A2:As}:List Lc:=[O 2 30 A0,O 4 89 A1,O 8 89 A2]
abbrev WW {A0 A1 A2 A3:VA}:List (Nat × VA):=[(0,A0),(1,A1),(4,A2),(5,A3)]
abbrev S7 {A0:As}:List Lc:=[O 1 30 A0]
abbrev Rz {A0 A1 A2:As}:List Lc:=[O 2 28 A0,O 3 28 A1,O 4 28 A2]
abbrev Sb {A0 A1 A2:As}:List Lc:=[O 2 76 A0,O 3 124 A1,O 4 124 A2]
abbrev Ul {A0 A1 A2:As}:List Le:=[zpL 2 26 0 A0,zpL 3 26 1 A1,zpL 4 26 2 A2]
abbrev Rh:List Src:=[.g 0,.g 1,.g 2,.g 3,.o 1]
abbrev WV:List Src:=[.g 0,.g 1,.g 2,.o 3]
abbrev UC {A0:VA}:List Sp:=[.alc 0,.alc 1,.v 4 A0]
abbrev US:List (Option (Nat × As)):=[η,η,η]
abbrev Rp {A0 A1 A2 A3:As}:List Lc:=[O 2 26 A0,O 3 26 A1,O 4 26 A2,O 5 26 A3]
abbrev UI:List Src:=[.g 0,.g 1,.o 1]
abbrev WY:List (List Nat):=[[],[],[0,1],[0,1,2],[],[],[4,5],[4,5,6],[0,1,2,3,4,5,6,7]]
abbrev UH:List (Option (Nat × As)):=[η,η]
abbrev Uv {A0:VA}:List Sp:=[.alc 0,.v 2 A0]
abbrev U2:List Src:=[.o 0]
abbrev Ui:List Src:=[.g 0,.o 2]
abbrev Uy {A0:As}:List Lc:=[O 1 26 A0]
abbrev UU:List Sp:=[.alc 0,.alc 1]
abbrev RD {A0 A1:As}:List Lc:=[O 1 28 A0,O 2 28 A1]
abbrev Ry {A0 A1 A2:As}:List Le:=[zpL 2 28 0 A0,zpL 3 28 1 A1,zpL 4 28 2 A2]
abbrev Ut:List Src:=[.g 0,.g 1,.g 2,.g 3,.o 0]
abbrev U7:List Src:=[.g 0,.g 1,.g 2,.g 3,.g 4,.o 0]
abbrev U8:List Src:=[.g 0,.g 1,.g 2,.g 3,.g 4,.o 1]
abbrev S4 {A0:As}:List Lc:=[O 1 76 A0]
abbrev Ru {A0 A1 A2 A3:As}:List Lc:=[O 2 26 A0,O 3 26 A1,O 4 28 A2,O 5 26 A3]
abbrev WX:List Src:=[.g 0,.g 1,.g 2,.o 1]
abbrev Sn {A0 A1 A2 A3 A4 A5 A6 A7:As}:List Lc:=[O 2 26 A0,O 3 26 A1,O 4 28 A2,O 5 26 A3,O 6 26 A4,O 7 26 A5,O 8 26 A6,O 9 26 A7]
abbrev Sg {A0 A1 A2:As}:List Lc:=[O 2 30 A0,O 4 3 A1,O 5 103 A2]
abbrev UG:List Src:=[.g 0,.g 1,.g 2,.o 2]
abbrev Uh {A0:As}:List Lc:=[O 4 26 A0]
abbrev Ug {A0 A1:VA}:List (Nat × VA):=[(0,A0),(1,A1)]
abbrev RW {A0 A1:As}:List Lc:=[O 0 60 A0,O 3 137 A1]
abbrev RZ:List Src:=[.g 0,.g 1,.g 2,.g 3,.o 2]
abbrev S1 {A0 A1:As}:List Lc:=[O 0 60 A0,O 3 135 A1]
abbrev RT:List (List Nat):=[[],[0],[0,1],[],[3],[0,1,2,3,4],[0,1,2,3,4,5],[0,1,2,3,4,5,6]]
abbrev Sm:List (List Nat):=[[],[],[0,1],[0,1,2],[],[],[4,5],[4,5,6],[0,1,2,3,4,5,6,7],[0,1,2,3,4,5,6,7,8]]
abbrev Sv {A0 A1 A2:As}:List Lc:=[O 2 30 A0,O 4 89 A1,O 5 124 A2]
abbrev Rq {A0 A1 A2 A3 A4:As}:List Lc:=[O 2 26 A0,O 3 26 A1,O 4 26 A2,O 5 26 A3,O 6 26 A4]
abbrev Ud:List Src:=[.o 2]
abbrev Sx {A0 A1:As}:List Lc:=[O 2 89 A0,O 3 89 A1]
abbrev U0 {A0 A1 A2 A3:VA}:List (Nat × VA):=[(0,A0),(1,A1),(5,A2),(4,A3)]
abbrev Su {A0 A1:As}:List Lc:=[O 1 76 A0,O 2 131 A1]
abbrev UZ {A0 A1 A2 A3 A4:VA}:List (Nat × VA):=[(0,A0),(1,A1),(4,A2),(5,A3),(6,A4)]
abbrev RC {A0 A1:As}:List Le:=[zpL 1 28 0 A0,zpL 2 28 1 A1]
abbrev WU:List Src:=[.g 0,.g 1,.g 2,.o 4]
abbrev Uw:List Src:=[.o 1]
abbrev Uf:List Sp:=[.alc 0]
abbrev UR {A0:As}:List (Option (Nat × As)):=[none,none,some (8,A0)]
abbrev UO {A0 A1:VA}:List (Nat × VA):=[(0,A0),(3,A1)]
abbrev UN {A0:As}:List Lc:=[O 2 26 A0]
abbrev RN {A0:As}:List Lc:=[O 1 28 A0]
abbrev S3 {A0 A1:As}:List Lc:=[O 2 26 A0,O 4 26 A1]
abbrev UV {A0 A1:As}:List Lc:=[O 1 26 A0,O 2 26 A1]
abbrev Rm {A0 A1 A2:VA}:List (Nat × VA):=[(0,A0),(2,A1),(4,A2)]
abbrev RK {A0 A1:As}:List Lc:=[O 2 28 A0,O 3 28 A1]
abbrev Sq {A0 A1 A2:VA}:List (Nat × VA):=[(1,A0),(4,A1),(5,A2)]
abbrev Sd {A0:As}:List Lc:=[O 3 30 A0]
abbrev Uq:List (Option (Nat × As)):=[none,none,none,none]
abbrev Rt {A0 A1 A2:As}:List Lc:=[O 2 26 A0,O 3 26 A1,O 4 28 A2]
abbrev Ua:List Src:=[.g 0,.g 1,.g 3,.g 4,.o 14]
abbrev UB {A0 A1:As}:List Le:=[zpL 2 26 0 A0,zpL 3 26 1 A1]
abbrev Ub:List Src:=[.g 0,.g 1,.g 2,.g 4,.o 1]
abbrev Rj:List Src:=[.g 0,.o 1]
abbrev Rx {A0:As}:List Lc:=[O 4 28 A0]
abbrev Sf {A0 A1:As}:List Lc:=[O 9 82 A0,O 10 82 A1]
abbrev U5 {A0:VA}:List Sp:=[.v 6 A0]
abbrev UY {A0:VA}:List Sp:=[.v 5 A0]
abbrev Sa {A0 A1:As}:List Lc:=[O 2 82 A0,O 3 82 A1]
abbrev Uz:List Src:=[.g 0,.o 4]
abbrev UW:List (List Nat):=[[],[],[0,1],[0,1,2]]
abbrev Ri:List Src:=[.g 0,.g 1,.g 3,.o 2]
abbrev UE:List (List Nat):=[[],[0],[],[0,1,2],[0,1,2,3],[0,1,2,3,4]]
abbrev Rr {A0 A1 A2:As}:List Le:=[zpL 2 26 0 A0,zpL 3 26 1 A1,zpL 4 28 2 A2]
abbrev RB {A0:As}:List (Option (Nat × As)):=[none,none,some (11,A0)]
abbrev WQ:List Src:=[.g 1,.g 2,.o 2]
abbrev UM {A0:VA}:List (Nat × VA):=[(0,A0)]
abbrev RH {A0 A1 A2:As}:List Lc:=[O 1 28 A0,O 2 28 A1,O 3 26 A2]
abbrev RV:List Src:=[.g 0,.g 1,.o 6]
abbrev S8 {A0:As}:List Le:=[zpL 2 30 0 A0]
abbrev UJ:List Src:=[.o 3]
abbrev UT {A0 A1:As}:List Le:=[zpL 1 26 0 A0,zpL 2 26 1 A1]
abbrev RJ {A0 A1:As}:List Le:=[zpL 2 28 0 A0,zpL 3 28 1 A1]
abbrev Ro:List Src:=[.g 0,.g 1,.o 0,.o 1]
abbrev S0 {A0:VA}:List Sp:=[.alc 0,.v 4 A0]
abbrev UL:List Src:=[.g 0]
abbrev Rw {A0:As}:List Lc:=[O 0 28 A0]
abbrev Us:List (Option (Nat × As)):=[η,η,η,η]
abbrev Uu {A0:As}:List Le:=[zpL 1 26 0 A0]
abbrev RL {A0:As}:List Le:=[zpL 1 28 0 A0]
abbrev Uj {A0:As}:List (Option (Nat × As)):=[some (1,A0)]
abbrev Uk {A0:VA}:List Sp:=[.v 10 A0,.sto 0]
abbrev Sh {A0 A1:As}:List Lc:=[O 4 3 A0,O 5 103 A1]
abbrev Sk {A0 A1:As}:List Lc:=[O 2 98 A0,O 5 82 A1]
abbrev Sr {A0 A1:As}:List Lc:=[O 1 28 A0,O 2 76 A1]
abbrev U9 {A0:As}:List (Option (Nat × As)):=[some (13,A0)]
abbrev RP {A0:VA}:List (Nat × VA):=[(3,A0)]
abbrev UP:List Src:=[.o 4]
abbrev Rn:List Src:=[.g 1,.o 2]
abbrev RO:List Src:=[.g 1,.o 1]
abbrev Se {A0 A1 A2:As}:List Lc:=[O 3 30 A0,O 9 82 A1,O 10 82 A2]
abbrev UX {A0:As}:List (Option (Nat × As)):=[none,some (3,A0)]
abbrev RY {A0:As}:List (Option (Nat × As)):=[none,some (6,A0)]
abbrev Uc {A0:As}:List (Option (Nat × As)):=[some (5,A0)]
abbrev Ue {A0:As}:List Le:=[zpL 4 26 0 A0]
abbrev Ur:List Src:=[.g 1,.o 0,.o 1,.o 2]
abbrev Sj {A0 A1 A2:As}:List Lc:=[O 1 30 A0,O 2 98 A1,O 5 82 A2]
abbrev Ss {A0 A1:As}:List Lc:=[O 1 28 A0,O 2 131 A1]
abbrev RX {A0:As}:List Lc:=[O 4 137 A0]
abbrev S2 {A0:As}:List Lc:=[O 4 135 A0]
abbrev S5 {A0 A1:As}:List Lc:=[O 2 76 A0,O 3 76 A1]
abbrev Sc {A0 A1:As}:List Lc:=[O 1 30 A0,O 4 28 A1]
abbrev Si {A0 A1:As}:List Lc:=[O 1 30 A0,O 2 98 A1]
abbrev So {A0 A1:As}:List Lc:=[O 1 28 A0,O 3 26 A1]
abbrev UK {A0:As}:List Le:=[zpL 2 26 0 A0]
abbrev Rv {A0:As}:List Le:=[zpL 0 28 0 A0]
abbrev S6 {A0:As}:List Le:=[zpL 1 30 0 A0]
abbrev RS:List Src:=[.g 0,.o 3]
end Go.Proofs.YtbghmmnkciimdaaGreatDoor
