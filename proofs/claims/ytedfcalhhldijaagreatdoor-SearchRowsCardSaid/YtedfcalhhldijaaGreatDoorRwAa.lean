import Derived.KernelRfl
set_option linter.all false
set_option maxRecDepth 100000
namespace Go.Proofs.YtedfcalhhldijaaGreatDoor
theorem zk {p : Prop} (h : p := by kernel_rfl) : p := h
theorem zo {p : Prop} (h : p := by omega) : p := h
theorem zd {p : Prop} (h : p := by decide) : p := h
theorem zm {α : Type _} {l : List α} {a : α} (i : Nat) (h : l[i]? = some a) : a ∈ l := List.mem_of_getElem? h
end Go.Proofs.YtedfcalhhldijaaGreatDoor
namespace Go.Proofs.YtedfcalhhldijaaGreatDoor
def val:List Nat→Nat
 | []=>0
 | x::xs=>x+4294967296*val xs
def okL (l:List Nat):Prop:=∀ x∈l,x<4294967296
@[simp] theorem oM:val []=0:=rfl
@[simp] theorem cG (x:Nat) (xs:List Nat):val (x::xs)=x+4294967296*val xs:=rfl
theorem cI:okL []:=λ _ h=>by cases h
theorem okL_cons {x:Nat}{xs:List Nat}:okL (x::xs)↔x<4294967296∧okL xs:=by simp [okL]
theorem okL_append {l m:List Nat}:okL (l++m)↔okL l∧okL m:=by
 simp only [okL,List.mem_append]
 exact ⟨λ h=>⟨λ x hx=>h x (.inl hx),λ x hx=>h x (.inr hx)⟩,λ h x hx=>hx.elim (h.1 x) (h.2 x)⟩
theorem gp (l m:List Nat):val (l++m)=val l+4294967296^l.length*val m:=by
 induction l with
 | nil=>simp
 | cons x xs ih=>simp only [List.cons_append,cG,ih,List.length_cons,Nat.pow_succ,Nat.mul_add]; rw [← Nat.mul_assoc,Nat.mul_comm 4294967296 (_^_)]; omega
theorem eu {l:List Nat}(h:okL l):val l<4294967296^l.length:=by
 induction l with
 | nil=>simp
 | cons x xs ih =>
  have h':=okL_cons.1 h
  have:=ih h'.2
  simp only [cG,List.length_cons,Nat.pow_succ]
  omega
theorem ic (l:List Nat)(x:Nat):val (l++[x])=val l+4294967296^l.length*x:=by
 rw [gp]; simp
theorem nA (n:Nat):val (List.replicate n 0)=0:=by
 induction n with
 | zero=>rfl
 | succ n ih=>simp [List.replicate_succ,ih]
def Canon (l:List Nat):Prop:=okL l∧l.getLast?≠some 0
theorem ll:Canon []:=⟨cI,by simp⟩
theorem Canon.tail {x:Nat}{xs:List Nat}(h:Canon (x::xs)):Canon xs:=by
 refine ⟨(okL_cons.1 h.1).2,λ e=>h.2 ?_⟩
 cases xs with
 | nil=>simp at e
 | cons y ys=>simpa [List.getLast?_cons_cons] using e
theorem Canon.val_pos {l:List Nat}(h:Canon l)(hl:l≠[]):0<val l:=by
 induction l with
 | nil=>exact absurd rfl hl
 | cons x xs ih =>
  cases xs with
  | nil =>
   have:x≠0:=λ e=>h.2 (by simp [e])
   simp only [cG,oM]; omega
  | cons y ys=>have:=ih h.tail (by simp); simp only [cG] at *; omega
theorem yT {l m:List Nat}(hl:Canon l)(hm:Canon m)(h:val l=val m):l=m:=by
 induction l generalizing m with
 | nil =>
  cases m with
  | nil=>rfl
  | cons y ys=>have:=hm.val_pos (by simp); simp only [oM] at h; omega
 | cons x xs ih =>
  cases m with
  | nil=>have:=hl.val_pos (by simp); simp only [oM] at h; omega
  | cons y ys =>
   have hx:=(okL_cons.1 hl.1).1
   have hy:=(okL_cons.1 hm.1).1
   simp only [cG] at h
   have e1:x=y:=by omega
   have e2:val xs=val ys:=by omega
   rw [e1,ih hl.tail hm.tail e2]
def limbs (n:Nat):List Nat:=if h:n=0 then [] else n%4294967296::limbs (n/4294967296)
termination_by n
decreasing_by omega
theorem bt:limbs 0=[]:=by rw [limbs]; simp
theorem cK {n:Nat}(h:n≠0):limbs n=n%4294967296::limbs (n/4294967296):=by rw [limbs]; simp [h]
theorem aH (n:Nat):val (limbs n)=n:=by
 induction n using Nat.strongRecOn with
 | _ n ih =>
  by_cases h:n=0
  ·subst h; rw [bt]; rfl
  ·rw [cK h,cG,ih _ zo]; omega
theorem bi (n:Nat):Canon (limbs n):=by
 induction n using Nat.strongRecOn with
 | _ n ih =>
  by_cases h:n=0
  ·subst h; rw [bt]; exact ll
  ·rw [cK h]
   have h1:=ih (n/4294967296) zo
   refine ⟨okL_cons.2 ⟨by omega,h1.1⟩,λ e=>?_⟩
   by_cases h2:n/4294967296=0
   ·rw [h2,bt] at e; simp at e; omega
   ·rw [cK h2] at e h1; rw [List.getLast?_cons_cons] at e; exact h1.2 e
theorem o3 {l:List Nat}(h:Canon l):limbs (val l)=l:=yT (bi _) h (aH _)
theorem dC {n k:Nat}(h:n<4294967296^k):(limbs n).length≤k:=by
 induction k generalizing n with
 | zero =>
  have:n=0:=by simpa using h
  subst this; rw [bt]; simp
 | succ k ih =>
  by_cases h0:n=0
  ·subst h0; rw [bt]; simp
  ·rw [cK h0]
   have:=ih (n:=n/4294967296) (by rw [Nat.pow_succ] at h; exact Nat.div_lt_of_lt_mul (by rw [Nat.mul_comm]; exact h))
   simp; omega
theorem bZ {n k:Nat}(h:(limbs n).length≤k):n<4294967296^k:=by
 have:=eu (bi n).1
 rw [aH] at this
 exact Nat.lt_of_lt_of_le this (Nat.pow_le_pow_right zo h)
theorem Canon.lt_val {l:List Nat}(h:Canon l)(hl:l≠[]):4294967296^(l.length-1)≤val l:=by
 induction l with
 | nil=>exact absurd rfl hl
 | cons x xs ih =>
  cases xs with
  | nil=>have:=h.val_pos hl; simp at *; omega
  | cons y ys =>
   have:=ih h.tail (by simp)
   simp only [List.length_cons,Nat.add_sub_cancel,Nat.pow_succ] at *
   rw [cG]
   omega
def trimL:List Nat→List Nat
 | []=>[]
 | x::xs=>match trimL xs with
  | []=>if x=0 then [] else [x]
  | y::ys=>x::y::ys
theorem nB (l:List Nat):val (trimL l)=val l:=by
 induction l with
 | nil=>rfl
 | cons x xs ih =>
  unfold trimL
  cases h:trimL xs with
  | nil=>rw [h] at ih; by_cases hx:x=0 <;> simp [hx] at ih ⊢ <;> omega
  | cons y ys=>rw [h] at ih; simp only [cG] at ih ⊢; omega
theorem pX {l:List Nat}(h:okL l):Canon (trimL l):=by
 induction l with
 | nil=>exact ll
 | cons x xs ih =>
  have h':=okL_cons.1 h
  have i:=ih h'.2
  unfold trimL
  cases hh:trimL xs with
  | nil =>
   by_cases hx:x=0
   ·simp [hx]; exact ll
   ·simp only [hx,if_false]; exact ⟨okL_cons.2 ⟨h'.1,cI⟩,by simpa using hx⟩
  | cons y ys =>
   rw [hh] at i
   exact ⟨okL_cons.2 ⟨h'.1,i.1⟩,by rw [List.getLast?_cons_cons]; exact i.2⟩
theorem cW {l:List Nat}(h:okL l):trimL l=limbs (val l):=by
 rw [← nB]; exact (o3 (pX h)).symm
theorem gr (l:List Nat):trimL l=l.take (trimL l).length:=by
 induction l with
 | nil=>rfl
 | cons x xs ih =>
  unfold trimL
  cases hh:trimL xs with
  | nil=>by_cases hx:x=0 <;> simp [hx]
  | cons y ys=>rw [hh] at ih; simp only [List.length_cons,List.take_succ_cons] at ih ⊢; rw [← ih]
theorem ue (l:List Nat):(trimL l).length≤l.length:=by
 rw [gr]; simp; omega
theorem iD (l:List Nat):trimL (l++[0])=trimL l:=by
 induction l with
 | nil=>simp [trimL]
 | cons x xs ih=>simp only [List.cons_append,trimL,ih]
theorem lB (l:List Nat){x:Nat}(hx:x≠0):trimL (l++[x])=l++[x]:=by
 induction l with
 | nil=>simp [trimL,hx]
 | cons y ys ih =>
  simp only [List.cons_append,trimL,ih]
  cases h:ys++[x] with
  | nil=>simp at h
  | cons a b=>rfl
def digs:Nat→Nat→List Nat
 | 0,_=>[]
 | n+1,m=>m%4294967296::digs n (m/4294967296)
theorem az (n m:Nat):(digs n m).length=n:=by
 induction n generalizing m with
 | zero=>rfl
 | succ n ih=>simp [digs,ih]
theorem bI (n m:Nat):okL (digs n m):=by
 induction n generalizing m with
 | zero=>exact cI
 | succ n ih=>exact okL_cons.2 ⟨Nat.mod_lt _ zo,ih _⟩
theorem dh (n m:Nat):val (digs n m)=m%4294967296^n:=by
 induction n generalizing m with
 | zero=>simp [digs,Nat.mod_one]
 | succ n ih =>
  rw [digs,cG,ih,Nat.pow_succ,Nat.mul_comm (4294967296^n),Nat.mod_mul]
theorem ga (n m:Nat):digs (n+1) m=digs n m++[m/4294967296^n%4294967296]:=by
 induction n generalizing m with
 | zero=>simp [digs]
 | succ n ih =>
  rw [digs,ih]
  simp only [digs,List.cons_append]
  rw [Nat.div_div_eq_div_mul,Nat.pow_succ,Nat.mul_comm 4294967296]
theorem fb {n m m':Nat}(h:m%4294967296^n=m'%4294967296^n):digs n m=digs n m':=by
 induction n generalizing m m' with
 | zero=>rfl
 | succ n ih =>
  rw [Nat.pow_succ,Nat.mul_comm (4294967296^n),Nat.mod_mul,Nat.mod_mul] at h
  have e1:m%4294967296=m'%4294967296:=by omega
  have e2:m/4294967296%4294967296^n=m'/4294967296%4294967296^n:=by omega
  rw [digs,digs,e1,ih e2]
theorem Ck {l:List Nat}(h:okL l):digs l.length (val l)=l:=by
 induction l with
 | nil=>rfl
 | cons x xs ih =>
  have h':=okL_cons.1 h
  simp only [List.length_cons,digs,cG]
  have e1:(x+4294967296*val xs)%4294967296=x:=by omega
  have e2:(x+4294967296*val xs)/4294967296=val xs:=by omega
  rw [e1,e2,ih h'.2]
theorem lf {l:List Nat}{n m:Nat}(h:okL l)(hl:l.length=n)(hv:val l=m):l=digs n m:=by
 subst hl hv; exact (Ck h).symm
theorem gu {n m:Nat}(h:m<4294967296^n):trimL (digs n m)=limbs m:=by
 rw [cW (bI n m),dh,Nat.mod_eq_of_lt h]
theorem bx {l:List Nat}{i:Nat}(h:i<l.length):val (l.take (i+1))=val (l.take i)+4294967296^i*l[i]:=by
 rw [List.take_succ_eq_append_getElem h,ic,List.length_take,Nat.min_eq_left zo]
theorem cu {l:List Nat}(h:okL l)(i:Nat):val (l.take i)<4294967296^i:=by
 have h1:=eu (l:=l.take i) (λ x hx=>h x (List.mem_of_mem_take hx))
 exact Nat.lt_of_lt_of_le h1 (Nat.pow_le_pow_right zo (by simp; omega))
theorem nC {l:List Nat}{i:Nat}(h:i<l.length):val l=val (l.take i)+4294967296^i*(l[i]+4294967296*val (l.drop (i+1))):=by
 have e:l=l.take i++l[i]::l.drop (i+1):=by rw [List.getElem_cons_drop,List.take_append_drop]
 have:=gp (l.take i) (l[i]::l.drop (i+1))
 rw [← e,cG,List.length_take,Nat.min_eq_left zo] at this
 exact this
def sizeL (a b:List Nat):Int:=if a.length≠b.length then (a.length:Int)-b.length else if val a<val b then -1 else if val b<val a then 1 else 0
theorem rl {a b:List Nat}{i:Nat}(ha:okL a)(hi:i<a.length)(hj:i<b.length)(hd:a.drop (i+1)=b.drop (i+1))(hlt:a[i]<b[i]):val a<val b:=by
 rw [nC hi,nC hj,hd]
 have h1:=cu ha i
 have h2:4294967296^i*(a[i]+4294967296*val (b.drop (i+1)))+4294967296^i≤4294967296^i*(b[i]+4294967296*val (b.drop (i+1))):=by
  rw [← Nat.mul_succ]
  exact Nat.mul_le_mul_left _ zo
 omega
theorem gZ {a b:List Nat}{i:Nat}(hi:i<a.length)(hj:i<b.length)(hd:a.drop (i+1)=b.drop (i+1))(he:a[i]=b[i]):a.drop i=b.drop i:=by
 rw [List.drop_eq_getElem_cons hi,List.drop_eq_getElem_cons hj,hd,he]
def sumTo (a b:List Nat)(i:Nat):Nat:=val (a.take i)+val (b.take i)
theorem eO (a b:List Nat):sumTo a b 0=0:=rfl
theorem eP {a b:List Nat}{i:Nat}(hi:i<a.length):sumTo a b (i+1)=sumTo a b i+4294967296^i*(a[i]+b.getD i 0):=by
 unfold sumTo
 rw [bx hi]
 by_cases hb:i<b.length
 ·rw [bx hb,Nat.mul_add]
  simp [hb]
  omega
 ·rw [List.take_of_length_le (l:=b) (i:=i+1) zo,List.take_of_length_le (l:=b) (i:=i) zo]
  simp [hb]
  omega
theorem lW {s i d:Nat}:(s+4294967296^i*d)/4294967296^i=s/4294967296^i+d:=by
 rw [Nat.add_mul_div_left _ _ (Nat.pow_pos zo)]
theorem carry_step' {s i d:Nat}:(s+4294967296^i*d)/4294967296^(i+1)=(s/4294967296^i+d)/4294967296:=by
 rw [Nat.pow_succ,← Nat.div_div_eq_div_mul,lW]
theorem dw {s i d:Nat}:digs (i+1) (s+4294967296^i*d)=digs i s++[(s/4294967296^i+d)%4294967296]:=by
 rw [ga,lW]
 congr 1
 exact fb (by rw [Nat.add_mul_mod_self_left])
theorem en {a b:List Nat}(ha:okL a)(hb:okL b)(i:Nat):sumTo a b i/4294967296^i≤1:=by
 have h1:=cu ha i
 have h2:=cu hb i
 unfold sumTo
 have:(val (a.take i)+val (b.take i))/4294967296^i<2:=by
  rw [Nat.div_lt_iff_lt_mul (Nat.pow_pos zo)]
  omega
 omega
theorem nH {a b:List Nat}(h:b.length≤a.length):sumTo a b a.length=val a+val b:=by
 unfold sumTo
 rw [List.take_of_length_le (Nat.le_refl _),List.take_of_length_le h]
end Go.Proofs.YtedfcalhhldijaaGreatDoor
