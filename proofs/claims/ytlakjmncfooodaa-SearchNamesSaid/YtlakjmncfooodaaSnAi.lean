import Derived.Test.YtlakjmncfooodaaSnAh
set_option linter.all false
set_option maxRecDepth 100000
namespace Go.Proofs.Ytlakjmncfooodaa
open Go Go.RowKit
variable {w:World}{B:Nat}{a:Act}{v:Value}{T:TypeId}{w0:Bs}{Γ:List (Nat × VA)}{Λ:List Lc}{ps:String}{af:Array Edge}{vr:Value}{H:Hd}{cs:List Value}{w':World}{P:Program}{D:List TypeId}
theorem own_abs (p:Int):rsig false (riOf p).mag=riOf ((p.natAbs:Nat):Int):=bY (ok_ri p) (by rw [bk]; omega) λ _=>by simp
theorem lz_abs (p:Int):lz ((p.natAbs:Nat):Int)=lz p:=by simp [lz]
theorem len_nz {n:Nat}(h:decide (((riOf (n:Int)).mag.length:Int)>0)=true):0<n:=by
 rcases jM n with rfl | hp
 ·simp [riOf,bb] at h
 ·exact hp
theorem len_z {n:Nat}(h:decide (((riOf (n:Int)).mag.length:Int)>0)=false):n=0:=by
 rcases jM n with rfl | hp
 ·rfl
 ·have:=fo (q:=(n:Int)) zo
  have h':¬ (((riOf (n:Int)).mag.length:Int)>0):=qx h
  rw [cX] at h'
  omega
theorem lz_tmod {x n:Nat}(h:lz (n:Int)≤1099511627776)(hn:0<n):lz ((x%n:Nat):Int)≤1099511627776:=qe (d4 (by have:=qO x hn; omega)) h
theorem gcd_step {x n p:Nat}(h:Nat.gcd x n=p):Nat.gcd n (x%n)=p:=by rw [← h,Nat.gcd_comm n,Nat.gcd_comm x,Nat.gcd_rec n x]
theorem common_c (p q:Int)(hp:lz p≤1099511627776)(hq:lz q≤1099511627776):Cn Try.prog 51 [Zi p,Zi q] ((RIN (riOf ((Int.gcd p q:Nat):Int))).va):=by
 refine Cn.intro Try.func51 G zk nq (λ B w0 a U=>?_)
 have U:=zn [(0,Zi p),(1,Zi q)] [] U
 refine qb<|zg [] [⟨2,25,ptrH,some 0,_,none⟩,⟨3,25,ptrH,some 1,_,none⟩,⟨4,25,ptrH,some 2,_,none⟩] [.alc 0,.alc 1,.alc 2] [] U (zW 0 G (zW 1 G (zY G (Str.zero bS) o0))) (zz [] [O 2 25 _,O 3 25 _,O 4 25 _] λ a w U=>?_)
 refine zt<|zgd [[],[0],[0,1],[],[3],[0,1,2,3,4],[],[],[0,1,2,3,4,5,6,7],[0,1,2,3,4,5,6,7,8]] [none,none,none] [⟨5,25,ptrH,some 6,_,some (8,_)⟩,⟨6,25,ptrH,some 7,_,some (9,_)⟩] [.adr 9 2 (.some 1) True,.v 10 _,.v 11 _,.adr 12 3 (.some 1) True,.v 13 _,.v 14 _,.alc 3,.alc 4,.sto 3,.sto 4] [] a8 U (zO 0 G aq (zL 0 0 1 G bm (zQ G (own_c _ _ hp) (.cons aE (.o (vq 1 G))) (zO 1 G aq (zL 3 1 1 G bm (zQ G (own_c _ _ hq) (.cons aE (.o (vq 4 G))) (zY G (Str.zero bS) (zY G (Str.zero bS) (zS 2 G am (zS 5 G am o0)))))))))) zk zk zk zk (zz [] [O 2 25 _,O 3 25 _,O 4 25 _,O 5 25 _,O 6 25 _] λ a w U=>?_)
 refine zt<|qt ?_
 have U:=St.sel U []
 have U:=St.selL U [2,3,4]
 refine wp_loop_ghost (λ n a w=>∃ x:Nat,(Nat.gcd x n=Int.gcd p q∧lz (x:Int)≤1099511627776∧lz (n:Int)≤1099511627776)∧St B w0 28 [] [⟨4,25,ptrH,cat [BoA false,MgA []]⟩,⟨5,25,ptrH,RIN (riOf ((x:Nat):Int))⟩,⟨6,25,ptrH,RIN (riOf ((n:Nat):Int))⟩] a w) (q.natAbs) ?_ ?_
 ·exact ⟨p.natAbs,⟨rfl,by rw [lz_abs]; exact hp,by rw [lz_abs]; exact hq⟩,by rw [show rsig false (limbs p.natAbs)=_ from own_abs p,show rsig false (limbs q.natAbs)=_ from own_abs q] at U; exact U⟩
 intro n a w hI
 obtain ⟨x,⟨hg,hx,hn⟩,U⟩:=hI
 refine qb<|qb<|zg [η,η,η] [] [.adr 15 6 (.some 1) True,.v 16 _,.v 17 _,.v 18 _] [.o 3] U (zO 2 G aq (zL 0 2 1 G bm (zv G (aG Try.underlying23 (has_new (vq 1 G))) (zv G (cZ (vq 2 G) a5) o0)))) (zz [(18,_)] [O 4 25 _,O 5 25 _,O 6 25 _] λ a w U=>?_)
 refine a4<|aa U (zm 0 G) (λ hb0=>?_) (λ hb0=>?_)
 ·have h0:=len_nz hb0
  refine qk<|a4<|qt<|qb<|zg [η,η,η] [⟨7,25,ptrH,some 6,_,some (8,_)⟩,⟨8,25,ptrH,some 7,_,some (9,_)⟩] [.v 20 _,.v 21 _,.v 22 _,.v 19 _,.v 23 _,.v 24 _,.alc 3,.alc 4,.sto 3,.sto 4] [] U (zl 1 G am (zl 2 G am (zQ G ((ip _ _ zo hx).wk (.cons eW (.cons eW .nil))) (.p (vq 0 G) (vq 1 G)) (zv G (a7 (vq 2 G)) (zv G (ay (vq 3 G) G) (zv G (ay (vq 3 G) G) (zY G (Str.zero bS) (zY G (Str.zero bS) (zS 4 G am (zS 5 G am o0)))))))))) (zz [] [O 4 25 _,O 5 25 _,O 6 25 _,O 7 25 _,O 8 25 _] λ a w U=>?_)
  refine a4<|zgd [[],[],[0],[0,1,2]] [none,some (2,_),some (3,_),none,none] [] [.v 25 _,.v 26 _,.sto 1,.sto 2] [] a8 U (zl 2 G am (zl 4 G am (zS 0 G am (zS 1 G am o0)))) zk zk zk zk (zz [] [O 4 25 _,O 5 25 _,O 6 25 _,O 7 25 _,O 8 25 _] λ a w U=>?_)
  refine ai ?_
  refine a4 ?_
  have U:=St.sel U []
  have U:=St.selL U [0,1,2]
  exact ⟨x%n,qO _ h0,n,⟨gcd_step hg,hn,lz_tmod hn h0⟩,U⟩
 ·obtain rfl:=len_z hb0
  refine zf<|aj<|aj<|az<|zt<|zg [some (1,_),η,η] [] [.v 27 _,.sto 0] [] U (zl 1 G am (zS 0 G am o0)) (zz [] [O 4 25 _,O 5 25 _,O 6 25 _] λ a w U=>?_)
  refine a4<|qh<|ao ?_ (ax G U (zm 0 G) am)
  exact qu (λ z:Nat=>(RIN (riOf (z:Int))).va) ((Nat.gcd_zero_right x).symm.trans hg)
theorem long1_c (x:RI):Cn Try.prog 71 [(RIA x).va] (Bo (decide ((x.mag.length:Int)>2048))):=by
 refine Cn.intro Try.func71 G zk nq (λ B w0 a U=>?_)
 have U:=zn [(0,(RIA x).va)] [] U
 refine qb<|zg [] [⟨1,25,ptrH,some 0,_,none⟩] [.alc 0,.v 2 _] [.o 1] U (zW 0 G (zv G (a6 aE) o0)) (zz [(2,_)] [O 1 25 _] λ a w U=>?_)
 refine zt<|zg [η] [] [.adr 3 1 (.some 1) True,.v 4 _,.v 5 _,.v 6 _,.v 2 _] [.o 4] U (zO 0 G aq (zL 0 0 1 G bm (zv G (aG Try.underlying23 (vq 1 G)) (zv G (cZ (vq 2 G) a5) (zA 3 G o0))))) (zz [(2,_)] [O 1 25 _] λ a w U=>?_)
 exact a4<|qh<|ae G U (zm 0 G)
def bigI (x:RI):Bool:=decide ((x.mag.length:Int)>2048)
theorem long1_b (x:RI):Cn Try.prog 71 [(RIA x).va] (Bo (bigI x)):=long1_c x
theorem big_some {l:List RI}{j:Nat}(h:j<l.length)(h2:bigI l[j]=true):l.any bigI=true:=jb.2 ⟨_,qg h,h2⟩
theorem take_no {l:List RI}{j:Nat}(h:j<l.length)(h1:(l.take j).any bigI=false)(h2:bigI l[j]=false):(l.take (j+1)).any bigI=false:=by
 rw [qp h,kh,h1]
 simp [h2]
def IxV (b:Bool):VA where
 p _ v _:=∃ n:Int,v=.int .i64 n∧b=decide (n≥0)
 deps:=[]
 cg:=λ _ _ _ _ _ h=>h
 wr:=λ _ _ _ _ _ _ _ _ _ _ _ _ h=>h
theorem ix_of {n:Int}{b:Bool}(h:b=decide (n≥0)):Wk (In n) (IxV b):=λ _ _ _ hv=>⟨n,aF hv,h⟩
theorem r_ix {Q:Exit→Act→World→Prop}{R:Rg}{i:Nat}{x:Operand}{xt yt:TypeId}{b:Bool}(hx:Has R B w0 i x (IxV b)):Wv P Q R B w0 i (.binOp .geq xt x (.const (.int .i64 0)) yt) (Bo b) :=
 aK λ _ _ _ _ _ a w av=>by
  obtain ⟨n,e1,rfl⟩:=hx a w av
  refine ⟨.bool (decide (n≥0)),w,?_,Grow.refl w,ci _ _ _⟩
  have hg:(eqGuard .geq xt x (.const (.int .i64 0)) (.int .i64 n) (.int .i64 0)).run P w=.ok () w:=by unfold eqGuard; split <;> rfl
  have e2:a.eval (.const (.int .i64 0))=.int .i64 0:=rfl
  have hr:(binOp .geq xt (.int .i64 n) (.int .i64 0)).run P w=.ok (.bool (decide (n≥0))) w:=by rw [binOp_geq]; rfl
  simp only [execOp,e1,e2,Sem.run_bind,hg,hr,Result.andThen_ok,Sem.run_pure]
theorem index_c (l:List RI)(hl:l.length≤1099511627776):Cn Try.prog 78 [(SlA 25 [U32] (l.map RIA)).va,FnV Try.prog [] (λ x:RI=>[(RIA x).va]) (λ x=>Bo (bigI x))] (IxV (l.any bigI)):=by
 refine Cn.intro Try.func78 G zk nq (λ B w0 a U=>?_)
 have U:=zn [(0,(SlA 25 [U32] (l.map RIA)).va),(1,FnV Try.prog [] (λ x:RI=>[(RIA x).va]) (λ x=>Bo (bigI x)))] [] U
 refine qb<|zh [.v 4 _] [.g 0,.g 1,.o 0] U (zv G (a6 a5) o0) (zz [(0,_),(1,_),(4,_)] [] λ a w U=>?_)
 refine zt<|qb<|zh [.v 6 _,.v 7 _,.v 8 _] [.g 0,.g 1,.g 2,.o 1,.o 2] U (zM 0 G (zv G (bH Try.underlying113 (vq 0 G)) (zv G (a7 a5) o0))) (zz [(0,_),(1,_),(4,_),(7,_),(8,_)] [] λ a w U=>?_)
 refine a4<|qt ?_
 have U:=St.sel U [0,1,3,4]
 refine wp_loop_ghost (λ n a w=>∃ j:Nat,(n+j=l.length∧(l.take j).any bigI=false)∧St B w0 19 [(0,(SlA 25 [U32] (l.map RIA)).va),(1,FnV Try.prog [] (λ x:RI=>[(RIA x).va]) (λ x=>Bo (bigI x))),(7,In (l.length:Nat)),(8,In (j:Nat))] [] a w) (l.length) ?_ ?_
 ·exact ⟨0,⟨by omega,rfl⟩,by rw [qd] at U; exact U⟩
 intro n a w hI
 obtain ⟨j,⟨hn,hno⟩,U⟩:=hI
 refine qb<|zh [.v 9 _] [.g 0,.g 1,.g 2,.g 3,.o 0] U (zv G (aY (gq 3 G) (gq 2 G)) o0) (zz [(0,_),(1,_),(7,_),(8,_),(9,_)] [] λ a w U=>?_)
 refine zt<|aa U (zm 4 G) (λ hb0=>?_) (λ hb0=>?_)
 ·have hj:j<l.length:=by simp at hb0; omega
  refine qk<|zt<|qt<|qb<|zh [.v 10 _,.v 5 _] [.g 0,.g 1,.g 2,.g 3,.o 1] U (zM 3 G (zA 0 G o0)) (zz [(0,_),(1,_),(7,_),(8,_),(5,_)] [] λ a w U=>?_)
  refine zt<|zh [.v 11 _,.v 12 _,.v 13 _,.v 14 _,.v 15 _,.v 16 _] [.g 0,.g 1,.g 2,.g 3,.g 4,.o 5] U (zM 1 G (zM 0 G (zM 4 G (zv G (cy sl_113 (cE λ _=>rfl) (vq 1 G) (vq 2 G) (cb hj)) (zv G (al (vq 3 G) am) (zv G (r_callv _ (vq 0 G) (.o (vq 4 G))) o0)))))) (zz [(0,_),(1,_),(7,_),(8,_),(5,_),(16,_)] [] λ a w U=>?_)
  refine a4<|aa U (zm 5 G) (λ hb1=>?_) (λ hb1=>?_)
  ·refine qb<|zh [.v 17 _,.v 4 _] [.g 0,.g 1,.g 2,.g 3,.o 1] U (zM 4 G (zA 0 G o0)) (zz [(0,_),(1,_),(7,_),(8,_),(4,_)] [] λ a w U=>?_)
   refine a4<|qh<|aA ?_
   refine ac ?_
   refine ac ?_
   refine aA ?_
   refine ac ?_
   refine an ?_ (ae G U (zm 4 G))
   exact ix_of (by rw [big_some hj hb1]; simp)
  ·refine qk<|ai ?_
   refine a4<|zh [.v 18 _,.v 8 _] [.g 0,.g 1,.g 2,.o 1] U (zv G (aU (gq 3 G) a5 (bo zo)) (zv G (a7 (vq 0 G)) o0)) (zz [(0,_),(1,_),(7,_),(8,_)] [] λ a w U=>?_)
   refine a4 ?_
   have U:=St.sel U [0,1,2,3]
   exact ⟨n-1,by omega,j+1,⟨by omega,take_no hj hno hb1⟩,U⟩
 ·obtain rfl:j=l.length:=by simp at hb0; omega
  refine zf<|aj<|aj<|az<|zt<|zh [.v 4 _] [.o 0] U (zv G (a6 a5) o0) (zz [(4,_)] [] λ a w U=>?_)
  refine a4<|qh<|an ?_ (ae G U (zm 0 G))
  exact ix_of (by rw [qN] at hno; rw [hno]; rfl)
theorem contains_c (l:List RI)(hl:l.length≤1099511627776):Cn Try.prog 70 [(SlA 25 [U32] (l.map RIA)).va,FnV Try.prog [] (λ x:RI=>[(RIA x).va]) (λ x=>Bo (bigI x))] (Bo (l.any bigI)):=by
 refine Cn.intro Try.func70 G zk nq (λ B w0 a U=>?_)
 have U:=zn [(0,(SlA 25 [U32] (l.map RIA)).va),(1,FnV Try.prog [] (λ x:RI=>[(RIA x).va]) (λ x=>Bo (bigI x)))] [] U
 refine qb<|zh [.v 4 _] [.g 0,.g 1,.o 0] U (zv G (a6 aE) o0) (zz [(0,_),(1,_),(4,_)] [] λ a w U=>?_)
 refine zt<|zh [.v 5 _,.v 6 _,.v 7 _,.v 8 _,.v 4 _] [.o 4] U (zM 0 G (zM 1 G (zQ G (index_c _ hl) (.p (vq 0 G) (vq 1 G)) (zv G (r_ix (vq 2 G)) (zA 3 G o0))))) (zz [(4,_)] [] λ a w U=>?_)
 exact a4<|qh<|ae G U (zm 0 G)
theorem longI_c (l:List RI)(hl:l.length≤1099511627776):Cn Try.prog 59 [(SlA 25 [U32] (l.map RIA)).va] (Bo (l.any bigI)):=by
 refine Cn.intro Try.func59 G zk nq (λ B w0 a U=>?_)
 have U:=zn [(0,(SlA 25 [U32] (l.map RIA)).va)] [] U
 refine qb<|zh [.v 2 _] [.g 0,.o 0] U (zv G (a6 aE) o0) (zz [(0,_),(2,_)] [] λ a w U=>?_)
 refine zt<|zh [.v 3 _,.v 4 _,.v 2 _] [.o 2] U (zM 0 G (zQ G (contains_c _ hl) (.p (vq 0 G) (has_func long1_b)) (zA 1 G o0))) (zz [(2,_)] [] λ a w U=>?_)
 exact a4<|qh<|ae G U (zm 0 G)
theorem lz_le {z:Int}{k:Nat}(h:z.natAbs<4294967296^k):lz z≤k:=eF h
theorem eE (p q:Int):lz (p*q)≤lz p+lz q:=by
 apply lz_le
 rw [jk,zq]
 exact j2 (cN p) (cN q)
theorem lz_add (p q:Int):lz (p+q)≤max (lz p) (lz q)+1:=by
 apply lz_le
 have h1:p.natAbs<4294967296^max (lz p) (lz q):=qD (cN p) (zD zd (jd _ _))
 have h2:q.natAbs<4294967296^max (lz p) (lz q):=qD (cN q) (zD zd (x9 _ _))
 have h3:=Int.natAbs_add_le p q
 rw [qR]
 omega
theorem lz_sub (p q:Int):lz (p-q)≤max (lz p) (lz q)+1:=by have:=lz_add p (-q); rw [fR] at this; exact this
theorem iM (p q:Int):lz (p.tdiv q)≤lz p:=d4 (by rw [gx]; exact ke _ _)
theorem lz_tm {p q:Int}(h:q≠0):lz (p.tmod q)≤lz q:=d4 (by rw [gw]; exact xI (qO _ zo))
theorem lz_gcd (p q:Int):lz ((Int.gcd p q:Nat):Int)≤max (lz p) (lz q):=by
 by_cases h:p=0
 ·subst h
  have:lz ((Int.gcd 0 q:Nat):Int)=lz q:=by simp [lz]
  omega
 ·have:lz ((Int.gcd p q:Nat):Int)≤lz p:=d4 (by
   have:Int.gcd p q≤p.natAbs:=Nat.le_of_dvd zo (Nat.gcd_dvd_left _ _)
   omega)
  omega
def ZA (k:Nat)(z:Int):As:=(RIA (riOf z)).and (lz z≤k)
abbrev Zs (k:Nat)(z:Int):VA:=(ZA k z).va
theorem wk_z {k:Nat}{z:Int}:Wk (Zs k z) (Zi z):=λ _ _ _ h=>(and_va h).2
theorem zs_le {k B:Nat}{z:Int}(h:(Zs k z).p B v w):lz z≤k:=(and_va h).1
theorem gS {k:Nat}{z:Int}(h:lz z≤k):Wk (Zi z) (Zs k z):=λ _ _ _ hp=>va_and h hp
section
variable {P:Program} {f:FuncId} {post:VA} {a b:Nat} {p q:Int}
theorem zs1 (hex : ∃ fn, P.funcs[f]? = some fn ∧ (fn.name == "runtime.NumGoroutine") = false ∧ fn.body.isNone = false) (h : lz p ≤ a → Cn P f [Zi p] post) : Cn P f [Zs a p] post :=
 Cn.know (c:=lz p≤a) hex (λ B w args ha=>by cases ha with | cons h1 _=>exact zs_le h1) λ hc=>(h hc).wk (.cons wk_z .nil)
theorem zs2 (hex : ∃ fn, P.funcs[f]? = some fn ∧ (fn.name == "runtime.NumGoroutine") = false ∧ fn.body.isNone = false) (h : lz p ≤ a → lz q ≤ b → Cn P f [Zi p, Zi q] post) : Cn P f [Zs a p, Zs b q] post :=
 Cn.know (c:=lz p≤a∧lz q≤b) hex (λ B w args ha=>by cases ha with | cons h1 ha=>cases ha with | cons h2 _=>exact ⟨zs_le h1,zs_le h2⟩) λ hc=>(h hc.1 hc.2).wk (.cons wk_z (.cons wk_z .nil))
end
theorem bn {A A' A'':VA}(h:Wk A A')(h':Wk A' A''):Wk A A'':=λ B v w hp=>h' B v w (h B v w hp)
theorem cd {A A':VA}(h:A=A'):Wk A A':=h▸aC
theorem all_wk {l l':List VA}(h:All2 Wk l l'):∀ {vs:List Value},All2 (λ (A:VA) v=>A.p B v w) l vs→All2 (λ (A:VA) v=>A.p B v w) l' vs:=by
 induction h with
 | nil=>intro vs hp; cases hp; exact .nil
 | cons h1 _ ih=>intro vs hp; cases hp with | cons h2 h3=>exact .cons (h1 _ _ _ h2) (ih h3)
theorem tu_wk {l l':List VA}(h:All2 Wk l l'):Wk (Tu l) (Tu l'):=λ _ _ _ ⟨vs,hv,hp⟩=>⟨vs,hv,all_wk h hp⟩
def sg3 (p q:Int):Int:=if p<q then -1 else if q<p then 1 else 0
theorem sgI_ri (p:Int):sgI (riOf p)=p.sign:=by
 unfold sgI
 by_cases h:p=0
 ·subst h; simp [riOf,bb]
 ·have:=fo h
  rw [cX,qm zo]
  by_cases h2:p<0
  ·simp [riOf,h2,z8 h2]
  ·have:0<p:=by omega
   simp [riOf,h2,xm this]
theorem sizeL_sg (m n:Nat):(sizeL (limbs m) (limbs n)<0↔m<n)∧(sizeL (limbs m) (limbs n)=0↔m=n)∧(0<sizeL (limbs m) (limbs n)↔n<m):=by
 have:=(cq (m:=m) (n:=n))
 omega
theorem cmp_ri (p q:Int):cmpI (riOf p) (riOf q)=sg3 p q:=by
 unfold cmpI
 rw [sgI_ri,sgI_ri]
 have h:=sizeL_sg p.natAbs q.natAbs
 have e1:(riOf p).mag=limbs p.natAbs:=rfl
 have e2:(riOf q).mag=limbs q.natAbs:=rfl
 rw [e1,e2]
 generalize sizeL (limbs p.natAbs) (limbs q.natAbs)=s at *
 have hp:p.sign=if p<0 then -1 else if p=0 then 0 else 1:=by
  rcases j0 p 0 with h | h | h
  ·rw [qy h,z8 h]
  ·subst h; rfl
  ·rw [qm zo,qm zo,xm h]
 have hq:q.sign=if q<0 then -1 else if q=0 then 0 else 1:=by
  rcases j0 q 0 with h | h | h
  ·rw [qy h,z8 h]
  ·subst h; rfl
  ·rw [qm zo,qm zo,xm h]
 have hn:(riOf p).neg=decide (p<0):=rfl
 rw [hp,hq,hn]
 unfold sg3
 by_cases h1:p<0
 ·by_cases h2:q<0
  ·simp only [h1,h2,if_true,decide_true]; rw [qm zo]; split <;> (try split) <;> omega
  ·rw [qy h1,qm h2,qy (by split <;> omega),qy (by split <;> omega),qy zo]
 ·by_cases h2:q<0
  ·rw [qm h1,qy h2,qy (by split <;> omega),qm (by split <;> omega),qm zo,qy zo]
  ·simp only [h1,h2,if_false,decide_false]
   by_cases h3:p=0 <;> by_cases h4:q=0 <;> simp only [h3,h4,if_true,if_false]
   ·rw [qm zo]; simp; omega
   ·rw [qy zo,qy zo,qy zo]
   ·rw [qy zo,qm zo,qm zo,qy zo]
   ·rw [qm zo]; simp only [Bool.false_eq_true,if_false]; split <;> (try split) <;> omega
theorem times_ri (p q:Int):rsig ((riOf p).neg != (riOf q).neg) (digs ((riOf p).mag.length+(riOf q).mag.length) (val (riOf p).mag*val (riOf q).mag))=riOf (p*q):=by
 rw [bk,bk]
 refine bY (bx _ _) ?_ λ hz=>?_
 ·rw [cz,qS,jk]
  rw [cX,cX,zq]
  exact j2 (cN p) (cN q)
 ·have hp:p≠0:=λ e=>hz (by rw [e,Int.zero_mul])
  have hq:q≠0:=λ e=>hz (by rw [e,Int.mul_zero])
  show (decide (p<0) != decide (q<0))=decide (p*q<0)
  by_cases h1:p<0 <;> by_cases h2:q<0
  ·have:=Int.mul_pos_of_neg_of_neg h1 h2; simp [h1,h2]; omega
  ·have:=Int.mul_neg_of_neg_of_pos h1 (by omega:0<q); simp [h1,h2]; omega
  ·have:=jn (by omega:0<p) h2; simp [h1,h2]; omega
  ·have:=Int.mul_pos (by omega:0<p) (by omega:0<q); simp [h1,h2]; omega
theorem ex_Times : ∃ fn, Try.prog.funcs[47]? = some fn ∧ (fn.name == "runtime.NumGoroutine") = false ∧ fn.body.isNone = false := ⟨_, Try.func47, by kernel_rfl, by kernel_rfl⟩
theorem ex_Plus : ∃ fn, Try.prog.funcs[43]? = some fn ∧ (fn.name == "runtime.NumGoroutine") = false ∧ fn.body.isNone = false := ⟨_, Try.func43, by kernel_rfl, by kernel_rfl⟩
theorem ex_Minus : ∃ fn, Try.prog.funcs[55]? = some fn ∧ (fn.name == "runtime.NumGoroutine") = false ∧ fn.body.isNone = false := ⟨_, Try.func55, by kernel_rfl, by kernel_rfl⟩
theorem ex_Cmp : ∃ fn, Try.prog.funcs[46]? = some fn ∧ (fn.name == "runtime.NumGoroutine") = false ∧ fn.body.isNone = false := ⟨_, Try.func46, by kernel_rfl, by kernel_rfl⟩
theorem ex_Sign : ∃ fn, Try.prog.funcs[50]? = some fn ∧ (fn.name == "runtime.NumGoroutine") = false ∧ fn.body.isNone = false := ⟨_, Try.func50, by kernel_rfl, by kernel_rfl⟩
theorem ex_Divide : ∃ fn, Try.prog.funcs[67]? = some fn ∧ (fn.name == "runtime.NumGoroutine") = false ∧ fn.body.isNone = false := ⟨_, Try.func67, by kernel_rfl, by kernel_rfl⟩
theorem ex_Common : ∃ fn, Try.prog.funcs[51]? = some fn ∧ (fn.name == "runtime.NumGoroutine") = false ∧ fn.body.isNone = false := ⟨_, Try.func51, by kernel_rfl, by kernel_rfl⟩
theorem ex_turned : ∃ fn, Try.prog.funcs[54]? = some fn ∧ (fn.name == "runtime.NumGoroutine") = false ∧ fn.body.isNone = false := ⟨_, Try.func54, by kernel_rfl, by kernel_rfl⟩
section
variable {a b:Nat} {p q:Int} (ha:a≤1099511627776)
include ha
theorem g8:Cn Try.prog 54 [Zs a p] (Zs a (-p)):=zs1 ex_turned λ h=>(turnedZ_c p zo).wkp (gS (by rw [fR]; exact h))
variable (hb:b≤1099511627776)
include hb
theorem ce:Cn Try.prog 47 [Zs a p,Zs b q] (Zs (a+b) (p*q)):=zs2 ex_Times λ h h'=>(times_c (riOf p) (riOf q) (by rw [cX]; omega) (by rw [cX]; omega)).wkp (bn (bn eW (cd (qu (λ x=>(RIA x).va) (times_ri p q)))) (gS (by have:=eE p q; omega)))
theorem plus_z:Cn Try.prog 43 [Zs a p,Zs b q] (Zs (max a b+1) (p+q)):=zs2 ex_Plus λ h h'=>(plus_c p q zo zo).wkp (gS (by have:=lz_add p q; omega))
theorem minus_z:Cn Try.prog 55 [Zs a p,Zs b q] (Zs (max a b+1) (p-q)):=zs2 ex_Minus λ h h'=>(minus_c p q zo zo).wkp (gS (by have:=lz_sub p q; omega))
theorem cmp_z:Cn Try.prog 46 [Zs a p,Zs b q] (In (sg3 p q)):=zs2 ex_Cmp λ h h'=>(cmpI_c (riOf p) (riOf q) (by rw [cX]; omega) (by rw [cX]; omega)).post (by rw [cmp_ri])
theorem common_z:Cn Try.prog 51 [Zs a p,Zs b q] (Zs (max a b) ((Int.gcd p q:Nat):Int)):=zs2 ex_Common λ h h'=>(common_c p q zo zo).wkp (bn eW (gS (by have:=lz_gcd p q; omega)))
omit hb in
theorem divide_z (hq:q≠0):Cn Try.prog 67 [Zs a p,Zs b q] (Tu [Zs a (p.tdiv q),Zs b (p.tmod q)]):=zs2 ex_Divide λ h h'=>(ip p q hq zo).wkp (tu_wk (.cons (bn eW (gS (by have:=iM p q; omega))) (.cons (bn eW (gS (by have:=lz_tm (p:=p) hq; omega))) .nil)))
end
theorem sign_z {a:Nat}{p:Int}:Cn Try.prog 50 [Zs a p] (In p.sign):=zs1 ex_Sign λ _=>(sign_c (riOf p)).post (by rw [sgI_ri])
theorem of_z {n:Int}(h0 : -9223372036854775808≤n)(h1:n<9223372036854775808):Cn Try.prog 42 [In n] (Zs 2 n):=(of_c n h0 h1).wkp (gS (lz_le zo))
def QA (k:Nat)(r:Rat):As:=cat [ZA k r.num,ZA k (r.den:Int)]
abbrev Qs (k:Nat)(r:Rat):VA:=(QA k r).va
def WkA (A A':As):Prop:=A'.n=A.n∧A'.ag=A.ag∧∀ B cs w,A.p B cs w→A'.p B cs w
theorem WkA.va {A A':As}(h:WkA A A'):Wk A.va A'.va:=λ B v w ⟨cs,hp,hv⟩=>⟨cs,h.2.2 B cs w hp,by rw [h.2.1]; exact hv⟩
theorem WkA.refl (A:As):WkA A A:=⟨rfl,rfl,λ _ _ _ h=>h⟩
theorem WkA.trans {A A' A'':As}(h:WkA A A')(h':WkA A' A''):WkA A A'':=⟨h'.1.trans h.1,h'.2.1.trans h.2.1,λ B cs w hp=>h'.2.2 B cs w (h.2.2 B cs w hp)⟩
theorem eX {A A':As}(h:A=A'):WkA A A':=h▸WkA.refl A
theorem bc {l l':List As}(h:All2 WkA l l'):WkA (cat l) (cat l'):=by
 have key:∀ {l l':List As},All2 WkA l l'→(cat l').n=(cat l).n∧∀ B ps w,All2 (λ (A:As) c=>A.p B c w) l ps→All2 (λ (A:As) c=>A.p B c w) l' ps:=by
  intro l l' h
  induction h with
  | nil=>exact ⟨rfl,λ B ps w h=>by cases h; exact .nil⟩
  | cons h1 _ ih =>
   refine ⟨?_,λ B ps w h=>?_⟩
   ·have:=ih.1
    simp only [cat,qH,xb] at this ⊢
    rw [h1.1,this]
   ·cases h with
    | cons h2 h3=>exact .cons (h1.2.2 _ _ _ h2) (ih.2 _ _ _ h3)
 exact ⟨(key h).1,rfl,λ B cs w ⟨ps,e1,e2⟩=>⟨ps,e1,(key h).2 B ps w e2⟩⟩
theorem zaA {k:Nat}{z:Int}:WkA (ZA k z) (RIA (riOf z)):=⟨rfl,rfl,λ _ _ _ h=>h.2⟩
theorem za_of {k:Nat}{z:Int}(h:lz z≤k):WkA (RIA (riOf z)) (ZA k z):=⟨rfl,rfl,λ _ _ _ hp=>⟨h,hp⟩⟩
theorem fW {k k':Nat}{z:Int}(h:k≤k'):WkA (ZA k z) (ZA k' z):=⟨rfl,rfl,λ _ _ _ hp=>⟨qe hp.1 h,hp.2⟩⟩
theorem qaA {k:Nat}{r:Rat}:WkA (QA k r) (RFA (rfOf r)):=bc (.cons zaA (.cons zaA .nil))
theorem qa_of {k:Nat}{r:Rat}(h:lz r.num≤k)(h':lz (r.den:Int)≤k):WkA (RFA (rfOf r)) (QA k r):=bc (.cons (za_of h) (.cons (za_of h') .nil))
theorem ew {k k':Nat}{r:Rat}(h:k≤k'):WkA (QA k r) (QA k' r):=bc (.cons (fW h) (.cons (fW h) .nil))
theorem St.wkL {B N:Nat}(h:St B w0 N Γ Λ a w){s:Nat}{A A':As}(k:Nat)(hm:Λ[k]?=some ⟨s,T,H,A⟩)(e:WkA A A'):St B w0 N Γ (Λ.set k ⟨s,T,H,A'⟩) a w:=by
 obtain ⟨hk,he⟩:=List.getElem?_eq_some_iff.1 hm
 have hset:∀ l∈Λ.set k ⟨s,T,H,A'⟩,l=⟨s,T,H,A'⟩∨l∈Λ:=λ l hl=>(qI hl).symm
 have hin:(⟨s,T,H,A⟩:Lc)∈Λ:=qa hm
 have hd:∀ l∈Λ.set k ⟨s,T,H,A'⟩,∃ l'∈Λ,l'.s=l.s:=λ l hl=>by
  rcases hset l hl with rfl | hl
  ·exact ⟨_,hin,rfl⟩
  ·exact ⟨l,hl,rfl⟩
 refine ⟨h.lo,h.defers,h.size,h.base,h.vals,λ l hl=>?_,λ l hl m hm' hne=>?_⟩
 ·rcases hset l hl with rfl | hl
  ·obtain ⟨g,cs,h1,h2,h3,h4⟩:=h.locs _ hin
   exact ⟨g,cs,h1,h2,h3,e.2.2 _ _ _ h4⟩
  ·exact h.locs l hl
 ·obtain ⟨l',hl',e1⟩:=hd l hl
  obtain ⟨m',hm'',e2⟩:=hd m hm'
  have:=h.dis l' hl' m' hm'' (by rw [e1,e2]; exact hne)
  rw [e1,e2] at this
  exact this
theorem gcd_one {n:Nat}(h:(sg3 ((n:Nat):Int) 1 != 0)=false):n=1:=by
 unfold sg3 at h
 simp at h
 split at h
 ·simp at h
 ·split at h
  ·simp at h
  ·omega
theorem tdiv_g {n:Nat}{x:Int}(h:(sg3 ((n:Nat):Int) 1 != 0)=false):x=x.tdiv ((n:Nat):Int):=by rw [gcd_one h,Int.natCast_one,Int.tdiv_one]
theorem sgn_yes {z:Int}(h:decide (z.sign<0)=true):z<0:=j7.1 (qw h)
theorem sgn_no {z:Int}(h:decide (z.sign<0)=false):¬ z<0:=λ hh=>qx h (j7.2 hh)
theorem low_num {p q:Int}(hq:q≠0):(if q.tdiv (Int.gcd p q:Nat)<0 then -(p.tdiv (Int.gcd p q:Nat)) else p.tdiv (Int.gcd p q:Nat))=(Rat.divInt p q).num ∧
  (if q.tdiv (Int.gcd p q:Nat)<0 then -(q.tdiv (Int.gcd p q:Nat)) else q.tdiv (Int.gcd p q:Nat))=((Rat.divInt p q).den:Int):=by
 have hg:0<Int.gcd p q:=jg p hq
 have d1:((Int.gcd p q:Nat):Int)∣p:=Int.gcd_dvd_left ..
 have d2:((Int.gcd p q:Nat):Int)∣q:=Int.gcd_dvd_right ..
 rw [Rat.num_divInt,Rat.den_divInt,qm hq,Int.gcd_comm q p]
 generalize Int.gcd p q=g at *
 obtain ⟨x,rfl⟩:=d1
 obtain ⟨y,rfl⟩:=d2
 have hg':(g:Int)≠0:=by omega
 rw [jr _ hg',jr _ hg']
 have hy:y≠0:=λ e=>hq (by rw [e,Int.mul_zero])
 have e2:((g:Int)*y).natAbs/g=y.natAbs:=by rw [jk]; exact Nat.mul_div_cancel_left _ hg
 rw [e2]
 by_cases h:y<0
 ·have h1:(g:Int)*y<0:=jn zo h
  rw [z8 h1,qy h,qy h]
  refine ⟨?_,by omega⟩
  rw [show (-1:Int)*(g*x)=g*(-x) by rw [Int.mul_neg]; omega,js _ hg']
 ·have h1:0<(g:Int)*y:=Int.mul_pos zo zo
  rw [xm h1,qm h,qm h,Int.one_mul,js _ hg']
  exact ⟨rfl,by omega⟩
theorem dJ {p q:Int}(hq:q≠0):lz (Rat.divInt p q).num≤lz p∧lz ((Rat.divInt p q).den:Int)≤lz q:=by
 obtain ⟨h1,h2⟩:=low_num (p:=p) hq
 rw [← h1,← h2]
 have a1:=iM p (Int.gcd p q:Nat)
 have a2:=iM q (Int.gcd p q:Nat)
 constructor <;> split <;> first | (rw [fR]; assumption) | assumption
theorem dh {c d:Nat}{p q:Int}(hc:c≤1099511627776)(hd:d≤1099511627776)(hq:q≠0):Cn Try.prog 53 [Zs c p,Zs d q] (Qs (max c d) (Rat.divInt p q)):=by
 have hg0:0<Int.gcd p q:=jg p hq
 obtain ⟨hn1,hn2⟩:=low_num (p:=p) hq
 refine Cn.intro Try.func53 G zk nq (λ B w0 a U=>?_)
 have U:=zn [(0,Zs c p),(1,Zs d q)] [] U
 refine qb<|zg [] [⟨2,25,ptrH,some 0,_,none⟩,⟨3,25,ptrH,some 1,_,none⟩,⟨4,27,ptrH,some 2,_,none⟩] [.alc 0,.alc 1,.alc 2] [] U (zW 0 G (zW 1 G (zY G (Str.zero aI) o0))) (zz [] [O 2 25 _,O 3 25 _,O 4 27 _] λ a w U=>?_)
 refine zt<|qb<|zg [η,η,η] [⟨5,25,ptrH,some 3,_,some (4,_)⟩] [.v 6 _,.v 7 _,.v 8 _,.alc 3,.sto 3] [] U (zl 0 G am (zl 1 G am (zQ G (common_z zo zo) (.p (vq 0 G) (vq 1 G)) (zY G (Str.zero bS) (zS 2 G am o0))))) (zz [] [O 2 25 _,O 3 25 _,O 4 27 _,O 5 25 _] λ a w U=>?_)
 refine zt<|zgd [[],[],[0,1],[0,1,2]] [none,none,none,none] [] [.v 9 _,.v 10 _,.v 11 _,.v 12 _] [.o 3] a8 U (zl 3 G am (zQ G (of_z zd zd) (.cons a5 .nil) (zQ G (cmp_z zo zo) (.p (vq 0 G) (vq 1 G)) (zv G (bM (vq 2 G) a5) o0)))) zk zk zk zk (zz [(12,_)] [O 2 25 _,O 3 25 _,O 4 27 _,O 5 25 _] λ a w U=>?_)
 refine a4<|bC (λ a w =>  St B w0 35 [] [⟨2,25,ptrH,ZA c (p.tdiv ((Int.gcd p q:Nat):Int))⟩,⟨3,25,ptrH,ZA d (q.tdiv ((Int.gcd p q:Nat):Int))⟩,⟨4,27,ptrH,RFA ⟨⟨false,[]⟩,⟨false,[]⟩⟩⟩,⟨5,25,ptrH,ZA (max c d) ((Int.gcd p q:Nat):Int)⟩] a w) U (zm 0 G) (λ hb0=>?_) (λ hb0=>?_) (λ a w U=>?_)
 ·refine qb<|zg [some (6,_),η,η,η] [] [.v 14 _,.v 15 _,.v 16 _,.v 13 _,.v 17 _,.v 18 _,.sto 0] [] U (zl 0 G am (zl 3 G am (zQ G (divide_z zo zo) (.p (vq 0 G) (vq 1 G)) (zv G (a7 (vq 2 G)) (zv G (ay (vq 3 G) G) (zv G (ay (vq 3 G) G) (zS 4 G am o0))))))) (zz [] [O 2 25 _,O 3 25 _,O 4 27 _,O 5 25 _] λ a w U=>?_)
  refine a4<|zg [η,some (6,_),η,η] [] [.v 20 _,.v 21 _,.v 22 _,.v 19 _,.v 23 _,.v 24 _,.sto 1] [] U (zl 1 G am (zl 3 G am (zQ G (divide_z zo zo) (.p (vq 0 G) (vq 1 G)) (zv G (a7 (vq 2 G)) (zv G (ay (vq 3 G) G) (zv G (ay (vq 3 G) G) (zS 4 G am o0))))))) (zz [] [O 2 25 _,O 3 25 _,O 4 27 _,O 5 25 _] λ a w U=>?_)
  refine a4 ?_
  have U:=St.sel U []
  exact U
 ·refine qk<|a4 ?_
  have U:=St.sel U []
  have U:=St.cvA (A':=ZA c (p.tdiv ((Int.gcd p q:Nat):Int))) U 0 rfl (qu (ZA c) (tdiv_g hb0))
  have U:=St.cvA (A':=ZA d (q.tdiv ((Int.gcd p q:Nat):Int))) U 1 rfl (qu (ZA d) (tdiv_g hb0))
  exact U
 refine zt<|qb<|zg [η,η,η,η] [] [.v 25 _,.v 26 _,.v 27 _] [.o 2] U (zl 1 G am (zQ G sign_z (.o (vq 0 G)) (zv G (aY (vq 1 G) a5) o0))) (zz [(27,_)] [O 2 25 _,O 3 25 _,O 4 27 _,O 5 25 _] λ a w U=>?_)
 refine a4<|bC (λ a w =>  St B w0 35 [] [⟨2,25,ptrH,ZA c (Rat.divInt p q).num⟩,⟨3,25,ptrH,ZA d ((Rat.divInt p q).den:Int)⟩,⟨4,27,ptrH,RFA ⟨⟨false,[]⟩,⟨false,[]⟩⟩⟩,⟨5,25,ptrH,ZA (max c d) ((Int.gcd p q:Nat):Int)⟩] a w) U (zm 0 G) (λ hb1=>?_) (λ hb1=>?_) (λ a w U=>?_)
 ·refine zgd [[],[0],[],[0,1,2],[0,1,2,3],[0,1,2,3,4]] [some (4,_),some (5,_),none,none] [] [.v 28 _,.v 29 _,.v 30 _,.v 31 _,.sto 0,.sto 1] [] a8 U (zl 0 G am (zQ G (g8 zo) (.o (vq 0 G)) (zl 1 G am (zQ G (g8 zo) (.o (vq 2 G)) (zS 1 G am (zS 3 G am o0)))))) zk zk zk zk (zz [] [O 2 25 _,O 3 25 _,O 4 27 _,O 5 25 _] λ a w U=>?_)
  refine a4 ?_
  have U:=St.sel U []
  rw [qy (sgn_yes hb1)] at hn1 hn2; rw [hn1,hn2] at U; exact U
 ·refine qk<|a4 ?_
  have U:=St.sel U []
  rw [qm (sgn_no hb1)] at hn1 hn2; rw [hn1,hn2] at U; exact U
 refine zt<|zg [η,η,some (3,_),η] [] [.v 32 _,.v 33 _,.v 34 _,.sto 2] [] U (zl 0 G am (zl 1 G am (zv G (aO (qs:=[(0,_),(1,_)]) aI (.cons ⟨rfl,vq 0 rfl,rfl⟩ (.cons ⟨rfl,vq 1 rfl,rfl⟩ .nil))) (zS 2 G ar o0)))) (zz [] [O 2 25 _,O 3 25 _,O 4 27 _,O 5 25 _] λ a w U=>?_)
 refine a4<|qh<|an ?_ (ax G U (zm 2 G) ar)
 exact (bc (.cons (fW (jd _ _)) (.cons (fW (x9 _ _)) .nil))).va
end Go.Proofs.Ytlakjmncfooodaa
