import Derived.Test.YtmacliockgbdcaaGreatDoorBfAa
import Derived.Test.YtmacliockgbdcaaGreatDoorBfAc
import Derived.Test.YtmacliockgbdcaaGreatDoorBfAh
set_option linter.unusedVariables false
set_option linter.unusedSimpArgs false
set_option linter.unusedSectionVars false
set_option maxRecDepth 100000
namespace Go.Proofs.YtmacliockgbdcaaGreatDoor
open Go Go.RowKit
theorem t6 (p:Int):rsig false (riOf p).mag=riOf ((p.natAbs:Nat):Int):=bS (kS p) (by rw [bx]; omega) fun _=>by simp
theorem yw (p:Int):lz ((p.natAbs:Nat):Int)=lz p:=by simp [lz]
theorem len_nz {n:Nat}(h:decide (((riOf (n:Int)).mag.length:Int)>0)=true):0<n:=by
 rcases Nat.eq_zero_or_pos n with rfl | hp
 ·simp [riOf,bt] at h
 ·exact hp
theorem len_z {n:Nat}(h:decide (((riOf (n:Int)).mag.length:Int)>0)=false):n=0:=by
 rcases Nat.eq_zero_or_pos n with rfl | hp
 ·rfl
 ·have:=hC (q:=(n:Int)) zo
  have h':¬ (((riOf (n:Int)).mag.length:Int)>0):=of_decide_eq_false h
  rw [dY] at h'
  omega
theorem Bk {x n:Nat}(h:lz (n:Int)≤1099511627776)(hn:0<n):lz ((x%n:Nat):Int)≤1099511627776:=Nat.le_trans (eV (by have:=Nat.mod_lt x hn; omega)) h
theorem wX {x n p:Nat}(h:Nat.gcd x n=p):Nat.gcd n (x%n)=p:=by rw [← h,Nat.gcd_comm n,Nat.gcd_comm x,Nat.gcd_rec n x]
theorem pW (p q:Int)(hp:lz p≤1099511627776)(hq:lz q≤1099511627776):Cn Tryz.prog 172 [Zi p,Zi q] ((RIN (riOf ((Int.gcd p q:Nat):Int))).va):=by
 refine Cn.intro Tryz.func172 G zk nq (fun B w0 a U=>?_)
 have U:=zn [(0,Zi p),(1,Zi q)] [] U
 refine wp_seq<|zg [] [⟨2,25,ptrH,some 0,_,none⟩,⟨3,25,ptrH,some 1,_,none⟩,⟨4,25,ptrH,some 2,_,none⟩] [.alc 0,.alc 1,.alc 2] [] U (oc (ay G G G (gq 0 G)) (oc (ay G G G (gq 1 G)) (oc (aJ G G G (Str.zero bm)) o0))) (zz [] [O 2 25 _,O 3 25 _,O 4 25 _] fun a w U=>?_)
 refine zt<|zgd [[],[0],[0,1],[],[3],[0,1,2,3,4],[],[],[0,1,2,3,4,5,6,7],[0,1,2,3,4,5,6,7,8]] [none,none,none] [⟨5,25,ptrH,some 6,_,some (8,_)⟩,⟨6,25,ptrH,some 7,_,some (9,_)⟩] [.adr 9 2 (.some 1) True,.v 10 _,.v 11 _,.adr 12 3 (.some 1) True,.v 13 _,.v 14 _,.alc 3,.alc 4,.sto 3,.sto 4] [] ab U (oc (ob_a G G (ac (lz0 0 G) au)) (zL 0 0 1 G aW (zv G (aa (xs:=[.const (.bool false),.tmp 10]) (AX _ _ hp) (.cons aK (.cons (vq 1 G) .nil))) (oc (ob_a G G (ac (lz0 1 G) au)) (zL 3 1 1 G aW (zv G (aa (xs:=[.const (.bool false),.tmp 13]) (AX _ _ hq) (.cons aK (.cons (vq 4 G) .nil))) (oc (aJ G G G (Str.zero bm)) (oc (aJ G G G (Str.zero bm)) (oc (aA G G G (vq 2 G) al (Eq.trans (b:=2) G G)) (oc (aA G G G (vq 5 G) al (Eq.trans (b:=2) G G)) o0)))))))))) zk zk zk zk (zz [] [O 2 25 _,O 3 25 _,O 4 25 _,O 5 25 _,O 6 25 _] fun a w U=>?_)
 refine zt<|wp_block ?_
 have U:=St.sel U []
 have U:=St.selL U [2,3,4]
 refine wp_loop_ghost (fun n a w=>∃ x:Nat,(Nat.gcd x n=Int.gcd p q∧lz (x:Int)≤1099511627776∧lz (n:Int)≤1099511627776)∧St B w0 28 [] [⟨4,25,ptrH,cat [BoA false,MgA []]⟩,⟨5,25,ptrH,RIN (riOf ((x:Nat):Int))⟩,⟨6,25,ptrH,RIN (riOf ((n:Nat):Int))⟩] a w) (q.natAbs) ?_ ?_
 ·exact ⟨p.natAbs,⟨rfl,by rw [yw]; exact hp,by rw [yw]; exact hq⟩,by rw [show rsig false (limbs p.natAbs)=_ from t6 p,show rsig false (limbs q.natAbs)=_ from t6 q] at U; exact U⟩
 intro n a w hI
 obtain ⟨x,⟨hg,hx,hn⟩,U⟩:=hI
 refine wp_seq<|wp_seq<|zg [none,none,none] [] [.adr 15 6 (.some 1) True,.v 16 _,.v 17 _,.v 18 _] [.o 3] U (oc (ob_a G G (ac (lz0 2 G) au)) (zL 0 2 1 G aW (zv G (aI Tryz.underlying23 (nZ (vq 1 G))) (zv G (dJ (vq 2 G) a8) o0)))) (zz [(18,_)] [O 4 25 _,O 5 25 _,O 6 25 _] fun a w U=>?_)
 refine a7<|ah U (zm 0 G) (fun hb0=>?_) (fun hb0=>?_)
 ·have h0:=len_nz hb0
  refine wp_skip<|a7<|wp_block<|wp_seq<|zg [none,none,none] [⟨7,25,ptrH,some 6,_,some (8,_)⟩,⟨8,25,ptrH,some 7,_,some (9,_)⟩] [.v 20 _,.v 21 _,.v 22 _,.v 19 _,.v 23 _,.v 24 _,.alc 3,.alc 4,.sto 3,.sto 4] [] U (zl 1 G al (zl 2 G al (zv G (aa (xs:=[.tmp 20,.tmp 21]) ((ji _ _ zo hx).wk (.cons gU (.cons gU .nil))) (.cons (vq 0 G) (.cons (vq 1 G) .nil))) (zv G (ae (vq 2 G)) (zv G (aQ (vq 3 G) G) (zv G (aQ (vq 3 G) G) (oc (aJ G G G (Str.zero bm)) (oc (aJ G G G (Str.zero bm)) (oc (aA G G G (vq 4 G) al (Eq.trans (b:=2) G G)) (oc (aA G G G (vq 5 G) al (Eq.trans (b:=2) G G)) o0)))))))))) (zz [] [O 4 25 _,O 5 25 _,O 6 25 _,O 7 25 _,O 8 25 _] fun a w U=>?_)
  refine a7<|zgd [[],[],[0],[0,1,2]] [none,some (2,_),some (3,_),none,none] [] [.v 25 _,.v 26 _,.sto 1,.sto 2] [] ab U (zl 2 G al (zl 4 G al (oc (aA G G G (vq 0 G) al (Eq.trans (b:=2) G G)) (oc (aA G G G (vq 1 G) al (Eq.trans (b:=2) G G)) o0)))) zk zk zk zk (zz [] [O 4 25 _,O 5 25 _,O 6 25 _,O 7 25 _,O 8 25 _] fun a w U=>?_)
  refine ao ?_
  refine a7 ?_
  have U:=St.sel U []
  have U:=St.selL U [0,1,2]
  exact ⟨x%n,Nat.mod_lt _ h0,n,⟨wX hg,hn,Bk hn h0⟩,U⟩
 ·obtain rfl:=len_z hb0
  refine wp_exit<|ak<|ak<|aC<|zt<|zg [some (1,_),none,none] [] [.v 27 _,.sto 0] [] U (zl 1 G al (oc (aA G G G (vq 0 G) al (Eq.trans (b:=2) G G)) o0)) (zz [] [O 4 25 _,O 5 25 _,O 6 25 _] fun a w U=>?_)
  refine a7<|wp_ret<|aB ?_ (az G U (zm 0 G) al)
  exact congrArg (fun z:Nat=>(RIN (riOf (z:Int))).va) ((Nat.gcd_zero_right x).symm.trans hg)
theorem Bt (x:RI):Cn Tryz.prog 177 [(RIA x).va] (Bo (decide ((x.mag.length:Int)>2048))):=by
 refine Cn.intro Tryz.func177 G zk nq (fun B w0 a U=>?_)
 have U:=zn [(0,(RIA x).va)] [] U
 refine wp_seq<|zg [] [⟨1,25,ptrH,some 0,_,none⟩] [.alc 0,.v 2 _] [.o 1] U (oc (ay G G G (gq 0 G)) (zv G (a9 aK) o0)) (zz [(2,_)] [O 1 25 _] fun a w U=>?_)
 refine zt<|zg [none] [] [.adr 3 1 (.some 1) True,.v 4 _,.v 5 _,.v 6 _,.v 2 _] [.o 4] U (oc (ob_a G G (ac (lz0 0 G) au)) (zL 0 0 1 G aW (zv G (aI Tryz.underlying23 (vq 1 G)) (zv G (dJ (vq 2 G) a8) (zA 3 G o0))))) (zz [(2,_)] [O 1 25 _] fun a w U=>?_)
 exact a7<|wp_ret<|am G U (zm 0 G)
def bigI (x:RI):Bool:=decide ((x.mag.length:Int)>2048)
theorem Bu (x:RI):Cn Tryz.prog 177 [(RIA x).va] (Bo (bigI x)):=Bt x
theorem xC {l:List RI}{j:Nat}(h:j<l.length)(h2:bigI l[j]=true):l.any bigI=true:=List.any_eq_true.2 ⟨_,List.getElem_mem h,h2⟩
theorem zW {l:List RI}{j:Nat}(h:j<l.length)(h1:(l.take j).any bigI=false)(h2:bigI l[j]=false):(l.take (j+1)).any bigI=false:=by
 rw [List.take_succ_eq_append_getElem h,List.any_append,h1]
 simp [h2]
def IxV (b:Bool):VA where
 p _ v _:=∃ n:Int,v=.int .i64 n∧b=decide (n≥0)
 deps:=[]
 cg:=fun _ _ _ _ _ h=>h
 wr:=fun _ _ _ _ _ _ _ _ _ _ _ _ h=>h
theorem ix_of {n:Int}{b:Bool}(h:b=decide (n≥0)):Wk (In n) (IxV b):=fun _ _ _ hv=>⟨n,bj hv,h⟩
theorem r_ix {P:Program}{Q:Exit→Act→World→Prop}{R:Rg}{B:Nat}{w0:Bs}{i:Nat}{x:Operand}{xt yt:TypeId}{b:Bool}(hx:Has R B w0 i x (IxV b)):Wv P Q R B w0 i (.binOp .geq xt x (.const (.int .i64 0)) yt) (Bo b) :=
 bb fun _ _ _ _ _ a w av=>by
  obtain ⟨n,e1,rfl⟩:=hx a w av
  refine ⟨.bool (decide (n≥0)),w,?_,Grow.refl w,jM _ _ _⟩
  have hg:(eqGuard .geq xt x (.const (.int .i64 0)) (.int .i64 n) (.int .i64 0)).run P w=.ok () w:=by unfold eqGuard; split <;> rfl
  have e2:a.eval (.const (.int .i64 0))=.int .i64 0:=rfl
  have hr:(binOp .geq xt (.int .i64 n) (.int .i64 0)).run P w=.ok (.bool (decide (n≥0))) w:=by rw [binOp_geq]; rfl
  simp only [execOp,e1,e2,Sem.run_bind,hg,hr,Result.andThen_ok,Sem.run_pure]
theorem BG (l:List RI)(hl:l.length≤1099511627776):Cn Tryz.prog 209 [(SlA 25 [U32] (l.map RIA)).va,FnV Tryz.prog [] (fun x:RI=>[(RIA x).va]) (fun x=>Bo (bigI x))] (IxV (l.any bigI)):=by
 refine Cn.intro Tryz.func209 G zk nq (fun B w0 a U=>?_)
 have U:=zn [(0,(SlA 25 [U32] (l.map RIA)).va),(1,FnV Tryz.prog [] (fun x:RI=>[(RIA x).va]) (fun x=>Bo (bigI x)))] [] U
 refine wp_seq<|zh [.v 4 _] [.g 0,.g 1,.o 0] U (zv G (a9 a8) o0) (zz [(0,_),(1,_),(4,_)] [] fun a w U=>?_)
 refine zt<|wp_seq<|zh [.v 6 _,.v 7 _,.v 8 _] [.g 0,.g 1,.g 2,.o 1,.o 2] U (zM 0 G (zv G (be Tryz.underlying211 (vq 0 G)) (zv G (ae a8) o0))) (zz [(0,_),(1,_),(4,_),(7,_),(8,_)] [] fun a w U=>?_)
 refine a7<|wp_block ?_
 have U:=St.sel U [0,1,3,4]
 refine wp_loop_ghost (fun n a w=>∃ j:Nat,(n+j=l.length∧(l.take j).any bigI=false)∧St B w0 19 [(0,(SlA 25 [U32] (l.map RIA)).va),(1,FnV Tryz.prog [] (fun x:RI=>[(RIA x).va]) (fun x=>Bo (bigI x))),(7,In (l.length:Nat)),(8,In (j:Nat))] [] a w) (l.length) ?_ ?_
 ·exact ⟨0,⟨by omega,rfl⟩,by rw [List.length_map] at U; exact U⟩
 intro n a w hI
 obtain ⟨j,⟨hn,hno⟩,U⟩:=hI
 refine wp_seq<|zh [.v 9 _] [.g 0,.g 1,.g 2,.g 3,.o 0] U (zv G (aN (gq 3 G) (gq 2 G)) o0) (zz [(0,_),(1,_),(7,_),(8,_),(9,_)] [] fun a w U=>?_)
 refine zt<|ah U (zm 4 G) (fun hb0=>?_) (fun hb0=>?_)
 ·have hj:j<l.length:=by simp at hb0; omega
  refine wp_skip<|zt<|wp_block<|wp_seq<|zh [.v 10 _,.v 5 _] [.g 0,.g 1,.g 2,.g 3,.o 1] U (zM 3 G (zA 0 G o0)) (zz [(0,_),(1,_),(7,_),(8,_),(5,_)] [] fun a w U=>?_)
  refine zt<|zh [.v 11 _,.v 12 _,.v 13 _,.v 14 _,.v 15 _,.v 16 _] [.g 0,.g 1,.g 2,.g 3,.g 4,.o 5] U (zM 1 G (zM 0 G (zM 4 G (zv G (cB xX (fM fun _=>rfl) (vq 1 G) (vq 2 G) (dD hj)) (zv G (aq (vq 3 G) al) (zv G (AH (xs:=[.tmp 15]) _ (vq 0 G) (.cons (vq 4 G) .nil)) o0)))))) (zz [(0,_),(1,_),(7,_),(8,_),(5,_),(16,_)] [] fun a w U=>?_)
  refine a7<|ah U (zm 5 G) (fun hb1=>?_) (fun hb1=>?_)
  ·refine wp_seq<|zh [.v 17 _,.v 4 _] [.g 0,.g 1,.g 2,.g 3,.o 1] U (zM 4 G (zA 0 G o0)) (zz [(0,_),(1,_),(7,_),(8,_),(4,_)] [] fun a w U=>?_)
   refine a7<|wp_ret<|aV ?_
   refine ap ?_
   refine ap ?_
   refine aV ?_
   refine ap ?_
   refine ar ?_ (am G U (zm 4 G))
   exact ix_of (by rw [xC hj hb1]; simp)
  ·refine wp_skip<|ao ?_
   refine a7<|zh [.v 18 _,.v 8 _] [.g 0,.g 1,.g 2,.o 1] U (zv G (aR (gq 3 G) a8 (aX zo)) (zv G (ae (vq 0 G)) o0)) (zz [(0,_),(1,_),(7,_),(8,_)] [] fun a w U=>?_)
   refine a7 ?_
   have U:=St.sel U [0,1,2,3]
   exact ⟨n-1,by omega,j+1,⟨by omega,zW hj hno hb1⟩,U⟩
 ·obtain rfl:j=l.length:=by simp at hb0; omega
  refine wp_exit<|ak<|ak<|aC<|zt<|zh [.v 4 _] [.o 0] U (zv G (a9 a8) o0) (zz [(4,_)] [] fun a w U=>?_)
  refine a7<|wp_ret<|ar ?_ (am G U (zm 0 G))
  exact ix_of (by rw [List.take_length] at hno; rw [hno]; rfl)
theorem rc (l:List RI)(hl:l.length≤1099511627776):Cn Tryz.prog 176 [(SlA 25 [U32] (l.map RIA)).va,FnV Tryz.prog [] (fun x:RI=>[(RIA x).va]) (fun x=>Bo (bigI x))] (Bo (l.any bigI)):=by
 refine Cn.intro Tryz.func176 G zk nq (fun B w0 a U=>?_)
 have U:=zn [(0,(SlA 25 [U32] (l.map RIA)).va),(1,FnV Tryz.prog [] (fun x:RI=>[(RIA x).va]) (fun x=>Bo (bigI x)))] [] U
 refine wp_seq<|zh [.v 4 _] [.g 0,.g 1,.o 0] U (zv G (a9 aK) o0) (zz [(0,_),(1,_),(4,_)] [] fun a w U=>?_)
 refine zt<|zh [.v 5 _,.v 6 _,.v 7 _,.v 8 _,.v 4 _] [.o 4] U (zM 0 G (zM 1 G (zv G (aa (xs:=[.tmp 5,.tmp 6]) (BG _ hl) (.cons (vq 0 G) (.cons (vq 1 G) .nil))) (zv G (r_ix (vq 2 G)) (zA 3 G o0))))) (zz [(4,_)] [] fun a w U=>?_)
 exact a7<|wp_ret<|am G U (zm 0 G)
theorem Br (l:List RI)(hl:l.length≤1099511627776):Cn Tryz.prog 106 [(SlA 25 [U32] (l.map RIA)).va] (Bo (l.any bigI)):=by
 refine Cn.intro Tryz.func106 G zk nq (fun B w0 a U=>?_)
 have U:=zn [(0,(SlA 25 [U32] (l.map RIA)).va)] [] U
 refine wp_seq<|zh [.v 2 _] [.g 0,.o 0] U (zv G (a9 aK) o0) (zz [(0,_),(2,_)] [] fun a w U=>?_)
 refine zt<|zh [.v 3 _,.v 4 _,.v 2 _] [.o 2] U (zM 0 G (zv G (aa (xs:=[.tmp 3,.func 177]) (rc _ hl) (.cons (vq 0 G) (.cons (wQ Bu) .nil))) (zA 1 G o0))) (zz [(2,_)] [] fun a w U=>?_)
 exact a7<|wp_ret<|am G U (zm 0 G)
theorem qH {z:Int}{k:Nat}(h:z.natAbs<4294967296^k):lz z≤k:=dN h
theorem tA (p q:Int):lz (p*q)≤lz p+lz q:=by
 apply qH
 rw [Int.natAbs_mul,Nat.pow_add]
 exact Nat.mul_lt_mul'' (eA p) (eA q)
theorem tC (p q:Int):lz (p+q)≤max (lz p) (lz q)+1:=by
 apply qH
 have h1:p.natAbs<4294967296^max (lz p) (lz q):=Nat.lt_of_lt_of_le (eA p) (Nat.pow_le_pow_right zd (Nat.le_max_left _ _))
 have h2:q.natAbs<4294967296^max (lz p) (lz q):=Nat.lt_of_lt_of_le (eA q) (Nat.pow_le_pow_right zd (Nat.le_max_right _ _))
 have h3:=Int.natAbs_add_le p q
 rw [Nat.pow_succ]
 omega
theorem yu (p q:Int):lz (p-q)≤max (lz p) (lz q)+1:=by have:=tC p (-q); rw [j3] at this; exact this
theorem nP (p q:Int):lz (p.tdiv q)≤lz p:=eV (by rw [iq]; exact Nat.div_le_self _ _)
theorem wF {p q:Int}(h:q≠0):lz (p.tmod q)≤lz q:=eV (by rw [fY]; exact Nat.le_of_lt (Nat.mod_lt _ zo))
theorem tB (p q:Int):lz ((Int.gcd p q:Nat):Int)≤max (lz p) (lz q):=by
 by_cases h:p=0
 ·subst h
  have:lz ((Int.gcd 0 q:Nat):Int)=lz q:=by simp [lz]
  omega
 ·have:lz ((Int.gcd p q:Nat):Int)≤lz p:=eV (by
   have:Int.gcd p q≤p.natAbs:=Nat.le_of_dvd zo (Nat.gcd_dvd_left _ _)
   omega)
  omega
def ZA (k:Nat)(z:Int):As:=(RIA (riOf z)).and (lz z≤k)
abbrev Zs (k:Nat)(z:Int):VA:=(ZA k z).va
theorem wk_z {k:Nat}{z:Int}:Wk (Zs k z) (Zi z):=fun _ _ _ h=>(dH h).2
theorem za {k B:Nat}{z:Int}{v:Value}{w:World}(h:(Zs k z).p B v w):lz z≤k:=(dH h).1
theorem fF {k:Nat}{z:Int}(h:lz z≤k):Wk (Zi z) (Zs k z):=fun _ _ _ hp=>xN h hp
section
variable {P:Program} {f:FuncId} {post:VA} {a b:Nat} {p q:Int}
theorem zs1 (hex : ∃ fn, P.funcs[f]? = some fn ∧ (fn.name == "runtime.NumGoroutine") = false ∧ fn.body.isNone = false) (h : lz p ≤ a → Cn P f [Zi p] post) : Cn P f [Zs a p] post :=
 Cn.know (c:=lz p≤a) hex (fun B w args ha=>by cases ha with | cons h1 _=>exact za h1) fun hc=>(h hc).wk (.cons wk_z .nil)
theorem zs2 (hex : ∃ fn, P.funcs[f]? = some fn ∧ (fn.name == "runtime.NumGoroutine") = false ∧ fn.body.isNone = false) (h : lz p ≤ a → lz q ≤ b → Cn P f [Zi p, Zi q] post) : Cn P f [Zs a p, Zs b q] post :=
 Cn.know (c:=lz p≤a∧lz q≤b) hex (fun B w args ha=>by cases ha with | cons h1 ha=>cases ha with | cons h2 _=>exact ⟨za h1,za h2⟩) fun hc=>(h hc.1 hc.2).wk (.cons wk_z (.cons wk_z .nil))
end
theorem br {A A' A'':VA}(h:Wk A A')(h':Wk A' A''):Wk A A'':=fun B v w hp=>h' B v w (h B v w hp)
theorem bc {A A':VA}(h:A=A'):Wk A A':=h▸bh
theorem all_wk {l l':List VA}(h:All2 Wk l l'){B:Nat}{w:World}:∀ {vs:List Value},All2 (fun (A:VA) v=>A.p B v w) l vs→All2 (fun (A:VA) v=>A.p B v w) l' vs:=by
 induction h with
 | nil=>intro vs hp; cases hp; exact .nil
 | cons h1 _ ih=>intro vs hp; cases hp with | cons h2 h3=>exact .cons (h1 _ _ _ h2) (ih h3)
theorem vp {l l':List VA}(h:All2 Wk l l'):Wk (Tu l) (Tu l'):=fun _ _ _ ⟨vs,hv,hp⟩=>⟨vs,hv,all_wk h hp⟩
def sg3 (p q:Int):Int:=if p<q then -1 else if q<p then 1 else 0
theorem de (p:Int):sgI (riOf p)=p.sign:=by
 unfold sgI
 by_cases h:p=0
 ·subst h; simp [riOf,bt]
 ·have:=hC h
  rw [dY,if_neg zo]
  by_cases h2:p<0
  ·simp [riOf,h2,Int.sign_eq_neg_one_of_neg h2]
  ·have:0<p:=by omega
   simp [riOf,h2,Int.sign_eq_one_of_pos this]
theorem vH (m n:Nat):(sizeL (limbs m) (limbs n)<0↔m<n)∧(sizeL (limbs m) (limbs n)=0↔m=n)∧(0<sizeL (limbs m) (limbs n)↔n<m):=by
 have:=(dA (m:=m) (n:=n))
 omega
theorem yS (p q:Int):cmpI (riOf p) (riOf q)=sg3 p q:=by
 unfold cmpI
 rw [de,de]
 have h:=vH p.natAbs q.natAbs
 have e1:(riOf p).mag=limbs p.natAbs:=rfl
 have e2:(riOf q).mag=limbs q.natAbs:=rfl
 rw [e1,e2]
 generalize sizeL (limbs p.natAbs) (limbs q.natAbs)=s at *
 have hp:p.sign=if p<0 then -1 else if p=0 then 0 else 1:=by
  rcases Int.lt_trichotomy p 0 with h | h | h
  ·rw [if_pos h,Int.sign_eq_neg_one_of_neg h]
  ·subst h; rfl
  ·rw [if_neg zo,if_neg zo,Int.sign_eq_one_of_pos h]
 have hq:q.sign=if q<0 then -1 else if q=0 then 0 else 1:=by
  rcases Int.lt_trichotomy q 0 with h | h | h
  ·rw [if_pos h,Int.sign_eq_neg_one_of_neg h]
  ·subst h; rfl
  ·rw [if_neg zo,if_neg zo,Int.sign_eq_one_of_pos h]
 have hn:(riOf p).neg=decide (p<0):=rfl
 rw [hp,hq,hn]
 unfold sg3
 by_cases h1:p<0
 ·by_cases h2:q<0
  ·simp only [h1,h2,if_true,decide_true]; rw [if_neg zo]; split <;> (try split) <;> omega
  ·rw [if_pos h1,if_neg h2,if_pos (by split <;> omega),if_pos (by split <;> omega),if_pos zo]
 ·by_cases h2:q<0
  ·rw [if_neg h1,if_pos h2,if_pos (by split <;> omega),if_neg (by split <;> omega),if_neg zo,if_pos zo]
  ·simp only [h1,h2,if_false,decide_false]
   by_cases h3:p=0 <;> by_cases h4:q=0 <;> simp only [h3,h4,if_true,if_false]
   ·rw [if_neg zo]; simp; omega
   ·rw [if_pos zo,if_pos zo,if_pos zo]
   ·rw [if_pos zo,if_neg zo,if_neg zo,if_pos zo]
   ·rw [if_neg zo]; simp only [Bool.false_eq_true,if_false]; split <;> (try split) <;> omega
theorem oJ (p q:Int):rsig ((riOf p).neg != (riOf q).neg) (digs ((riOf p).mag.length+(riOf q).mag.length) (val (riOf p).mag*val (riOf q).mag))=riOf (p*q):=by
 rw [bx,bx]
 refine bS (bN _ _) ?_ fun hz=>?_
 ·rw [dn,Nat.mod_eq_of_lt,Int.natAbs_mul]
  rw [dY,dY,Nat.pow_add]
  exact Nat.mul_lt_mul'' (eA p) (eA q)
 ·have hp:p≠0:=fun e=>hz (by rw [e,Int.zero_mul])
  have hq:q≠0:=fun e=>hz (by rw [e,Int.mul_zero])
  show (decide (p<0) != decide (q<0))=decide (p*q<0)
  by_cases h1:p<0 <;> by_cases h2:q<0
  ·have:=Int.mul_pos_of_neg_of_neg h1 h2; simp [h1,h2]; omega
  ·have:=Int.mul_neg_of_neg_of_pos h1 (by omega:0<q); simp [h1,h2]; omega
  ·have:=Int.mul_neg_of_pos_of_neg (by omega:0<p) h2; simp [h1,h2]; omega
  ·have:=Int.mul_pos (by omega:0<p) (by omega:0<q); simp [h1,h2]; omega
theorem pJ : ∃ fn, Tryz.prog.funcs[105]? = some fn ∧ (fn.name == "runtime.NumGoroutine") = false ∧ fn.body.isNone = false := ⟨_, Tryz.func105, by kernel_rfl, by kernel_rfl⟩
theorem C9 : ∃ fn, Tryz.prog.funcs[171]? = some fn ∧ (fn.name == "runtime.NumGoroutine") = false ∧ fn.body.isNone = false := ⟨_, Tryz.func171, by kernel_rfl, by kernel_rfl⟩
theorem xj : ∃ fn, Tryz.prog.funcs[112]? = some fn ∧ (fn.name == "runtime.NumGoroutine") = false ∧ fn.body.isNone = false := ⟨_, Tryz.func112, by kernel_rfl, by kernel_rfl⟩
theorem ex_Cmp : ∃ fn, Tryz.prog.funcs[111]? = some fn ∧ (fn.name == "runtime.NumGoroutine") = false ∧ fn.body.isNone = false := ⟨_, Tryz.func111, by kernel_rfl, by kernel_rfl⟩
theorem C8 : ∃ fn, Tryz.prog.funcs[110]? = some fn ∧ (fn.name == "runtime.NumGoroutine") = false ∧ fn.body.isNone = false := ⟨_, Tryz.func110, by kernel_rfl, by kernel_rfl⟩
theorem mT : ∃ fn, Tryz.prog.funcs[173]? = some fn ∧ (fn.name == "runtime.NumGoroutine") = false ∧ fn.body.isNone = false := ⟨_, Tryz.func173, by kernel_rfl, by kernel_rfl⟩
theorem uA : ∃ fn, Tryz.prog.funcs[172]? = some fn ∧ (fn.name == "runtime.NumGoroutine") = false ∧ fn.body.isNone = false := ⟨_, Tryz.func172, by kernel_rfl, by kernel_rfl⟩
theorem ux : ∃ fn, Tryz.prog.funcs[174]? = some fn ∧ (fn.name == "runtime.NumGoroutine") = false ∧ fn.body.isNone = false := ⟨_, Tryz.func174, by kernel_rfl, by kernel_rfl⟩
section
variable {a b:Nat} {p q:Int} (ha:a≤1099511627776)
include ha
theorem oF:Cn Tryz.prog 174 [Zs a p] (Zs a (-p)):=zs1 ux fun h=>(rz p zo).wkp (fF (by rw [j3]; exact h))
variable (hb:b≤1099511627776)
include hb
theorem dz:Cn Tryz.prog 105 [Zs a p,Zs b q] (Zs (a+b) (p*q)):=zs2 pJ fun h h'=>(rI (riOf p) (riOf q) (by rw [dY]; omega) (by rw [dY]; omega)).wkp (br (br gU (bc (congrArg (fun x=>(RIA x).va) (oJ p q)))) (fF (by have:=tA p q; omega)))
theorem Bg:Cn Tryz.prog 112 [Zs a p,Zs b q] (Zs (max a b+1) (p-q)):=zs2 xj fun h h'=>(tt p q zo zo).wkp (fF (by have:=yu p q; omega))
theorem Cw:Cn Tryz.prog 111 [Zs a p,Zs b q] (In (sg3 p q)):=zs2 ex_Cmp fun h h'=>(yT (riOf p) (riOf q) (by rw [dY]; omega) (by rw [dY]; omega)).post (by rw [yS])
theorem pV:Cn Tryz.prog 172 [Zs a p,Zs b q] (Zs (max a b) ((Int.gcd p q:Nat):Int)):=zs2 uA fun h h'=>(pW p q zo zo).wkp (br gU (fF (by have:=tB p q; omega)))
omit hb in
theorem pQ (hq:q≠0):Cn Tryz.prog 173 [Zs a p,Zs b q] (Tu [Zs a (p.tdiv q),Zs b (p.tmod q)]):=zs2 mT fun h h'=>(ji p q hq zo).wkp (vp (.cons (br gU (fF (by have:=nP p q; omega))) (.cons (br gU (fF (by have:=wF (p:=p) hq; omega))) .nil)))
end
theorem rS {a:Nat}{p:Int}:Cn Tryz.prog 110 [Zs a p] (In p.sign):=zs1 C8 fun _=>(oO (riOf p)).post (by rw [de])
theorem of_z {n:Int}(h0 : -9223372036854775808≤n)(h1:n<9223372036854775808):Cn Tryz.prog 113 [In n] (Zs 2 n):=(of_c n h0 h1).wkp (fF (qH zo))
def QA (k:Nat)(r:Rat):As:=cat [ZA k r.num,ZA k (r.den:Int)]
abbrev Qs (k:Nat)(r:Rat):VA:=(QA k r).va
def WkA (A A':As):Prop:=A'.n=A.n∧A'.ag=A.ag∧∀ B cs w,A.p B cs w→A'.p B cs w
theorem WkA.va {A A':As}(h:WkA A A'):Wk A.va A'.va:=fun B v w ⟨cs,hp,hv⟩=>⟨cs,h.2.2 B cs w hp,by rw [h.2.1]; exact hv⟩
theorem WkA.refl (A:As):WkA A A:=⟨rfl,rfl,fun _ _ _ h=>h⟩
theorem WkA.trans {A A' A'':As}(h:WkA A A')(h':WkA A' A''):WkA A A'':=⟨h'.1.trans h.1,h'.2.1.trans h.2.1,fun B cs w hp=>h'.2.2 B cs w (h.2.2 B cs w hp)⟩
theorem jJ {A A':As}(h:A=A'):WkA A A':=h▸WkA.refl A
theorem bz {l l':List As}(h:All2 WkA l l'):WkA (cat l) (cat l'):=by
 have key:∀ {l l':List As},All2 WkA l l'→(cat l').n=(cat l).n∧∀ B ps w,All2 (fun (A:As) c=>A.p B c w) l ps→All2 (fun (A:As) c=>A.p B c w) l' ps:=by
  intro l l' h
  induction h with
  | nil=>exact ⟨rfl,fun B ps w h=>by cases h; exact .nil⟩
  | cons h1 _ ih =>
   refine ⟨?_,fun B ps w h=>?_⟩
   ·have:=ih.1
    simp only [cat,List.map_cons,List.sum_cons] at this ⊢
    rw [h1.1,this]
   ·cases h with
    | cons h2 h3=>exact .cons (h1.2.2 _ _ _ h2) (ih.2 _ _ _ h3)
 exact ⟨(key h).1,rfl,fun B cs w ⟨ps,e1,e2⟩=>⟨ps,e1,(key h).2 B ps w e2⟩⟩
theorem zaA {k:Nat}{z:Int}:WkA (ZA k z) (RIA (riOf z)):=⟨rfl,rfl,fun _ _ _ h=>h.2⟩
theorem ze {k:Nat}{z:Int}(h:lz z≤k):WkA (RIA (riOf z)) (ZA k z):=⟨rfl,rfl,fun _ _ _ hp=>⟨h,hp⟩⟩
theorem eL {k k':Nat}{z:Int}(h:k≤k'):WkA (ZA k z) (ZA k' z):=⟨rfl,rfl,fun _ _ _ hp=>⟨Nat.le_trans hp.1 h,hp.2⟩⟩
theorem qaA {k:Nat}{r:Rat}:WkA (QA k r) (RFA (rfOf r)):=bz (.cons zaA (.cons zaA .nil))
theorem qa_of {k:Nat}{r:Rat}(h:lz r.num≤k)(h':lz (r.den:Int)≤k):WkA (RFA (rfOf r)) (QA k r):=bz (.cons (ze h) (.cons (ze h') .nil))
theorem bT {k k':Nat}{r:Rat}(h:k≤k'):WkA (QA k r) (QA k' r):=bz (.cons (eL h) (.cons (eL h) .nil))
theorem St.wkL {B N:Nat}{w0:Bs}{Γ:List (Nat × VA)}{Λ:List Lc}{a:Act}{w:World}(h:St B w0 N Γ Λ a w){s:Nat}{T:TypeId}{H:Hd}{A A':As}(k:Nat)(hm:Λ[k]?=some ⟨s,T,H,A⟩)(e:WkA A A'):St B w0 N Γ (Λ.set k ⟨s,T,H,A'⟩) a w:=by
 obtain ⟨hk,he⟩:=List.getElem?_eq_some_iff.1 hm
 have hset:∀ l∈Λ.set k ⟨s,T,H,A'⟩,l=⟨s,T,H,A'⟩∨l∈Λ:=fun l hl=>(List.mem_or_eq_of_mem_set hl).symm
 have hin:(⟨s,T,H,A⟩:Lc)∈Λ:=List.mem_of_getElem? hm
 have hd:∀ l∈Λ.set k ⟨s,T,H,A'⟩,∃ l'∈Λ,l'.s=l.s:=fun l hl=>by
  rcases hset l hl with rfl | hl
  ·exact ⟨_,hin,rfl⟩
  ·exact ⟨l,hl,rfl⟩
 refine ⟨h.lo,h.defers,h.size,h.base,h.vals,fun l hl=>?_,fun l hl m hm' hne=>?_⟩
 ·rcases hset l hl with rfl | hl
  ·obtain ⟨g,cs,h1,h2,h3,h4⟩:=h.locs _ hin
   exact ⟨g,cs,h1,h2,h3,e.2.2 _ _ _ h4⟩
  ·exact h.locs l hl
 ·obtain ⟨l',hl',e1⟩:=hd l hl
  obtain ⟨m',hm'',e2⟩:=hd m hm'
  have:=h.dis l' hl' m' hm'' (by rw [e1,e2]; exact hne)
  rw [e1,e2] at this
  exact this
theorem ue {n:Nat}(h:(sg3 ((n:Nat):Int) 1 != 0)=false):n=1:=by
 unfold sg3 at h
 simp at h
 split at h
 ·simp at h
 ·split at h
  ·simp at h
  ·omega
theorem oK {n:Nat}{x:Int}(h:(sg3 ((n:Nat):Int) 1 != 0)=false):x=x.tdiv ((n:Nat):Int):=by rw [ue h,Int.natCast_one,Int.tdiv_one]
theorem ny {z:Int}(h:decide (z.sign<0)=true):z<0:=Int.sign_neg_iff.1 (of_decide_eq_true h)
theorem rX {z:Int}(h:decide (z.sign<0)=false):¬ z<0:=fun hh=>of_decide_eq_false h (Int.sign_neg_iff.2 hh)
theorem nR {p q:Int}(hq:q≠0):(if q.tdiv (Int.gcd p q:Nat)<0 then -(p.tdiv (Int.gcd p q:Nat)) else p.tdiv (Int.gcd p q:Nat))=(Rat.divInt p q).num ∧
  (if q.tdiv (Int.gcd p q:Nat)<0 then -(q.tdiv (Int.gcd p q:Nat)) else q.tdiv (Int.gcd p q:Nat))=((Rat.divInt p q).den:Int):=by
 have hg:0<Int.gcd p q:=Int.gcd_pos_of_ne_zero_right p hq
 have d1:((Int.gcd p q:Nat):Int)∣p:=Int.gcd_dvd_left ..
 have d2:((Int.gcd p q:Nat):Int)∣q:=Int.gcd_dvd_right ..
 rw [Rat.num_divInt,Rat.den_divInt,if_neg hq,Int.gcd_comm q p]
 generalize Int.gcd p q=g at *
 obtain ⟨x,rfl⟩:=d1
 obtain ⟨y,rfl⟩:=d2
 have hg':(g:Int)≠0:=by omega
 rw [Int.mul_tdiv_cancel_left _ hg',Int.mul_tdiv_cancel_left _ hg']
 have hy:y≠0:=fun e=>hq (by rw [e,Int.mul_zero])
 have e2:((g:Int)*y).natAbs/g=y.natAbs:=by rw [Int.natAbs_mul]; exact Nat.mul_div_cancel_left _ hg
 rw [e2]
 by_cases h:y<0
 ·have h1:(g:Int)*y<0:=Int.mul_neg_of_pos_of_neg zo h
  rw [Int.sign_eq_neg_one_of_neg h1,if_pos h,if_pos h]
  refine ⟨?_,by omega⟩
  rw [show (-1:Int)*(g*x)=g*(-x) by rw [Int.mul_neg]; omega,Int.mul_ediv_cancel_left _ hg']
 ·have h1:0<(g:Int)*y:=Int.mul_pos zo zo
  rw [Int.sign_eq_one_of_pos h1,if_neg h,if_neg h,Int.one_mul,Int.mul_ediv_cancel_left _ hg']
  exact ⟨rfl,by omega⟩
theorem ir {c d:Nat}{p q:Int}(hc:c≤1099511627776)(hd:d≤1099511627776)(hq:q≠0):Cn Tryz.prog 104 [Zs c p,Zs d q] (Qs (max c d) (Rat.divInt p q)):=by
 have hg0:0<Int.gcd p q:=Int.gcd_pos_of_ne_zero_right p hq
 obtain ⟨hn1,hn2⟩:=nR (p:=p) hq
 refine Cn.intro Tryz.func104 G zk nq (fun B w0 a U=>?_)
 have U:=zn [(0,Zs c p),(1,Zs d q)] [] U
 refine wp_seq<|zg [] [⟨2,25,ptrH,some 0,_,none⟩,⟨3,25,ptrH,some 1,_,none⟩,⟨4,27,ptrH,some 2,_,none⟩] [.alc 0,.alc 1,.alc 2] [] U (oc (ay G G G (gq 0 G)) (oc (ay G G G (gq 1 G)) (oc (aJ G G G (Str.zero b4)) o0))) (zz [] [O 2 25 _,O 3 25 _,O 4 27 _] fun a w U=>?_)
 refine zt<|wp_seq<|zg [none,none,none] [⟨5,25,ptrH,some 3,_,some (4,_)⟩] [.v 6 _,.v 7 _,.v 8 _,.alc 3,.sto 3] [] U (zl 0 G al (zl 1 G al (zv G (aa (xs:=[.tmp 6,.tmp 7]) (pV zo zo) (.cons (vq 0 G) (.cons (vq 1 G) .nil))) (oc (aJ G G G (Str.zero bm)) (oc (aA G G G (vq 2 G) al (Eq.trans (b:=2) G G)) o0))))) (zz [] [O 2 25 _,O 3 25 _,O 4 27 _,O 5 25 _] fun a w U=>?_)
 refine zt<|zgd [[],[],[0,1],[0,1,2]] [none,none,none,none] [] [.v 9 _,.v 10 _,.v 11 _,.v 12 _] [.o 3] ab U (zl 3 G al (zv G (aa (xs:=[.const (.int .i64 (1))]) (of_z zd zd) (.cons a8 .nil)) (zv G (aa (xs:=[.tmp 9,.tmp 10]) (Cw zo zo) (.cons (vq 0 G) (.cons (vq 1 G) .nil))) (zv G (cI (vq 2 G) a8) o0)))) zk zk zk zk (zz [(12,_)] [O 2 25 _,O 3 25 _,O 4 27 _,O 5 25 _] fun a w U=>?_)
 refine a7<|bO (fun a w =>  St B w0 35 [] [⟨2,25,ptrH,ZA c (p.tdiv ((Int.gcd p q:Nat):Int))⟩,⟨3,25,ptrH,ZA d (q.tdiv ((Int.gcd p q:Nat):Int))⟩,⟨4,27,ptrH,RFA ⟨⟨false,[]⟩,⟨false,[]⟩⟩⟩,⟨5,25,ptrH,ZA (max c d) ((Int.gcd p q:Nat):Int)⟩] a w) U (zm 0 G) (fun hb0=>?_) (fun hb0=>?_) (fun a w U=>?_)
 ·refine wp_seq<|zg [some (6,_),none,none,none] [] [.v 14 _,.v 15 _,.v 16 _,.v 13 _,.v 17 _,.v 18 _,.sto 0] [] U (zl 0 G al (zl 3 G al (zv G (aa (xs:=[.tmp 14,.tmp 15]) (pQ zo zo) (.cons (vq 0 G) (.cons (vq 1 G) .nil))) (zv G (ae (vq 2 G)) (zv G (aQ (vq 3 G) G) (zv G (aQ (vq 3 G) G) (oc (aA G G G (vq 4 G) al (Eq.trans (b:=2) G G)) o0))))))) (zz [] [O 2 25 _,O 3 25 _,O 4 27 _,O 5 25 _] fun a w U=>?_)
  refine a7<|zg [none,some (6,_),none,none] [] [.v 20 _,.v 21 _,.v 22 _,.v 19 _,.v 23 _,.v 24 _,.sto 1] [] U (zl 1 G al (zl 3 G al (zv G (aa (xs:=[.tmp 20,.tmp 21]) (pQ zo zo) (.cons (vq 0 G) (.cons (vq 1 G) .nil))) (zv G (ae (vq 2 G)) (zv G (aQ (vq 3 G) G) (zv G (aQ (vq 3 G) G) (oc (aA G G G (vq 4 G) al (Eq.trans (b:=2) G G)) o0))))))) (zz [] [O 2 25 _,O 3 25 _,O 4 27 _,O 5 25 _] fun a w U=>?_)
  refine a7 ?_
  have U:=St.sel U []
  exact U
 ·refine wp_skip<|a7 ?_
  have U:=St.sel U []
  have U:=St.cvA (A':=ZA c (p.tdiv ((Int.gcd p q:Nat):Int))) U 0 rfl (congrArg (ZA c) (oK hb0))
  have U:=St.cvA (A':=ZA d (q.tdiv ((Int.gcd p q:Nat):Int))) U 1 rfl (congrArg (ZA d) (oK hb0))
  exact U
 refine zt<|wp_seq<|zg [none,none,none,none] [] [.v 25 _,.v 26 _,.v 27 _] [.o 2] U (zl 1 G al (zv G (aa (xs:=[.tmp 25]) rS (.cons (vq 0 G) .nil)) (zv G (aN (vq 1 G) a8) o0))) (zz [(27,_)] [O 2 25 _,O 3 25 _,O 4 27 _,O 5 25 _] fun a w U=>?_)
 refine a7<|bO (fun a w =>  St B w0 35 [] [⟨2,25,ptrH,ZA c (Rat.divInt p q).num⟩,⟨3,25,ptrH,ZA d ((Rat.divInt p q).den:Int)⟩,⟨4,27,ptrH,RFA ⟨⟨false,[]⟩,⟨false,[]⟩⟩⟩,⟨5,25,ptrH,ZA (max c d) ((Int.gcd p q:Nat):Int)⟩] a w) U (zm 0 G) (fun hb1=>?_) (fun hb1=>?_) (fun a w U=>?_)
 ·refine zgd [[],[0],[],[0,1,2],[0,1,2,3],[0,1,2,3,4]] [some (4,_),some (5,_),none,none] [] [.v 28 _,.v 29 _,.v 30 _,.v 31 _,.sto 0,.sto 1] [] ab U (zl 0 G al (zv G (aa (xs:=[.tmp 28]) (oF zo) (.cons (vq 0 G) .nil)) (zl 1 G al (zv G (aa (xs:=[.tmp 30]) (oF zo) (.cons (vq 2 G) .nil)) (oc (aA G G G (vq 1 G) al (Eq.trans (b:=2) G G)) (oc (aA G G G (vq 3 G) al (Eq.trans (b:=2) G G)) o0)))))) zk zk zk zk (zz [] [O 2 25 _,O 3 25 _,O 4 27 _,O 5 25 _] fun a w U=>?_)
  refine a7 ?_
  have U:=St.sel U []
  rw [if_pos (ny hb1)] at hn1 hn2; rw [hn1,hn2] at U; exact U
 ·refine wp_skip<|a7 ?_
  have U:=St.sel U []
  rw [if_neg (rX hb1)] at hn1 hn2; rw [hn1,hn2] at U; exact U
 refine zt<|zg [none,none,some (3,_),none] [] [.v 32 _,.v 33 _,.v 34 _,.sto 2] [] U (zl 0 G al (zl 1 G al (zv G (bi (xs:=[(0,.tmp 32),(1,.tmp 33)]) (qs:=[(0,_),(1,_)]) b4 (.cons ⟨rfl,(vq 0 G),rfl⟩ (.cons ⟨rfl,(vq 1 G),rfl⟩ .nil))) (oc (aA G G G (vq 2 G) ax (Eq.trans (b:=4) G G)) o0)))) (zz [] [O 2 25 _,O 3 25 _,O 4 27 _,O 5 25 _] fun a w U=>?_)
 refine a7<|wp_ret<|ar ?_ (az G U (zm 2 G) ax)
 exact (bz (.cons (eL (Nat.le_max_left _ _)) (.cons (eL (Nat.le_max_right _ _)) .nil))).va
theorem sy (x y:Rat):Rat.divInt (x.num*(y.den:Int)+y.num*(x.den:Int)) ((x.den:Int)*(y.den:Int))=x+y:=by
 rw [Rat.add_def',← Rat.divInt_ofNat,Int.natCast_mul]
theorem Az (x y:Rat):Rat.divInt (x.num*(y.den:Int)-y.num*(x.den:Int)) ((x.den:Int)*(y.den:Int))=x-y:=by
 rw [Rat.sub_def',← Rat.divInt_ofNat,Int.natCast_mul]
theorem sv (x y:Rat):Rat.divInt (x.num*y.num) ((x.den:Int)*(y.den:Int))=x*y:=by
 rw [Rat.mul_def',← Rat.divInt_ofNat,Int.natCast_mul]
theorem sw (x y:Rat):Rat.divInt (x.num*(y.den:Int)) ((x.den:Int)*y.num)=x/y:=by
 rw [Rat.div_def,Rat.inv_def,← Rat.divInt_mul_divInt,Rat.num_divInt_den]
theorem mX (x y:Rat):(x.den:Int)*(y.den:Int)≠0:=Int.mul_ne_zero (by have:=x.den_pos; omega) (by have:=y.den_pos; omega)
theorem yj (x:Rat){y:Rat}(h:y≠0):(x.den:Int)*y.num≠0:=Int.mul_ne_zero (by have:=x.den_pos; omega) (fun e=>h (Rat.num_eq_zero.1 e))
def cmQ (x y:Rat):Int:=if x<y then -1 else if y<x then 1 else 0
theorem cm_sg (x y:Rat):sg3 (x.num*(y.den:Int)) (y.num*(x.den:Int))=cmQ x y:=by
 unfold sg3 cmQ
 simp only [Rat.lt_iff]
theorem q0_wk {k:Nat}:WkA (cat [RIA ⟨false,[]⟩,ZA k 1]) (QA k 0):=bz (.cons ((jJ (show RIA ⟨false,[]⟩=RIA (riOf 0) from by simp [riOf,bt])).trans (ze (by simp [lz,bt]))) (.cons (WkA.refl _) .nil))
theorem ip  : Cn Tryz.prog 33 [] (Qs 2 0):=by
 refine Cn.intro Tryz.func33 G zk nq (fun B w0 a U=>?_)
 have U:=zn [] [] U
 refine wp_seq<|zg [] [⟨0,27,ptrH,some 0,_,none⟩] [.alc 0] [] U (oc (aJ G G G (Str.zero b4)) o0) (zz [] [O 0 27 _] fun a w U=>?_)
 refine zt<|zg [some (2,_)] [] [.v 1 _,.v 2 _,.sto 0] [] U (zv G (aa (xs:=[.const (.int .i64 (1))]) (of_z zd zd) (.cons a8 .nil)) (zv G (bi (xs:=[(1,.tmp 1)]) (qs:=[(1,_)]) b4 (.cons ⟨rfl,(vq 0 G),rfl⟩ .nil)) (oc (aA G G G (vq 1 G) ax (Eq.trans (b:=4) G G)) o0))) (zz [] [O 0 27 _] fun a w U=>?_)
 refine a7<|wp_ret<|ar ?_ (az G U (zm 0 G) ax)
 exact q0_wk.va
theorem A7 {p q:Int}(hp : -9223372036854775808≤p)(hp1:p<9223372036854775808)(hq : -9223372036854775808≤q)(hq1:q<9223372036854775808)(h0:q≠0):Cn Tryz.prog 109 [In p,In q] (Qs 2 (Rat.divInt p q)):=by
 refine Cn.intro Tryz.func109 G zk nq (fun B w0 a U=>?_)
 have U:=zn [(0,In p),(1,In q)] [] U
 refine wp_seq<|zg [] [⟨4,27,ptrH,some 0,_,none⟩] [.alc 0] [.g 0,.g 1] U (oc (aJ G G G (Str.zero b4)) o0) (zz [(0,_),(1,_)] [O 4 27 _] fun a w U=>?_)
 refine zt<|zg [some (5,_)] [] [.v 5 _,.v 6 _,.v 7 _,.v 8 _,.v 9 _,.sto 0] [] U (zM 0 G (zv G (aa (xs:=[.tmp 5]) (of_z hp hp1) (.cons (vq 0 G) .nil)) (zM 1 G (zv G (aa (xs:=[.tmp 7]) (of_z hq hq1) (.cons (vq 2 G) .nil)) (zv G (aa (xs:=[.tmp 6,.tmp 8]) (ir zo zo h0) (.cons (vq 1 G) (.cons (vq 3 G) .nil))) (oc (aA G G G (vq 4 G) ax (Eq.trans (b:=4) G G)) o0)))))) (zz [] [O 4 27 _] fun a w U=>?_)
 refine a7<|wp_ret<|ar ?_ (az G U (zm 0 G) ax)
 exact bh
theorem one_q  : Cn Tryz.prog 29 [] (Qs 2 1):=by
 refine Cn.intro Tryz.func29 G zk nq (fun B w0 a U=>?_)
 have U:=zn [] [] U
 refine wp_seq<|zg [] [⟨0,27,ptrH,some 0,_,none⟩] [.alc 0] [] U (oc (aJ G G G (Str.zero b4)) o0) (zz [] [O 0 27 _] fun a w U=>?_)
 refine zt<|zg [some (1,_)] [] [.v 1 _,.sto 0] [] U (zv G (aa (xs:=[.const (.int .i64 (1)),.const (.int .i64 (1))]) (A7 zd zd zd zd zd) (.cons a8 (.cons a8 .nil))) (oc (aA G G G (vq 0 G) ax (Eq.trans (b:=4) G G)) o0)) (zz [] [O 0 27 _] fun a w U=>?_)
 refine a7<|wp_ret<|ar ?_ (az G U (zm 0 G) ax)
 exact bc (congrArg (Qs 2) (show Rat.divInt 1 1=1 from G))
theorem eT {c d:Nat}{x y:Rat}(hc:c+d≤549755813888):Cn Tryz.prog 32 [Qs c x,Qs d y] (Qs (c+d+1) (x-y)):=by
 refine Cn.intro Tryz.func32 G zk nq (fun B w0 a U=>?_)
 have U:=zn [(0,Qs c x),(1,Qs d y)] [] U
 refine wp_seq<|zg [] [⟨2,27,ptrH,some 0,_,none⟩,⟨3,27,ptrH,some 1,_,none⟩,⟨4,27,ptrH,some 2,_,none⟩] [.alc 0,.alc 1,.alc 2] [] U (oc (ay G G G (gq 0 G)) (oc (ay G G G (gq 1 G)) (oc (aJ G G G (Str.zero b4)) o0))) (zz [] [O 2 27 _,O 3 27 _,O 4 27 _] fun a w U=>?_)
 refine zt<|zgd [[],[0],[],[2],[0,1,2,3],[],[5],[],[7],[0,1,2,3,4,5,6,7,8],[0,1,2,3,4,5,6,7,8,9],[],[11],[],[13],[0,1,2,3,4,5,6,7,8,9,10,11,12,13,14],[0,1,2,3,4,5,6,7,8,9,10,11,12,13,14,15],[0,1,2,3,4,5,6,7,8,9,10,11,12,13,14,15,16]] [none,none,some (17,_)] [] [.adr 5 2 (.some 0) True,.v 6 _,.adr 7 3 (.some 2) True,.v 8 _,.v 9 _,.adr 10 3 (.some 0) True,.v 11 _,.adr 12 2 (.some 2) True,.v 13 _,.v 14 _,.v 15 _,.adr 16 2 (.some 2) True,.v 17 _,.adr 18 3 (.some 2) True,.v 19 _,.v 20 _,.v 21 _,.sto 2] [] ab U (oc (ob_a G G (ac (lz0 0 G) aY)) (zL 0 0 0 G al (oc (ob_a G G (ac (lz0 1 G) aT)) (zL 2 1 1 G al (zv G (aa (xs:=[.tmp 6,.tmp 8]) (dz zo zo) (.cons (vq 1 G) (.cons (vq 3 G) .nil))) (oc (ob_a G G (ac (lz0 1 G) aY)) (zL 5 1 0 G al (oc (ob_a G G (ac (lz0 0 G) aT)) (zL 7 0 1 G al (zv G (aa (xs:=[.tmp 11,.tmp 13]) (dz zo zo) (.cons (vq 6 G) (.cons (vq 8 G) .nil))) (zv G (aa (xs:=[.tmp 9,.tmp 14]) (Bg zo zo) (.cons (vq 4 G) (.cons (vq 9 G) .nil))) (oc (ob_a G G (ac (lz0 0 G) aT)) (zL 11 0 1 G al (oc (ob_a G G (ac (lz0 1 G) aT)) (zL 13 1 1 G al (zv G (aa (xs:=[.tmp 17,.tmp 19]) (dz zo zo) (.cons (vq 12 G) (.cons (vq 14 G) .nil))) (zv G (aa (xs:=[.tmp 15,.tmp 20]) (ir zo zo (mX x y)) (.cons (vq 10 G) (.cons (vq 15 G) .nil))) (oc (aA G G G (vq 16 G) ax (Eq.trans (b:=4) G G)) o0)))))))))))))))))) zk zk zk zk (zz [] [O 2 27 _,O 3 27 _,O 4 27 _] fun a w U=>?_)
 refine a7<|wp_ret<|ar ?_ (az G U (zm 2 G) ax)
 exact br (bc (congrArg (Qs _) (Az x y))) (bT zo).va
theorem nv {c d:Nat}{x y:Rat}(hc:c+d≤549755813888):Cn Tryz.prog 26 [Qs c x,Qs d y] (Qs (c+d) (x*y)):=by
 refine Cn.intro Tryz.func26 G zk nq (fun B w0 a U=>?_)
 have U:=zn [(0,Qs c x),(1,Qs d y)] [] U
 refine wp_seq<|zg [] [⟨2,27,ptrH,some 0,_,none⟩,⟨3,27,ptrH,some 1,_,none⟩,⟨4,27,ptrH,some 2,_,none⟩] [.alc 0,.alc 1,.alc 2] [] U (oc (ay G G G (gq 0 G)) (oc (ay G G G (gq 1 G)) (oc (aJ G G G (Str.zero b4)) o0))) (zz [] [O 2 27 _,O 3 27 _,O 4 27 _] fun a w U=>?_)
 refine zt<|zgd [[],[0],[],[2],[0,1,2,3],[],[5],[],[7],[0,1,2,3,4,5,6,7,8],[0,1,2,3,4,5,6,7,8,9],[0,1,2,3,4,5,6,7,8,9,10]] [none,none,some (11,_)] [] [.adr 5 2 (.some 0) True,.v 6 _,.adr 7 3 (.some 0) True,.v 8 _,.v 9 _,.adr 10 2 (.some 2) True,.v 11 _,.adr 12 3 (.some 2) True,.v 13 _,.v 14 _,.v 15 _,.sto 2] [] ab U (oc (ob_a G G (ac (lz0 0 G) aY)) (zL 0 0 0 G al (oc (ob_a G G (ac (lz0 1 G) aY)) (zL 2 1 0 G al (zv G (aa (xs:=[.tmp 6,.tmp 8]) (dz zo zo) (.cons (vq 1 G) (.cons (vq 3 G) .nil))) (oc (ob_a G G (ac (lz0 0 G) aT)) (zL 5 0 1 G al (oc (ob_a G G (ac (lz0 1 G) aT)) (zL 7 1 1 G al (zv G (aa (xs:=[.tmp 11,.tmp 13]) (dz zo zo) (.cons (vq 6 G) (.cons (vq 8 G) .nil))) (zv G (aa (xs:=[.tmp 9,.tmp 14]) (ir zo zo (mX x y)) (.cons (vq 4 G) (.cons (vq 9 G) .nil))) (oc (aA G G G (vq 10 G) ax (Eq.trans (b:=4) G G)) o0)))))))))))) zk zk zk zk (zz [] [O 2 27 _,O 3 27 _,O 4 27 _] fun a w U=>?_)
 refine a7<|wp_ret<|ar ?_ (az G U (zm 2 G) ax)
 exact br (bc (congrArg (Qs _) (sv x y))) (bT zo).va
theorem t8 {c d:Nat}{x y:Rat}(hc:c+d≤549755813888)(h0:y≠0):Cn Tryz.prog 25 [Qs c x,Qs d y] (Qs (c+d) (x/y)):=by
 refine Cn.intro Tryz.func25 G zk nq (fun B w0 a U=>?_)
 have U:=zn [(0,Qs c x),(1,Qs d y)] [] U
 refine wp_seq<|zg [] [⟨2,27,ptrH,some 0,_,none⟩,⟨3,27,ptrH,some 1,_,none⟩,⟨4,27,ptrH,some 2,_,none⟩] [.alc 0,.alc 1,.alc 2] [] U (oc (ay G G G (gq 0 G)) (oc (ay G G G (gq 1 G)) (oc (aJ G G G (Str.zero b4)) o0))) (zz [] [O 2 27 _,O 3 27 _,O 4 27 _] fun a w U=>?_)
 refine zt<|zgd [[],[0],[],[2],[0,1,2,3],[],[5],[],[7],[0,1,2,3,4,5,6,7,8],[0,1,2,3,4,5,6,7,8,9],[0,1,2,3,4,5,6,7,8,9,10]] [none,none,some (11,_)] [] [.adr 5 2 (.some 0) True,.v 6 _,.adr 7 3 (.some 2) True,.v 8 _,.v 9 _,.adr 10 2 (.some 2) True,.v 11 _,.adr 12 3 (.some 0) True,.v 13 _,.v 14 _,.v 15 _,.sto 2] [] ab U (oc (ob_a G G (ac (lz0 0 G) aY)) (zL 0 0 0 G al (oc (ob_a G G (ac (lz0 1 G) aT)) (zL 2 1 1 G al (zv G (aa (xs:=[.tmp 6,.tmp 8]) (dz zo zo) (.cons (vq 1 G) (.cons (vq 3 G) .nil))) (oc (ob_a G G (ac (lz0 0 G) aT)) (zL 5 0 1 G al (oc (ob_a G G (ac (lz0 1 G) aY)) (zL 7 1 0 G al (zv G (aa (xs:=[.tmp 11,.tmp 13]) (dz zo zo) (.cons (vq 6 G) (.cons (vq 8 G) .nil))) (zv G (aa (xs:=[.tmp 9,.tmp 14]) (ir zo zo (yj x h0)) (.cons (vq 4 G) (.cons (vq 9 G) .nil))) (oc (aA G G G (vq 10 G) ax (Eq.trans (b:=4) G G)) o0)))))))))))) zk zk zk zk (zz [] [O 2 27 _,O 3 27 _,O 4 27 _] fun a w U=>?_)
 refine a7<|wp_ret<|ar ?_ (az G U (zm 2 G) ax)
 exact br (bc (congrArg (Qs _) (sw x y))) (bT zo).va
theorem Cx {c d:Nat}{x y:Rat}(hc:c+d≤549755813888):Cn Tryz.prog 31 [Qs c x,Qs d y] (In (cmQ x y)):=by
 refine Cn.intro Tryz.func31 G zk nq (fun B w0 a U=>?_)
 have U:=zn [(0,Qs c x),(1,Qs d y)] [] U
 refine wp_seq<|zg [] [⟨2,27,ptrH,some 0,_,none⟩,⟨3,27,ptrH,some 1,_,none⟩] [.alc 0,.alc 1,.v 4 _] [.o 2] U (oc (ay G G G (gq 0 G)) (oc (ay G G G (gq 1 G)) (zv G (a9 a8) o0))) (zz [(4,_)] [O 2 27 _,O 3 27 _] fun a w U=>?_)
 refine zt<|zgd [[],[0],[],[2],[0,1,2,3],[],[5],[],[7],[0,1,2,3,4,5,6,7,8],[0,1,2,3,4,5,6,7,8,9],[0,1,2,3,4,5,6,7,8,9,10]] [none,none] [] [.adr 5 2 (.some 0) True,.v 6 _,.adr 7 3 (.some 2) True,.v 8 _,.v 9 _,.adr 10 3 (.some 0) True,.v 11 _,.adr 12 2 (.some 2) True,.v 13 _,.v 14 _,.v 15 _,.v 4 _] [.o 11] ab U (oc (ob_a G G (ac (lz0 0 G) aY)) (zL 0 0 0 G al (oc (ob_a G G (ac (lz0 1 G) aT)) (zL 2 1 1 G al (zv G (aa (xs:=[.tmp 6,.tmp 8]) (dz zo zo) (.cons (vq 1 G) (.cons (vq 3 G) .nil))) (oc (ob_a G G (ac (lz0 1 G) aY)) (zL 5 1 0 G al (oc (ob_a G G (ac (lz0 0 G) aT)) (zL 7 0 1 G al (zv G (aa (xs:=[.tmp 11,.tmp 13]) (dz zo zo) (.cons (vq 6 G) (.cons (vq 8 G) .nil))) (zv G (aa (xs:=[.tmp 9,.tmp 14]) (Cw zo zo) (.cons (vq 4 G) (.cons (vq 9 G) .nil))) (zA 10 G o0)))))))))))) zk zk zk zk (zz [(4,_)] [O 2 27 _,O 3 27 _] fun a w U=>?_)
 refine a7<|wp_ret<|ar ?_ (am G U (zm 0 G))
 exact bc (congrArg In (cm_sg x y))
theorem jT {c:Nat}{x:Rat}:Cn Tryz.prog 30 [Qs c x] (In x.num.sign):=by
 refine Cn.intro Tryz.func30 G zk nq (fun B w0 a U=>?_)
 have U:=zn [(0,Qs c x)] [] U
 refine wp_seq<|zg [] [⟨1,27,ptrH,some 0,_,none⟩] [.alc 0,.v 2 _] [.o 1] U (oc (ay G G G (gq 0 G)) (zv G (a9 a8) o0)) (zz [(2,_)] [O 1 27 _] fun a w U=>?_)
 refine zt<|zg [none] [] [.adr 3 1 (.some 0) True,.v 4 _,.v 5 _,.v 2 _] [.o 3] U (oc (ob_a G G (ac (lz0 0 G) aY)) (zL 0 0 0 G al (zv G (aa (xs:=[.tmp 4]) rS (.cons (vq 1 G) .nil)) (zA 2 G o0)))) (zz [(2,_)] [O 1 27 _] fun a w U=>?_)
 refine a7<|wp_ret<|ar ?_ (am G U (zm 0 G))
 exact bh
theorem xh : ∃ fn, Tryz.prog.funcs[102]? = some fn ∧ (fn.name == "runtime.NumGoroutine") = false ∧ fn.body.isNone = false := ⟨_, Tryz.func102, by kernel_rfl, by kernel_rfl⟩
theorem qs_le {k B:Nat}{r:Rat}{v:Value}{w:World}(h:(Qs k r).p B v w):lz r.num≤k∧lz (r.den:Int)≤k:=by
 obtain ⟨cs,⟨ps,_,hp⟩,_⟩:=h
 cases hp with
 | cons h1 hp=>cases hp with | cons h2 _=>exact ⟨h1.1,h2.1⟩
theorem De (l:List Nat):UpA (MgA l) (MgA l):=⟨rfl,rfl,fun B cs w hB hp=>by
 obtain ⟨ok,h0,A,c,ds,rfl,h1,h2,h3,h4⟩:=hp
 refine ⟨ok,h0,A,c,ds,rfl,h1,h2,?_,fun hn=>?_⟩
 ·exact cat_nums.2 (cat_nums.1 h3)
 ·obtain ⟨b,o,e1,e2,e3,e4⟩:=h4 hn
  exact ⟨b,o,e1,e2,.inl e2,e4⟩⟩
theorem zw {A:As}{c:Prop}(h:UpA A A):UpA (A.and c) (A.and c):=⟨rfl,rfl,fun B cs w hB hp=>⟨hp.1,h.2.2 B cs w hB hp.2⟩⟩
theorem lR (x:RI):UpA (RIA x) (RIA x):=i7 (.cons (Dc _) (.cons (De _) .nil))
theorem cY (x:RF):UpA (RFA x) (RFA x):=i7 (.cons (lR _) (.cons (lR _) .nil))
theorem upA_za {k:Nat}{z:Int}:UpA (ZA k z) (ZA k z):=zw (lR _)
theorem upA_qa {k:Nat}{r:Rat}:UpA (QA k r) (QA k r):=i7 (.cons upA_za (.cons upA_za .nil))
theorem CU {l:List As}(h:∀ A∈l,UpA A A):All2 UpA l l:=by
 induction l with
 | nil=>exact .nil
 | cons A l ih=>exact .cons (h A (by simp)) (ih fun A' hA=>h A' (by simp [hA]))
theorem ns {E:TypeId}{D:List TypeId}{l:List As}(h:∀ A∈l,UpA A A):UpA (SlA E D l) (SlO E D l True):=⟨rfl,rfl,fun B cs w hB hp=>by
 obtain ⟨hD,A,c,ds,rfl,h1,h2,h3,h4⟩:=hp
 refine ⟨trivial,hD,A,c,ds,rfl,h1,h2,(i7 (CU h)).2.2 B ds w hB h3,fun hn=>?_⟩
 obtain ⟨b,o,e1,e2,e3,e4⟩:=h4 hn
 exact ⟨b,o,e1,e2,e2,e4⟩⟩
theorem A8 {E:TypeId}{D:List TypeId}{l:List As}{p:Prop}{B:Nat}{v:Value}{w:World}(h:(SlO E D l p).va.p B v w):l.length≤9223372036854775807:=by
 obtain ⟨cs,⟨_,_,A,c,ds,_,h1,h2,_⟩,_⟩:=h
 unfold maxLen at h2
 omega
def longQ (q:Rat):Bool:=[riOf q.num].any bigI || [riOf (q.den:Int)].any bigI
def IsQ (A:As)(q:Rat):Prop:=∃ k,A=QA k q
theorem nx {E:TypeId}{D:List TypeId}{l l':List As}(h:All2 WkA l l')(hD:∀ A∈l',∀ T∈A.deps,T∈D):WkA (SlA E D l) (SlA E D l'):=⟨rfl,rfl,fun B cs w ⟨_,A,c,ds,e,h1,h2,h3,h4⟩=>by
 have hl:=h.length
 exact ⟨hD,A,c,ds,by rw [← hl]; exact e,by rw [← hl]; exact h1,h2,(bz h).2.2 B ds w h3,fun hn=>h4 (by rw [hl]; exact hn)⟩⟩
theorem isq_at {L:List As}{qs:List Rat}(h:All2 IsQ L qs){j:Nat}(hj:j<qs.length):∃ k,L[j]?=some (QA k qs[j]):=by
 have hl:=h.length
 obtain ⟨q,h1,k,h2⟩:=h.get (List.getElem?_eq_getElem (show j<L.length by omega))
 rw [List.getElem?_eq_getElem hj] at h1
 injection h1 with h1
 exact ⟨k,by rw [List.getElem?_eq_getElem zo,h2,h1]⟩
theorem isq_up {L:List As}{qs:List Rat}(h:All2 IsQ L qs):∀ A∈L,UpA A A:=fun A hA=>by
 obtain ⟨j,hj⟩:=List.getElem?_of_mem hA
 obtain ⟨q,_,k,rfl⟩:=h.get hj
 exact upA_qa
theorem isq_n {L:List As}{qs:List Rat}(h:All2 IsQ L qs):∀ A∈L,A.n=4:=fun A hA=>by
 obtain ⟨j,hj⟩:=List.getElem?_of_mem hA
 obtain ⟨q,_,k,rfl⟩:=h.get hj
 rfl
theorem Bn {l:List Rat}{j:Nat}(h:j<l.length)(h2:longQ l[j]=true):true=l.any longQ:=(List.any_eq_true.2 ⟨_,List.getElem_mem h,h2⟩).symm
theorem lq_no {l:List Rat}{j:Nat}(h:j<l.length)(h1:(l.take j).any longQ=false)(h2:longQ l[j]=false):(l.take (j+1)).any longQ=false:=by
 rw [List.take_succ_eq_append_getElem h,List.any_append,h1]
 simp [h2]
def okF (x:RF):Bool:=okRI x.num&&okRI x.den&&decide (0<sgI x.den)&&decide (Nat.gcd (val x.num.mag) (val x.den.mag)=1)
theorem k9 {x:RI}(ok:okL x.mag)(h:okRI x=true):∃ z,x=riOf z∧lz z≤2048:=by
 obtain ⟨neg,l⟩:=x
 simp only [okRI,Bool.not_eq_true',Bool.or_eq_false_iff,Bool.and_eq_false_iff,decide_eq_false_iff_not,beq_eq_false_iff_ne,ne_eq] at h ok
 obtain ⟨⟨h1,h2⟩,h3⟩:=h
 have hc:Canon l:=by
  refine ⟨ok,fun e=>?_⟩
  rcases List.eq_nil_or_concat l with rfl | ⟨m,y,rfl⟩
  ·simp at e
  ·simp at e
   subst e
   rcases h2 with h2 | h2
   ·simp at h2
   ·exact h2 (by simp)
 have e:limbs (val l)=l:=mF hc
 cases neg with
 | false=>exact ⟨(val l:Nat),by simp [riOf,e],by show (limbs _).length≤2048; rw [Int.natAbs_natCast,e]; omega⟩
 | true =>
  have hl:l≠[]:=fun e=>by subst e; simp at h3
  have hv:0<val l:=hc.val_pos hl
  exact ⟨-(val l:Nat),by simp [riOf,e]; omega,by show (limbs _).length≤2048; rw [Int.natAbs_neg,Int.natAbs_natCast,e]; omega⟩
theorem okF_q {x:RF}(ok:okL x.num.mag∧okL x.den.mag)(h:okF x=true):∃ r:Rat,x=rfOf r∧lz r.num≤2048∧lz (r.den:Int)≤2048:=by
 obtain ⟨xn,xd⟩:=x
 simp only [okF,Bool.and_eq_true,decide_eq_true_eq] at h ok
 obtain ⟨⟨⟨h1,h2⟩,h3⟩,h4⟩:=h
 obtain ⟨p,rfl,hp⟩:=k9 ok.1 h1
 obtain ⟨q,rfl,hq⟩:=k9 ok.2 h2
 rw [de] at h3
 have hq0:0<q:=Int.sign_pos_iff.1 h3
 rw [bx,bx] at h4
 refine ⟨⟨p,q.natAbs,by omega,h4⟩,?_,hp,?_⟩
 ·show RF.mk _ _=RF.mk (riOf p) (riOf (q.natAbs:Nat))
  rw [show ((q.natAbs:Nat):Int)=q by omega]
 ·show lz ((q.natAbs:Nat):Int)≤2048
  rw [show ((q.natAbs:Nat):Int)=q by omega]
  exact hq
theorem ok1 {b:Bool}(h:(((if b then (0:Int) else 1) != 0))=false):b=true:=by cases b <;> simp at h ⊢
theorem yV {x:RF}(h:((((if okRI x.num then (0:Int) else 1) != 0) || ((if okRI x.den then (0:Int) else 1) != 0)) || decide (sgI x.den≤0))=true):(1:Int)=if okF x then 0 else 1:=by
 have:okF x=false:=by
  unfold okF
  cases h1:okRI x.num <;> cases h2:okRI x.den <;> simp [h1,h2] at h ⊢
  omega
 rw [this]; rfl
theorem Dt {p q:Int}(h:(sg3 ((Int.gcd p q:Nat):Int) 1 != 0)=true):Int.gcd p q≠1:=fun e=>by rw [e] at h; simp [sg3] at h
theorem kF {x:RF}{B:Nat}{v:Value}{w:World}(h:(RFA x).va.p B v w):okL x.num.mag∧okL x.den.mag:=by
 obtain ⟨cs,⟨ps,_,hp⟩,_⟩:=h
 cases hp with
 | cons h1 hp=>cases hp with | cons h2 _=>exact ⟨(gF ⟨_,h1,rfl⟩).1,(gF ⟨_,h2,rfl⟩).1⟩
theorem cmp_i {p q:Int}(hp:lz p≤1099511627776)(hq:lz q≤1099511627776):Cn Tryz.prog 111 [Zi p,Zi q] (In (sg3 p q)):=(yT (riOf p) (riOf q) (by rw [dY]; omega) (by rw [dY]; omega)).post (by rw [yS])
theorem lz_one:lz 1≤1099511627776:=Nat.le_trans (qH (k:=1) zd) zd
theorem xy (xn xd:RI):Cn Tryz.prog 178 [(RFA ⟨xn,xd⟩).va] (In (if okF ⟨xn,xd⟩ then 0 else 1)):=by
 refine Cn.intro Tryz.func178 G zk nq (fun B w0 a U=>?_)
 have U:=zn [(0,(RFA ⟨xn,xd⟩).va)] [] U
 have hok:=kF (U.vals (0,(RFA ⟨xn,xd⟩).va) (zm 0 rfl))
 refine wp_seq<|zg [] [⟨1,27,ptrH,some 0,_,none⟩] [.alc 0,.v 2 _] [.o 1] U (oc (ay G G G (gq 0 G)) (zv G (a9 a8) o0)) (zz [(2,_)] [O 1 27 _] fun a w U=>?_)
 refine zt<|wp_seq<|zg [none] [] [.adr 3 1 (.some 0) True,.v 4 _,.v 5 _,.v 6 _,.v 7 _,.adr 8 1 (.some 2) (_=false),.v 9 (Wh (_=false) _),.v 10 (Wh (_=false) _),.v 11 (Wh (_=false) _),.v 12 _,.v 13 _,.adr 14 1 (.some 2) (_=false),.v 15 (Wh (_=false) _),.v 16 (Wh (_=false) _),.v 17 (Wh (_=false) _),.v 18 _] [.g 0,.o 15] U (oc (ob_a G G (ac (lz0 0 G) aY)) (zL 0 0 0 G al (zv G (aa (xs:=[.tmp 4]) (uQ _) (.cons (vq 1 G) .nil)) (zv G (cI (vq 2 G) a8) (zv G (ae (vq 3 G)) (oc (bM G G G (vq 4 G) nq (fun hg=>ac (lz0 0 G) aT)) (oc (an G G G (vq 4 G) nq (fun hg=>aD 5 G zk hg (lz0 0 G) (Sub.part 1 G G) al)) (oc (an G G G (vq 4 G) nq (fun hg=>aa (xs:=[.tmp 9]) (uQ _) (.cons (ai (vq 6 G) hg) .nil))) (oc (an G G G (vq 4 G) nq (fun hg=>cI (ai (vq 7 G) hg) a8)) (zv G (r_or (vq 4 G) (vq 8 G)) (zv G (ae (vq 9 G)) (oc (bM G G G (vq 10 G) nq (fun hg=>ac (lz0 0 G) aT)) (oc (an G G G (vq 10 G) nq (fun hg=>aD 11 G zk hg (lz0 0 G) (Sub.part 1 G G) al)) (oc (an G G G (vq 10 G) nq (fun hg=>aa (xs:=[.tmp 15]) (oO _) (.cons (ai (vq 12 G) hg) .nil))) (oc (an G G G (vq 10 G) nq (fun hg=>qv (ai (vq 13 G) hg) a8)) (zv G (r_or (vq 10 G) (vq 14 G)) o0)))))))))))))))) (zz [(2,_),(18,_)] [O 1 27 _] fun a w U=>?_)
 refine a7<|ah U (zm 1 G) (fun hb0=>?_) (fun hb0=>?_)
 ·refine wp_seq<|zg [none] [] [.v 2 _] [.o 0] U (zv G (a9 a8) o0) (zz [(2,_)] [O 1 27 _] fun a w U=>?_)
  refine a7<|wp_ret<|ap ?_
  refine aB ?_ (am G U (zm 0 G))
  exact congrArg In (yV hb0)
 ·rw [Bool.or_eq_false_iff,Bool.or_eq_false_iff] at hb0
  obtain ⟨p,rfl,hp⟩:=k9 hok.1 (ok1 hb0.1.1)
  obtain ⟨q,rfl,hq⟩:=k9 hok.2 (ok1 hb0.1.2)
  have hq0:0<sgI (riOf q):=by have h2:¬ sgI (riOf q)≤0:=of_decide_eq_false hb0.2; omega
  have hpq:=tB p q
  refine wp_skip<|zt<|wp_seq<|zg [none] [] [.adr 19 1 (.some 0) True,.v 20 _,.adr 21 1 (.some 2) True,.v 22 _,.v 23 _,.v 24 _,.v 25 _,.v 26 _] [.g 0,.o 7] U (oc (ob_a G G (ac (lz0 0 G) aY)) (zL 0 0 0 G al (oc (ob_a G G (ac (lz0 0 G) aT)) (zL 2 0 1 G al (zv G (aa (xs:=[.tmp 20,.tmp 22]) ((pW p q zo zo).wkp gU) (.cons (vq 1 G) (.cons (vq 3 G) .nil))) (zv G (aa (xs:=[.const (.int .i64 (1))]) (of_c 1 zd zd) (.cons a8 .nil)) (zv G (aa (xs:=[.tmp 23,.tmp 24]) (cmp_i zo lz_one) (.cons (vq 4 G) (.cons (vq 5 G) .nil))) (zv G (cI (vq 6 G) a8) o0)))))))) (zz [(2,_),(26,_)] [O 1 27 _] fun a w U=>?_)
  refine a7<|ah U (zm 1 G) (fun hb1=>?_) (fun hb1=>?_)
  ·refine wp_seq<|zg [none] [] [.v 2 _] [.o 0] U (zv G (a9 a8) o0) (zz [(2,_)] [O 1 27 _] fun a w U=>?_)
   refine a7<|wp_ret<|ap ?_
   refine aB ?_ (am G U (zm 0 G))
   have e1:=Dt hb1; exact congrArg In (by rw [show okF ⟨riOf p,riOf q⟩=false from by unfold okF; rw [bx,bx]; simp [show ¬ Nat.gcd p.natAbs q.natAbs=1 from e1]]; rfl)
  ·refine wp_skip<|zt<|zg [none] [] [.v 2 _] [.o 0] U (zv G (a9 a8) o0) (zz [(2,_)] [O 1 27 _] fun a w U=>?_)
   refine a7<|wp_ret<|aB ?_ (am G U (zm 0 G))
   have e1:=ue hb1; exact congrArg In (by rw [show okF ⟨riOf p,riOf q⟩=true from by unfold okF; rw [bx,bx,ok1 hb0.1.1,ok1 hb0.1.2]; simp [hq0,show Nat.gcd p.natAbs q.natAbs=1 from e1]]; rfl)
end Go.Proofs.YtmacliockgbdcaaGreatDoor
