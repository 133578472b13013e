import Derived.Test.YtkpifdpdeanjfaaGreatDoorTtAe
import Derived.ProofKit
import Derived.OpenShut
import Derived.ChangeOld
import Derived.Below
set_option linter.all false
set_option maxRecDepth 100000
namespace Go.Proofs.YtkpifdpdeanjfaaGreatDoor
open Go Go.RowKit
variable {w:World}{B:Nat}{a:Act}{v:Value}{T:TypeId}{w0:Bs}{Γ:List (Nat × VA)}{Λ:List Lc}{ps:String}{af:Array Edge}{vr:Value}{H:Hd}{cs:List Value}{w':World}{P:Program}{D:List TypeId}
theorem iI (p q:Int):(p.tdiv q).natAbs=p.natAbs/q.natAbs:=Int.natAbs_tdiv p q
theorem gj (p q:Int):(p.tmod q).natAbs=p.natAbs%q.natAbs:=Int.natAbs_tmod p q
theorem tu {p q:Int}(h:p.tdiv q≠0):(decide (p<0) != decide (q<0))=decide (p.tdiv q<0):=by
 have hp:p≠0:=λ e=>h (by rw [e,Int.zero_tdiv])
 have hq:q≠0:=λ e=>h (by rw [e,Int.tdiv_zero])
 have e:∀ {x y:Int},0<x→0<y→0≤x.tdiv y:=λ hx hy=>Int.tdiv_nonneg zo zo
 by_cases h2:p<0 <;> by_cases h3:q<0
 ·have:0≤(-p).tdiv (-q):=e zo zo
  rw [Int.neg_tdiv,Int.tdiv_neg,Int.neg_neg] at this
  simp [h2,h3]; omega
 ·have:0≤(-p).tdiv q:=e zo zo
  rw [Int.neg_tdiv] at this
  simp [h2,h3]; omega
 ·have:0≤p.tdiv (-q):=e zo zo
  rw [Int.tdiv_neg] at this
  simp [h2,h3]; omega
 ·have:0≤p.tdiv q:=e zo zo
  simp [h2,h3]; omega
theorem nI {p q:Int}(h:p.tmod q≠0):decide (p<0)=decide (p.tmod q<0):=by
 by_cases h2:p<0
 ·have:0≤(-p).tmod q:=vp _ zo
  rw [Int.neg_tmod] at this
  simp [h2]; omega
 ·have:0≤p.tmod q:=vp _ zo
  simp [h2]; omega
theorem oU {p q:Int}(h:p.natAbs<q.natAbs):p.tdiv q=0∧p.tmod q=p:=by
 have h1:(p.tdiv q).natAbs=0:=by rw [iI,xv h]
 have h2:p.tdiv q=0:=by omega
 have h3:=Int.tdiv_mul_add_tmod p q
 exact ⟨h2,by rw [h2] at h3; simpa using h3⟩
theorem Ak {a b n m:Nat}(ha:a<4294967296^n)(hb:4294967296^(m-1)≤b)(hm:0<m)(hmn:m≤n):a/b<4294967296^(n+1-m):=by
 have hp:0<4294967296^(m-1):=zf zd
 rw [jJ zo]
 have:4294967296^(n+1-m)*4294967296^(m-1)≤4294967296^(n+1-m)*b:=zq _ hb
 rw [← zR,show n+1-m+(m-1)=n by omega] at this
 omega
theorem E4 {p q:Int}{n:Nat}(h:p.natAbs/q.natAbs<4294967296^n):rsig ((riOf p).neg != (riOf q).neg) (digs n (val (riOf p).mag/val (riOf q).mag))=riOf (p.tdiv q):=by
 rw [bA,bA]
 exact ca (bP _ _) (by rw [dy,q9 h,iI]) tu
theorem divz_r {p q:Int}{n:Nat}(h:p.natAbs%q.natAbs<4294967296^n):rsig (riOf p).neg (digs n (val (riOf p).mag%val (riOf q).mag))=riOf (p.tmod q):=by
 rw [bA,bA]
 exact ca (bP _ _) (by rw [dy,q9 h,gj]) nI
theorem own_ri (p:Int):rsig (riOf p).neg (riOf p).mag=riOf p:=ca (nA p) (bA p) λ _=>rfl
theorem EZ {p q:Int}(h:decide (sizeL (riOf p).mag (riOf q).mag<0)=true):p.natAbs<q.natAbs:=by
 have:=(dE (m:=p.natAbs) (n:=q.natAbs)).1
 have h':sizeL (limbs p.natAbs) (limbs q.natAbs)<0:=qt h
 omega
theorem Bc {p q:Int}(h:decide (sizeL (riOf p).mag (riOf q).mag<0)=false):q.natAbs≤p.natAbs:=by
 have:=(dE (m:=p.natAbs) (n:=q.natAbs)).1
 have h':¬ sizeL (limbs p.natAbs) (limbs q.natAbs)<0:=qr h
 omega
theorem one_limb' {l:List Nat}{v:Nat}(hv:val l=v)(ok:okL l)(h:l.length=1):l[0]'zo=v∧v<4294967296:=by
 match l,h with
 | [x],_=>exact ⟨by simpa using hv,by have:=ok x (by simp); simp at hv; omega⟩
theorem dL {q:Int}(h:(riOf q).mag.length=1):(riOf q).mag[0]'zo=q.natAbs∧q.natAbs<4294967296:=one_limb' (bA q) (nA q) h
theorem dK {p:Int}:(riOf p).mag.length=lz p:=rfl
theorem top_ne {q:Int}{k:Nat}(h:(riOf q).mag.length=k+2):(riOf q).mag.getD (k+1) 0≠0:=by
 have h1:=(bk q.natAbs).2
 have h2:(limbs q.natAbs).length=k+2:=h
 intro hh
 apply h1
 rw [List.getLast?_eq_getElem?,h2,show k+2-1=k+1 from rfl]
 have:(limbs q.natAbs).getD (k+1) 0=0:=hh
 rw [List.getD_eq_getElem?_getD,List.getElem?_eq_getElem zo] at this
 rw [List.getElem?_eq_getElem zo]
 simpa using this
theorem gm {q:Int}(h:q≠0):0<lz q:=by unfold lz; rw [d3 zo]; simp
theorem eV {p q:Int}(h:p.natAbs≤q.natAbs):lz p≤lz q:=cm h
theorem DH {q:Int}(h:q≠0):4294967296^(lz q-1)≤q.natAbs:=by
 have:=(bk q.natAbs).lt_val (by rw [d3 zo]; simp)
 rw [aH] at this
 exact this
theorem eB (q:Int):q.natAbs<4294967296^lz q:=cd (qg _)
theorem zi_zeroN:(cat (setAll [BoA false,MgN []] [])).va=(RIN (riOf 0)).va:=by
 rw [show riOf 0=⟨false,[]⟩ from by simp [riOf,bx]]
 rfl
theorem H4 {p q:Int}(hq:q≠0)(hge:q.natAbs≤p.natAbs)(h:(riOf q).mag.length=1):rsig ((riOf p).neg != (riOf q).neg) (digs (riOf p).mag.length (val (riOf p).mag/(riOf q).mag[0]'zo))=riOf (p.tdiv q):=by
 rw [show (riOf q).mag[0]'zo=val (riOf q).mag from by rw [(dL h).1,bA]]
 have:=Ak (eB p) (DH hq) (gm hq) (eV hge)
 rw [show lz q=1 from h] at this
 exact E4 this
theorem Bu {p q:Int}(h:(riOf q).mag.length=1)(hq:q≠0):rsig (riOf p).neg [val (riOf p).mag%(riOf q).mag[0]'zo]=riOf (p.tmod q):=by
 have h1:=dL h
 rw [h1.1,bA]
 have:p.natAbs%q.natAbs<4294967296:=qY (qM _ zo) h1.2
 exact ca (okL_cons.2 ⟨this,cZ⟩) (by rw [gj]; simp) nI
theorem lS (p q:Int)(hq:q≠0)(hp:lz p≤1099511627776):Cn Tryz.prog 181 [Zi p,Zi q] (Tu [(RIN (riOf (p.tdiv q))).va,(RIN (riOf (p.tmod q))).va]):=by
 refine Cn.introW Tryz.func181 G zk nq (.cons (tQ _).va (.cons (tQ _).va .nil)) (vD (.cons (fS _).va (.cons (fS _).va .nil))) (λ B w0 a hB0 U=>?_)
 have U:=zn [(0,(RIO (riOf p)).va),(1,(RIO (riOf q)).va)] [] U
 refine qb<|zg [] [⟨2,28,ptrH,some 0,_,none⟩,⟨3,28,ptrH,some 1,_,none⟩,⟨4,28,ptrH,some 2,_,none⟩,⟨5,28,ptrH,some 3,_,none⟩] [.alc 0,.alc 1,.alc 2,.alc 3] [] U (zW 0 G (zW 1 G (zY G (Str.zero fk) (zY G (Str.zero fk) o0)))) (zz [] [O 2 28 _,O 3 28 _,O 4 28 _,O 5 28 _] λ a w U=>?_)
 refine zt<|ql<|qb<|zg [η,η,η,η] [] [.adr 11 2 (.some 1) True,.v 12 _,.adr 13 3 (.some 1) True,.v 14 _,.v 15 _,.v 16 _,.v 10 _] [.o 6] U (zO 0 G ar (zL 0 0 1 G aY (zO 1 G ar (zL 2 1 1 G aY (zQ G ((sj _ _).wk (.cons i9 (.cons i9 .nil))) (.p (vq 1 G) (vq 3 G)) (zv G (aK (vq 4 G) a8) (zA 5 G o0))))))) (zz [(10,_)] [O 2 28 _,O 3 28 _,O 4 28 _,O 5 28 _] λ a w U=>?_)
 refine a7<|ae U (zm 0 G) (λ hb0=>?_) (λ hb0=>?_)
 ·have hlt:=EZ hb0
  refine qb<|zg [η,η,some (6,_),some (7,_)] [] [.v 17 _,.adr 18 2 (.some 0) True,.v 19 _,.adr 20 2 (.some 1) True,.v 21 _,.v 22 _,.sto 2,.sto 3] [] U (zv G (aO (qs:=[]) (cA famN) .nil) (zO 0 G aU (zL 1 0 0 G ty_4 (zO 0 G ar (zL 3 0 1 G aY (zQ G ((FB _ _ hp).wk (.cons aL (.cons i9 .nil))) (.p (vq 2 G) (vq 4 G)) (zS 0 G al (zS 5 G al o0)))))))) (zz [] [O 2 28 _,O 3 28 _,O 4 28 _,O 5 28 _] λ a w U=>?_)
  refine a7<|qe<|aT ?_
  refine ao ?_
  refine aw ?_ (aE (rs:=[.cell 4 28,.cell 5 28]) G U (.cell (zm 2 G) al (.cell (zm 3 G) al .nil)) zd)
  exact tu2 ((qk (λ z=>(RIN (riOf z)).va) (oU hlt).1).trans zi_zeroN.symm).symm (qk (λ x=>(RIN x).va) ((own_ri p).trans (qk riOf (oU hlt).2.symm)))
 ·have hge:=Bc hb0
  have hp0:0<(riOf p).mag.length:=qE (gm hq) (eV hge)
  refine qb<|zg [η,η,η,η] [] [.adr 24 3 (.some 1) True,.v 25 _,.v 26 _,.v 27 _,.v 23 _] [.o 4] U (zO 1 G ar (zL 0 1 1 G aY (zv G (aJ Tryz.underlying26 (aC (vq 1 G))) (zv G (bF (vq 2 G) a8) (zA 3 G o0))))) (zz [(23,_)] [O 2 28 _,O 3 28 _,O 4 28 _,O 5 28 _] λ a w U=>?_)
  refine a7<|ae U (zm 0 G) (λ hb1=>?_) (λ hb1=>?_)
  ·have h1:(riOf q).mag.length=1:=by simp at hb1; omega
   refine qb<|zg [η,η,η,η] [] [.adr 28 2 (.some 1) True,.v 29 _,.v 30 _,.v 6 _] [.o 3] U (zO 0 G ar (zL 0 0 1 G aY (zQ G ((Au _ hp).wk (.cons i9 .nil)) (.o (vq 1 G)) (zA 2 G o0)))) (zz [(6,_)] [O 2 28 _,O 3 28 _,O 4 28 _,O 5 28 _] λ a w U=>?_)
   obtain ⟨c,ext,hc1,hc2,hok,hcx,U⟩:=St.own U hB0 0 rfl hp0 rfl
   have U:=St.sel U []
   refine zt<|zg [some (5,_),η,η,η,η] [] [.adr 31 6 .none True,.adr 32 3 (.some 1) True,.v 33 _,.v 34 _,.v 35 _,.cal 36 _ 0,.v 7 _] [.o 6] U (oc (ob_a G G cw) (zO 2 G ar (zL 1 2 1 G aY (zv G (bK bb (aC (vq 2 G)) (aD 0 G) zo) (zv G (aq (vq 3 G) aM) (oc (ob_cal (xs:=[.tmp 31,.tmp 35]) G G G (F4 _ ext c _ (nA p) hp (by rw [(dL h1).1]; omega) (by rw [(dL h1).1]; exact (dL h1).2)) (.cons (arw2 0 G zk) (.o (vq 4 G)))) (zv G (a9 (yJ 5 G zk zk)) o0))))))) (zz [(7,_)] [⟨6,128,slH (riOf p).mag.length c,_⟩,O 2 28 _,O 3 28 _,O 4 28 _,O 5 28 _] λ a w U=>?_)
   refine zt<|zgd [[],[0],[],[2],[0,1,2,3],[],[0,1,2,3,4,5],[],[7],[],[9],[0,1,2,3,4,5,6,7,8,9,10],[0,1,2,3,4,5,6,7,8,9,10,11],[0,1,2,3,4,5,6,7,8,9,10,11,12]] [none,none,none,some (12,_),some (13,_)] [] [.adr 37 2 (.some 0) True,.v 38 _,.adr 39 3 (.some 0) True,.v 40 _,.v 41 _,.adr 42 6 .none True,.v 43 _,.adr 44 2 (.some 0) True,.v 45 _,.v 46 _,.v 47 _,.v 48 _,.sto 3,.sto 4] [] aa U (zO 1 G aU (zL 0 1 0 G ty_4 (zO 2 G aU (zL 2 2 0 G ty_4 (zv G (lh zk (vq 1 G) (vq 3 G)) (oc (ob_a G G cw) (zQ G (dp _ _) (.p (vq 4 G) (C8 5 G zk (lz0 0 G) ⟨(au _ _).symm,hc1,hc2,bP _ _⟩ (by rw [hcx,qn,qn,au]))) (zO 1 G aU (zL 7 1 0 G ty_4 (zM 0 G (zv G (wx (l:=[_]) (xs:=[.tmp 46]) bb zk nq nq (okL_cons.2 ⟨qY (qM _ (by rw [(dL h1).1]; omega)) (by rw [(dL h1).1]; exact (dL h1).2),cZ⟩) (.o (vq 9 G)) G G) (zQ G (dp _ _) (.p (vq 8 G) (vq 10 G)) (zS 6 G al (zS 11 G al o0)))))))))))))) zk zk zk zk (zz [] [⟨6,128,slH (riOf p).mag.length c,_⟩,O 2 28 _,O 3 28 _,O 4 28 _,O 5 28 _] λ a w U=>?_)
   refine a7<|qe<|aT ?_
   refine ao ?_
   refine aw ?_ (aE (rs:=[.cell 4 28,.cell 5 28]) G U (.cell (zm 3 G) al (.cell (zm 4 G) al .nil)) zd)
   exact tu2 (qk (λ x=>(RIN x).va) (H4 hq hge h1)) (qk (λ x=>(RIN x).va) (Bu h1 hq))
  ·have h1:(riOf q).mag.length≠1:=by simp at hb1; omega
   have hql:=gm hq
   rw [← dK] at hql
   obtain ⟨k,hk⟩:∃ k,(riOf q).mag.length=k+2:=⟨(riOf q).mag.length-2,by omega⟩
   have hkp:k+2≤(riOf p).mag.length:=by rw [← hk]; exact eV hge
   refine qh<|am ?_
   refine zt<|zg [η,η,η,η] [] [.adr 50 2 (.some 1) True,.v 51 _,.adr 52 3 (.some 1) True,.v 53 _,.v 54 _,.v 49 _,.v 55 _,.v 56 _,.v 8 _,.v 9 _] [.o 8,.o 9] U (zO 0 G ar (zL 0 0 1 G aY (zO 1 G ar (zL 2 1 1 G aY (zQ G ((CJ _ _ k hk (top_ne hk) hkp hp).wk (.cons i9 (.cons i9 .nil))) (.p (vq 1 G) (vq 3 G)) (zv G (ab (vq 4 G)) (zv G (aP (vq 5 G) G) (zv G (aP (vq 5 G) G) (zA 6 G (zA 7 G o0)))))))))) (zz [(8,_),(9,_)] [O 2 28 _,O 3 28 _,O 4 28 _,O 5 28 _] λ a w U=>?_)
   refine zt<|zgd [[],[0],[],[2],[0,1,2,3],[],[0,1,2,3,4,5],[],[7],[],[0,1,2,3,4,5,6,7,8,9],[0,1,2,3,4,5,6,7,8,9,10],[0,1,2,3,4,5,6,7,8,9,10,11]] [none,none,some (11,_),some (12,_)] [] [.adr 57 2 (.some 0) True,.v 58 _,.adr 59 3 (.some 0) True,.v 60 _,.v 61 _,.v 62 _,.v 63 _,.adr 64 2 (.some 0) True,.v 65 _,.v 66 _,.v 67 _,.sto 2,.sto 3] [] aa U (zO 0 G aU (zL 0 0 0 G ty_4 (zO 1 G aU (zL 2 1 0 G ty_4 (zv G (lh zk (vq 1 G) (vq 3 G)) (zM 0 G (zQ G (dp _ _) (.p (vq 4 G) (vq 5 G)) (zO 0 G aU (zL 7 0 0 G ty_4 (zM 1 G (zQ G (dp _ _) (.p (vq 8 G) (vq 9 G)) (zS 6 G al (zS 10 G al o0))))))))))))) zk zk zk zk (zz [] [O 2 28 _,O 3 28 _,O 4 28 _,O 5 28 _] λ a w U=>?_)
   refine a7<|qe<|aw ?_ (aE (rs:=[.cell 4 28,.cell 5 28]) G U (.cell (zm 2 G) al (.cell (zm 3 G) al .nil)) zd)
   exact tu2 (qk (λ x=>(RIN x).va) (E4 (hk▸Ak (eB p) (DH hq) (gm hq) (eV hge)))) (qk (λ x=>(RIN x).va) (divz_r (qY (qM _ zo) (hk▸eB q))))
theorem wO (p:Int):rsig false (riOf p).mag=riOf ((p.natAbs:Nat):Int):=ca (nA p) (by rw [bA]; omega) λ _=>by simp
theorem DJ (p:Int):lz ((p.natAbs:Nat):Int)=lz p:=by simp [lz]
theorem len_nz {n:Nat}(h:decide (((riOf (n:Int)).mag.length:Int)>0)=true):0<n:=by
 rcases kT n with rfl | hp
 ·simp [riOf,bx] at h
 ·exact hp
theorem len_z {n:Nat}(h:decide (((riOf (n:Int)).mag.length:Int)>0)=false):n=0:=by
 rcases kT n with rfl | hp
 ·rfl
 ·have:=gm (q:=(n:Int)) zo
  have h':¬ (((riOf (n:Int)).mag.length:Int)>0):=qr h
  rw [dK] at h'
  omega
theorem FW {x n:Nat}(h:lz (n:Int)≤1099511627776)(hn:0<n):lz ((x%n:Nat):Int)≤1099511627776:=qd (eV (by have:=qM x hn; omega)) h
theorem Cj {x n p:Nat}(h:Nat.gcd x n=p):Nat.gcd n (x%n)=p:=by rw [← h,xz n,xz x,Nat.gcd_rec n x]
theorem tD (p q:Int)(hp:lz p≤1099511627776)(hq:lz q≤1099511627776):Cn Tryz.prog 180 [Zi p,Zi q] ((RIN (riOf ((Int.gcd p q:Nat):Int))).va):=by
 refine Cn.intro Tryz.func180 G zk nq (λ B w0 a U=>?_)
 have U:=zn [(0,Zi p),(1,Zi q)] [] U
 refine qb<|zg [] [⟨2,28,ptrH,some 0,_,none⟩,⟨3,28,ptrH,some 1,_,none⟩,⟨4,28,ptrH,some 2,_,none⟩] [.alc 0,.alc 1,.alc 2] [] U (zW 0 G (zW 1 G (zY G (Str.zero bn) o0))) (zz [] [O 2 28 _,O 3 28 _,O 4 28 _] λ a w U=>?_)
 refine zt<|zgd [[],[0],[0,1],[],[3],[0,1,2,3,4],[],[],[0,1,2,3,4,5,6,7],[0,1,2,3,4,5,6,7,8]] [none,none,none] [⟨5,28,ptrH,some 6,_,some (8,_)⟩,⟨6,28,ptrH,some 7,_,some (9,_)⟩] [.adr 9 2 (.some 1) True,.v 10 _,.v 11 _,.adr 12 3 (.some 1) True,.v 13 _,.v 14 _,.alc 3,.alc 4,.sto 3,.sto 4] [] aa U (zO 0 G ar (zL 0 0 1 G aY (zQ G (FB _ _ hp) (.cons aB (.o (vq 1 G))) (zO 1 G ar (zL 3 1 1 G aY (zQ G (FB _ _ hq) (.cons aB (.o (vq 4 G))) (zY G (Str.zero bn) (zY G (Str.zero bn) (zS 2 G al (zS 5 G al o0)))))))))) zk zk zk zk (zz [] [O 2 28 _,O 3 28 _,O 4 28 _,O 5 28 _,O 6 28 _] λ a w U=>?_)
 refine zt<|ql ?_
 have U:=St.sel U []
 have U:=St.selL U [2,3,4]
 refine wp_loop_ghost (λ n a w=>∃ x:Nat,(Nat.gcd x n=Int.gcd p q∧lz (x:Int)≤1099511627776∧lz (n:Int)≤1099511627776)∧St B w0 28 [] [⟨4,28,ptrH,cat [BoA false,MgA []]⟩,⟨5,28,ptrH,RIN (riOf ((x:Nat):Int))⟩,⟨6,28,ptrH,RIN (riOf ((n:Nat):Int))⟩] a w) (q.natAbs) ?_ ?_
 ·exact ⟨p.natAbs,⟨rfl,by rw [DJ]; exact hp,by rw [DJ]; exact hq⟩,by rw [show rsig false (limbs p.natAbs)=_ from wO p,show rsig false (limbs q.natAbs)=_ from wO q] at U; exact U⟩
 intro n a w hI
 obtain ⟨x,⟨hg,hx,hn⟩,U⟩:=hI
 refine qb<|qb<|zg [η,η,η] [] [.adr 15 6 (.some 1) True,.v 16 _,.v 17 _,.v 18 _] [.o 3] U (zO 2 G ar (zL 0 2 1 G aY (zv G (aJ Tryz.underlying26 (rz (vq 1 G))) (zv G (cP (vq 2 G) a8) o0)))) (zz [(18,_)] [O 4 28 _,O 5 28 _,O 6 28 _] λ a w U=>?_)
 refine a7<|ae U (zm 0 G) (λ hb0=>?_) (λ hb0=>?_)
 ·have h0:=len_nz hb0
  refine qh<|a7<|ql<|qb<|zg [η,η,η] [⟨7,28,ptrH,some 6,_,some (8,_)⟩,⟨8,28,ptrH,some 7,_,some (9,_)⟩] [.v 20 _,.v 21 _,.v 22 _,.v 19 _,.v 23 _,.v 24 _,.alc 3,.alc 4,.sto 3,.sto 4] [] U (zl 1 G al (zl 2 G al (zQ G ((lS _ _ zo hx).wk (.cons i8 (.cons i8 .nil))) (.p (vq 0 G) (vq 1 G)) (zv G (ab (vq 2 G)) (zv G (aP (vq 3 G) G) (zv G (aP (vq 3 G) G) (zY G (Str.zero bn) (zY G (Str.zero bn) (zS 4 G al (zS 5 G al o0)))))))))) (zz [] [O 4 28 _,O 5 28 _,O 6 28 _,O 7 28 _,O 8 28 _] λ a w U=>?_)
  refine a7<|zgd [[],[],[0],[0,1,2]] [none,some (2,_),some (3,_),none,none] [] [.v 25 _,.v 26 _,.sto 1,.sto 2] [] aa U (zl 2 G al (zl 4 G al (zS 0 G al (zS 1 G al o0)))) zk zk zk zk (zz [] [O 4 28 _,O 5 28 _,O 6 28 _,O 7 28 _,O 8 28 _] λ a w U=>?_)
  refine am ?_
  refine a7 ?_
  have U:=St.sel U []
  have U:=St.selL U [0,1,2]
  exact ⟨x%n,qM _ h0,n,⟨Cj hg,hn,FW hn h0⟩,U⟩
 ·obtain rfl:=len_z hb0
  refine qK<|ah<|ah<|ay<|zt<|zg [some (1,_),η,η] [] [.v 27 _,.sto 0] [] U (zl 1 G al (zS 0 G al o0)) (zz [] [O 4 28 _,O 5 28 _,O 6 28 _] λ a w U=>?_)
  refine a7<|qe<|aw ?_ (ap G U (zm 0 G) al)
  exact qk (λ z:Nat=>(RIN (riOf (z:Int))).va) ((Nat.gcd_zero_right x).symm.trans hg)
theorem G2 (x:RI):Cn Tryz.prog 251 [(RIA x).va] (Bo (decide ((x.mag.length:Int)>2048))):=by
 refine Cn.intro Tryz.func251 G zk nq (λ B w0 a U=>?_)
 have U:=zn [(0,(RIA x).va)] [] U
 refine qb<|zg [] [⟨1,28,ptrH,some 0,_,none⟩] [.alc 0,.v 2 _] [.o 1] U (zW 0 G (zv G (a9 aB) o0)) (zz [(2,_)] [O 1 28 _] λ a w U=>?_)
 refine zt<|zg [η] [] [.adr 3 1 (.some 1) True,.v 4 _,.v 5 _,.v 6 _,.v 2 _] [.o 4] U (zO 0 G ar (zL 0 0 1 G aY (zv G (aJ Tryz.underlying26 (vq 1 G)) (zv G (cP (vq 2 G) a8) (zA 3 G o0))))) (zz [(2,_)] [O 1 28 _] λ a w U=>?_)
 exact a7<|qe<|an G U (zm 0 G)
def bigI (x:RI):Bool:=decide ((x.mag.length:Int)>2048)
theorem G3 (x:RI):Cn Tryz.prog 251 [(RIA x).va] (Bo (bigI x)):=G2 x
theorem CS {l:List RI}{j:Nat}(h:j<l.length)(h2:bigI l[j]=true):l.any bigI=true:=vg.2 ⟨_,qf h,h2⟩
theorem EP {l:List RI}{j:Nat}(h:j<l.length)(h1:(l.take j).any bigI=false)(h2:bigI l[j]=false):(l.take (j+1)).any bigI=false:=by
 rw [qx h,vo,h1]
 simp [h2]
def IxV (b:Bool):VA where
 p _ v _:=∃ n:Int,v=.int .i64 n∧b=decide (n≥0)
 deps:=[]
 cg:=λ _ _ _ _ _ h=>h
 wr:=λ _ _ _ _ _ _ _ _ _ _ _ _ h=>h
theorem ix_of {n:Int}{b:Bool}(h:b=decide (n≥0)):Wk (In n) (IxV b):=λ _ _ _ hv=>⟨n,bo hv,h⟩
theorem r_ix {Q:Exit→Act→World→Prop}{R:Rg}{i:Nat}{x:Operand}{xt yt:TypeId}{b:Bool}(hx:Has R B w0 i x (IxV b)):Wv P Q R B w0 i (.binOp .geq xt x (.const (.int .i64 0)) yt) (Bo b) :=
 bm λ _ _ _ _ _ a w av=>by
  obtain ⟨n,e1,rfl⟩:=hx a w av
  refine ⟨.bool (decide (n≥0)),w,?_,Grow.refl w,fV _ _ _⟩
  have hg:(eqGuard .geq xt x (.const (.int .i64 0)) (.int .i64 n) (.int .i64 0)).run P w=.ok () w:=by unfold eqGuard; split <;> rfl
  have e2:a.eval (.const (.int .i64 0))=.int .i64 0:=rfl
  have hr:(binOp .geq xt (.int .i64 n) (.int .i64 0)).run P w=.ok (.bool (decide (n≥0))) w:=by rw [binOp_geq]; rfl
  simp only [execOp,e1,e2,Sem.run_bind,hg,hr,Result.andThen_ok,Sem.run_pure]
theorem Gj (l:List RI)(hl:l.length≤1099511627776):Cn Tryz.prog 270 [(SlA 28 [U32] (l.map RIA)).va,FnV Tryz.prog [] (λ x:RI=>[(RIA x).va]) (λ x=>Bo (bigI x))] (IxV (l.any bigI)):=by
 refine Cn.intro Tryz.func270 G zk nq (λ B w0 a U=>?_)
 have U:=zn [(0,(SlA 28 [U32] (l.map RIA)).va),(1,FnV Tryz.prog [] (λ x:RI=>[(RIA x).va]) (λ x=>Bo (bigI x)))] [] U
 refine qb<|zh [.v 4 _] [.g 0,.g 1,.o 0] U (zv G (a9 a8) o0) (zz [(0,_),(1,_),(4,_)] [] λ a w U=>?_)
 refine zt<|qb<|zh [.v 6 _,.v 7 _,.v 8 _] [.g 0,.g 1,.g 2,.o 1,.o 2] U (zM 0 G (zv G (bh Tryz.underlying254 (vq 0 G)) (zv G (ab a8) o0))) (zz [(0,_),(1,_),(4,_),(7,_),(8,_)] [] λ a w U=>?_)
 refine a7<|ql ?_
 have U:=St.sel U [0,1,3,4]
 refine wp_loop_ghost (λ n a w=>∃ j:Nat,(n+j=l.length∧(l.take j).any bigI=false)∧St B w0 19 [(0,(SlA 28 [U32] (l.map RIA)).va),(1,FnV Tryz.prog [] (λ x:RI=>[(RIA x).va]) (λ x=>Bo (bigI x))),(7,In (l.length:Nat)),(8,In (j:Nat))] [] a w) (l.length) ?_ ?_
 ·exact ⟨0,⟨by omega,rfl⟩,by rw [qi] at U; exact U⟩
 intro n a w hI
 obtain ⟨j,⟨hn,hno⟩,U⟩:=hI
 refine qb<|zh [.v 9 _] [.g 0,.g 1,.g 2,.g 3,.o 0] U (zv G (aK (gq 3 G) (gq 2 G)) o0) (zz [(0,_),(1,_),(7,_),(8,_),(9,_)] [] λ a w U=>?_)
 refine zt<|ae U (zm 4 G) (λ hb0=>?_) (λ hb0=>?_)
 ·have hj:j<l.length:=by simp at hb0; omega
  refine qh<|zt<|ql<|qb<|zh [.v 10 _,.v 5 _] [.g 0,.g 1,.g 2,.g 3,.o 1] U (zM 3 G (zA 0 G o0)) (zz [(0,_),(1,_),(7,_),(8,_),(5,_)] [] λ a w U=>?_)
  refine zt<|zh [.v 11 _,.v 12 _,.v 13 _,.v 14 _,.v 15 _,.v 16 _] [.g 0,.g 1,.g 2,.g 3,.g 4,.o 5] U (zM 1 G (zM 0 G (zM 4 G (zv G (cv vP (dJ λ _=>rfl) (vq 1 G) (vq 2 G) (cD hj)) (zv G (aq (vq 3 G) al) (zv G (Fr _ (vq 0 G) (.o (vq 4 G))) o0)))))) (zz [(0,_),(1,_),(7,_),(8,_),(5,_),(16,_)] [] λ a w U=>?_)
  refine a7<|ae U (zm 5 G) (λ hb1=>?_) (λ hb1=>?_)
  ·refine qb<|zh [.v 17 _,.v 4 _] [.g 0,.g 1,.g 2,.g 3,.o 1] U (zM 4 G (zA 0 G o0)) (zz [(0,_),(1,_),(7,_),(8,_),(4,_)] [] λ a w U=>?_)
   refine a7<|qe<|aT ?_
   refine ao ?_
   refine ao ?_
   refine aT ?_
   refine ao ?_
   refine aj ?_ (an G U (zm 4 G))
   exact ix_of (by rw [CS hj hb1]; simp)
  ·refine qh<|am ?_
   refine a7<|zh [.v 18 _,.v 8 _] [.g 0,.g 1,.g 2,.o 1] U (zv G (aQ (gq 3 G) a8 (aW zo)) (zv G (ab (vq 0 G)) o0)) (zz [(0,_),(1,_),(7,_),(8,_)] [] λ a w U=>?_)
   refine a7 ?_
   have U:=St.sel U [0,1,2,3]
   exact ⟨n-1,by omega,j+1,⟨by omega,EP hj hno hb1⟩,U⟩
 ·obtain rfl:j=l.length:=by simp at hb0; omega
  refine qK<|ah<|ah<|ay<|zt<|zh [.v 4 _] [.o 0] U (zv G (a9 a8) o0) (zz [(4,_)] [] λ a w U=>?_)
  refine a7<|qe<|aj ?_ (an G U (zm 0 G))
  exact ix_of (by rw [qI] at hno; rw [hno]; rfl)
theorem uH (l:List RI)(hl:l.length≤1099511627776):Cn Tryz.prog 250 [(SlA 28 [U32] (l.map RIA)).va,FnV Tryz.prog [] (λ x:RI=>[(RIA x).va]) (λ x=>Bo (bigI x))] (Bo (l.any bigI)):=by
 refine Cn.intro Tryz.func250 G zk nq (λ B w0 a U=>?_)
 have U:=zn [(0,(SlA 28 [U32] (l.map RIA)).va),(1,FnV Tryz.prog [] (λ x:RI=>[(RIA x).va]) (λ x=>Bo (bigI x)))] [] U
 refine qb<|zh [.v 4 _] [.g 0,.g 1,.o 0] U (zv G (a9 aB) o0) (zz [(0,_),(1,_),(4,_)] [] λ a w U=>?_)
 refine zt<|zh [.v 5 _,.v 6 _,.v 7 _,.v 8 _,.v 4 _] [.o 4] U (zM 0 G (zM 1 G (zQ G (Gj _ hl) (.p (vq 0 G) (vq 1 G)) (zv G (r_ix (vq 2 G)) (zA 3 G o0))))) (zz [(4,_)] [] λ a w U=>?_)
 exact a7<|qe<|an G U (zm 0 G)
theorem yp (l:List RI)(hl:l.length≤1099511627776):Cn Tryz.prog 222 [(SlA 28 [U32] (l.map RIA)).va] (Bo (l.any bigI)):=by
 refine Cn.intro Tryz.func222 G zk nq (λ B w0 a U=>?_)
 have U:=zn [(0,(SlA 28 [U32] (l.map RIA)).va)] [] U
 refine qb<|zh [.v 2 _] [.g 0,.o 0] U (zv G (a9 aB) o0) (zz [(0,_),(2,_)] [] λ a w U=>?_)
 refine zt<|zh [.v 3 _,.v 4 _,.v 2 _] [.o 2] U (zM 0 G (zQ G (uH _ hl) (.p (vq 0 G) (Ca G3)) (zA 1 G o0))) (zz [(2,_)] [] λ a w U=>?_)
 exact a7<|qe<|an G U (zm 0 G)
theorem ug {z:Int}{k:Nat}(h:z.natAbs<4294967296^k):lz z≤k:=dN h
theorem e8 (p q:Int):lz (p*q)≤lz p+lz q:=by
 apply ug
 rw [jn,zR]
 exact jY (eB p) (eB q)
theorem mJ (p q:Int):lz (p+q)≤max (lz p) (lz q)+1:=by
 apply ug
 have h1:p.natAbs<4294967296^max (lz p) (lz q):=qE (eB p) (zb zd (xB _ _))
 have h2:q.natAbs<4294967296^max (lz p) (lz q):=qE (eB q) (zb zd (xu _ _))
 have h3:=Int.natAbs_add_le p q
 rw [qW]
 omega
theorem DG (p q:Int):lz (p-q)≤max (lz p) (lz q)+1:=by have:=mJ p (-q); rw [eU] at this; exact this
theorem lE (p q:Int):lz (p.tdiv q)≤lz p:=eV (by rw [iI]; exact jG _ _)
theorem C3 {p q:Int}(h:q≠0):lz (p.tmod q)≤lz q:=eV (by rw [gj]; exact zD (qM _ zo))
theorem y9 (p q:Int):lz ((Int.gcd p q:Nat):Int)≤max (lz p) (lz q):=by
 by_cases h:p=0
 ·subst h
  have:lz ((Int.gcd 0 q:Nat):Int)=lz q:=by simp [lz]
  omega
 ·have:lz ((Int.gcd p q:Nat):Int)≤lz p:=eV (by
   have:Int.gcd p q≤p.natAbs:=Nat.le_of_dvd zo (x6 _ _)
   omega)
  omega
def ZA (k:Nat)(z:Int):As:=(RIA (riOf z)).and (lz z≤k)
abbrev Zs (k:Nat)(z:Int):VA:=(ZA k z).va
theorem wk_z {k:Nat}{z:Int}:Wk (Zs k z) (Zi z):=λ _ _ _ h=>(dx h).2
theorem Ep {k B:Nat}{z:Int}(h:(Zs k z).p B v w):lz z≤k:=(dx h).1
theorem fF {k:Nat}{z:Int}(h:lz z≤k):Wk (Zi z) (Zs k z):=λ _ _ _ hp=>D5 h hp
section
variable {P:Program} {f:FuncId} {post:VA} {a b:Nat} {p q:Int}
theorem zs1 (hex : ∃ fn, P.funcs[f]? = some fn ∧ (fn.name == "runtime.NumGoroutine") = false ∧ fn.body.isNone = false) (h : lz p ≤ a → Cn P f [Zi p] post) : Cn P f [Zs a p] post :=
 Cn.know (c:=lz p≤a) hex (λ B w args ha=>by cases ha with | cons h1 _=>exact Ep h1) λ hc=>(h hc).wk (.cons wk_z .nil)
theorem zs2 (hex : ∃ fn, P.funcs[f]? = some fn ∧ (fn.name == "runtime.NumGoroutine") = false ∧ fn.body.isNone = false) (h : lz p ≤ a → lz q ≤ b → Cn P f [Zi p, Zi q] post) : Cn P f [Zs a p, Zs b q] post :=
 Cn.know (c:=lz p≤a∧lz q≤b) hex (λ B w args ha=>by cases ha with | cons h1 ha=>cases ha with | cons h2 _=>exact ⟨Ep h1,Ep h2⟩) λ hc=>(h hc.1 hc.2).wk (.cons wk_z (.cons wk_z .nil))
end
theorem bO {A A' A'':VA}(h:Wk A A')(h':Wk A' A''):Wk A A'':=λ B v w hp=>h' B v w (h B v w hp)
theorem bj {A A':VA}(h:A=A'):Wk A A':=h▸aL
theorem all_wk {l l':List VA}(h:All2 Wk l l'):∀ {vs:List Value},All2 (λ (A:VA) v=>A.p B v w) l vs→All2 (λ (A:VA) v=>A.p B v w) l' vs:=by
 induction h with
 | nil=>intro vs hp; cases hp; exact .nil
 | cons h1 _ ih=>intro vs hp; cases hp with | cons h2 h3=>exact .cons (h1 _ _ _ h2) (ih h3)
theorem AZ {l l':List VA}(h:All2 Wk l l'):Wk (Tu l) (Tu l'):=λ _ _ _ ⟨vs,hv,hp⟩=>⟨vs,hv,all_wk h hp⟩
def sg3 (p q:Int):Int:=if p<q then -1 else if q<p then 1 else 0
theorem dq (p:Int):sgI (riOf p)=p.sign:=by
 unfold sgI
 by_cases h:p=0
 ·subst h; simp [riOf,bx]
 ·have:=gm h
  rw [dK,qA zo]
  by_cases h2:p<0
  ·simp [riOf,h2,zZ h2]
  ·have:0<p:=by omega
   simp [riOf,h2,xc this]
theorem Bd (m n:Nat):(sizeL (limbs m) (limbs n)<0↔m<n)∧(sizeL (limbs m) (limbs n)=0↔m=n)∧(0<sizeL (limbs m) (limbs n)↔n<m):=by
 have:=(dE (m:=m) (n:=n))
 omega
theorem Ea (p q:Int):cmpI (riOf p) (riOf q)=sg3 p q:=by
 unfold cmpI
 rw [dq,dq]
 have h:=Bd p.natAbs q.natAbs
 have e1:(riOf p).mag=limbs p.natAbs:=rfl
 have e2:(riOf q).mag=limbs q.natAbs:=rfl
 rw [e1,e2]
 generalize sizeL (limbs p.natAbs) (limbs q.natAbs)=s at *
 have hp:p.sign=if p<0 then -1 else if p=0 then 0 else 1:=by
  rcases xH p 0 with h | h | h
  ·rw [qC h,zZ h]
  ·subst h; rfl
  ·rw [qA zo,qA zo,xc h]
 have hq:q.sign=if q<0 then -1 else if q=0 then 0 else 1:=by
  rcases xH q 0 with h | h | h
  ·rw [qC h,zZ h]
  ·subst h; rfl
  ·rw [qA zo,qA zo,xc h]
 have hn:(riOf p).neg=decide (p<0):=rfl
 rw [hp,hq,hn]
 unfold sg3
 by_cases h1:p<0
 ·by_cases h2:q<0
  ·simp only [h1,h2,if_true,decide_true]; rw [qA zo]; split <;> (try split) <;> omega
  ·rw [qC h1,qA h2,qC (by split <;> omega),qC (by split <;> omega),qC zo]
 ·by_cases h2:q<0
  ·rw [qA h1,qC h2,qC (by split <;> omega),qA (by split <;> omega),qA zo,qC zo]
  ·simp only [h1,h2,if_false,decide_false]
   by_cases h3:p=0 <;> by_cases h4:q=0 <;> simp only [h3,h4,if_true,if_false]
   ·rw [qA zo]; simp; omega
   ·rw [qC zo,qC zo,qC zo]
   ·rw [qC zo,qA zo,qA zo,qC zo]
   ·rw [qA zo]; simp only [Bool.false_eq_true,if_false]; split <;> (try split) <;> omega
theorem se (p q:Int):rsig ((riOf p).neg != (riOf q).neg) (digs ((riOf p).mag.length+(riOf q).mag.length) (val (riOf p).mag*val (riOf q).mag))=riOf (p*q):=by
 rw [bA,bA]
 refine ca (bP _ _) ?_ λ hz=>?_
 ·rw [dy,q9,jn]
  rw [dK,dK,zR]
  exact jY (eB p) (eB q)
 ·have hp:p≠0:=λ e=>hz (by rw [e,Int.zero_mul])
  have hq:q≠0:=λ e=>hz (by rw [e,kC])
  show (decide (p<0) != decide (q<0))=decide (p*q<0)
  by_cases h1:p<0 <;> by_cases h2:q<0
  ·have:=kh h1 h2; simp [h1,h2]; omega
  ·have:=js h1 (by omega:0<q); simp [h1,h2]; omega
  ·have:=jr (by omega:0<p) h2; simp [h1,h2]; omega
  ·have:=kL (by omega:0<p) (by omega:0<q); simp [h1,h2]; omega
theorem tn : ∃ fn, Tryz.prog.funcs[121]? = some fn ∧ (fn.name == "runtime.NumGoroutine") = false ∧ fn.body.isNone = false := ⟨_, Tryz.func121, by kernel_rfl, by kernel_rfl⟩
theorem Aa : ∃ fn, Tryz.prog.funcs[178]? = some fn ∧ (fn.name == "runtime.NumGoroutine") = false ∧ fn.body.isNone = false := ⟨_, Tryz.func178, by kernel_rfl, by kernel_rfl⟩
theorem CC : ∃ fn, Tryz.prog.funcs[225]? = some fn ∧ (fn.name == "runtime.NumGoroutine") = false ∧ fn.body.isNone = false := ⟨_, Tryz.func225, by kernel_rfl, by kernel_rfl⟩
theorem ex_Cmp : ∃ fn, Tryz.prog.funcs[120]? = some fn ∧ (fn.name == "runtime.NumGoroutine") = false ∧ fn.body.isNone = false := ⟨_, Tryz.func120, by kernel_rfl, by kernel_rfl⟩
theorem GO : ∃ fn, Tryz.prog.funcs[182]? = some fn ∧ (fn.name == "runtime.NumGoroutine") = false ∧ fn.body.isNone = false := ⟨_, Tryz.func182, by kernel_rfl, by kernel_rfl⟩
theorem py : ∃ fn, Tryz.prog.funcs[181]? = some fn ∧ (fn.name == "runtime.NumGoroutine") = false ∧ fn.body.isNone = false := ⟨_, Tryz.func181, by kernel_rfl, by kernel_rfl⟩
theorem Ab : ∃ fn, Tryz.prog.funcs[180]? = some fn ∧ (fn.name == "runtime.NumGoroutine") = false ∧ fn.body.isNone = false := ⟨_, Tryz.func180, by kernel_rfl, by kernel_rfl⟩
theorem A6 : ∃ fn, Tryz.prog.funcs[179]? = some fn ∧ (fn.name == "runtime.NumGoroutine") = false ∧ fn.body.isNone = false := ⟨_, Tryz.func179, by kernel_rfl, by kernel_rfl⟩
section
variable {a b:Nat} {p q:Int} (ha:a≤1099511627776)
include ha
theorem sb:Cn Tryz.prog 179 [Zs a p] (Zs a (-p)):=zs1 A6 λ h=>(vx p zo).wkp (fF (by rw [eU]; exact h))
variable (hb:b≤1099511627776)
include hb
theorem cT:Cn Tryz.prog 121 [Zs a p,Zs b q] (Zs (a+b) (p*q)):=zs2 tn λ h h'=>(vI (riOf p) (riOf q) (by rw [dK]; omega) (by rw [dK]; omega)).wkp (bO (bO i8 (bj (qk (λ x=>(RIA x).va) (se p q)))) (fF (by have:=e8 p q; omega)))
theorem wG:Cn Tryz.prog 178 [Zs a p,Zs b q] (Zs (max a b+1) (p+q)):=zs2 Aa λ h h'=>(Du p q zo zo).wkp (fF (by have:=mJ p q; omega))
theorem FQ:Cn Tryz.prog 225 [Zs a p,Zs b q] (Zs (max a b+1) (p-q)):=zs2 CC λ h h'=>(y4 p q zo zo).wkp (fF (by have:=DG p q; omega))
theorem H9:Cn Tryz.prog 120 [Zs a p,Zs b q] (In (sg3 p q)):=zs2 ex_Cmp λ h h'=>(Eb (riOf p) (riOf q) (by rw [dK]; omega) (by rw [dK]; omega)).post (by rw [Ea])
theorem tC:Cn Tryz.prog 180 [Zs a p,Zs b q] (Zs (max a b) ((Int.gcd p q:Nat):Int)):=zs2 Ab λ h h'=>(tD p q zo zo).wkp (bO i8 (fF (by have:=y9 p q; omega)))
omit hb in
theorem tv (hq:q≠0):Cn Tryz.prog 181 [Zs a p,Zs b q] (Tu [Zs a (p.tdiv q),Zs b (p.tmod q)]):=zs2 py λ h h'=>(lS p q hq zo).wkp (AZ (.cons (bO i8 (fF (by have:=lE p q; omega))) (.cons (bO i8 (fF (by have:=C3 (p:=p) hq; omega))) .nil)))
end
theorem sk {a:Nat}{p:Int}:Cn Tryz.prog 182 [Zs a p] (In p.sign):=zs1 GO λ _=>(sm (riOf p)).post (by rw [dq])
theorem of_z {n:Int}(h0 : -9223372036854775808≤n)(h1:n<9223372036854775808):Cn Tryz.prog 114 [In n] (Zs 2 n):=(of_c n h0 h1).wkp (fF (ug zo))
def QA (k:Nat)(r:Rat):As:=cat [ZA k r.num,ZA k (r.den:Int)]
abbrev Qs (k:Nat)(r:Rat):VA:=(QA k r).va
def WkA (A A':As):Prop:=A'.n=A.n∧A'.ag=A.ag∧∀ B cs w,A.p B cs w→A'.p B cs w
theorem WkA.va {A A':As}(h:WkA A A'):Wk A.va A'.va:=λ B v w ⟨cs,hp,hv⟩=>⟨cs,h.2.2 B cs w hp,by rw [h.2.1]; exact hv⟩
theorem WkA.refl (A:As):WkA A A:=⟨rfl,rfl,λ _ _ _ h=>h⟩
theorem WkA.trans {A A' A'':As}(h:WkA A A')(h':WkA A' A''):WkA A A'':=⟨h'.1.trans h.1,h'.2.1.trans h.2.1,λ B cs w hp=>h'.2.2 B cs w (h.2.2 B cs w hp)⟩
theorem dD {A A':As}(h:A=A'):WkA A A':=h▸WkA.refl A
theorem bz {l l':List As}(h:All2 WkA l l'):WkA (cat l) (cat l'):=by
 have key:∀ {l l':List As},All2 WkA l l'→(cat l').n=(cat l).n∧∀ B ps w,All2 (λ (A:As) c=>A.p B c w) l ps→All2 (λ (A:As) c=>A.p B c w) l' ps:=by
  intro l l' h
  induction h with
  | nil=>exact ⟨rfl,λ B ps w h=>by cases h; exact .nil⟩
  | cons h1 _ ih =>
   refine ⟨?_,λ B ps w h=>?_⟩
   ·have:=ih.1
    simp only [cat,qX,xQ] at this ⊢
    rw [h1.1,this]
   ·cases h with
    | cons h2 h3=>exact .cons (h1.2.2 _ _ _ h2) (ih.2 _ _ _ h3)
 exact ⟨(key h).1,rfl,λ B cs w ⟨ps,e1,e2⟩=>⟨ps,e1,(key h).2 B ps w e2⟩⟩
theorem zaA {k:Nat}{z:Int}:WkA (ZA k z) (RIA (riOf z)):=⟨rfl,rfl,λ _ _ _ h=>h.2⟩
theorem Et {k:Nat}{z:Int}(h:lz z≤k):WkA (RIA (riOf z)) (ZA k z):=⟨rfl,rfl,λ _ _ _ hp=>⟨h,hp⟩⟩
theorem eM {k k':Nat}{z:Int}(h:k≤k'):WkA (ZA k z) (ZA k' z):=⟨rfl,rfl,λ _ _ _ hp=>⟨qd hp.1 h,hp.2⟩⟩
theorem qaA {k:Nat}{r:Rat}:WkA (QA k r) (RFA (rfOf r)):=bz (.cons zaA (.cons zaA .nil))
theorem uf {k:Nat}{r:Rat}(h:lz r.num≤k)(h':lz (r.den:Int)≤k):WkA (RFA (rfOf r)) (QA k r):=bz (.cons (Et h) (.cons (Et h') .nil))
theorem bf {k k':Nat}{r:Rat}(h:k≤k'):WkA (QA k r) (QA k' r):=bz (.cons (eM h) (.cons (eM h) .nil))
theorem St.wkL {B N:Nat}(h:St B w0 N Γ Λ a w){s:Nat}{A A':As}(k:Nat)(hm:Λ[k]?=some ⟨s,T,H,A⟩)(e:WkA A A'):St B w0 N Γ (Λ.set k ⟨s,T,H,A'⟩) a w:=by
 obtain ⟨hk,he⟩:=List.getElem?_eq_some_iff.1 hm
 have hset:∀ l∈Λ.set k ⟨s,T,H,A'⟩,l=⟨s,T,H,A'⟩∨l∈Λ:=λ l hl=>(qp hl).symm
 have hin:(⟨s,T,H,A⟩:Lc)∈Λ:=qa hm
 have hd:∀ l∈Λ.set k ⟨s,T,H,A'⟩,∃ l'∈Λ,l'.s=l.s:=λ l hl=>by
  rcases hset l hl with rfl | hl
  ·exact ⟨_,hin,rfl⟩
  ·exact ⟨l,hl,rfl⟩
 refine ⟨h.lo,h.defers,h.size,h.base,h.vals,λ l hl=>?_,λ l hl m hm' hne=>?_⟩
 ·rcases hset l hl with rfl | hl
  ·obtain ⟨g,cs,h1,h2,h3,h4⟩:=h.locs _ hin
   exact ⟨g,cs,h1,h2,h3,e.2.2 _ _ _ h4⟩
  ·exact h.locs l hl
 ·obtain ⟨l',hl',e1⟩:=hd l hl
  obtain ⟨m',hm'',e2⟩:=hd m hm'
  have:=h.dis l' hl' m' hm'' (by rw [e1,e2]; exact hne)
  rw [e1,e2] at this
  exact this
theorem yQ {n:Nat}(h:(sg3 ((n:Nat):Int) 1 != 0)=false):n=1:=by
 unfold sg3 at h
 simp at h
 split at h
 ·simp at h
 ·split at h
  ·simp at h
  ·omega
theorem sf {n:Nat}{x:Int}(h:(sg3 ((n:Nat):Int) 1 != 0)=false):x=x.tdiv ((n:Nat):Int):=by rw [yQ h,Int.natCast_one,Int.tdiv_one]
theorem pV {z:Int}(h:decide (z.sign<0)=true):z<0:=j1.1 (qt h)
theorem vY {z:Int}(h:decide (z.sign<0)=false):¬ z<0:=λ hh=>qr h (j1.2 hh)
theorem nM {p q:Int}(hq:q≠0):(if q.tdiv (Int.gcd p q:Nat)<0 then -(p.tdiv (Int.gcd p q:Nat)) else p.tdiv (Int.gcd p q:Nat))=(Rat.divInt p q).num ∧
  (if q.tdiv (Int.gcd p q:Nat)<0 then -(q.tdiv (Int.gcd p q:Nat)) else q.tdiv (Int.gcd p q:Nat))=((Rat.divInt p q).den:Int):=by
 have hg:0<Int.gcd p q:=xj p hq
 have d1:((Int.gcd p q:Nat):Int)∣p:=Int.gcd_dvd_left ..
 have d2:((Int.gcd p q:Nat):Int)∣q:=Int.gcd_dvd_right ..
 rw [Rat.num_divInt,Rat.den_divInt,qA hq,Int.gcd_comm q p]
 generalize Int.gcd p q=g at *
 obtain ⟨x,rfl⟩:=d1
 obtain ⟨y,rfl⟩:=d2
 have hg':(g:Int)≠0:=by omega
 rw [ko _ hg',ko _ hg']
 have hy:y≠0:=λ e=>hq (by rw [e,kC])
 have e2:((g:Int)*y).natAbs/g=y.natAbs:=by rw [jn]; exact Nat.mul_div_cancel_left _ hg
 rw [e2]
 by_cases h:y<0
 ·have h1:(g:Int)*y<0:=jr zo h
  rw [zZ h1,qC h,qC h]
  refine ⟨?_,by omega⟩
  rw [show (-1:Int)*(g*x)=g*(-x) by rw [Int.mul_neg]; omega,kq _ hg']
 ·have h1:0<(g:Int)*y:=kL zo zo
  rw [xc h1,qA h,qA h,Int.one_mul,kq _ hg']
  exact ⟨rfl,by omega⟩
theorem eW {p q:Int}(hq:q≠0):lz (Rat.divInt p q).num≤lz p∧lz ((Rat.divInt p q).den:Int)≤lz q:=by
 obtain ⟨h1,h2⟩:=nM (p:=p) hq
 rw [← h1,← h2]
 have a1:=lE p (Int.gcd p q:Nat)
 have a2:=lE q (Int.gcd p q:Nat)
 constructor <;> split <;> first | (rw [eU]; assumption) | assumption
theorem ft {c d:Nat}{p q:Int}(hc:c≤1099511627776)(hd:d≤1099511627776)(hq:q≠0):Cn Tryz.prog 113 [Zs c p,Zs d q] (Qs (max c d) (Rat.divInt p q)):=by
 have hg0:0<Int.gcd p q:=xj p hq
 obtain ⟨hn1,hn2⟩:=nM (p:=p) hq
 refine Cn.intro Tryz.func113 G zk nq (λ B w0 a U=>?_)
 have U:=zn [(0,Zs c p),(1,Zs d q)] [] U
 refine qb<|zg [] [⟨2,28,ptrH,some 0,_,none⟩,⟨3,28,ptrH,some 1,_,none⟩,⟨4,30,ptrH,some 2,_,none⟩] [.alc 0,.alc 1,.alc 2] [] U (zW 0 G (zW 1 G (zY G (Str.zero az) o0))) (zz [] [O 2 28 _,O 3 28 _,O 4 30 _] λ a w U=>?_)
 refine zt<|qb<|zg [η,η,η] [⟨5,28,ptrH,some 3,_,some (4,_)⟩] [.v 6 _,.v 7 _,.v 8 _,.alc 3,.sto 3] [] U (zl 0 G al (zl 1 G al (zQ G (tC zo zo) (.p (vq 0 G) (vq 1 G)) (zY G (Str.zero bn) (zS 2 G al o0))))) (zz [] [O 2 28 _,O 3 28 _,O 4 30 _,O 5 28 _] λ a w U=>?_)
 refine zt<|zgd [[],[],[0,1],[0,1,2]] [none,none,none,none] [] [.v 9 _,.v 10 _,.v 11 _,.v 12 _] [.o 3] aa U (zl 3 G al (zQ G (of_z zd zd) (.cons a8 .nil) (zQ G (H9 zo zo) (.p (vq 0 G) (vq 1 G)) (zv G (ci (vq 2 G) a8) o0)))) zk zk zk zk (zz [(12,_)] [O 2 28 _,O 3 28 _,O 4 30 _,O 5 28 _] λ a w U=>?_)
 refine a7<|bB (λ a w =>  St B w0 35 [] [⟨2,28,ptrH,ZA c (p.tdiv ((Int.gcd p q:Nat):Int))⟩,⟨3,28,ptrH,ZA d (q.tdiv ((Int.gcd p q:Nat):Int))⟩,⟨4,30,ptrH,RFA ⟨⟨false,[]⟩,⟨false,[]⟩⟩⟩,⟨5,28,ptrH,ZA (max c d) ((Int.gcd p q:Nat):Int)⟩] a w) U (zm 0 G) (λ hb0=>?_) (λ hb0=>?_) (λ a w U=>?_)
 ·refine qb<|zg [some (6,_),η,η,η] [] [.v 14 _,.v 15 _,.v 16 _,.v 13 _,.v 17 _,.v 18 _,.sto 0] [] U (zl 0 G al (zl 3 G al (zQ G (tv zo zo) (.p (vq 0 G) (vq 1 G)) (zv G (ab (vq 2 G)) (zv G (aP (vq 3 G) G) (zv G (aP (vq 3 G) G) (zS 4 G al o0))))))) (zz [] [O 2 28 _,O 3 28 _,O 4 30 _,O 5 28 _] λ a w U=>?_)
  refine a7<|zg [η,some (6,_),η,η] [] [.v 20 _,.v 21 _,.v 22 _,.v 19 _,.v 23 _,.v 24 _,.sto 1] [] U (zl 1 G al (zl 3 G al (zQ G (tv zo zo) (.p (vq 0 G) (vq 1 G)) (zv G (ab (vq 2 G)) (zv G (aP (vq 3 G) G) (zv G (aP (vq 3 G) G) (zS 4 G al o0))))))) (zz [] [O 2 28 _,O 3 28 _,O 4 30 _,O 5 28 _] λ a w U=>?_)
  refine a7 ?_
  have U:=St.sel U []
  exact U
 ·refine qh<|a7 ?_
  have U:=St.sel U []
  have U:=St.cvA (A':=ZA c (p.tdiv ((Int.gcd p q:Nat):Int))) U 0 rfl (qk (ZA c) (sf hb0))
  have U:=St.cvA (A':=ZA d (q.tdiv ((Int.gcd p q:Nat):Int))) U 1 rfl (qk (ZA d) (sf hb0))
  exact U
 refine zt<|qb<|zg [η,η,η,η] [] [.v 25 _,.v 26 _,.v 27 _] [.o 2] U (zl 1 G al (zQ G sk (.o (vq 0 G)) (zv G (aK (vq 1 G) a8) o0))) (zz [(27,_)] [O 2 28 _,O 3 28 _,O 4 30 _,O 5 28 _] λ a w U=>?_)
 refine a7<|bB (λ a w =>  St B w0 35 [] [⟨2,28,ptrH,ZA c (Rat.divInt p q).num⟩,⟨3,28,ptrH,ZA d ((Rat.divInt p q).den:Int)⟩,⟨4,30,ptrH,RFA ⟨⟨false,[]⟩,⟨false,[]⟩⟩⟩,⟨5,28,ptrH,ZA (max c d) ((Int.gcd p q:Nat):Int)⟩] a w) U (zm 0 G) (λ hb1=>?_) (λ hb1=>?_) (λ a w U=>?_)
 ·refine zgd [[],[0],[],[0,1,2],[0,1,2,3],[0,1,2,3,4]] [some (4,_),some (5,_),none,none] [] [.v 28 _,.v 29 _,.v 30 _,.v 31 _,.sto 0,.sto 1] [] aa U (zl 0 G al (zQ G (sb zo) (.o (vq 0 G)) (zl 1 G al (zQ G (sb zo) (.o (vq 2 G)) (zS 1 G al (zS 3 G al o0)))))) zk zk zk zk (zz [] [O 2 28 _,O 3 28 _,O 4 30 _,O 5 28 _] λ a w U=>?_)
  refine a7 ?_
  have U:=St.sel U []
  rw [qC (pV hb1)] at hn1 hn2; rw [hn1,hn2] at U; exact U
 ·refine qh<|a7 ?_
  have U:=St.sel U []
  rw [qA (vY hb1)] at hn1 hn2; rw [hn1,hn2] at U; exact U
 refine zt<|zg [η,η,some (3,_),η] [] [.v 32 _,.v 33 _,.v 34 _,.sto 2] [] U (zl 0 G al (zl 1 G al (zv G (aO (qs:=[(0,_),(1,_)]) az (.cons ⟨rfl,vq 0 rfl,rfl⟩ (.cons ⟨rfl,vq 1 rfl,rfl⟩ .nil))) (zS 2 G ak o0)))) (zz [] [O 2 28 _,O 3 28 _,O 4 30 _,O 5 28 _] λ a w U=>?_)
 refine a7<|qe<|aj ?_ (ap G U (zm 2 G) ak)
 exact (bz (.cons (eM (xB _ _)) (.cons (eM (xu _ _)) .nil))).va
theorem ni (x y:Rat):Rat.divInt (x.num*(y.den:Int)+y.num*(x.den:Int)) ((x.den:Int)*(y.den:Int))=x+y:=by
 rw [Rat.add_def',← jW,xD]
theorem Fk (x y:Rat):Rat.divInt (x.num*(y.den:Int)-y.num*(x.den:Int)) ((x.den:Int)*(y.den:Int))=x-y:=by
 rw [Rat.sub_def',← jW,xD]
theorem r6 (x y:Rat):Rat.divInt (x.num*y.num) ((x.den:Int)*(y.den:Int))=x*y:=by
 rw [Rat.mul_def',← jW,xD]
theorem r7 (x y:Rat):Rat.divInt (x.num*(y.den:Int)) ((x.den:Int)*y.num)=x/y:=by
 rw [Rat.div_def,Rat.inv_def,← Rat.divInt_mul_divInt,jQ]
theorem den_nz (x y:Rat):(x.den:Int)*(y.den:Int)≠0:=j8 (by have:=x.den_pos; omega) (by have:=y.den_pos; omega)
theorem wW (x:Rat){y:Rat}(h:y≠0):(x.den:Int)*y.num≠0:=j8 (by have:=x.den_pos; omega) (λ e=>h (vi.1 e))
def cmQ (x y:Rat):Int:=if x<y then -1 else if y<x then 1 else 0
theorem cm_sg (x y:Rat):sg3 (x.num*(y.den:Int)) (y.num*(x.den:Int))=cmQ x y:=by
 unfold sg3 cmQ
 simp only [Rat.lt_iff]
theorem copy_e (x:Rat):cat [RIA (riOf (x.num+0)),RIA (riOf ((x.den:Int)+0))]=RFA (rfOf x):=by rw [jA,jA]; rfl
theorem q0_wk {k:Nat}:WkA (cat [RIA ⟨false,[]⟩,ZA k 1]) (QA k 0):=bz (.cons ((dD (show RIA ⟨false,[]⟩=RIA (riOf 0) from by simp [riOf,bx])).trans (Et (by simp [lz,bx]))) (.cons (WkA.refl _) .nil))
theorem iG  : Cn Tryz.prog 37 [] (Qs 2 0):=by
 refine Cn.intro Tryz.func37 G zk nq (λ B w0 a U=>?_)
 have U:=zn [] [] U
 refine qb<|zg [] [⟨0,30,ptrH,some 0,_,none⟩] [.alc 0] [] U (zY G (Str.zero az) o0) (zz [] [O 0 30 _] λ a w U=>?_)
 refine zt<|zg [some (2,_)] [] [.v 1 _,.v 2 _,.sto 0] [] U (zQ G (of_z zd zd) (.cons a8 .nil) (zv G (aO (qs:=[(1,_)]) az (.cons ⟨rfl,vq 0 rfl,rfl⟩ .nil)) (zS 1 G ak o0))) (zz [] [O 0 30 _] λ a w U=>?_)
 refine a7<|qe<|aj ?_ (ap G U (zm 0 G) ak)
 exact q0_wk.va
theorem vN {p q:Int}(hp : -9223372036854775808≤p)(hp1:p<9223372036854775808)(hq : -9223372036854775808≤q)(hq1:q<9223372036854775808)(h0:q≠0):Cn Tryz.prog 32 [In p,In q] (Qs 2 (Rat.divInt p q)):=by
 refine Cn.intro Tryz.func32 G zk nq (λ B w0 a U=>?_)
 have U:=zn [(0,In p),(1,In q)] [] U
 refine qb<|zg [] [⟨4,30,ptrH,some 0,_,none⟩] [.alc 0] [.g 0,.g 1] U (zY G (Str.zero az) o0) (zz [(0,_),(1,_)] [O 4 30 _] λ a w U=>?_)
 refine zt<|zg [some (5,_)] [] [.v 5 _,.v 6 _,.v 7 _,.v 8 _,.v 9 _,.sto 0] [] U (zM 0 G (zQ G (of_z hp hp1) (.o (vq 0 G)) (zM 1 G (zQ G (of_z hq hq1) (.o (vq 2 G)) (zQ G (ft zo zo h0) (.p (vq 1 G) (vq 3 G)) (zS 4 G ak o0)))))) (zz [] [O 4 30 _] λ a w U=>?_)
 refine a7<|qe<|aj ?_ (ap G U (zm 0 G) ak)
 exact aL
theorem one_q  : Cn Tryz.prog 185 [] (Qs 2 1):=by
 refine Cn.intro Tryz.func185 G zk nq (λ B w0 a U=>?_)
 have U:=zn [] [] U
 refine qb<|zg [] [⟨0,30,ptrH,some 0,_,none⟩] [.alc 0] [] U (zY G (Str.zero az) o0) (zz [] [O 0 30 _] λ a w U=>?_)
 refine zt<|zg [some (1,_)] [] [.v 1 _,.sto 0] [] U (zQ G (vN zd zd zd zd zd) (.cons a8 (.cons a8 .nil)) (zS 0 G ak o0)) (zz [] [O 0 30 _] λ a w U=>?_)
 refine a7<|qe<|aj ?_ (ap G U (zm 0 G) ak)
 exact bj (qk (Qs 2) (show Rat.divInt 1 1=1 from G))
theorem plus_q {c d:Nat}{x y:Rat}(hc:c+d≤549755813888):Cn Tryz.prog 111 [Qs c x,Qs d y] (Qs (c+d+1) (x+y)):=by
 refine Cn.intro Tryz.func111 G zk nq (λ B w0 a U=>?_)
 have U:=zn [(0,Qs c x),(1,Qs d y)] [] U
 refine qb<|zg [] [⟨2,30,ptrH,some 0,_,none⟩,⟨3,30,ptrH,some 1,_,none⟩,⟨4,30,ptrH,some 2,_,none⟩] [.alc 0,.alc 1,.alc 2] [] U (zW 0 G (zW 1 G (zY G (Str.zero az) o0))) (zz [] [O 2 30 _,O 3 30 _,O 4 30 _] λ a w U=>?_)
 refine zt<|zgd [[],[0],[],[2],[0,1,2,3],[],[5],[],[7],[0,1,2,3,4,5,6,7,8],[0,1,2,3,4,5,6,7,8,9],[],[11],[],[13],[0,1,2,3,4,5,6,7,8,9,10,11,12,13,14],[0,1,2,3,4,5,6,7,8,9,10,11,12,13,14,15],[0,1,2,3,4,5,6,7,8,9,10,11,12,13,14,15,16]] [none,none,some (17,_)] [] [.adr 5 2 (.some 0) True,.v 6 _,.adr 7 3 (.some 2) True,.v 8 _,.v 9 _,.adr 10 3 (.some 0) True,.v 11 _,.adr 12 2 (.some 2) True,.v 13 _,.v 14 _,.v 15 _,.adr 16 2 (.some 2) True,.v 17 _,.adr 18 3 (.some 2) True,.v 19 _,.v 20 _,.v 21 _,.sto 2] [] aa U (zO 0 G aV (zL 0 0 0 G al (zO 1 G aN (zL 2 1 1 G al (zQ G (cT zo zo) (.p (vq 1 G) (vq 3 G)) (zO 1 G aV (zL 5 1 0 G al (zO 0 G aN (zL 7 0 1 G al (zQ G (cT zo zo) (.p (vq 6 G) (vq 8 G)) (zQ G (wG zo zo) (.p (vq 4 G) (vq 9 G)) (zO 0 G aN (zL 11 0 1 G al (zO 1 G aN (zL 13 1 1 G al (zQ G (cT zo zo) (.p (vq 12 G) (vq 14 G)) (zQ G (ft zo zo (den_nz x y)) (.p (vq 10 G) (vq 15 G)) (zS 16 G ak o0)))))))))))))))))) zk zk zk zk (zz [] [O 2 30 _,O 3 30 _,O 4 30 _] λ a w U=>?_)
 refine a7<|qe<|aj ?_ (ap G U (zm 2 G) ak)
 exact bO (bj (qk (Qs _) (ni x y))) (bf zo).va
theorem FR {c d:Nat}{x y:Rat}(hc:c+d≤549755813888):Cn Tryz.prog 231 [Qs c x,Qs d y] (Qs (c+d+1) (x-y)):=by
 refine Cn.intro Tryz.func231 G zk nq (λ B w0 a U=>?_)
 have U:=zn [(0,Qs c x),(1,Qs d y)] [] U
 refine qb<|zg [] [⟨2,30,ptrH,some 0,_,none⟩,⟨3,30,ptrH,some 1,_,none⟩,⟨4,30,ptrH,some 2,_,none⟩] [.alc 0,.alc 1,.alc 2] [] U (zW 0 G (zW 1 G (zY G (Str.zero az) o0))) (zz [] [O 2 30 _,O 3 30 _,O 4 30 _] λ a w U=>?_)
 refine zt<|zgd [[],[0],[],[2],[0,1,2,3],[],[5],[],[7],[0,1,2,3,4,5,6,7,8],[0,1,2,3,4,5,6,7,8,9],[],[11],[],[13],[0,1,2,3,4,5,6,7,8,9,10,11,12,13,14],[0,1,2,3,4,5,6,7,8,9,10,11,12,13,14,15],[0,1,2,3,4,5,6,7,8,9,10,11,12,13,14,15,16]] [none,none,some (17,_)] [] [.adr 5 2 (.some 0) True,.v 6 _,.adr 7 3 (.some 2) True,.v 8 _,.v 9 _,.adr 10 3 (.some 0) True,.v 11 _,.adr 12 2 (.some 2) True,.v 13 _,.v 14 _,.v 15 _,.adr 16 2 (.some 2) True,.v 17 _,.adr 18 3 (.some 2) True,.v 19 _,.v 20 _,.v 21 _,.sto 2] [] aa U (zO 0 G aV (zL 0 0 0 G al (zO 1 G aN (zL 2 1 1 G al (zQ G (cT zo zo) (.p (vq 1 G) (vq 3 G)) (zO 1 G aV (zL 5 1 0 G al (zO 0 G aN (zL 7 0 1 G al (zQ G (cT zo zo) (.p (vq 6 G) (vq 8 G)) (zQ G (FQ zo zo) (.p (vq 4 G) (vq 9 G)) (zO 0 G aN (zL 11 0 1 G al (zO 1 G aN (zL 13 1 1 G al (zQ G (cT zo zo) (.p (vq 12 G) (vq 14 G)) (zQ G (ft zo zo (den_nz x y)) (.p (vq 10 G) (vq 15 G)) (zS 16 G ak o0)))))))))))))))))) zk zk zk zk (zz [] [O 2 30 _,O 3 30 _,O 4 30 _] λ a w U=>?_)
 refine a7<|qe<|aj ?_ (ap G U (zm 2 G) ak)
 exact bO (bj (qk (Qs _) (Fk x y))) (bf zo).va
theorem iV {c d:Nat}{x y:Rat}(hc:c+d≤549755813888):Cn Tryz.prog 36 [Qs c x,Qs d y] (Qs (c+d) (x*y)):=by
 refine Cn.intro Tryz.func36 G zk nq (λ B w0 a U=>?_)
 have U:=zn [(0,Qs c x),(1,Qs d y)] [] U
 refine qb<|zg [] [⟨2,30,ptrH,some 0,_,none⟩,⟨3,30,ptrH,some 1,_,none⟩,⟨4,30,ptrH,some 2,_,none⟩] [.alc 0,.alc 1,.alc 2] [] U (zW 0 G (zW 1 G (zY G (Str.zero az) o0))) (zz [] [O 2 30 _,O 3 30 _,O 4 30 _] λ a w U=>?_)
 refine zt<|zgd [[],[0],[],[2],[0,1,2,3],[],[5],[],[7],[0,1,2,3,4,5,6,7,8],[0,1,2,3,4,5,6,7,8,9],[0,1,2,3,4,5,6,7,8,9,10]] [none,none,some (11,_)] [] [.adr 5 2 (.some 0) True,.v 6 _,.adr 7 3 (.some 0) True,.v 8 _,.v 9 _,.adr 10 2 (.some 2) True,.v 11 _,.adr 12 3 (.some 2) True,.v 13 _,.v 14 _,.v 15 _,.sto 2] [] aa U (zO 0 G aV (zL 0 0 0 G al (zO 1 G aV (zL 2 1 0 G al (zQ G (cT zo zo) (.p (vq 1 G) (vq 3 G)) (zO 0 G aN (zL 5 0 1 G al (zO 1 G aN (zL 7 1 1 G al (zQ G (cT zo zo) (.p (vq 6 G) (vq 8 G)) (zQ G (ft zo zo (den_nz x y)) (.p (vq 4 G) (vq 9 G)) (zS 10 G ak o0)))))))))))) zk zk zk zk (zz [] [O 2 30 _,O 3 30 _,O 4 30 _] λ a w U=>?_)
 refine a7<|qe<|aj ?_ (ap G U (zm 2 G) ak)
 exact bO (bj (qk (Qs _) (r6 x y))) (bf zo).va
theorem over_q {c d:Nat}{x y:Rat}(hc:c+d≤549755813888)(h0:y≠0):Cn Tryz.prog 192 [Qs c x,Qs d y] (Qs (c+d) (x/y)):=by
 refine Cn.intro Tryz.func192 G zk nq (λ B w0 a U=>?_)
 have U:=zn [(0,Qs c x),(1,Qs d y)] [] U
 refine qb<|zg [] [⟨2,30,ptrH,some 0,_,none⟩,⟨3,30,ptrH,some 1,_,none⟩,⟨4,30,ptrH,some 2,_,none⟩] [.alc 0,.alc 1,.alc 2] [] U (zW 0 G (zW 1 G (zY G (Str.zero az) o0))) (zz [] [O 2 30 _,O 3 30 _,O 4 30 _] λ a w U=>?_)
 refine zt<|zgd [[],[0],[],[2],[0,1,2,3],[],[5],[],[7],[0,1,2,3,4,5,6,7,8],[0,1,2,3,4,5,6,7,8,9],[0,1,2,3,4,5,6,7,8,9,10]] [none,none,some (11,_)] [] [.adr 5 2 (.some 0) True,.v 6 _,.adr 7 3 (.some 2) True,.v 8 _,.v 9 _,.adr 10 2 (.some 2) True,.v 11 _,.adr 12 3 (.some 0) True,.v 13 _,.v 14 _,.v 15 _,.sto 2] [] aa U (zO 0 G aV (zL 0 0 0 G al (zO 1 G aN (zL 2 1 1 G al (zQ G (cT zo zo) (.p (vq 1 G) (vq 3 G)) (zO 0 G aN (zL 5 0 1 G al (zO 1 G aV (zL 7 1 0 G al (zQ G (cT zo zo) (.p (vq 6 G) (vq 8 G)) (zQ G (ft zo zo (wW x h0)) (.p (vq 4 G) (vq 9 G)) (zS 10 G ak o0)))))))))))) zk zk zk zk (zz [] [O 2 30 _,O 3 30 _,O 4 30 _] λ a w U=>?_)
 refine a7<|qe<|aj ?_ (ap G U (zm 2 G) ak)
 exact bO (bj (qk (Qs _) (r7 x y))) (bf zo).va
theorem copy_r {c:Nat}{x:Rat}(hc:c≤549755813888):Cn Tryz.prog 110 [Qs c x] ((RFA (rfOf x)).va):=by
 refine Cn.intro Tryz.func110 G zk nq (λ B w0 a U=>?_)
 have U:=zn [(0,Qs c x)] [] U
 refine qb<|zg [] [⟨1,30,ptrH,some 0,_,none⟩,⟨2,30,ptrH,some 1,_,none⟩] [.alc 0,.alc 1] [] U (zW 0 G (zY G (Str.zero az) o0)) (zz [] [O 1 30 _,O 2 30 _] λ a w U=>?_)
 refine zt<|zg [η,η] [⟨3,28,ptrH,some 1,_,some (2,_)⟩] [.v 4 _,.alc 2,.sto 2] [] U (zQ G (of_z zd zd) (.cons a8 .nil) (zY G (Str.zero bn) (zS 0 G al o0))) (zz [] [O 1 30 _,O 2 30 _,O 3 28 _] λ a w U=>?_)
 refine zt<|zgd [[],[0],[],[0,1,2],[],[4],[],[0,1,2,3,4,5,6],[0,1,2,3,4,5,6,7],[0,1,2,3,4,5,6,7,8]] [none,some (9,_),none] [] [.adr 5 1 (.some 0) True,.v 6 _,.v 7 _,.v 8 _,.adr 9 1 (.some 2) True,.v 10 _,.v 11 _,.v 12 _,.v 13 _,.sto 1] [] aa U (zO 0 G aV (zL 0 0 0 G al (zl 2 G al (zQ G (wG zo zo) (.p (vq 1 G) (vq 2 G)) (zO 0 G aN (zL 4 0 1 G al (zl 2 G al (zQ G (wG zo zo) (.p (vq 5 G) (vq 6 G)) (zv G (aO (qs:=[(0,_),(1,_)]) az (.cons ⟨rfl,vq 3 rfl,rfl⟩ (.cons ⟨rfl,vq 7 rfl,rfl⟩ .nil))) (zS 8 G ak o0)))))))))) zk zk zk zk (zz [] [O 1 30 _,O 2 30 _,O 3 28 _] λ a w U=>?_)
 refine a7<|qe<|aj ?_ (ap G U (zm 1 G) ak)
 exact ((bz (.cons zaA (.cons zaA .nil))).trans (dD (copy_e x))).va
theorem Aq {c d:Nat}{x y:Rat}(hc:c+d≤549755813888):Cn Tryz.prog 35 [Qs c x,Qs d y] (In (cmQ x y)):=by
 refine Cn.intro Tryz.func35 G zk nq (λ B w0 a U=>?_)
 have U:=zn [(0,Qs c x),(1,Qs d y)] [] U
 refine qb<|zg [] [⟨2,30,ptrH,some 0,_,none⟩,⟨3,30,ptrH,some 1,_,none⟩] [.alc 0,.alc 1,.v 4 _] [.o 2] U (zW 0 G (zW 1 G (zv G (a9 a8) o0))) (zz [(4,_)] [O 2 30 _,O 3 30 _] λ a w U=>?_)
 refine zt<|zgd [[],[0],[],[2],[0,1,2,3],[],[5],[],[7],[0,1,2,3,4,5,6,7,8],[0,1,2,3,4,5,6,7,8,9],[0,1,2,3,4,5,6,7,8,9,10]] [none,none] [] [.adr 5 2 (.some 0) True,.v 6 _,.adr 7 3 (.some 2) True,.v 8 _,.v 9 _,.adr 10 3 (.some 0) True,.v 11 _,.adr 12 2 (.some 2) True,.v 13 _,.v 14 _,.v 15 _,.v 4 _] [.o 11] aa U (zO 0 G aV (zL 0 0 0 G al (zO 1 G aN (zL 2 1 1 G al (zQ G (cT zo zo) (.p (vq 1 G) (vq 3 G)) (zO 1 G aV (zL 5 1 0 G al (zO 0 G aN (zL 7 0 1 G al (zQ G (cT zo zo) (.p (vq 6 G) (vq 8 G)) (zQ G (H9 zo zo) (.p (vq 4 G) (vq 9 G)) (zA 10 G o0)))))))))))) zk zk zk zk (zz [(4,_)] [O 2 30 _,O 3 30 _] λ a w U=>?_)
 refine a7<|qe<|aj ?_ (an G U (zm 0 G))
 exact bj (qk In (cm_sg x y))
theorem Dh {c:Nat}{x:Rat}:Cn Tryz.prog 220 [Qs c x] (In x.num.sign):=by
 refine Cn.intro Tryz.func220 G zk nq (λ B w0 a U=>?_)
 have U:=zn [(0,Qs c x)] [] U
 refine qb<|zg [] [⟨1,30,ptrH,some 0,_,none⟩] [.alc 0,.v 2 _] [.o 1] U (zW 0 G (zv G (a9 a8) o0)) (zz [(2,_)] [O 1 30 _] λ a w U=>?_)
 refine zt<|zg [η] [] [.adr 3 1 (.some 0) True,.v 4 _,.v 5 _,.v 2 _] [.o 3] U (zO 0 G aV (zL 0 0 0 G al (zQ G sk (.o (vq 1 G)) (zA 2 G o0)))) (zz [(2,_)] [O 1 30 _] λ a w U=>?_)
 refine a7<|qe<|aj ?_ (an G U (zm 0 G))
 exact aL
theorem uG : ∃ fn, Tryz.prog.funcs[112]? = some fn ∧ (fn.name == "runtime.NumGoroutine") = false ∧ fn.body.isNone = false := ⟨_, Tryz.func112, by kernel_rfl, by kernel_rfl⟩
theorem tm : ∃ fn, Tryz.prog.funcs[110]? = some fn ∧ (fn.name == "runtime.NumGoroutine") = false ∧ fn.body.isNone = false := ⟨_, Tryz.func110, by kernel_rfl, by kernel_rfl⟩
theorem Fv {k B:Nat}{r:Rat}(h:(Qs k r).p B v w):lz r.num≤k∧lz (r.den:Int)≤k:=by
 obtain ⟨cs,⟨ps,_,hp⟩,_⟩:=h
 cases hp with
 | cons h1 hp=>cases hp with | cons h2 _=>exact ⟨h1.1,h2.1⟩
theorem E8 {c:Nat}{x:Rat}(hc:c≤549755813888):Cn Tryz.prog 110 [Qs c x] (Qs c x) :=
 Cn.know (c:=lz x.num≤c∧lz (x.den:Int)≤c) tm (λ B w args ha=>by cases ha with | cons h1 _=>exact Fv h1) λ h=>(copy_r hc).wkp (uf h.1 h.2).va
theorem HP (l:List Nat):UpA (MgA l) (MgA l):=⟨rfl,rfl,λ B cs w hB hp=>by
 obtain ⟨ok,h0,A,c,ds,rfl,h1,h2,h3,h4⟩:=hp
 refine ⟨ok,h0,A,c,ds,rfl,h1,h2,?_,λ hn=>?_⟩
 ·exact cat_nums.2 (cat_nums.1 h3)
 ·obtain ⟨b,o,e1,e2,e3,e4⟩:=h4 hn
  exact ⟨b,o,e1,e2,.inl e2,e4⟩⟩
theorem Ez {A:As}{c:Prop}(h:UpA A A):UpA (A.and c) (A.and c):=⟨rfl,rfl,λ B cs w hB hp=>⟨hp.1,h.2.2 B cs w hB hp.2⟩⟩
theorem v7 (x:RI):UpA (RIA x) (RIA x):=iq (.cons (HM _) (.cons (HP _) .nil))
theorem fW (x:RF):UpA (RFA x) (RFA x):=iq (.cons (v7 _) (.cons (v7 _) .nil))
theorem upA_za {k:Nat}{z:Int}:UpA (ZA k z) (ZA k z):=Ez (v7 _)
theorem upA_qa {k:Nat}{r:Rat}:UpA (QA k r) (QA k r):=iq (.cons upA_za (.cons upA_za .nil))
theorem Ht {l:List As}(h:∀ A∈l,UpA A A):All2 UpA l l:=by
 induction l with
 | nil=>exact .nil
 | cons A l ih=>exact .cons (h A (by simp)) (ih λ A' hA=>h A' (by simp [hA]))
theorem ir {E:TypeId}{l:List As}(h:∀ A∈l,UpA A A):UpA (SlA E D l) (SlO E D l True):=⟨rfl,rfl,λ B cs w hB hp=>by
 obtain ⟨hD,A,c,ds,rfl,h1,h2,h3,h4⟩:=hp
 refine ⟨trivial,hD,A,c,ds,rfl,h1,h2,(iq (Ht h)).2.2 B ds w hB h3,λ hn=>?_⟩
 obtain ⟨b,o,e1,e2,e3,e4⟩:=h4 hn
 exact ⟨b,o,e1,e2,e2,e4⟩⟩
theorem vQ {E:TypeId}{l:List As}{p:Prop}(h:(SlO E D l p).va.p B v w):l.length≤9223372036854775807:=by
 obtain ⟨cs,⟨_,_,A,c,ds,_,h1,h2,_⟩,_⟩:=h
 unfold maxLen at h2
 omega
def longQ (q:Rat):Bool:=[riOf q.num].any bigI || [riOf (q.den:Int)].any bigI
theorem longQ_false {q:Rat}:longQ q=false↔lz q.num≤2048∧lz (q.den:Int)≤2048:=by
 simp [longQ,bigI,dK]
 omega
def IsQ (A:As)(q:Rat):Prop:=∃ k,A=QA k q
theorem vO {E:TypeId}{l l':List As}(h:All2 WkA l l')(hD:∀ A∈l',∀ T∈A.deps,T∈D):WkA (SlA E D l) (SlA E D l'):=⟨rfl,rfl,λ B cs w ⟨_,A,c,ds,e,h1,h2,h3,h4⟩=>by
 have hl:=h.length
 exact ⟨hD,A,c,ds,by rw [← hl]; exact e,by rw [← hl]; exact h1,h2,(bz h).2.2 B ds w h3,λ hn=>h4 (by rw [hl]; exact hn)⟩⟩
theorem DP {L:List As}{qs:List Rat}(h:All2 IsQ L qs){j:Nat}(hj:j<qs.length):∃ k,L[j]?=some (QA k qs[j]):=by
 have hl:=h.length
 obtain ⟨q,h1,k,h2⟩:=h.get (List.getElem?_eq_getElem (show j<L.length by omega))
 rw [List.getElem?_eq_getElem hj] at h1
 injection h1 with h1
 exact ⟨k,by rw [List.getElem?_eq_getElem zo,h2,h1]⟩
theorem DO {L:List As}{qs:List Rat}(h:All2 IsQ L qs):∀ A∈L,UpA A A:=λ A hA=>by
 obtain ⟨j,hj⟩:=List.getElem?_of_mem hA
 obtain ⟨q,_,k,rfl⟩:=h.get hj
 exact upA_qa
theorem Gg {L:List As}{qs:List Rat}(h:All2 IsQ L qs):∀ A∈L,A.n=4:=λ A hA=>by
 obtain ⟨j,hj⟩:=List.getElem?_of_mem hA
 obtain ⟨q,_,k,rfl⟩:=h.get hj
 rfl
theorem yf {l:List Rat}{j:Nat}(h:j<l.length)(h2:longQ l[j]=true):true=l.any longQ:=(vg.2 ⟨_,qf h,h2⟩).symm
theorem lq_no {l:List Rat}{j:Nat}(h:j<l.length)(h1:(l.take j).any longQ=false)(h2:longQ l[j]=false):(l.take (j+1)).any longQ=false:=by
 rw [qx h,vo,h1]
 simp [h2]
theorem long_q {L:List As}(qs:List Rat)(hL:All2 IsQ L qs)(hl:qs.length≤1099511627776):Cn Tryz.prog 177 [(SlA 30 [U32] L).va] (Bo (qs.any longQ)):=by
 have hLl:=hL.length
 refine Cn.introW Tryz.func177 G zk nq (.cons (ir (DO hL)).va .nil) (dX _).va (λ B w0 a hB0 U=>?_)
 have U:=zn [(0,(SlO 30 [U32] L True).va)] [] U
 refine qb<|zh [.v 2 _] [.g 0,.o 0] U (zv G (a9 aB) o0) (zz [(0,_),(2,_)] [] λ a w U=>?_)
 refine zt<|qb<|zh [.v 5 _,.v 6 _,.v 7 _] [.g 1,.o 0,.o 1,.o 2] U (zM 0 G (zv G (bh Tryz.underlying148 (bS (aC (vq 0 G)))) (zv G (ab a8) o0))) (zz [(2,_),(5,_),(6,_),(7,_)] [] λ a w U=>?_)
 refine a7<|ql ?_
 have U:=St.sel U [1,2,3]
 refine wp_loop_ghost (λ n a w=>∃ j:Nat,(n+j=qs.length∧(qs.take j).any longQ=false)∧St B w0 22 [(5,(SlO 30 [U32] L True).va),(6,In (qs.length:Nat)),(7,In (j:Nat))] [] a w) (qs.length) ?_ ?_
 ·exact ⟨0,⟨by omega,rfl⟩,by rw [hLl] at U; exact U⟩
 intro n a w hI
 obtain ⟨j,⟨hn,hno⟩,U⟩:=hI
 refine qb<|zh [.v 8 _] [.g 0,.g 1,.g 2,.o 0] U (zv G (aK (gq 2 G) (gq 1 G)) o0) (zz [(5,_),(6,_),(7,_),(8,_)] [] λ a w U=>?_)
 refine zt<|ae U (zm 3 G) (λ hb0=>?_) (λ hb0=>?_)
 ·have hj:j<qs.length:=by simp at hb0; omega
  obtain ⟨kj,hLj⟩:=DP hL hj
  refine qh<|zt<|ql<|qb<|zg [] [⟨4,30,ptrH,some 2,_,some (3,_)⟩] [.v 9 _,.v 10 _,.alc 0,.sto 0] [.g 0,.g 1,.g 2] U (zv G (cv eI (Gg hL) (bS (aC (gq 0 G))) (gq 2 G) hLj) (zv G (aq (vq 0 G) ak) (zY G (Str.zero az) (zS 1 G ak o0)))) (zz [(5,_),(6,_),(7,_)] [O 4 30 _] λ a w U=>?_)
  refine zt<|zg [η] [] [.adr 11 4 (.some 0) True,.v 12 _,.v 13 _,.v 14 _,.v 15 _,.adr 16 4 (.some 2) (_=false),.f 17 _,.f 18 _,.f 19 _,.v 20 _] [.g 0,.g 1,.g 2,.o 9] U (zO 0 G aV (zL 0 0 0 G al (zv G (cq (D:=[U32]) (l:=[_]) (xs:=[.tmp 12]) (dV zk) vP zk (n_ok zk) nq nq nq (.o (vq 1 G)) G G) (zQ G ((yp [riOf (qs[j]).num] nq).wk (.cons (vO (.cons zaA .nil) (dV zk)).va .nil)) (.o (vq 2 G)) (zv G (ab (vq 3 G)) (zC 4 0 G aN (zB 4 G (λ hg=>ax 5 G zk hg (lz0 0 G) (Sub.part 1 G G) al) (zB 4 G (λ hg=>cq (D:=[U32]) (l:=[_]) (xs:=[.tmp 17]) (dV zk) vP zk (n_ok zk) nq nq nq (.o (ac (vq 6 G) hg)) G G) (zB 4 G (λ hg=>aX ((yp [riOf ((qs[j]).den:Int)] nq).wk (.cons (vO (.cons zaA .nil) (dV zk)).va .nil)) (.o (ac (vq 7 G) hg))) (zv G (r_or (vq 4 G) (vq 8 G)) o0)))))))))) (zz [(5,_),(6,_),(7,_),(20,_)] [O 4 30 _] λ a w U=>?_)
  refine a7<|ae U (zm 3 G) (λ hb1=>?_) (λ hb1=>?_)
  ·refine qb<|zg [η] [] [.v 2 _] [.g 0,.g 1,.g 2,.o 0] U (zv G (a9 aB) o0) (zz [(5,_),(6,_),(7,_),(2,_)] [O 4 30 _] λ a w U=>?_)
   refine a7<|qe<|aT ?_
   refine ao ?_
   refine ao ?_
   refine aT ?_
   refine ao ?_
   refine aw ?_ (an G U (zm 3 G))
   rw [← yf hj hb1]
  ·refine qh<|am ?_
   refine a7<|zg [η] [] [.v 21 _,.v 7 _] [.g 0,.g 1,.o 1] U (zv G (aQ (gq 2 G) a8 (aW zo)) (zv G (ab (vq 0 G)) o0)) (zz [(5,_),(6,_),(7,_)] [O 4 30 _] λ a w U=>?_)
   refine a7 ?_
   have U:=St.sel U [0,1,2]
   have U:=St.selL U []
   exact ⟨n-1,by omega,j+1,⟨by omega,lq_no hj hno hb1⟩,U⟩
 ·obtain rfl:j=qs.length:=by simp at hb0; omega
  refine qK<|ah<|ah<|ay<|zt<|zh [.v 2 _] [.o 0] U (zv G (a9 aB) o0) (zz [(2,_)] [] λ a w U=>?_)
  refine a7<|qe<|aw ?_ (an G U (zm 0 G))
  rw [qI] at hno; rw [hno]
theorem tN {L:List As}(qs:List Rat)(hL:All2 IsQ L qs)(hl:qs.length≤1099511627776):Cn Tryz.prog 109 [(SlA 30 [U32] L).va] (In (if qs.any longQ then 4 else 0)):=by
 refine Cn.intro Tryz.func109 G zk nq (λ B w0 a U=>?_)
 have U:=zn [(0,(SlA 30 [U32] L).va)] [] U
 refine qb<|zh [.v 2 _] [.g 0,.o 0] U (zv G (a9 a8) o0) (zz [(0,_),(2,_)] [] λ a w U=>?_)
 refine zt<|qb<|zh [.v 3 _,.v 4 _] [.g 1,.o 1] U (zM 0 G (zQ G (long_q qs hL hl) (.o (vq 0 G)) o0)) (zz [(2,_),(4,_)] [] λ a w U=>?_)
 refine a7<|ae U (zm 1 G) (λ hb0=>?_) (λ hb0=>?_)
 ·refine qb<|zh [.v 2 _] [.o 0] U (zv G (a9 a8) o0) (zz [(2,_)] [] λ a w U=>?_)
  refine a7<|qe<|ao ?_
  refine aw ?_ (an G U (zm 0 G))
  rw [hb0]; rfl
 ·refine qh<|zt<|zh [.v 2 _] [.o 0] U (zv G (a9 a8) o0) (zz [(2,_)] [] λ a w U=>?_)
  refine a7<|qe<|aw ?_ (an G U (zm 0 G))
  rw [hb0]; rfl
def okF (x:RF):Bool:=okRI x.num&&okRI x.den&&decide (0<sgI x.den)&&decide (Nat.gcd (val x.num.mag) (val x.den.mag)=1)
theorem mF {x:RI}(ok:okL x.mag)(h:okRI x=true):∃ z,x=riOf z∧lz z≤2048:=by
 obtain ⟨neg,l⟩:=x
 simp only [okRI,qz,qN,kG,qu,beq_eq_false_iff_ne,ne_eq] at h ok
 obtain ⟨⟨h1,h2⟩,h3⟩:=h
 have hc:Canon l:=by
  refine ⟨ok,λ e=>?_⟩
  rcases List.eq_nil_or_concat l with rfl | ⟨m,y,rfl⟩
  ·simp at e
  ·simp at e
   subst e
   rcases h2 with h2 | h2
   ·simp at h2
   ·exact h2 (by simp)
 have e:limbs (val l)=l:=ph hc
 cases neg with
 | false=>exact ⟨(val l:Nat),by simp [riOf,e],by show (limbs _).length≤2048; rw [jR,e]; omega⟩
 | true =>
  have hl:l≠[]:=λ e=>by subst e; simp at h3
  have hv:0<val l:=hc.val_pos hl
  exact ⟨-(val l:Nat),by simp [riOf,e]; omega,by show (limbs _).length≤2048; rw [Int.natAbs_neg,jR,e]; omega⟩
theorem FE {z:Int}:okRI (riOf z)=decide (lz z≤2048):=by
 unfold okRI
 by_cases h0:z=0
 ·subst h0; simp [riOf,bx,lz]
 ·have h1:=gm h0
  have h2:=(bk z.natAbs).2
  have e:(riOf z).mag=limbs z.natAbs:=rfl
  have e2:(limbs z.natAbs).length=lz z:=rfl
  have h3:(limbs z.natAbs).getD (lz z-1) 0≠0:=λ hh=>by
   apply h2
   rw [List.getLast?_eq_getElem?,e2,List.getElem?_eq_getElem zo]
   rw [List.getD_eq_getElem?_getD,List.getElem?_eq_getElem zo] at hh
   simpa using hh
  rw [e,e2]
  by_cases h4:lz z≤2048
  ·have h5:¬ ((lz z:Int)>2048):=by omega
   have h6:¬ ((lz z:Int)=0):=by omega
   have h7:¬ (((limbs z.natAbs).getD (lz z-1) 0:Nat):Int)=((0:Nat):Int):=by omega
   simp only [h4,h5,decide_true,decide_false,beq_eq_false_iff_ne.2 h7,beq_eq_false_iff_ne.2 h6,kc,Bool.false_and,Bool.or_self,jo]
  ·have h5:((lz z:Int)>2048):=by omega
   simp only [h4,h5,decide_true,decide_false,Bool.true_or,kr]
theorem okF_q {x:RF}(ok:okL x.num.mag∧okL x.den.mag)(h:okF x=true):∃ r:Rat,x=rfOf r∧lz r.num≤2048∧lz (r.den:Int)≤2048:=by
 obtain ⟨xn,xd⟩:=x
 simp only [okF,qj,ze] at h ok
 obtain ⟨⟨⟨h1,h2⟩,h3⟩,h4⟩:=h
 obtain ⟨p,rfl,hp⟩:=mF ok.1 h1
 obtain ⟨q,rfl,hq⟩:=mF ok.2 h2
 rw [dq] at h3
 have hq0:0<q:=Int.sign_pos_iff.1 h3
 rw [bA,bA] at h4
 refine ⟨⟨p,q.natAbs,by omega,h4⟩,?_,hp,?_⟩
 ·show RF.mk _ _=RF.mk (riOf p) (riOf (q.natAbs:Nat))
  rw [show ((q.natAbs:Nat):Int)=q by omega]
 ·show lz ((q.natAbs:Nat):Int)≤2048
  rw [show ((q.natAbs:Nat):Int)=q by omega]
  exact hq
theorem ok1 {b:Bool}(h:(((if b then (0:Int) else 1) != 0))=false):b=true:=by cases b <;> simp at h ⊢
theorem Ed {x:RF}(h:((((if okRI x.num then (0:Int) else 1) != 0) || ((if okRI x.den then (0:Int) else 1) != 0)) || decide (sgI x.den≤0))=true):(1:Int)=if okF x then 0 else 1:=by
 have:okF x=false:=by
  unfold okF
  cases h1:okRI x.num <;> cases h2:okRI x.den <;> simp [h1,h2] at h ⊢
  omega
 rw [this]; rfl
theorem sg_one {p q:Int}(h:(sg3 ((Int.gcd p q:Nat):Int) 1 != 0)=true):Int.gcd p q≠1:=λ e=>by rw [e] at h; simp [sg3] at h
theorem ng {x:RF}(h:(RFA x).va.p B v w):okL x.num.mag∧okL x.den.mag:=by
 obtain ⟨cs,⟨ps,_,hp⟩,_⟩:=h
 cases hp with
 | cons h1 hp=>cases hp with | cons h2 _=>exact ⟨(gL ⟨_,h1,rfl⟩).1,(gL ⟨_,h2,rfl⟩).1⟩
theorem cmp_i {p q:Int}(hp:lz p≤1099511627776)(hq:lz q≤1099511627776):Cn Tryz.prog 120 [Zi p,Zi q] (In (sg3 p q)):=(Eb (riOf p) (riOf q) (by rw [dK]; omega) (by rw [dK]; omega)).post (by rw [Ea])
theorem lz_one:lz 1≤1099511627776:=qd (ug (k:=1) zd) zd
theorem CO (xn xd:RI):Cn Tryz.prog 219 [(RFA ⟨xn,xd⟩).va] (In (if okF ⟨xn,xd⟩ then 0 else 1)):=by
 refine Cn.intro Tryz.func219 G zk nq (λ B w0 a U=>?_)
 have U:=zn [(0,(RFA ⟨xn,xd⟩).va)] [] U
 have hok:=ng (U.vals (0,(RFA ⟨xn,xd⟩).va) (zm 0 rfl))
 refine qb<|zg [] [⟨1,30,ptrH,some 0,_,none⟩] [.alc 0,.v 2 _] [.o 1] U (zW 0 G (zv G (a9 a8) o0)) (zz [(2,_)] [O 1 30 _] λ a w U=>?_)
 refine zt<|qb<|zg [η] [] [.adr 3 1 (.some 0) True,.v 4 _,.v 5 _,.v 6 _,.v 7 _,.adr 8 1 (.some 2) (_=false),.f 9 _,.f 10 _,.f 11 _,.v 12 _,.v 13 _,.adr 14 1 (.some 2) (_=false),.f 15 _,.f 16 _,.f 17 _,.v 18 _] [.g 0,.o 15] U (zO 0 G aV (zL 0 0 0 G al (zQ G (rQ _) (.o (vq 1 G)) (zv G (ci (vq 2 G) a8) (zv G (ab (vq 3 G)) (zC 4 0 G aN (zB 4 G (λ hg=>ax 5 G zk hg (lz0 0 G) (Sub.part 1 G G) al) (zB 4 G (λ hg=>aX (rQ _) (.o (ac (vq 6 G) hg))) (zB 4 G (λ hg=>ci (ac (vq 7 G) hg) a8) (zv G (r_or (vq 4 G) (vq 8 G)) (zv G (ab (vq 9 G)) (zC 10 0 G aN (zB 10 G (λ hg=>ax 11 G zk hg (lz0 0 G) (Sub.part 1 G G) al) (zB 10 G (λ hg=>aX (sm _) (.o (ac (vq 12 G) hg))) (zB 10 G (λ hg=>p5 (ac (vq 13 G) hg) a8) (zv G (r_or (vq 10 G) (vq 14 G)) o0)))))))))))))))) (zz [(2,_),(18,_)] [O 1 30 _] λ a w U=>?_)
 refine a7<|ae U (zm 1 G) (λ hb0=>?_) (λ hb0=>?_)
 ·refine qb<|zg [η] [] [.v 2 _] [.o 0] U (zv G (a9 a8) o0) (zz [(2,_)] [O 1 30 _] λ a w U=>?_)
  refine a7<|qe<|ao ?_
  refine aw ?_ (an G U (zm 0 G))
  exact qk In (Ed hb0)
 ·rw [qN,qN] at hb0
  obtain ⟨p,rfl,hp⟩:=mF hok.1 (ok1 hb0.1.1)
  obtain ⟨q,rfl,hq⟩:=mF hok.2 (ok1 hb0.1.2)
  have hq0:0<sgI (riOf q):=by have h2:¬ sgI (riOf q)≤0:=qr hb0.2; omega
  have hpq:=y9 p q
  refine qh<|zt<|qb<|zg [η] [] [.adr 19 1 (.some 0) True,.v 20 _,.adr 21 1 (.some 2) True,.v 22 _,.v 23 _,.v 24 _,.v 25 _,.v 26 _] [.g 0,.o 7] U (zO 0 G aV (zL 0 0 0 G al (zO 0 G aN (zL 2 0 1 G al (zQ G ((tD p q zo zo).wkp i8) (.p (vq 1 G) (vq 3 G)) (zQ G (of_c 1 zd zd) (.cons a8 .nil) (zQ G (cmp_i zo lz_one) (.p (vq 4 G) (vq 5 G)) (zv G (ci (vq 6 G) a8) o0)))))))) (zz [(2,_),(26,_)] [O 1 30 _] λ a w U=>?_)
  refine a7<|ae U (zm 1 G) (λ hb1=>?_) (λ hb1=>?_)
  ·refine qb<|zg [η] [] [.v 2 _] [.o 0] U (zv G (a9 a8) o0) (zz [(2,_)] [O 1 30 _] λ a w U=>?_)
   refine a7<|qe<|ao ?_
   refine aw ?_ (an G U (zm 0 G))
   have e1:=sg_one hb1; exact qk In (by rw [show okF ⟨riOf p,riOf q⟩=false from by unfold okF; rw [bA,bA]; simp [show ¬ Nat.gcd p.natAbs q.natAbs=1 from e1]]; rfl)
  ·refine qh<|zt<|zg [η] [] [.v 2 _] [.o 0] U (zv G (a9 a8) o0) (zz [(2,_)] [O 1 30 _] λ a w U=>?_)
   refine a7<|qe<|aw ?_ (an G U (zm 0 G))
   have e1:=yQ hb1; exact qk In (by rw [show okF ⟨riOf p,riOf q⟩=true from by unfold okF; rw [bA,bA,ok1 hb0.1.1,ok1 hb0.1.2]; simp [hq0,show Nat.gcd p.natAbs q.natAbs=1 from e1]]; rfl)
def okLb (l:List Nat):Bool:=l.all λ x=>decide (x<4294967296)
theorem okLb_iff {l:List Nat}:okLb l=true↔okL l:=by simp [okLb,okL]
def okX (x:RF):Bool:=okLb x.num.mag&&okLb x.den.mag&&okF x
def zI (x:RI):Int:=if x.neg then -(val x.mag:Nat) else (val x.mag:Nat)
def toQ (x:RF):Rat:=Rat.divInt (zI x.num) (zI x.den)
theorem Hz (z:Int):zI (riOf z)=z:=by
 unfold zI
 rw [bA]
 by_cases h:z<0 <;> simp [riOf,h] <;> omega
theorem toQ_of (r:Rat):toQ (rfOf r)=r:=by
 show Rat.divInt (zI (riOf r.num)) (zI (riOf (r.den:Int)))=r
 rw [Hz,Hz]
 exact jQ r
theorem sI {x:RF}(h:okL x.num.mag∧okL x.den.mag):okX x=okF x:=by rw [okX,okLb_iff.2 h.1,okLb_iff.2 h.2]; rfl
theorem wS {x:RF}(h:okX x=true):x=rfOf (toQ x)∧lz (toQ x).num≤2048∧lz ((toQ x).den:Int)≤2048:=by
 simp only [okX,qj] at h
 obtain ⟨r,rfl,h1⟩:=okF_q ⟨okLb_iff.1 h.1.1,okLb_iff.1 h.1.2⟩ h.2
 rw [toQ_of]
 exact ⟨rfl,h1⟩
abbrev rf0:RF:=⟨⟨false,[]⟩,⟨false,[]⟩⟩
theorem CB : ∃ fn, Tryz.prog.funcs[219]? = some fn ∧ (fn.name == "runtime.NumGoroutine") = false ∧ fn.body.isNone = false := ⟨_, Tryz.func219, by kernel_rfl, by kernel_rfl⟩
theorem Hb (x:RF):Cn Tryz.prog 219 [(RFA x).va] (In (if okX x then 0 else 1)) :=
 Cn.know (c:=okL x.num.mag∧okL x.den.mag) CB (λ B w args ha=>by cases ha with | cons h1 _=>exact ng h1) λ h=>(CO x.num x.den).post (by rw [sI h])
theorem ok_no {l:List RF}{j:Nat}(h:j<l.length)(h2:((if okX l[j] then (0:Int) else 1) != 0)=true):false=l.all okX:=by
 have h3:okX l[j]=false:=by cases hh:okX l[j] <;> simp [hh] at h2 ⊢
 exact (jT.2 ⟨_,qf h,by simp [h3]⟩).symm
theorem Dy {l:List RF}{j:Nat}(h:j<l.length)(h1:(l.take j).all okX=true)(h2:((if okX l[j] then (0:Int) else 1) != 0)=false):(l.take (j+1)).all okX=true:=by
 rw [qx h,j7,h1]
 simp [ok1 h2]
theorem tF (xs:List RF)(hl:xs.length≤1099511627776):Cn Tryz.prog 174 [(SlA 30 [U32] (xs.map RFA)).va] (Bo (xs.all okX)):=by
 refine Cn.introW Tryz.func174 rfl zk nq (.cons (ir (λ A hA=>by obtain ⟨x,_,rfl⟩:=qm.1 hA; exact fW x)).va .nil) (dX _).va (λ B w0 a hB0 U=>?_)
 have U:=zn [(0,(SlO 30 [U32] (xs.map RFA) True).va)] [] U
 refine qb<|zh [.v 2 _] [.g 0,.o 0] U (zv G (a9 aB) o0) (zz [(0,_),(2,_)] [] λ a w U=>?_)
 refine zt<|qb<|zh [.v 5 _,.v 6 _,.v 7 _] [.g 1,.o 0,.o 1,.o 2] U (zM 0 G (zv G (bh Tryz.underlying148 (bS (aC (vq 0 G)))) (zv G (ab a8) o0))) (zz [(2,_),(5,_),(6,_),(7,_)] [] λ a w U=>?_)
 refine a7<|ql ?_
 have U:=St.sel U [1,2,3]
 refine wp_loop_ghost (λ n a w=>∃ j:Nat,(n+j=xs.length∧(xs.take j).all okX=true)∧St B w0 15 [(5,(SlO 30 [U32] (xs.map RFA) True).va),(6,In (xs.length:Nat)),(7,In (j:Nat))] [] a w) (xs.length) ?_ ?_
 ·exact ⟨0,⟨by omega,rfl⟩,by rw [qi] at U; exact U⟩
 intro n a w hI
 obtain ⟨j,⟨hn,hno⟩,U⟩:=hI
 refine qb<|zh [.v 8 _] [.g 0,.g 1,.g 2,.o 0] U (zv G (aK (gq 2 G) (gq 1 G)) o0) (zz [(5,_),(6,_),(7,_),(8,_)] [] λ a w U=>?_)
 refine zt<|ae U (zm 3 G) (λ hb0=>?_) (λ hb0=>?_)
 ·have hj:j<xs.length:=by simp at hb0; omega
  refine qh<|zt<|ql<|qb<|zg [] [⟨4,30,ptrH,some 2,_,some (3,_)⟩] [.v 9 _,.v 10 _,.alc 0,.sto 0] [.g 0,.g 1,.g 2] U (zv G (cv eI (dJ λ _=>rfl) (bS (aC (gq 0 G))) (gq 2 G) (cD hj)) (zv G (aq (vq 0 G) ak) (zY G (Str.zero az) (zS 1 G ak o0)))) (zz [(5,_),(6,_),(7,_)] [O 4 30 _] λ a w U=>?_)
  refine zt<|zg [η] [] [.v 11 _,.v 12 _,.v 13 _] [.g 0,.g 1,.g 2,.o 2] U (zl 0 G ak (zQ G (Hb _) (.o (vq 0 G)) (zv G (ci (vq 1 G) a8) o0))) (zz [(5,_),(6,_),(7,_),(13,_)] [O 4 30 _] λ a w U=>?_)
  refine a7<|ae U (zm 3 G) (λ hb1=>?_) (λ hb1=>?_)
  ·refine qb<|zg [η] [] [.v 2 _] [.g 0,.g 1,.g 2,.o 0] U (zv G (a9 aB) o0) (zz [(5,_),(6,_),(7,_),(2,_)] [O 4 30 _] λ a w U=>?_)
   refine a7<|qe<|aT ?_
   refine ao ?_
   refine ao ?_
   refine aT ?_
   refine ao ?_
   refine aw ?_ (an G U (zm 3 G))
   rw [← ok_no hj hb1]
  ·refine qh<|am ?_
   refine a7<|zg [η] [] [.v 14 _,.v 7 _] [.g 0,.g 1,.o 1] U (zv G (aQ (gq 2 G) a8 (aW zo)) (zv G (ab (vq 0 G)) o0)) (zz [(5,_),(6,_),(7,_)] [O 4 30 _] λ a w U=>?_)
   refine a7 ?_
   have U:=St.sel U [0,1,2]
   have U:=St.selL U []
   exact ⟨n-1,by omega,j+1,⟨by omega,Dy hj hno hb1⟩,U⟩
 ·obtain rfl:j=xs.length:=by simp at hb0; omega
  refine qK<|ah<|ah<|ay<|zt<|zh [.v 2 _] [.o 0] U (zv G (a9 aB) o0) (zz [(2,_)] [] λ a w U=>?_)
  refine a7<|qe<|aw ?_ (an G U (zm 0 G))
  rw [qI] at hno; rw [hno]
def ansF (q:Rat):RF × Int:=if longQ q then (rf0,4) else (rfOf q,0)
abbrev FrR (r:RF × Int):VA:=Tu [(RFA r.1).va,In r.2]
theorem rq_wk {k:Nat}{r:Rat}:Wk (Qs k r) (RFA (rfOf r)).va:=qaA.va
theorem tu2w {a b c d:VA}(h:Wk a c)(h':Wk b d):Wk (Tu [a,b]) (Tu [c,d]):=AZ (.cons h (.cons h' .nil))
theorem nz {q:Rat}:[q].any longQ=longQ q:=by simp
theorem ne0 {b:Bool}:((if b then (4:Int) else 0) != 0)=b:=by cases b <;> rfl
theorem has_wk' {R:Rg}{i:Nat}{x:Operand}{A A':VA}(h:Has R B w0 i x A)(hw:Wk A A'):Has R B w0 i x A':=λ a w av=>hw _ _ _ (h a w av)
theorem uM {c:Nat}{x:Rat}(hc:c≤549755813888):Cn Tryz.prog 218 [Qs c x] (FrR (ansF x)):=by
 refine Cn.intro Tryz.func218 G zk nq (λ B w0 a U=>?_)
 have U:=zn [(0,Qs c x)] [] U
 refine qb<|zg [] [⟨1,30,ptrH,some 0,_,none⟩,⟨2,30,ptrH,some 1,_,none⟩] [.alc 0,.alc 1,.v 3 _] [.o 2] U (zW 0 G (zY G (Str.zero az) (zv G (a9 a8) o0))) (zz [(3,_)] [O 1 30 _,O 2 30 _] λ a w U=>?_)
 refine zt<|qb<|zg [η,η] [] [.v 5 _,.v 6 _,.v 7 _,.v 4 _] [.g 0,.o 3] U (zl 0 G ak (zv G (cq (D:=[U32]) (l:=[_]) (xs:=[.tmp 5]) (dV zk) eI zk (n_ok zk) nq nq nq (.o (vq 0 G)) G G) (zQ G ((tN [x] (.cons ⟨_,rfl⟩ .nil) nq)) (.o (vq 1 G)) (zA 2 G o0)))) (zz [(3,_),(4,_)] [O 1 30 _,O 2 30 _] λ a w U=>?_)
 refine zt<|zg [η,η] [] [.v 8 _,.v 9 _] [.g 0,.g 1,.o 1] U (zM 1 G (zv G (ci (vq 0 G) a8) o0)) (zz [(3,_),(4,_),(9,_)] [O 1 30 _,O 2 30 _] λ a w U=>?_)
 refine a7<|ae U (zm 2 G) (λ hb0=>?_) (λ hb0=>?_)
 ·rw [nz,ne0] at hb0
  refine qb<|zg [η,some (2,_)] [] [.v 10 _,.v 11 _,.sto 1,.v 3 _] [.o 3] U (zv G (aO (qs:=[]) az .nil) (zM 1 G (zS 0 G ak (zA 1 G o0)))) (zz [(3,_)] [O 1 30 _,O 2 30 _] λ a w U=>?_)
  refine a7<|qe<|ao ?_
  refine aj ?_ (aE (rs:=[.cell 2 30,.tmp 3]) G U (.cell (zm 1 G) ak (.tmp (zm 0 G) .nil)) zd)
  rw [ansF,qC hb0]; exact tu2w aL (bj (by rw [nz,hb0]; rfl))
 ·rw [nz,ne0] at hb0
  refine qh<|zt<|zg [η,some (2,_)] [] [.v 12 _,.v 13 _,.sto 1,.v 3 _] [.o 3] U (zl 0 G ak (zQ G (E8 zo) (.o (vq 0 G)) (zS 1 G ak (zv G (a9 a8) o0)))) (zz [(3,_)] [O 1 30 _,O 2 30 _] λ a w U=>?_)
  refine a7<|qe<|aj ?_ (aE (rs:=[.cell 2 30,.tmp 3]) G U (.cell (zm 1 G) ak (.tmp (zm 0 G) .nil)) zd)
  rw [ansF,qA (by rw [hb0]; decide)]; exact tu2w rq_wk aL
theorem A9 : ∃ fn, Tryz.prog.funcs[217]? = some fn ∧ (fn.name == "runtime.NumGoroutine") = false ∧ fn.body.isNone = false := ⟨_, Tryz.func217, by kernel_rfl, by kernel_rfl⟩
theorem Aw {c:Nat}{p:Int}(hc:c≤2048):Cn Tryz.prog 217 [Zs c p] (In 0):=zs1 A9 λ h=>(rQ (riOf p)).post (by rw [FE,qP (by omega:lz p≤2048)]; rfl)
theorem DI {p:Int}(h0 : -9223372036854775808≤p)(h1:p<9223372036854775808):lz p≤2:=ug zo
theorem Hs {q:Rat}(h:lz q.num≤2048∧lz (q.den:Int)≤2048):ansF q=(rfOf q,0):=by rw [ansF,longQ_false.2 h]; rfl
theorem CW {p q:Int}(hq:q≠0)(hp:lz p≤2)(h2:lz q≤2):ansF (Rat.divInt p q)=(rfOf (Rat.divInt p q),0):=by
 have:=eW (p:=p) hq
 exact Hs zo
theorem make_q {p q:Int}(hq:q≠0):Cn Tryz.prog 173 [Zs 2 p,Zs 2 q] (FrR (ansF (Rat.divInt p q))):=by
 refine Cn.intro Tryz.func173 G zk nq (λ B w0 a U=>?_)
 have U:=zn [(0,Zs 2 p),(1,Zs 2 q)] [] U
 refine qb<|zg [] [⟨2,28,ptrH,some 0,_,none⟩,⟨3,28,ptrH,some 1,_,none⟩,⟨4,30,ptrH,some 2,_,none⟩] [.alc 0,.alc 1,.alc 2,.v 5 _] [.o 3] U (zW 0 G (zW 1 G (zY G (Str.zero az) (zv G (a9 a8) o0)))) (zz [(5,_)] [O 2 28 _,O 3 28 _,O 4 30 _] λ a w U=>?_)
 refine zt<|qb<|zg [η,η,η] [] [.v 6 _,.v 7 _,.v 8 _,.v 9 _,.f 10 _,.f 11 _,.f 12 _,.v 13 _] [.g 0,.o 7] U (zl 0 G al (zQ G (Aw zd) (.o (vq 0 G)) (zv G (ci (vq 1 G) a8) (zv G (ab (vq 2 G)) (zB 3 G (λ hg=>cC (lz0 1 G) al) (zB 3 G (λ hg=>aX (Aw zd) (.o (ac (vq 4 G) hg))) (zB 3 G (λ hg=>ci (ac (vq 5 G) hg) a8) (zv G (r_or (vq 3 G) (vq 6 G)) o0)))))))) (zz [(5,_),(13,_)] [O 2 28 _,O 3 28 _,O 4 30 _] λ a w U=>?_)
 refine a7<|ae U (zm 1 G) (λ hb0=>?_) (λ hb0=>?_)
 ·exact absurd hb0 zd
 ·refine qh<|zt<|qb<|zg [η,η,η] [] [.v 15 _,.v 16 _,.v 17 _] [.g 0,.o 2] U (zl 1 G al (zQ G sk (.o (vq 0 G)) (zv G (bF (vq 1 G) a8) o0))) (zz [(5,_),(17,_)] [O 2 28 _,O 3 28 _,O 4 30 _] λ a w U=>?_)
  refine a7<|ae U (zm 1 G) (λ hb1=>?_) (λ hb1=>?_)
  ·exact absurd hb1 (by simpa using hq)
  ·refine qh<|zt<|zg [η,η,some (6,_)] [] [.v 19 _,.v 20 _,.v 21 _,.v 22 _,.v 23 _,.v 24 _,.sto 2,.v 5 _] [.o 7] U (zl 0 G al (zl 1 G al (zQ G (ft zd zd hq) (.p (vq 0 G) (vq 1 G)) (zQ G (uM zd) (.o (vq 2 G)) (zv G (dS (vq 3 G)) (zv G (dR (vq 3 G)) (zS 4 G ak (zA 5 G o0)))))))) (zz [(5,_)] [O 2 28 _,O 3 28 _,O 4 30 _] λ a w U=>?_)
   refine a7<|qe<|aj ?_ (aE (rs:=[.cell 4 30,.tmp 5]) G U (.cell (zm 2 G) ak (.tmp (zm 0 G) .nil)) zd)
   exact aL
theorem ofQ_c {p q:Int}(hp : -9223372036854775808≤p)(hp1:p<9223372036854775808)(hq0 : -9223372036854775808≤q)(hq1:q<9223372036854775808)(hq:q≠0):Cn Tryz.prog 103 [In p,In q] (FrR (rfOf (Rat.divInt p q),0)):=by
 refine Cn.intro Tryz.func103 G zk nq (λ B w0 a U=>?_)
 have U:=zn [(0,In p),(1,In q)] [] U
 refine qb<|zg [] [⟨4,30,ptrH,some 0,_,none⟩] [.alc 0,.v 5 _] [.g 0,.g 1,.o 1] U (zY G (Str.zero az) (zv G (a9 a8) o0)) (zz [(0,_),(1,_),(5,_)] [O 4 30 _] λ a w U=>?_)
 refine zt<|zg [some (7,_)] [] [.v 6 _,.v 7 _,.v 8 _,.v 9 _,.v 10 _,.v 11 _,.v 12 _,.sto 0,.v 5 _] [.o 8] U (zM 0 G (zQ G (of_z hp hp1) (.o (vq 0 G)) (zM 1 G (zQ G (of_z hq0 hq1) (.o (vq 2 G)) (zQ G (make_q hq) (.p (vq 1 G) (vq 3 G)) (zv G (dS (vq 4 G)) (zv G (dR (vq 4 G)) (zS 5 G ak (zA 6 G o0))))))))) (zz [(5,_)] [O 4 30 _] λ a w U=>?_)
 refine a7<|qe<|aj ?_ (aE (rs:=[.cell 4 30,.tmp 5]) G U (.cell (zm 0 G) ak (.tmp (zm 0 G) .nil)) zd)
 rw [← CW hq (DI hp hp1) (DI hq0 hq1)]; exact aL
structure RG where
 re:RF
 im:RF
 deriving DecidableEq
structure RM where
 a:RF
 b:RF
 c:RF
 d:RF
 deriving DecidableEq
structure RR where
 y:RF
 u:RF
 deriving DecidableEq
structure GQ where
 re:Rat
 im:Rat
 deriving DecidableEq
structure MQ where
 a:Rat
 b:Rat
 c:Rat
 d:Rat
 deriving DecidableEq
structure YQ where
 y:Rat
 u:Rat
 deriving DecidableEq
def RMA (x:RM):As:=cat [RFA x.a,RFA x.b,RFA x.c,RFA x.d]
def QMA (k:Nat)(x:MQ):As:=cat [QA k x.a,QA k x.b,QA k x.c,QA k x.d]
abbrev rm0:RM:=⟨rf0,rf0,rf0,rf0⟩
theorem qa_x {k:Nat}{x:RF}(h:okX x=true)(hk:2048≤k):WkA (RFA x) (QA k (toQ x)):=by
 obtain ⟨h1,h2,h3⟩:=wS h
 exact (dD (qk RFA h1)).trans (uf (qd h2 hk) (qd h3 hk))
theorem aS:Str Tryz.prog 80 [RFA rf0,RFA rf0,RFA rf0,RFA rf0] :=
 Str.of (z:=.agg #[.bool false,.slice none 0 0,.bool false,.slice none 0 0,.bool false,.slice none 0 0,.bool false,.slice none 0 0,.bool false,.slice none 0 0,.bool false,.slice none 0 0,.bool false,.slice none 0 0,.bool false,.slice none 0 0]) zk Tryz.underlying80 zk λ B w=>⟨[[.bool false,.slice none 0 0,.bool false,.slice none 0 0],[.bool false,.slice none 0 0,.bool false,.slice none 0 0],[.bool false,.slice none 0 0,.bool false,.slice none 0 0],[.bool false,.slice none 0 0,.bool false,.slice none 0 0]],rfl,(.cons (l7 B w) (.cons (l7 B w) (.cons (l7 B w) (.cons (l7 B w) .nil))))⟩
def intSizeF (x:RI):Int:=IntKind.i64.wrap (1+(x.mag.length:Int))
def fracSizeF (x:RF):Int:=IntKind.i64.wrap (intSizeF x.num+intSizeF x.den)
theorem HG {j m:Nat}(h:j<m)(hm:m≤9223372036854775807):IntKind.i64.wrap ((j:Int)+1)=((j+1:Nat):Int):=by rw [wi64 zo zo]; rfl
theorem EY {E:TypeId}{l:List As}(h:(SlA E D l).va.p B v w):l.length≤9223372036854775807:=by
 obtain ⟨cs,⟨_,A,c,ds,_,h1,h2,_⟩,_⟩:=h
 unfold maxLen at h2
 omega
theorem si {E:TypeId}{α:Type}{f:α→As}{l:List α}(h:(SlA E D (l.map f)).va.p B v w):l.length≤9223372036854775807:=by
 have:=EY h
 rwa [qi] at this
theorem pm (x:RI):Cn Tryz.prog 214 [(RIA x).va] (In (intSizeF x)):=by
 refine Cn.intro Tryz.func214 G zk nq (λ B w0 a U=>?_)
 have U:=zn [(0,(RIA x).va)] [] U
 refine qb<|zg [] [⟨1,28,ptrH,some 0,_,none⟩] [.alc 0,.v 2 _] [.o 1] U (zW 0 G (zv G (a9 a8) o0)) (zz [(2,_)] [O 1 28 _] λ a w U=>?_)
 refine zt<|zg [η] [] [.adr 3 1 (.some 1) True,.v 4 _,.v 5 _,.v 6 _,.v 2 _] [.o 4] U (zO 0 G ar (zL 0 0 1 G aY (zv G (aJ Tryz.underlying26 (vq 1 G)) (zv G (aQ a8 (vq 2 G) (G)) (zA 3 G o0))))) (zz [(2,_)] [O 1 28 _] λ a w U=>?_)
 refine a7<|qe<|aj ?_ (an G U (zm 0 G))
 exact aL
theorem mO (x:RF):Cn Tryz.prog 170 [(RFA x).va] (In (fracSizeF x)):=by
 refine Cn.intro Tryz.func170 G zk nq (λ B w0 a U=>?_)
 have U:=zn [(0,(RFA x).va)] [] U
 refine qb<|zg [] [⟨1,30,ptrH,some 0,_,none⟩] [.alc 0,.v 2 _] [.o 1] U (zW 0 G (zv G (a9 a8) o0)) (zz [(2,_)] [O 1 30 _] λ a w U=>?_)
 refine zt<|zgd [[],[0],[0,1],[],[3],[0,1,2,3,4],[0,1,2,3,4,5],[0,1,2,3,4,5,6]] [none] [] [.adr 3 1 (.some 0) True,.v 4 _,.v 5 _,.adr 6 1 (.some 2) True,.v 7 _,.v 8 _,.v 9 _,.v 2 _] [.o 7] aa U (zO 0 G aV (zL 0 0 0 G al (zQ G (pm _) (.o (vq 1 G)) (zO 0 G aN (zL 3 0 1 G al (zQ G (pm _) (.o (vq 4 G)) (zv G (aQ (vq 2 G) (vq 5 G) (G)) (zA 6 G o0)))))))) zk zk zk zk (zz [(2,_)] [O 1 30 _] λ a w U=>?_)
 refine a7<|qe<|aj ?_ (an G U (zm 0 G))
 exact aL
theorem Bk {a b:RI}(hn:a.neg=b.neg)(h:a.mag=b.mag):true=decide (a=b):=by
 cases a; cases b; simp_all
theorem Bp {a b:RI}(h:((a.neg != b.neg) || (((a.mag.length:Nat):Int) != ((b.mag.length:Nat):Int)))=true):false=decide (a=b):=by
 symm
 apply zP
 rintro rfl
 simp at h
theorem Bl {a b:RI}(h:((a.neg != b.neg) || (((a.mag.length:Nat):Int) != ((b.mag.length:Nat):Int)))=false):a.neg=b.neg∧a.mag.length=b.mag.length:=by
 simp only [qN,bne_eq_false_iff_eq] at h
 exact ⟨h.1,by omega⟩
theorem Bn {a b:RI}{j:Nat}(h1:j<a.mag.length)(h2:j<b.mag.length)(h:(((a.mag[j]:Nat):Int) != ((b.mag[j]:Nat):Int))=true):false=decide (a=b):=by
 symm
 apply zP
 rintro rfl
 simp at h
theorem EQ {l m:List Nat}{j:Nat}(h1:j<l.length)(h2:j<m.length)(h:l.take j=m.take j)(h3:(((l[j]:Nat):Int) != ((m[j]:Nat):Int))=false):l.take (j+1)=m.take (j+1):=by
 rw [qx h1,qx h2,h]
 simp only [bne_eq_false_iff_eq] at h3
 rw [show l[j]=m[j] by omega]
theorem rf_eq {a b:RF}:(decide (a.num=b.num)&&decide (a.den=b.den))=decide (a=b):=by
 cases a; cases b; rw [vt]; simp
theorem l3 (x y:RI):Cn Tryz.prog 102 [(RIA x).va,(RIA y).va] (Bo (decide (x=y))):=by
 refine Cn.intro Tryz.func102 G zk nq (λ B w0 a U=>?_)
 have U:=zn [(0,(RIA x).va),(1,(RIA y).va)] [] U
 have hxk:=gL (U.vals (0,(RIA x).va) (zm 0 rfl))
 refine qb<|zg [] [⟨2,28,ptrH,some 0,_,none⟩,⟨3,28,ptrH,some 1,_,none⟩] [.alc 0,.alc 1,.v 4 _] [.o 2] U (zW 0 G (zW 1 G (zv G (a9 aB) o0))) (zz [(4,_)] [O 2 28 _,O 3 28 _] λ a w U=>?_)
 refine zt<|qb<|zg [η,η] [] [.adr 6 2 (.some 0) True,.v 7 _,.adr 8 3 (.some 0) True,.v 9 _,.v 10 _,.v 11 _,.adr 12 2 (.some 1) (_=false),.f 13 _,.f 14 _,.adr 15 3 (.some 1) (_=false),.f 16 _,.f 17 _,.f 18 _,.v 19 _] [.g 0,.o 13] U (zO 0 G aU (zL 0 0 0 G ty_4 (zO 1 G aU (zL 2 1 0 G ty_4 (zv G (lh zk (vq 1 G) (vq 3 G)) (zv G (ab (vq 4 G)) (zC 5 0 G ar (zB 5 G (λ hg=>ax 6 G zk hg (lz0 0 G) (Sub.part 1 G G) aY) (zB 5 G (λ hg=>aJ Tryz.underlying26 (ac (vq 7 G) hg)) (zC 5 1 G ar (zB 5 G (λ hg=>ax 9 G zk hg (lz0 1 G) (Sub.part 1 G G) aY) (zB 5 G (λ hg=>aJ Tryz.underlying26 (ac (vq 10 G) hg)) (zB 5 G (λ hg=>ci (ac (vq 8 G) hg) (ac (vq 11 G) hg)) (zv G (r_or (vq 5 G) (vq 12 G)) o0)))))))))))))) (zz [(4,_),(19,_)] [O 2 28 _,O 3 28 _] λ a w U=>?_)
 refine a7<|ae U (zm 1 G) (λ hb0=>?_) (λ hb0=>?_)
 ·refine qb<|zg [η,η] [] [.v 4 _] [.o 0] U (zv G (a9 aB) o0) (zz [(4,_)] [O 2 28 _,O 3 28 _] λ a w U=>?_)
  refine a7<|qe<|ao ?_
  refine aj ?_ (an G U (zm 0 G))
  exact bj (qk Bo (Bp hb0))
 ·obtain ⟨hn1,hl⟩:=Bl hb0
  refine qh<|zt<|qb<|zg [η,η] [] [.v 5 _] [.g 0,.o 0] U (zv G (a9 a8) o0) (zz [(4,_),(5,_)] [O 2 28 _,O 3 28 _] λ a w U=>?_)
  refine a7<|ql ?_
  have U:=St.sel U [1]
  refine wp_loop_ghost (λ n a w=>∃ j:Nat,(n+j=x.mag.length∧x.mag.take j=y.mag.take j)∧St B w0 38 [(5,In (j:Nat))] [⟨2,28,ptrH,RIA x⟩,⟨3,28,ptrH,RIA y⟩] a w) (x.mag.length) ?_ ?_
  ·exact ⟨0,⟨by omega,rfl⟩,U⟩
  intro n a w hI
  obtain ⟨j,⟨hn,ht⟩,U⟩:=hI
  refine qb<|qb<|zg [η,η] [] [.v 20 _,.adr 21 2 (.some 1) True,.v 22 _,.v 23 _,.v 24 _] [.g 0,.o 4] U (zM 0 G (zO 0 G ar (zL 1 0 1 G aY (zv G (aJ Tryz.underlying26 (vq 2 G)) (zv G (aK (vq 0 G) (vq 3 G)) o0))))) (zz [(5,_),(24,_)] [O 2 28 _,O 3 28 _] λ a w U=>?_)
  refine a7<|ae U (zm 1 G) (λ hb1=>?_) (λ hb1=>?_)
  ·have hj:j<x.mag.length:=by simp at hb1; omega
   refine qh<|zt<|ql<|qb<|zgd [[],[0],[],[0,1,2],[0,1,2,3],[],[5],[],[5,6,7],[5,6,7,8],[0,1,2,3,4,5,6,7,8,9]] [none,none] [] [.adr 27 2 (.some 1) True,.v 28 _,.v 29 _,.v 30 _,.v 31 _,.adr 32 3 (.some 1) True,.v 33 _,.v 34 _,.v 35 _,.v 36 _,.v 37 _] [.g 0,.o 10] aa U (zO 0 G ar (zL 0 0 1 G aY (zM 0 G (zv G (bK bb (vq 1 G) (vq 2 G) zo) (zv G (aq (vq 3 G) aM) (zO 1 G ar (zL 5 1 1 G aY (zM 0 G (zv G (bK bb (vq 6 G) (vq 7 G) zo) (zv G (aq (vq 8 G) aM) (zv G (ci (vq 4 G) (vq 9 G)) o0))))))))))) zk zk zk zk (zz [(5,_),(37,_)] [O 2 28 _,O 3 28 _] λ a w U=>?_)
   refine a7<|ae U (zm 1 G) (λ hb2=>?_) (λ hb2=>?_)
   ·refine qb<|zg [η,η] [] [.v 4 _] [.g 0,.o 0] U (zv G (a9 aB) o0) (zz [(5,_),(4,_)] [O 2 28 _,O 3 28 _] λ a w U=>?_)
    refine a7<|qe<|aT ?_
    refine ao ?_
    refine ao ?_
    refine aT ?_
    refine ao ?_
    refine aj ?_ (an G U (zm 1 G))
    exact bj (qk Bo (Bn hj zo hb2))
   ·refine qh<|am ?_
    refine a7<|zg [η,η] [] [.v 25 _,.v 26 _,.v 5 _] [.o 2] U (zM 0 G (zv G (aQ (vq 0 G) a8 (HG hj hxk.2)) (zA 1 G o0))) (zz [(5,_)] [O 2 28 _,O 3 28 _] λ a w U=>?_)
    refine a7 ?_
    have U:=St.sel U [0]
    exact ⟨n-1,by omega,j+1,⟨by omega,EQ hj zo ht hb2⟩,U⟩
  ·obtain rfl:j=x.mag.length:=by simp at hb1; omega
   refine qK<|ah<|ah<|ay<|zt<|zg [η,η] [] [.v 4 _] [.o 0] U (zv G (a9 aB) o0) (zz [(4,_)] [O 2 28 _,O 3 28 _] λ a w U=>?_)
   refine a7<|qe<|aj ?_ (an G U (zm 0 G))
   exact bj (qk Bo (Bk hn1 (by rw [qB (qg _),qB zo] at ht; exact ht)))
theorem dC (x y:RF):Cn Tryz.prog 25 [(RFA x).va,(RFA y).va] (Bo (decide (x=y))):=by
 refine Cn.intro Tryz.func25 G zk nq (λ B w0 a U=>?_)
 have U:=zn [(0,(RFA x).va),(1,(RFA y).va)] [] U
 refine qb<|zg [] [⟨2,30,ptrH,some 0,_,none⟩,⟨3,30,ptrH,some 1,_,none⟩] [.alc 0,.alc 1,.v 4 _] [.o 2] U (zW 0 G (zW 1 G (zv G (a9 aB) o0))) (zz [(4,_)] [O 2 30 _,O 3 30 _] λ a w U=>?_)
 refine zt<|zg [η,η] [] [.adr 5 2 (.some 0) True,.v 6 _,.adr 7 3 (.some 0) True,.v 8 _,.v 9 _,.v 10 _,.adr 11 2 (.some 2) (_=true),.t 12 _,.adr 13 3 (.some 2) (_=true),.t 14 _,.t 15 _,.v 16 _,.v 4 _] [.o 12] U (zO 0 G aV (zL 0 0 0 G al (zO 1 G aV (zL 2 1 0 G al (zQ G (l3 _ _) (.p (vq 1 G) (vq 3 G)) (zv G (ab (vq 4 G)) (zC 5 0 G aN (zB 5 G (λ hg=>ax 6 G zk hg (lz0 0 G) (Sub.part 1 G G) al) (zC 5 1 G aN (zB 5 G (λ hg=>ax 8 G zk hg (lz0 1 G) (Sub.part 1 G G) al) (zB 5 G (λ hg=>aX (l3 _ _) (.p (ac (vq 7 G) hg) (ac (vq 9 G) hg))) (zv G (bG (vq 5 G) (vq 10 G)) (zA 11 G o0))))))))))))) (zz [(4,_)] [O 2 30 _,O 3 30 _] λ a w U=>?_)
 refine a7<|qe<|aj ?_ (an G U (zm 0 G))
 exact bj (qk Bo rf_eq)
open Go.ChangeShapes Go.WideShapes Go.ChangeAt
theorem tJ {B:Nat}{w:World}:∀ {l:List As} {cs:List Value},cs.length=(l.map (·.n)).sum→(∀ (k:Nat) (A:As),l[k]?=some A→A.p B ((cs.drop (offs l k)).take A.n) w)→(cat l).p B cs w
 | [],cs,hl,_=>by
  have:cs=[]:=kv.1 (by simpa using hl)
  subst this
  exact ⟨[],rfl,.nil⟩
 | A::l,cs,hl,h=>by
  simp only [qX,xQ] at hl
  have h0:=h 0 A rfl
  simp only [offs,kb,kB,List.sum_nil,xo] at h0
  obtain ⟨ps,e,hps⟩:=tJ (l:=l) (cs:=cs.drop A.n) (B:=B) (w:=w) (by simp; omega) λ k A' hk=>by
   have:=h (k+1) A' (by simpa using hk)
   simp only [offs,kO,qX,xQ] at this
   rw [List.drop_drop]
   exact this
  exact ⟨cs.take A.n::ps,by rw [qL,← e,xq],.cons h0 hps⟩
section
variable {H:Type} {enc:TypeId × Value→H} {w:World} {base:Nat} {spare:Nat→Bool} {held:Bool} {fuel:Nat} {cs:List Value} {x:DataW H × List MemPlace}
theorem rd_mg (h:DataW.trod enc Tryz.prog w base spare held fuel 26 cs=some x):∃ l,(MgA l).p w.heap.size cs w:=by
 rcases open_ints Tryz.underlying26 Tryz.underlying128 zk h with ⟨hcs,_⟩ | ⟨a,len,cap,zs,rfl,_,hl,hm,hz,_,hcell,hwz⟩
 ·subst hcs
  exact ⟨[],eT _ _⟩
 ·have hzl:len≤zs.length:=by rw [hz]; split <;> omega
  have hnn:∀ n∈zs,0≤n∧n<4294967296:=λ n hn=>by
   have:=hwz n hn
   simp [Lit.wf,IntKind.min,IntKind.max,IntKind.signed,IntKind.bits] at this
   omega
  have hlen:((zs.take len).map Int.toNat).length=len:=by simp; omega
  refine ⟨(zs.take len).map Int.toNat,?_⟩
  have hM:Mag w.heap.size w (some a) cap ((zs.take len).map Int.toNat):=by
   refine ⟨λ y hy=>?_,by omega,hm,λ hn=>?_⟩
   ·obtain ⟨n,hn,rfl⟩:=qm.1 hy
    have:=hnn n (z9 hn)
    omega
   ·obtain ⟨b,off,rfl,hc⟩:=ints_at hcell zo
    have hb:b<w.heap.size:=World.block_lt_of_cell? w _ (hc 0 zo)
    refine ⟨b,off,rfl,hb,.inl hb,λ j hj=>?_⟩
    rw [hc j zo]
    have hjz:j<zs.length:=by omega
    have:=hnn _ (qf hjz)
    congr 2
    simp only [List.getElem_map,vb]
    rw [Int.toNat_of_nonneg this.1]
    simp [List.getD_eq_getElem?_getD,List.getElem?_eq_getElem hjz]
  obtain ⟨ds,hp,hv⟩:=dW hM hlen.symm
  have hd:=(MgA ((zs.take len).map Int.toNat)).len _ _ _ hp
  match ds,hd with
  | [d],_ =>
   have:d=.slice (some a) len cap:=hv.symm
   subst this
   exact hp
theorem Ay {A0 A1:As}(h0:A0.p B ((cs.drop 0).take A0.n) w)(h1:A1.p B ((cs.drop A0.n).take A1.n) w)(hl:cs.length=A0.n+A1.n):(cat [A0,A1]).p B cs w :=
 tJ (by simpa using hl) λ k A hk=>by
  match k,hk with
  | 0,hk=>simp at hk; subst hk; exact h0
  | 1,hk=>simp at hk; subst hk; simpa [offs] using h1
theorem rd_bo (h:DataW.trod enc Tryz.prog w base spare held fuel 4 cs=some x):∃ b,(BoA b).p w.heap.size cs w:=by
 obtain ⟨b,hb,_⟩:=DataW.trod_bool Tryz.underlying4 h
 exact ⟨b,hb⟩
end
structure OkG (p:GQ):Prop where
 re:longQ p.re=false
 im:longQ p.im=false
 pos:0<p.im
theorem div_pos {x y:Rat}(h:0<x)(h':0<y):0<x/y:=kI h (Rat.inv_pos.2 h')
theorem ok_rf {x:RF}(h:okX x=true):∃ r,x=rfOf r∧longQ r=false:=by
 obtain ⟨e,h1⟩:=wS h
 exact ⟨_,e,longQ_false.2 h1⟩
end Go.Proofs.YtkpifdpdeanjfaaGreatDoor
