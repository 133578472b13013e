import Derived.Test.YtedfcalhhldijaaGreatDoorRwAe
set_option linter.all false
set_option maxRecDepth 100000
namespace Go.Proofs.YtedfcalhhldijaaGreatDoor
open Go Go.RowKit
variable {w:World}{B:Nat}{a:Act}{v:Value}{T:TypeId}{w0:Bs}{Γ:List (Nat × VA)}{Λ:List Lc}{ps:String}{af:Array Edge}{vr:Value}{H:Hd}{cs:List Value}{w':World}{P:Program}{D:List TypeId}
theorem ip (p q:Int):(p.tdiv q).natAbs=p.natAbs/q.natAbs:=Int.natAbs_tdiv p q
theorem fP (p q:Int):(p.tmod q).natAbs=p.natAbs%q.natAbs:=Int.natAbs_tmod p q
theorem sm {p q:Int}(h:p.tdiv q≠0):(decide (p<0) != decide (q<0))=decide (p.tdiv q<0):=by
 have hp:p≠0:=λ e=>h (by rw [e,Int.zero_tdiv])
 have hq:q≠0:=λ e=>h (by rw [e,Int.tdiv_zero])
 have e:∀ {x y:Int},0<x→0<y→0≤x.tdiv y:=λ hx hy=>Int.tdiv_nonneg zo zo
 by_cases h2:p<0 <;> by_cases h3:q<0
 ·have:0≤(-p).tdiv (-q):=e zo zo
  rw [Int.neg_tdiv,Int.tdiv_neg,Int.neg_neg] at this
  simp [h2,h3]; omega
 ·have:0≤(-p).tdiv q:=e zo zo
  rw [Int.neg_tdiv] at this
  simp [h2,h3]; omega
 ·have:0≤p.tdiv (-q):=e zo zo
  rw [Int.tdiv_neg] at this
  simp [h2,h3]; omega
 ·have:0≤p.tdiv q:=e zo zo
  simp [h2,h3]; omega
theorem mG {p q:Int}(h:p.tmod q≠0):decide (p<0)=decide (p.tmod q<0):=by
 by_cases h2:p<0
 ·have:0≤(-p).tmod q:=vB _ zo
  rw [Int.neg_tmod] at this
  simp [h2]; omega
 ·have:0≤p.tmod q:=vB _ zo
  simp [h2]; omega
theorem nJ {p q:Int}(h:p.natAbs<q.natAbs):p.tdiv q=0∧p.tmod q=p:=by
 have h1:(p.tdiv q).natAbs=0:=by rw [ip,xq h]
 have h2:p.tdiv q=0:=by omega
 have h3:=Int.tdiv_mul_add_tmod p q
 exact ⟨h2,by rw [h2] at h3; simpa using h3⟩
theorem yD {a b n m:Nat}(ha:a<4294967296^n)(hb:4294967296^(m-1)≤b)(hm:0<m)(hmn:m≤n):a/b<4294967296^(n+1-m):=by
 have hp:0<4294967296^(m-1):=zq zd
 rw [jN zo]
 have:4294967296^(n+1-m)*4294967296^(m-1)≤4294967296^(n+1-m)*b:=zr _ hb
 rw [← zR,show n+1-m+(m-1)=n by omega] at this
 omega
theorem DO {p q:Int}{n:Nat}(h:p.natAbs/q.natAbs<4294967296^n):rsig ((riOf p).neg != (riOf q).neg) (digs n (val (riOf p).mag/val (riOf q).mag))=riOf (p.tdiv q):=by
 rw [bv,bv]
 exact bV (bI _ _) (by rw [dh,zi h,ip]) sm
theorem divz_r {p q:Int}{n:Nat}(h:p.natAbs%q.natAbs<4294967296^n):rsig (riOf p).neg (digs n (val (riOf p).mag%val (riOf q).mag))=riOf (p.tmod q):=by
 rw [bv,bv]
 exact bV (bI _ _) (by rw [dh,zi h,fP]) mG
theorem own_ri (p:Int):rsig (riOf p).neg (riOf p).mag=riOf p:=bV (mA p) (bv p) λ _=>rfl
theorem EK {p q:Int}(h:decide (sizeL (riOf p).mag (riOf q).mag<0)=true):p.natAbs<q.natAbs:=by
 have:=(dp (m:=p.natAbs) (n:=q.natAbs)).1
 have h':sizeL (limbs p.natAbs) (limbs q.natAbs)<0:=qp h
 omega
theorem Ay {p q:Int}(h:decide (sizeL (riOf p).mag (riOf q).mag<0)=false):q.natAbs≤p.natAbs:=by
 have:=(dp (m:=p.natAbs) (n:=q.natAbs)).1
 have h':¬ sizeL (limbs p.natAbs) (limbs q.natAbs)<0:=qr h
 omega
theorem one_limb' {l:List Nat}{v:Nat}(hv:val l=v)(ok:okL l)(h:l.length=1):l[0]'zo=v∧v<4294967296:=by
 match l,h with
 | [x],_=>exact ⟨by simpa using hv,by have:=ok x (by simp); simp at hv; omega⟩
theorem dB {q:Int}(h:(riOf q).mag.length=1):(riOf q).mag[0]'zo=q.natAbs∧q.natAbs<4294967296:=one_limb' (bv q) (mA q) h
theorem ep {p:Int}:(riOf p).mag.length=lz p:=rfl
theorem HQ {q:Int}{k:Nat}(h:(riOf q).mag.length=k+2):(riOf q).mag.getD (k+1) 0≠0:=by
 have h1:=(bi q.natAbs).2
 have h2:(limbs q.natAbs).length=k+2:=h
 intro hh
 apply h1
 rw [List.getLast?_eq_getElem?,h2,show k+2-1=k+1 from rfl]
 have:(limbs q.natAbs).getD (k+1) 0=0:=hh
 rw [List.getD_eq_getElem?_getD,List.getElem?_eq_getElem zo] at this
 rw [List.getElem?_eq_getElem zo]
 simpa using this
theorem fQ {q:Int}(h:q≠0):0<lz q:=by unfold lz; rw [cK zo]; simp
theorem eF {p q:Int}(h:p.natAbs≤q.natAbs):lz p≤lz q:=c8 h
theorem Dy {q:Int}(h:q≠0):4294967296^(lz q-1)≤q.natAbs:=by
 have:=(bi q.natAbs).lt_val (by rw [cK zo]; simp)
 rw [aH] at this
 exact this
theorem eh (q:Int):q.natAbs<4294967296^lz q:=bZ (qi _)
theorem zi_zeroN:(cat (setAll [BoA false,MgN []] [])).va=(RIN (riOf 0)).va:=by
 rw [show riOf 0=⟨false,[]⟩ from by simp [riOf,bt]]
 rfl
theorem GR {p q:Int}(hq:q≠0)(hge:q.natAbs≤p.natAbs)(h:(riOf q).mag.length=1):rsig ((riOf p).neg != (riOf q).neg) (digs (riOf p).mag.length (val (riOf p).mag/(riOf q).mag[0]'zo))=riOf (p.tdiv q):=by
 rw [show (riOf q).mag[0]'zo=val (riOf q).mag from by rw [(dB h).1,bv]]
 have:=yD (eh p) (Dy hq) (fQ hq) (eF hge)
 rw [show lz q=1 from h] at this
 exact DO this
theorem AM {p q:Int}(h:(riOf q).mag.length=1)(hq:q≠0):rsig (riOf p).neg [val (riOf p).mag%(riOf q).mag[0]'zo]=riOf (p.tmod q):=by
 have h1:=dB h
 rw [h1.1,bv]
 have:p.natAbs%q.natAbs<4294967296:=ze (qM _ zo) h1.2
 exact bV (okL_cons.2 ⟨this,cI⟩) (by rw [fP]; simp) mG
theorem ov (p q:Int)(hq:q≠0)(hp:lz p≤1099511627776):Cn Tryz.prog 218 [Zi p,Zi q] (Tu [(RIN (riOf (p.tdiv q))).va,(RIN (riOf (p.tmod q))).va]):=by
 refine Cn.introW Tryz.func218 G zk nq (.cons (sN _).va (.cons (sN _).va .nil)) (ua (.cons (du _).va (.cons (du _).va .nil))) (λ B w0 a hB0 U=>?_)
 have U:=zn [(0,(RIO (riOf p)).va),(1,(RIO (riOf q)).va)] [] U
 refine qb<|zg [] [⟨2,26,ptrH,some 0,_,none⟩,⟨3,26,ptrH,some 1,_,none⟩,⟨4,26,ptrH,some 2,_,none⟩,⟨5,26,ptrH,some 3,_,none⟩] [.alc 0,.alc 1,.alc 2,.alc 3] [] U (zW 0 G (zW 1 G (zY G (Str.zero eQ) (zY G (Str.zero eQ) o0)))) (zz [] [O 2 26 _,O 3 26 _,O 4 26 _,O 5 26 _] λ a w U=>?_)
 refine zt<|qj<|qb<|zg [η,η,η,η] [] [.adr 11 2 (.some 1) True,.v 12 _,.adr 13 3 (.some 1) True,.v 14 _,.v 15 _,.v 16 _,.v 10 _] [.o 6] U (zO 0 G ay (zL 0 0 1 G aX (zO 1 G ay (zL 2 1 1 G aX (zQ G ((rm _ _).wk (.cons gO (.cons gO .nil))) (.p (vq 1 G) (vq 3 G)) (zv G (aS (vq 4 G) ab) (zA 5 G o0))))))) (zz [(10,_)] [O 2 26 _,O 3 26 _,O 4 26 _,O 5 26 _] λ a w U=>?_)
 refine aa<|aj U (zm 0 G) (λ hb0=>?_) (λ hb0=>?_)
 ·have hlt:=EK hb0
  refine qb<|zg [η,η,some (6,_),some (7,_)] [] [.v 17 _,.adr 18 2 (.some 0) True,.v 19 _,.adr 20 2 (.some 1) True,.v 21 _,.v 22 _,.sto 2,.sto 3] [] U (zv G (aU (qs:=[]) (cj famN) .nil) (zO 0 G aV (zL 1 0 0 G ty_4 (zO 0 G ay (zL 3 0 1 G aX (zQ G ((Fr _ _ hp).wk (.cons aL (.cons gO .nil))) (.p (vq 2 G) (vq 4 G)) (zS 0 G ar (zS 5 G ar o0)))))))) (zz [] [O 2 26 _,O 3 26 _,O 4 26 _,O 5 26 _] λ a w U=>?_)
  refine aa<|qg<|aE ?_
  refine al ?_
  refine aC ?_ (bf (rs:=[.cell 4 26,.cell 5 26]) G U (.cell (zm 2 G) ar (.cell (zm 3 G) ar .nil)) zd)
  exact tu2 ((qm (λ z=>(RIN (riOf z)).va) (nJ hlt).1).trans zi_zeroN.symm).symm (qm (λ x=>(RIN x).va) ((own_ri p).trans (qm riOf (nJ hlt).2.symm)))
 ·have hge:=Ay hb0
  have hp0:0<(riOf p).mag.length:=qE (fQ hq) (eF hge)
  refine qb<|zg [η,η,η,η] [] [.adr 24 3 (.some 1) True,.v 25 _,.v 26 _,.v 27 _,.v 23 _] [.o 4] U (zO 1 G ay (zL 0 1 1 G aX (zv G (aI Tryz.underlying24 (aD (vq 1 G))) (zv G (bC (vq 2 G) ab) (zA 3 G o0))))) (zz [(23,_)] [O 2 26 _,O 3 26 _,O 4 26 _,O 5 26 _] λ a w U=>?_)
  refine aa<|aj U (zm 0 G) (λ hb1=>?_) (λ hb1=>?_)
  ·have h1:(riOf q).mag.length=1:=by simp at hb1; omega
   refine qb<|zg [η,η,η,η] [] [.adr 28 2 (.some 1) True,.v 29 _,.v 30 _,.v 6 _] [.o 3] U (zO 0 G ay (zL 0 0 1 G aX (zQ G ((yJ _ hp).wk (.cons gO .nil)) (.o (vq 1 G)) (zA 2 G o0)))) (zz [(6,_)] [O 2 26 _,O 3 26 _,O 4 26 _,O 5 26 _] λ a w U=>?_)
   obtain ⟨c,ext,hc1,hc2,hok,hcx,U⟩:=St.own U hB0 0 rfl hp0 rfl
   have U:=St.sel U []
   refine zt<|zg [some (5,_),η,η,η,η] [] [.adr 31 6 .none True,.adr 32 3 (.some 1) True,.v 33 _,.v 34 _,.v 35 _,.cal 36 _ 0,.v 7 _] [.o 6] U (oc (ob_a G G cb) (zO 2 G ay (zL 1 2 1 G aX (zv G (bG b9 (aD (vq 2 G)) (aG 0 G) zo) (zv G (au (vq 3 G) aO) (oc (Dp (xs:=[.tmp 31,.tmp 35]) G G G (EP _ ext c _ (mA p) hp (by rw [(dB h1).1]; omega) (by rw [(dB h1).1]; exact (dB h1).2)) (.cons (arw2 0 G zk) (.o (vq 4 G)))) (zv G (ac (Gk 5 G zk zk)) o0))))))) (zz [(7,_)] [⟨6,134,slH (riOf p).mag.length c,_⟩,O 2 26 _,O 3 26 _,O 4 26 _,O 5 26 _] λ a w U=>?_)
   refine zt<|zgd [[],[0],[],[2],[0,1,2,3],[],[0,1,2,3,4,5],[],[7],[],[9],[0,1,2,3,4,5,6,7,8,9,10],[0,1,2,3,4,5,6,7,8,9,10,11],[0,1,2,3,4,5,6,7,8,9,10,11,12]] [none,none,none,some (12,_),some (13,_)] [] [.adr 37 2 (.some 0) True,.v 38 _,.adr 39 3 (.some 0) True,.v 40 _,.v 41 _,.adr 42 6 .none True,.v 43 _,.adr 44 2 (.some 0) True,.v 45 _,.v 46 _,.v 47 _,.v 48 _,.sto 3,.sto 4] [] ae U (zO 1 G aV (zL 0 1 0 G ty_4 (zO 2 G aV (zL 2 2 0 G ty_4 (zv G (lN zk (vq 1 G) (vq 3 G)) (oc (ob_a G G cb) (zQ G (d5 _ _) (.p (vq 4 G) (Bx 5 G zk (lz0 0 G) ⟨(az _ _).symm,hc1,hc2,bI _ _⟩ (by rw [hcx,qB,qB,az]))) (zO 1 G aV (zL 7 1 0 G ty_4 (zM 0 G (zv G (uU (l:=[_]) (xs:=[.tmp 46]) b9 zk nq nq (okL_cons.2 ⟨ze (qM _ (by rw [(dB h1).1]; omega)) (by rw [(dB h1).1]; exact (dB h1).2),cI⟩) (.o (vq 9 G)) G G) (zQ G (d5 _ _) (.p (vq 8 G) (vq 10 G)) (zS 6 G ar (zS 11 G ar o0)))))))))))))) zk zk zk zk (zz [] [⟨6,134,slH (riOf p).mag.length c,_⟩,O 2 26 _,O 3 26 _,O 4 26 _,O 5 26 _] λ a w U=>?_)
   refine aa<|qg<|aE ?_
   refine al ?_
   refine aC ?_ (bf (rs:=[.cell 4 26,.cell 5 26]) G U (.cell (zm 3 G) ar (.cell (zm 4 G) ar .nil)) zd)
   exact tu2 (qm (λ x=>(RIN x).va) (GR hq hge h1)) (qm (λ x=>(RIN x).va) (AM h1 hq))
  ·have h1:(riOf q).mag.length≠1:=by simp at hb1; omega
   have hql:=fQ hq
   rw [← ep] at hql
   obtain ⟨k,hk⟩:∃ k,(riOf q).mag.length=k+2:=⟨(riOf q).mag.length-2,by omega⟩
   have hkp:k+2≤(riOf p).mag.length:=by rw [← hk]; exact eF hge
   refine qh<|ap ?_
   refine zt<|zg [η,η,η,η] [] [.adr 50 2 (.some 1) True,.v 51 _,.adr 52 3 (.some 1) True,.v 53 _,.v 54 _,.v 49 _,.v 55 _,.v 56 _,.v 8 _,.v 9 _] [.o 8,.o 9] U (zO 0 G ay (zL 0 0 1 G aX (zO 1 G ay (zL 2 1 1 G aX (zQ G ((Cj _ _ k hk (HQ hk) hkp hp).wk (.cons gO (.cons gO .nil))) (.p (vq 1 G) (vq 3 G)) (zv G (ai (vq 4 G)) (zv G (aQ (vq 5 G) G) (zv G (aQ (vq 5 G) G) (zA 6 G (zA 7 G o0)))))))))) (zz [(8,_),(9,_)] [O 2 26 _,O 3 26 _,O 4 26 _,O 5 26 _] λ a w U=>?_)
   refine zt<|zgd [[],[0],[],[2],[0,1,2,3],[],[0,1,2,3,4,5],[],[7],[],[0,1,2,3,4,5,6,7,8,9],[0,1,2,3,4,5,6,7,8,9,10],[0,1,2,3,4,5,6,7,8,9,10,11]] [none,none,some (11,_),some (12,_)] [] [.adr 57 2 (.some 0) True,.v 58 _,.adr 59 3 (.some 0) True,.v 60 _,.v 61 _,.v 62 _,.v 63 _,.adr 64 2 (.some 0) True,.v 65 _,.v 66 _,.v 67 _,.sto 2,.sto 3] [] ae U (zO 0 G aV (zL 0 0 0 G ty_4 (zO 1 G aV (zL 2 1 0 G ty_4 (zv G (lN zk (vq 1 G) (vq 3 G)) (zM 0 G (zQ G (d5 _ _) (.p (vq 4 G) (vq 5 G)) (zO 0 G aV (zL 7 0 0 G ty_4 (zM 1 G (zQ G (d5 _ _) (.p (vq 8 G) (vq 9 G)) (zS 6 G ar (zS 10 G ar o0))))))))))))) zk zk zk zk (zz [] [O 2 26 _,O 3 26 _,O 4 26 _,O 5 26 _] λ a w U=>?_)
   refine aa<|qg<|aC ?_ (bf (rs:=[.cell 4 26,.cell 5 26]) G U (.cell (zm 2 G) ar (.cell (zm 3 G) ar .nil)) zd)
   exact tu2 (qm (λ x=>(RIN x).va) (DO (hk▸yD (eh p) (Dy hq) (fQ hq) (eF hge)))) (qm (λ x=>(RIN x).va) (divz_r (ze (qM _ zo) (hk▸eh q))))
theorem vW (p:Int):rsig false (riOf p).mag=riOf ((p.natAbs:Nat):Int):=bV (mA p) (by rw [bv]; omega) λ _=>by simp
theorem DA (p:Int):lz ((p.natAbs:Nat):Int)=lz p:=by simp [lz]
theorem len_nz {n:Nat}(h:decide (((riOf (n:Int)).mag.length:Int)>0)=true):0<n:=by
 rcases k5 n with rfl | hp
 ·simp [riOf,bt] at h
 ·exact hp
theorem len_z {n:Nat}(h:decide (((riOf (n:Int)).mag.length:Int)>0)=false):n=0:=by
 rcases k5 n with rfl | hp
 ·rfl
 ·have:=fQ (q:=(n:Int)) zo
  have h':¬ (((riOf (n:Int)).mag.length:Int)>0):=qr h
  rw [ep] at h'
  omega
theorem FY {x n:Nat}(h:lz (n:Int)≤1099511627776)(hn:0<n):lz ((x%n:Nat):Int)≤1099511627776:=qe (eF (by have:=qM x hn; omega)) h
theorem BJ {x n p:Nat}(h:Nat.gcd x n=p):Nat.gcd n (x%n)=p:=by rw [← h,xE n,xE x,Nat.gcd_rec n x]
theorem sy (p q:Int)(hp:lz p≤1099511627776)(hq:lz q≤1099511627776):Cn Tryz.prog 178 [Zi p,Zi q] ((RIN (riOf ((Int.gcd p q:Nat):Int))).va):=by
 refine Cn.intro Tryz.func178 G zk nq (λ B w0 a U=>?_)
 have U:=zn [(0,Zi p),(1,Zi q)] [] U
 refine qb<|zg [] [⟨2,26,ptrH,some 0,_,none⟩,⟨3,26,ptrH,some 1,_,none⟩,⟨4,26,ptrH,some 2,_,none⟩] [.alc 0,.alc 1,.alc 2] [] U (zW 0 G (zW 1 G (zY G (Str.zero bn) o0))) (zz [] [O 2 26 _,O 3 26 _,O 4 26 _] λ a w U=>?_)
 refine zt<|zgd [[],[0],[0,1],[],[3],[0,1,2,3,4],[],[],[0,1,2,3,4,5,6,7],[0,1,2,3,4,5,6,7,8]] [none,none,none] [⟨5,26,ptrH,some 6,_,some (8,_)⟩,⟨6,26,ptrH,some 7,_,some (9,_)⟩] [.adr 9 2 (.some 1) True,.v 10 _,.v 11 _,.adr 12 3 (.some 1) True,.v 13 _,.v 14 _,.alc 3,.alc 4,.sto 3,.sto 4] [] ae U (zO 0 G ay (zL 0 0 1 G aX (zQ G (Fr _ _ hp) (.cons aJ (.o (vq 1 G))) (zO 1 G ay (zL 3 1 1 G aX (zQ G (Fr _ _ hq) (.cons aJ (.o (vq 4 G))) (zY G (Str.zero bn) (zY G (Str.zero bn) (zS 2 G ar (zS 5 G ar o0)))))))))) zk zk zk zk (zz [] [O 2 26 _,O 3 26 _,O 4 26 _,O 5 26 _,O 6 26 _] λ a w U=>?_)
 refine zt<|qj ?_
 have U:=St.sel U []
 have U:=St.selL U [2,3,4]
 refine wp_loop_ghost (λ n a w=>∃ x:Nat,(Nat.gcd x n=Int.gcd p q∧lz (x:Int)≤1099511627776∧lz (n:Int)≤1099511627776)∧St B w0 28 [] [⟨4,26,ptrH,cat [BoA false,MgA []]⟩,⟨5,26,ptrH,RIN (riOf ((x:Nat):Int))⟩,⟨6,26,ptrH,RIN (riOf ((n:Nat):Int))⟩] a w) (q.natAbs) ?_ ?_
 ·exact ⟨p.natAbs,⟨rfl,by rw [DA]; exact hp,by rw [DA]; exact hq⟩,by rw [show rsig false (limbs p.natAbs)=_ from vW p,show rsig false (limbs q.natAbs)=_ from vW q] at U; exact U⟩
 intro n a w hI
 obtain ⟨x,⟨hg,hx,hn⟩,U⟩:=hI
 refine qb<|qb<|zg [η,η,η] [] [.adr 15 6 (.some 1) True,.v 16 _,.v 17 _,.v 18 _] [.o 3] U (zO 2 G ay (zL 0 2 1 G aX (zv G (aI Tryz.underlying24 (pA (vq 1 G))) (zv G (ci (vq 2 G) ab) o0)))) (zz [(18,_)] [O 4 26 _,O 5 26 _,O 6 26 _] λ a w U=>?_)
 refine aa<|aj U (zm 0 G) (λ hb0=>?_) (λ hb0=>?_)
 ·have h0:=len_nz hb0
  refine qh<|aa<|qj<|qb<|zg [η,η,η] [⟨7,26,ptrH,some 6,_,some (8,_)⟩,⟨8,26,ptrH,some 7,_,some (9,_)⟩] [.v 20 _,.v 21 _,.v 22 _,.v 19 _,.v 23 _,.v 24 _,.alc 3,.alc 4,.sto 3,.sto 4] [] U (zl 1 G ar (zl 2 G ar (zQ G ((ov _ _ zo hx).wk (.cons gN (.cons gN .nil))) (.p (vq 0 G) (vq 1 G)) (zv G (ai (vq 2 G)) (zv G (aQ (vq 3 G) G) (zv G (aQ (vq 3 G) G) (zY G (Str.zero bn) (zY G (Str.zero bn) (zS 4 G ar (zS 5 G ar o0)))))))))) (zz [] [O 4 26 _,O 5 26 _,O 6 26 _,O 7 26 _,O 8 26 _] λ a w U=>?_)
  refine aa<|zgd [[],[],[0],[0,1,2]] [none,some (2,_),some (3,_),none,none] [] [.v 25 _,.v 26 _,.sto 1,.sto 2] [] ae U (zl 2 G ar (zl 4 G ar (zS 0 G ar (zS 1 G ar o0)))) zk zk zk zk (zz [] [O 4 26 _,O 5 26 _,O 6 26 _,O 7 26 _,O 8 26 _] λ a w U=>?_)
  refine ap ?_
  refine aa ?_
  have U:=St.sel U []
  have U:=St.selL U [0,1,2]
  exact ⟨x%n,qM _ h0,n,⟨BJ hg,hn,FY hn h0⟩,U⟩
 ·obtain rfl:=len_z hb0
  refine qK<|am<|am<|aB<|zt<|zg [some (1,_),η,η] [] [.v 27 _,.sto 0] [] U (zl 1 G ar (zS 0 G ar o0)) (zz [] [O 4 26 _,O 5 26 _,O 6 26 _] λ a w U=>?_)
  refine aa<|qg<|aC ?_ (aA G U (zm 0 G) ar)
  exact qm (λ z:Nat=>(RIN (riOf (z:Int))).va) ((Nat.gcd_zero_right x).symm.trans hg)
theorem G1 (x:RI):Cn Tryz.prog 222 [(RIA x).va] (Bo (decide ((x.mag.length:Int)>2048))):=by
 refine Cn.intro Tryz.func222 G zk nq (λ B w0 a U=>?_)
 have U:=zn [(0,(RIA x).va)] [] U
 refine qb<|zg [] [⟨1,26,ptrH,some 0,_,none⟩] [.alc 0,.v 2 _] [.o 1] U (zW 0 G (zv G (ac aJ) o0)) (zz [(2,_)] [O 1 26 _] λ a w U=>?_)
 refine zt<|zg [η] [] [.adr 3 1 (.some 1) True,.v 4 _,.v 5 _,.v 6 _,.v 2 _] [.o 4] U (zO 0 G ay (zL 0 0 1 G aX (zv G (aI Tryz.underlying24 (vq 1 G)) (zv G (ci (vq 2 G) ab) (zA 3 G o0))))) (zz [(2,_)] [O 1 26 _] λ a w U=>?_)
 exact aa<|qg<|an G U (zm 0 G)
def bigI (x:RI):Bool:=decide ((x.mag.length:Int)>2048)
theorem G2 (x:RI):Cn Tryz.prog 222 [(RIA x).va] (Bo (bigI x)):=G1 x
theorem Cz {l:List RI}{j:Nat}(h:j<l.length)(h2:bigI l[j]=true):l.any bigI=true:=xQ.2 ⟨_,qf h,h2⟩
theorem Ew {l:List RI}{j:Nat}(h:j<l.length)(h1:(l.take j).any bigI=false)(h2:bigI l[j]=false):(l.take (j+1)).any bigI=false:=by
 rw [qu h,jL,h1]
 simp [h2]
def IxV (b:Bool):VA where
 p _ v _:=∃ n:Int,v=.int .i64 n∧b=decide (n≥0)
 deps:=[]
 cg:=λ _ _ _ _ _ h=>h
 wr:=λ _ _ _ _ _ _ _ _ _ _ _ _ h=>h
theorem ix_of {n:Int}{b:Bool}(h:b=decide (n≥0)):Wk (In n) (IxV b):=λ _ _ _ hv=>⟨n,bh hv,h⟩
theorem r_ix {Q:Exit→Act→World→Prop}{R:Rg}{i:Nat}{x:Operand}{xt yt:TypeId}{b:Bool}(hx:Has R B w0 i x (IxV b)):Wv P Q R B w0 i (.binOp .geq xt x (.const (.int .i64 0)) yt) (Bo b) :=
 bj λ _ _ _ _ _ a w av=>by
  obtain ⟨n,e1,rfl⟩:=hx a w av
  refine ⟨.bool (decide (n≥0)),w,?_,Grow.refl w,cZ _ _ _⟩
  have hg:(eqGuard .geq xt x (.const (.int .i64 0)) (.int .i64 n) (.int .i64 0)).run P w=.ok () w:=by unfold eqGuard; split <;> rfl
  have e2:a.eval (.const (.int .i64 0))=.int .i64 0:=rfl
  have hr:(binOp .geq xt (.int .i64 n) (.int .i64 0)).run P w=.ok (.bool (decide (n≥0))) w:=by rw [binOp_geq]; rfl
  simp only [execOp,e1,e2,Sem.run_bind,hg,hr,Result.andThen_ok,Sem.run_pure]
theorem Gg (l:List RI)(hl:l.length≤1099511627776):Cn Tryz.prog 243 [(SlA 26 [U32] (l.map RIA)).va,FnV Tryz.prog [] (λ x:RI=>[(RIA x).va]) (λ x=>Bo (bigI x))] (IxV (l.any bigI)):=by
 refine Cn.intro Tryz.func243 G zk nq (λ B w0 a U=>?_)
 have U:=zn [(0,(SlA 26 [U32] (l.map RIA)).va),(1,FnV Tryz.prog [] (λ x:RI=>[(RIA x).va]) (λ x=>Bo (bigI x)))] [] U
 refine qb<|zh [.v 4 _] [.g 0,.g 1,.o 0] U (zv G (ac ab) o0) (zz [(0,_),(1,_),(4,_)] [] λ a w U=>?_)
 refine zt<|qb<|zh [.v 6 _,.v 7 _,.v 8 _] [.g 0,.g 1,.g 2,.o 1,.o 2] U (zM 0 G (zv G (bg Tryz.underlying259 (vq 0 G)) (zv G (ai ab) o0))) (zz [(0,_),(1,_),(4,_),(7,_),(8,_)] [] λ a w U=>?_)
 refine aa<|qj ?_
 have U:=St.sel U [0,1,3,4]
 refine wp_loop_ghost (λ n a w=>∃ j:Nat,(n+j=l.length∧(l.take j).any bigI=false)∧St B w0 19 [(0,(SlA 26 [U32] (l.map RIA)).va),(1,FnV Tryz.prog [] (λ x:RI=>[(RIA x).va]) (λ x=>Bo (bigI x))),(7,In (l.length:Nat)),(8,In (j:Nat))] [] a w) (l.length) ?_ ?_
 ·exact ⟨0,⟨by omega,rfl⟩,by rw [qc] at U; exact U⟩
 intro n a w hI
 obtain ⟨j,⟨hn,hno⟩,U⟩:=hI
 refine qb<|zh [.v 9 _] [.g 0,.g 1,.g 2,.g 3,.o 0] U (zv G (aS (gq 3 G) (gq 2 G)) o0) (zz [(0,_),(1,_),(7,_),(8,_),(9,_)] [] λ a w U=>?_)
 refine zt<|aj U (zm 4 G) (λ hb0=>?_) (λ hb0=>?_)
 ·have hj:j<l.length:=by simp at hb0; omega
  refine qh<|zt<|qj<|qb<|zh [.v 10 _,.v 5 _] [.g 0,.g 1,.g 2,.g 3,.o 1] U (zM 3 G (zA 0 G o0)) (zz [(0,_),(1,_),(7,_),(8,_),(5,_)] [] λ a w U=>?_)
  refine zt<|zh [.v 11 _,.v 12 _,.v 13 _,.v 14 _,.v 15 _,.v 16 _] [.g 0,.g 1,.g 2,.g 3,.g 4,.o 5] U (zM 1 G (zM 0 G (zM 4 G (zv G (bH uk (bW λ _=>rfl) (vq 1 G) (vq 2 G) (bz hj)) (zv G (au (vq 3 G) ar) (zv G (Fd _ (vq 0 G) (.o (vq 4 G))) o0)))))) (zz [(0,_),(1,_),(7,_),(8,_),(5,_),(16,_)] [] λ a w U=>?_)
  refine aa<|aj U (zm 5 G) (λ hb1=>?_) (λ hb1=>?_)
  ·refine qb<|zh [.v 17 _,.v 4 _] [.g 0,.g 1,.g 2,.g 3,.o 1] U (zM 4 G (zA 0 G o0)) (zz [(0,_),(1,_),(7,_),(8,_),(4,_)] [] λ a w U=>?_)
   refine aa<|qg<|aE ?_
   refine al ?_
   refine al ?_
   refine aE ?_
   refine al ?_
   refine ao ?_ (an G U (zm 4 G))
   exact ix_of (by rw [Cz hj hb1]; simp)
  ·refine qh<|ap ?_
   refine aa<|zh [.v 18 _,.v 8 _] [.g 0,.g 1,.g 2,.o 1] U (zv G (aN (gq 3 G) ab (ba zo)) (zv G (ai (vq 0 G)) o0)) (zz [(0,_),(1,_),(7,_),(8,_)] [] λ a w U=>?_)
   refine aa ?_
   have U:=St.sel U [0,1,2,3]
   exact ⟨n-1,by omega,j+1,⟨by omega,Ew hj hno hb1⟩,U⟩
 ·obtain rfl:j=l.length:=by simp at hb0; omega
  refine qK<|am<|am<|aB<|zt<|zh [.v 4 _] [.o 0] U (zv G (ac ab) o0) (zz [(4,_)] [] λ a w U=>?_)
  refine aa<|qg<|ao ?_ (an G U (zm 0 G))
  exact ix_of (by rw [qF] at hno; rw [hno]; rfl)
theorem tI (l:List RI)(hl:l.length≤1099511627776):Cn Tryz.prog 221 [(SlA 26 [U32] (l.map RIA)).va,FnV Tryz.prog [] (λ x:RI=>[(RIA x).va]) (λ x=>Bo (bigI x))] (Bo (l.any bigI)):=by
 refine Cn.intro Tryz.func221 G zk nq (λ B w0 a U=>?_)
 have U:=zn [(0,(SlA 26 [U32] (l.map RIA)).va),(1,FnV Tryz.prog [] (λ x:RI=>[(RIA x).va]) (λ x=>Bo (bigI x)))] [] U
 refine qb<|zh [.v 4 _] [.g 0,.g 1,.o 0] U (zv G (ac aJ) o0) (zz [(0,_),(1,_),(4,_)] [] λ a w U=>?_)
 refine zt<|zh [.v 5 _,.v 6 _,.v 7 _,.v 8 _,.v 4 _] [.o 4] U (zM 0 G (zM 1 G (zQ G (Gg _ hl) (.p (vq 0 G) (vq 1 G)) (zv G (r_ix (vq 2 G)) (zA 3 G o0))))) (zz [(4,_)] [] λ a w U=>?_)
 exact aa<|qg<|an G U (zm 0 G)
theorem wH (l:List RI)(hl:l.length≤1099511627776):Cn Tryz.prog 188 [(SlA 26 [U32] (l.map RIA)).va] (Bo (l.any bigI)):=by
 refine Cn.intro Tryz.func188 G zk nq (λ B w0 a U=>?_)
 have U:=zn [(0,(SlA 26 [U32] (l.map RIA)).va)] [] U
 refine qb<|zh [.v 2 _] [.g 0,.o 0] U (zv G (ac aJ) o0) (zz [(0,_),(2,_)] [] λ a w U=>?_)
 refine zt<|zh [.v 3 _,.v 4 _,.v 2 _] [.o 2] U (zM 0 G (zQ G (tI _ hl) (.p (vq 0 G) (Bz G2)) (zA 1 G o0))) (zz [(2,_)] [] λ a w U=>?_)
 exact aa<|qg<|an G U (zm 0 G)
theorem tb {z:Int}{k:Nat}(h:z.natAbs<4294967296^k):lz z≤k:=dC h
theorem fR (p q:Int):lz (p*q)≤lz p+lz q:=by
 apply tb
 rw [jp,zR]
 exact ka (eh p) (eh q)
theorem nX (p q:Int):lz (p+q)≤max (lz p) (lz q)+1:=by
 apply tb
 have h1:p.natAbs<4294967296^max (lz p) (lz q):=qE (eh p) (zx zd (xV _ _))
 have h2:q.natAbs<4294967296^max (lz p) (lz q):=qE (eh q) (zx zd (xP _ _))
 have h3:=Int.natAbs_add_le p q
 rw [qV]
 omega
theorem Dw (p q:Int):lz (p-q)≤max (lz p) (lz q)+1:=by have:=nX p (-q); rw [gV] at this; exact this
theorem mI (p q:Int):lz (p.tdiv q)≤lz p:=eF (by rw [ip]; exact jK _ _)
theorem FZ {p q:Int}(h:q≠0):lz (p.tmod q)≤lz q:=eF (by rw [fP]; exact zU (qM _ zo))
theorem wy (p q:Int):lz ((Int.gcd p q:Nat):Int)≤max (lz p) (lz q):=by
 by_cases h:p=0
 ·subst h
  have:lz ((Int.gcd 0 q:Nat):Int)=lz q:=by simp [lz]
  omega
 ·have:lz ((Int.gcd p q:Nat):Int)≤lz p:=eF (by
   have:Int.gcd p q≤p.natAbs:=Nat.le_of_dvd zo (jd _ _)
   omega)
  omega
def ZA (k:Nat)(z:Int):As:=(RIA (riOf z)).and (lz z≤k)
abbrev Zs (k:Nat)(z:Int):VA:=(ZA k z).va
theorem wk_z {k:Nat}{z:Int}:Wk (Zs k z) (Zi z):=λ _ _ _ h=>(dI h).2
theorem E3 {k B:Nat}{z:Int}(h:(Zs k z).p B v w):lz z≤k:=(dI h).1
theorem fg {k:Nat}{z:Int}(h:lz z≤k):Wk (Zi z) (Zs k z):=λ _ _ _ hp=>CR h hp
section
variable {P:Program} {f:FuncId} {post:VA} {a b:Nat} {p q:Int}
theorem zs1 (hex : ∃ fn, P.funcs[f]? = some fn ∧ (fn.name == "runtime.NumGoroutine") = false ∧ fn.body.isNone = false) (h : lz p ≤ a → Cn P f [Zi p] post) : Cn P f [Zs a p] post :=
 Cn.know (c:=lz p≤a) hex (λ B w args ha=>by cases ha with | cons h1 _=>exact E3 h1) λ hc=>(h hc).wk (.cons wk_z .nil)
theorem zs2 (hex : ∃ fn, P.funcs[f]? = some fn ∧ (fn.name == "runtime.NumGoroutine") = false ∧ fn.body.isNone = false) (h : lz p ≤ a → lz q ≤ b → Cn P f [Zi p, Zi q] post) : Cn P f [Zs a p, Zs b q] post :=
 Cn.know (c:=lz p≤a∧lz q≤b) hex (λ B w args ha=>by cases ha with | cons h1 ha=>cases ha with | cons h2 _=>exact ⟨E3 h1,E3 h2⟩) λ hc=>(h hc.1 hc.2).wk (.cons wk_z (.cons wk_z .nil))
end
theorem cd {A A' A'':VA}(h:Wk A A')(h':Wk A' A''):Wk A A'':=λ B v w hp=>h' B v w (h B v w hp)
theorem aZ {A A':VA}(h:A=A'):Wk A A':=h▸aL
theorem all_wk {l l':List VA}(h:All2 Wk l l'):∀ {vs:List Value},All2 (λ (A:VA) v=>A.p B v w) l vs→All2 (λ (A:VA) v=>A.p B v w) l' vs:=by
 induction h with
 | nil=>intro vs hp; cases hp; exact .nil
 | cons h1 _ ih=>intro vs hp; cases hp with | cons h2 h3=>exact .cons (h1 _ _ _ h2) (ih h3)
theorem Ag {l l':List VA}(h:All2 Wk l l'):Wk (Tu l) (Tu l'):=λ _ _ _ ⟨vs,hv,hp⟩=>⟨vs,hv,all_wk h hp⟩
def sg3 (p q:Int):Int:=if p<q then -1 else if q<p then 1 else 0
theorem d6 (p:Int):sgI (riOf p)=p.sign:=by
 unfold sgI
 by_cases h:p=0
 ·subst h; simp [riOf,bt]
 ·have:=fQ h
  rw [ep,qw zo]
  by_cases h2:p<0
  ·simp [riOf,h2,xr h2]
  ·have:0<p:=by omega
   simp [riOf,h2,xG this]
theorem Az (m n:Nat):(sizeL (limbs m) (limbs n)<0↔m<n)∧(sizeL (limbs m) (limbs n)=0↔m=n)∧(0<sizeL (limbs m) (limbs n)↔n<m):=by
 have:=(dp (m:=m) (n:=n))
 omega
theorem DT (p q:Int):cmpI (riOf p) (riOf q)=sg3 p q:=by
 unfold cmpI
 rw [d6,d6]
 have h:=Az p.natAbs q.natAbs
 have e1:(riOf p).mag=limbs p.natAbs:=rfl
 have e2:(riOf q).mag=limbs q.natAbs:=rfl
 rw [e1,e2]
 generalize sizeL (limbs p.natAbs) (limbs q.natAbs)=s at *
 have hp:p.sign=if p<0 then -1 else if p=0 then 0 else 1:=by
  rcases j6 p 0 with h | h | h
  ·rw [qz h,xr h]
  ·subst h; rfl
  ·rw [qw zo,qw zo,xG h]
 have hq:q.sign=if q<0 then -1 else if q=0 then 0 else 1:=by
  rcases j6 q 0 with h | h | h
  ·rw [qz h,xr h]
  ·subst h; rfl
  ·rw [qw zo,qw zo,xG h]
 have hn:(riOf p).neg=decide (p<0):=rfl
 rw [hp,hq,hn]
 unfold sg3
 by_cases h1:p<0
 ·by_cases h2:q<0
  ·simp only [h1,h2,if_true,decide_true]; rw [qw zo]; split <;> (try split) <;> omega
  ·rw [qz h1,qw h2,qz (by split <;> omega),qz (by split <;> omega),qz zo]
 ·by_cases h2:q<0
  ·rw [qw h1,qz h2,qz (by split <;> omega),qw (by split <;> omega),qw zo,qz zo]
  ·simp only [h1,h2,if_false,decide_false]
   by_cases h3:p=0 <;> by_cases h4:q=0 <;> simp only [h3,h4,if_true,if_false]
   ·rw [qw zo]; simp; omega
   ·rw [qz zo,qz zo,qz zo]
   ·rw [qz zo,qw zo,qw zo,qz zo]
   ·rw [qw zo]; simp only [Bool.false_eq_true,if_false]; split <;> (try split) <;> omega
theorem Ak (p q:Int):rsig ((riOf p).neg != (riOf q).neg) (digs ((riOf p).mag.length+(riOf q).mag.length) (val (riOf p).mag*val (riOf q).mag))=riOf (p*q):=by
 rw [bv,bv]
 refine bV (bI _ _) ?_ λ hz=>?_
 ·rw [dh,zi,jp]
  rw [ep,ep,zR]
  exact ka (eh p) (eh q)
 ·have hp:p≠0:=λ e=>hz (by rw [e,Int.zero_mul])
  have hq:q≠0:=λ e=>hz (by rw [e,kG])
  show (decide (p<0) != decide (q<0))=decide (p*q<0)
  by_cases h1:p<0 <;> by_cases h2:q<0
  ·have:=kh h1 h2; simp [h1,h2]; omega
  ·have:=jx h1 (by omega:0<q); simp [h1,h2]; omega
  ·have:=jw (by omega:0<p) h2; simp [h1,h2]; omega
  ·have:=kP (by omega:0<p) (by omega:0<q); simp [h1,h2]; omega
theorem C6 : ∃ fn, Tryz.prog.funcs[115]? = some fn ∧ (fn.name == "runtime.NumGoroutine") = false ∧ fn.body.isNone = false := ⟨_, Tryz.func115, by kernel_rfl, by kernel_rfl⟩
theorem yo : ∃ fn, Tryz.prog.funcs[118]? = some fn ∧ (fn.name == "runtime.NumGoroutine") = false ∧ fn.body.isNone = false := ⟨_, Tryz.func118, by kernel_rfl, by kernel_rfl⟩
theorem C7 : ∃ fn, Tryz.prog.funcs[183]? = some fn ∧ (fn.name == "runtime.NumGoroutine") = false ∧ fn.body.isNone = false := ⟨_, Tryz.func183, by kernel_rfl, by kernel_rfl⟩
theorem ex_Cmp : ∃ fn, Tryz.prog.funcs[114]? = some fn ∧ (fn.name == "runtime.NumGoroutine") = false ∧ fn.body.isNone = false := ⟨_, Tryz.func114, by kernel_rfl, by kernel_rfl⟩
theorem GC : ∃ fn, Tryz.prog.funcs[177]? = some fn ∧ (fn.name == "runtime.NumGoroutine") = false ∧ fn.body.isNone = false := ⟨_, Tryz.func177, by kernel_rfl, by kernel_rfl⟩
theorem yp : ∃ fn, Tryz.prog.funcs[218]? = some fn ∧ (fn.name == "runtime.NumGoroutine") = false ∧ fn.body.isNone = false := ⟨_, Tryz.func218, by kernel_rfl, by kernel_rfl⟩
theorem yq : ∃ fn, Tryz.prog.funcs[178]? = some fn ∧ (fn.name == "runtime.NumGoroutine") = false ∧ fn.body.isNone = false := ⟨_, Tryz.func178, by kernel_rfl, by kernel_rfl⟩
theorem yj : ∃ fn, Tryz.prog.funcs[182]? = some fn ∧ (fn.name == "runtime.NumGoroutine") = false ∧ fn.body.isNone = false := ⟨_, Tryz.func182, by kernel_rfl, by kernel_rfl⟩
section
variable {a b:Nat} {p q:Int} (ha:a≤1099511627776)
include ha
theorem mc:Cn Tryz.prog 182 [Zs a p] (Zs a (-p)):=zs1 yj λ h=>(u9 p zo).wkp (fg (by rw [gV]; exact h))
variable (hb:b≤1099511627776)
include hb
theorem db:Cn Tryz.prog 115 [Zs a p,Zs b q] (Zs (a+b) (p*q)):=zs2 C6 λ h h'=>(Ev (riOf p) (riOf q) (by rw [ep]; omega) (by rw [ep]; omega)).wkp (cd (cd gN (aZ (qm (λ x=>(RIA x).va) (Ak p q)))) (fg (by have:=fR p q; omega)))
theorem rI:Cn Tryz.prog 118 [Zs a p,Zs b q] (Zs (max a b+1) (p+q)):=zs2 yo λ h h'=>(Di p q zo zo).wkp (fg (by have:=nX p q; omega))
theorem FT:Cn Tryz.prog 183 [Zs a p,Zs b q] (Zs (max a b+1) (p-q)):=zs2 C7 λ h h'=>(wu p q zo zo).wkp (fg (by have:=Dw p q; omega))
theorem cmp_z:Cn Tryz.prog 114 [Zs a p,Zs b q] (In (sg3 p q)):=zs2 ex_Cmp λ h h'=>(DU (riOf p) (riOf q) (by rw [ep]; omega) (by rw [ep]; omega)).post (by rw [DT])
theorem Cp:Cn Tryz.prog 178 [Zs a p,Zs b q] (Zs (max a b) ((Int.gcd p q:Nat):Int)):=zs2 yq λ h h'=>(sy p q zo zo).wkp (cd gN (fg (by have:=wy p q; omega)))
omit hb in
theorem sn (hq:q≠0):Cn Tryz.prog 218 [Zs a p,Zs b q] (Tu [Zs a (p.tdiv q),Zs b (p.tmod q)]):=zs2 yp λ h h'=>(ov p q hq zo).wkp (Ag (.cons (cd gN (fg (by have:=mI p q; omega))) (.cons (cd gN (fg (by have:=FZ (p:=p) hq; omega))) .nil)))
end
theorem un {a:Nat}{p:Int}:Cn Tryz.prog 177 [Zs a p] (In p.sign):=zs1 GC λ _=>(ro (riOf p)).post (by rw [d6])
theorem of_z {n:Int}(h0 : -9223372036854775808≤n)(h1:n<9223372036854775808):Cn Tryz.prog 117 [In n] (Zs 2 n):=(of_c n h0 h1).wkp (fg (tb zo))
def QA (k:Nat)(r:Rat):As:=cat [ZA k r.num,ZA k (r.den:Int)]
abbrev Qs (k:Nat)(r:Rat):VA:=(QA k r).va
def WkA (A A':As):Prop:=A'.n=A.n∧A'.ag=A.ag∧∀ B cs w,A.p B cs w→A'.p B cs w
theorem WkA.va {A A':As}(h:WkA A A'):Wk A.va A'.va:=λ B v w ⟨cs,hp,hv⟩=>⟨cs,h.2.2 B cs w hp,by rw [h.2.1]; exact hv⟩
theorem WkA.refl (A:As):WkA A A:=⟨rfl,rfl,λ _ _ _ h=>h⟩
theorem WkA.trans {A A' A'':As}(h:WkA A A')(h':WkA A' A''):WkA A A'':=⟨h'.1.trans h.1,h'.2.1.trans h.2.1,λ B cs w hp=>h'.2.2 B cs w (h.2.2 B cs w hp)⟩
theorem dc {A A':As}(h:A=A'):WkA A A':=h▸WkA.refl A
theorem bo {l l':List As}(h:All2 WkA l l'):WkA (cat l) (cat l'):=by
 have key:∀ {l l':List As},All2 WkA l l'→(cat l').n=(cat l).n∧∀ B ps w,All2 (λ (A:As) c=>A.p B c w) l ps→All2 (λ (A:As) c=>A.p B c w) l' ps:=by
  intro l l' h
  induction h with
  | nil=>exact ⟨rfl,λ B ps w h=>by cases h; exact .nil⟩
  | cons h1 _ ih =>
   refine ⟨?_,λ B ps w h=>?_⟩
   ·have:=ih.1
    simp only [cat,qN,z4] at this ⊢
    rw [h1.1,this]
   ·cases h with
    | cons h2 h3=>exact .cons (h1.2.2 _ _ _ h2) (ih.2 _ _ _ h3)
 exact ⟨(key h).1,rfl,λ B cs w ⟨ps,e1,e2⟩=>⟨ps,e1,(key h).2 B ps w e2⟩⟩
theorem zaA {k:Nat}{z:Int}:WkA (ZA k z) (RIA (riOf z)):=⟨rfl,rfl,λ _ _ _ h=>h.2⟩
theorem E6 {k:Nat}{z:Int}(h:lz z≤k):WkA (RIA (riOf z)) (ZA k z):=⟨rfl,rfl,λ _ _ _ hp=>⟨h,hp⟩⟩
theorem et {k k':Nat}{z:Int}(h:k≤k'):WkA (ZA k z) (ZA k' z):=⟨rfl,rfl,λ _ _ _ hp=>⟨qe hp.1 h,hp.2⟩⟩
theorem qaA {k:Nat}{r:Rat}:WkA (QA k r) (RFA (rfOf r)):=bo (.cons zaA (.cons zaA .nil))
theorem B4 {k:Nat}{r:Rat}(h:lz r.num≤k)(h':lz (r.den:Int)≤k):WkA (RFA (rfOf r)) (QA k r):=bo (.cons (E6 h) (.cons (E6 h') .nil))
theorem bO {k k':Nat}{r:Rat}(h:k≤k'):WkA (QA k r) (QA k' r):=bo (.cons (et h) (.cons (et h) .nil))
theorem St.wkL {B N:Nat}(h:St B w0 N Γ Λ a w){s:Nat}{A A':As}(k:Nat)(hm:Λ[k]?=some ⟨s,T,H,A⟩)(e:WkA A A'):St B w0 N Γ (Λ.set k ⟨s,T,H,A'⟩) a w:=by
 obtain ⟨hk,he⟩:=List.getElem?_eq_some_iff.1 hm
 have hset:∀ l∈Λ.set k ⟨s,T,H,A'⟩,l=⟨s,T,H,A'⟩∨l∈Λ:=λ l hl=>(qy hl).symm
 have hin:(⟨s,T,H,A⟩:Lc)∈Λ:=qa hm
 have hd:∀ l∈Λ.set k ⟨s,T,H,A'⟩,∃ l'∈Λ,l'.s=l.s:=λ l hl=>by
  rcases hset l hl with rfl | hl
  ·exact ⟨_,hin,rfl⟩
  ·exact ⟨l,hl,rfl⟩
 refine ⟨h.lo,h.defers,h.size,h.base,h.vals,λ l hl=>?_,λ l hl m hm' hne=>?_⟩
 ·rcases hset l hl with rfl | hl
  ·obtain ⟨g,cs,h1,h2,h3,h4⟩:=h.locs _ hin
   exact ⟨g,cs,h1,h2,h3,e.2.2 _ _ _ h4⟩
  ·exact h.locs l hl
 ·obtain ⟨l',hl',e1⟩:=hd l hl
  obtain ⟨m',hm'',e2⟩:=hd m hm'
  have:=h.dis l' hl' m' hm'' (by rw [e1,e2]; exact hne)
  rw [e1,e2] at this
  exact this
theorem y5 {n:Nat}(h:(sg3 ((n:Nat):Int) 1 != 0)=false):n=1:=by
 unfold sg3 at h
 simp at h
 split at h
 ·simp at h
 ·split at h
  ·simp at h
  ·omega
theorem CW {n:Nat}{x:Int}(h:(sg3 ((n:Nat):Int) 1 != 0)=false):x=x.tdiv ((n:Nat):Int):=by rw [y5 h,Int.natCast_one,Int.tdiv_one]
theorem uu {z:Int}(h:decide (z.sign<0)=true):z<0:=vt.1 (qp h)
theorem D3 {z:Int}(h:decide (z.sign<0)=false):¬ z<0:=λ hh=>qr h (vt.2 hh)
theorem pp {p q:Int}(hq:q≠0):(if q.tdiv (Int.gcd p q:Nat)<0 then -(p.tdiv (Int.gcd p q:Nat)) else p.tdiv (Int.gcd p q:Nat))=(Rat.divInt p q).num ∧
  (if q.tdiv (Int.gcd p q:Nat)<0 then -(q.tdiv (Int.gcd p q:Nat)) else q.tdiv (Int.gcd p q:Nat))=((Rat.divInt p q).den:Int):=by
 have hg:0<Int.gcd p q:=xH p hq
 have d1:((Int.gcd p q:Nat):Int)∣p:=Int.gcd_dvd_left ..
 have d2:((Int.gcd p q:Nat):Int)∣q:=Int.gcd_dvd_right ..
 rw [Rat.num_divInt,Rat.den_divInt,qw hq,Int.gcd_comm q p]
 generalize Int.gcd p q=g at *
 obtain ⟨x,rfl⟩:=d1
 obtain ⟨y,rfl⟩:=d2
 have hg':(g:Int)≠0:=by omega
 rw [kt _ hg',kt _ hg']
 have hy:y≠0:=λ e=>hq (by rw [e,kG])
 have e2:((g:Int)*y).natAbs/g=y.natAbs:=by rw [jp]; exact Nat.mul_div_cancel_left _ hg
 rw [e2]
 by_cases h:y<0
 ·have h1:(g:Int)*y<0:=jw zo h
  rw [xr h1,qz h,qz h]
  refine ⟨?_,by omega⟩
  rw [show (-1:Int)*(g*x)=g*(-x) by rw [Int.mul_neg]; omega,kw _ hg']
 ·have h1:0<(g:Int)*y:=kP zo zo
  rw [xG h1,qw h,qw h,Int.one_mul,kw _ hg']
  exact ⟨rfl,by omega⟩
theorem ft {p q:Int}(hq:q≠0):lz (Rat.divInt p q).num≤lz p∧lz ((Rat.divInt p q).den:Int)≤lz q:=by
 obtain ⟨h1,h2⟩:=pp (p:=p) hq
 rw [← h1,← h2]
 have a1:=mI p (Int.gcd p q:Nat)
 have a2:=mI q (Int.gcd p q:Nat)
 constructor <;> split <;> first | (rw [gV]; assumption) | assumption
theorem eX {c d:Nat}{p q:Int}(hc:c≤1099511627776)(hd:d≤1099511627776)(hq:q≠0):Cn Tryz.prog 181 [Zs c p,Zs d q] (Qs (max c d) (Rat.divInt p q)):=by
 have hg0:0<Int.gcd p q:=xH p hq
 obtain ⟨hn1,hn2⟩:=pp (p:=p) hq
 refine Cn.intro Tryz.func181 G zk nq (λ B w0 a U=>?_)
 have U:=zn [(0,Zs c p),(1,Zs d q)] [] U
 refine qb<|zg [] [⟨2,26,ptrH,some 0,_,none⟩,⟨3,26,ptrH,some 1,_,none⟩,⟨4,28,ptrH,some 2,_,none⟩] [.alc 0,.alc 1,.alc 2] [] U (zW 0 G (zW 1 G (zY G (Str.zero aP) o0))) (zz [] [O 2 26 _,O 3 26 _,O 4 28 _] λ a w U=>?_)
 refine zt<|qb<|zg [η,η,η] [⟨5,26,ptrH,some 3,_,some (4,_)⟩] [.v 6 _,.v 7 _,.v 8 _,.alc 3,.sto 3] [] U (zl 0 G ar (zl 1 G ar (zQ G (Cp zo zo) (.p (vq 0 G) (vq 1 G)) (zY G (Str.zero bn) (zS 2 G ar o0))))) (zz [] [O 2 26 _,O 3 26 _,O 4 28 _,O 5 26 _] λ a w U=>?_)
 refine zt<|zgd [[],[],[0,1],[0,1,2]] [none,none,none,none] [] [.v 9 _,.v 10 _,.v 11 _,.v 12 _] [.o 3] ae U (zl 3 G ar (zQ G (of_z zd zd) (.cons ab .nil) (zQ G (cmp_z zo zo) (.p (vq 0 G) (vq 1 G)) (zv G (bX (vq 2 G) ab) o0)))) zk zk zk zk (zz [(12,_)] [O 2 26 _,O 3 26 _,O 4 28 _,O 5 26 _] λ a w U=>?_)
 refine aa<|bE (λ a w =>  St B w0 35 [] [⟨2,26,ptrH,ZA c (p.tdiv ((Int.gcd p q:Nat):Int))⟩,⟨3,26,ptrH,ZA d (q.tdiv ((Int.gcd p q:Nat):Int))⟩,⟨4,28,ptrH,RFA ⟨⟨false,[]⟩,⟨false,[]⟩⟩⟩,⟨5,26,ptrH,ZA (max c d) ((Int.gcd p q:Nat):Int)⟩] a w) U (zm 0 G) (λ hb0=>?_) (λ hb0=>?_) (λ a w U=>?_)
 ·refine qb<|zg [some (6,_),η,η,η] [] [.v 14 _,.v 15 _,.v 16 _,.v 13 _,.v 17 _,.v 18 _,.sto 0] [] U (zl 0 G ar (zl 3 G ar (zQ G (sn zo zo) (.p (vq 0 G) (vq 1 G)) (zv G (ai (vq 2 G)) (zv G (aQ (vq 3 G) G) (zv G (aQ (vq 3 G) G) (zS 4 G ar o0))))))) (zz [] [O 2 26 _,O 3 26 _,O 4 28 _,O 5 26 _] λ a w U=>?_)
  refine aa<|zg [η,some (6,_),η,η] [] [.v 20 _,.v 21 _,.v 22 _,.v 19 _,.v 23 _,.v 24 _,.sto 1] [] U (zl 1 G ar (zl 3 G ar (zQ G (sn zo zo) (.p (vq 0 G) (vq 1 G)) (zv G (ai (vq 2 G)) (zv G (aQ (vq 3 G) G) (zv G (aQ (vq 3 G) G) (zS 4 G ar o0))))))) (zz [] [O 2 26 _,O 3 26 _,O 4 28 _,O 5 26 _] λ a w U=>?_)
  refine aa ?_
  have U:=St.sel U []
  exact U
 ·refine qh<|aa ?_
  have U:=St.sel U []
  have U:=St.cvA (A':=ZA c (p.tdiv ((Int.gcd p q:Nat):Int))) U 0 rfl (qm (ZA c) (CW hb0))
  have U:=St.cvA (A':=ZA d (q.tdiv ((Int.gcd p q:Nat):Int))) U 1 rfl (qm (ZA d) (CW hb0))
  exact U
 refine zt<|qb<|zg [η,η,η,η] [] [.v 25 _,.v 26 _,.v 27 _] [.o 2] U (zl 1 G ar (zQ G un (.o (vq 0 G)) (zv G (aS (vq 1 G) ab) o0))) (zz [(27,_)] [O 2 26 _,O 3 26 _,O 4 28 _,O 5 26 _] λ a w U=>?_)
 refine aa<|bE (λ a w =>  St B w0 35 [] [⟨2,26,ptrH,ZA c (Rat.divInt p q).num⟩,⟨3,26,ptrH,ZA d ((Rat.divInt p q).den:Int)⟩,⟨4,28,ptrH,RFA ⟨⟨false,[]⟩,⟨false,[]⟩⟩⟩,⟨5,26,ptrH,ZA (max c d) ((Int.gcd p q:Nat):Int)⟩] a w) U (zm 0 G) (λ hb1=>?_) (λ hb1=>?_) (λ a w U=>?_)
 ·refine zgd [[],[0],[],[0,1,2],[0,1,2,3],[0,1,2,3,4]] [some (4,_),some (5,_),none,none] [] [.v 28 _,.v 29 _,.v 30 _,.v 31 _,.sto 0,.sto 1] [] ae U (zl 0 G ar (zQ G (mc zo) (.o (vq 0 G)) (zl 1 G ar (zQ G (mc zo) (.o (vq 2 G)) (zS 1 G ar (zS 3 G ar o0)))))) zk zk zk zk (zz [] [O 2 26 _,O 3 26 _,O 4 28 _,O 5 26 _] λ a w U=>?_)
  refine aa ?_
  have U:=St.sel U []
  rw [qz (uu hb1)] at hn1 hn2; rw [hn1,hn2] at U; exact U
 ·refine qh<|aa ?_
  have U:=St.sel U []
  rw [qw (D3 hb1)] at hn1 hn2; rw [hn1,hn2] at U; exact U
 refine zt<|zg [η,η,some (3,_),η] [] [.v 32 _,.v 33 _,.v 34 _,.sto 2] [] U (zl 0 G ar (zl 1 G ar (zv G (aU (qs:=[(0,_),(1,_)]) aP (.cons ⟨rfl,vq 0 rfl,rfl⟩ (.cons ⟨rfl,vq 1 rfl,rfl⟩ .nil))) (zS 2 G ax o0)))) (zz [] [O 2 26 _,O 3 26 _,O 4 28 _,O 5 26 _] λ a w U=>?_)
 refine aa<|qg<|ao ?_ (aA G U (zm 2 G) ax)
 exact (bo (.cons (et (xV _ _)) (.cons (et (xP _ _)) .nil))).va
theorem uS (x y:Rat):Rat.divInt (x.num*(y.den:Int)+y.num*(x.den:Int)) ((x.den:Int)*(y.den:Int))=x+y:=by
 rw [Rat.add_def',← j9,xo]
theorem F7 (x y:Rat):Rat.divInt (x.num*(y.den:Int)-y.num*(x.den:Int)) ((x.den:Int)*(y.den:Int))=x-y:=by
 rw [Rat.sub_def',← j9,xo]
theorem oY (x y:Rat):Rat.divInt (x.num*y.num) ((x.den:Int)*(y.den:Int))=x*y:=by
 rw [Rat.mul_def',← j9,xo]
theorem oZ (x y:Rat):Rat.divInt (x.num*(y.den:Int)) ((x.den:Int)*y.num)=x/y:=by
 rw [Rat.div_def,Rat.inv_def,← Rat.divInt_mul_divInt,jY]
theorem den_nz (x y:Rat):(x.den:Int)*(y.den:Int)≠0:=ke (by have:=x.den_pos; omega) (by have:=y.den_pos; omega)
theorem wm (x:Rat){y:Rat}(h:y≠0):(x.den:Int)*y.num≠0:=ke (by have:=x.den_pos; omega) (λ e=>h (Rat.num_eq_zero.1 e))
def cmQ (x y:Rat):Int:=if x<y then -1 else if y<x then 1 else 0
theorem cm_sg (x y:Rat):sg3 (x.num*(y.den:Int)) (y.num*(x.den:Int))=cmQ x y:=by
 unfold sg3 cmQ
 simp only [Rat.lt_iff]
theorem copy_e (x:Rat):cat [RIA (riOf (x.num+0)),RIA (riOf ((x.den:Int)+0))]=RFA (rfOf x):=by rw [jk,jk]; rfl
theorem q0_wk {k:Nat}:WkA (cat [RIA ⟨false,[]⟩,ZA k 1]) (QA k 0):=bo (.cons ((dc (show RIA ⟨false,[]⟩=RIA (riOf 0) from by simp [riOf,bt])).trans (E6 (by simp [lz,bt]))) (.cons (WkA.refl _) .nil))
theorem Bi  : Cn Tryz.prog 113 [] (Qs 2 0):=by
 refine Cn.intro Tryz.func113 G zk nq (λ B w0 a U=>?_)
 have U:=zn [] [] U
 refine qb<|zg [] [⟨0,28,ptrH,some 0,_,none⟩] [.alc 0] [] U (zY G (Str.zero aP) o0) (zz [] [O 0 28 _] λ a w U=>?_)
 refine zt<|zg [some (2,_)] [] [.v 1 _,.v 2 _,.sto 0] [] U (zQ G (of_z zd zd) (.cons ab .nil) (zv G (aU (qs:=[(1,_)]) aP (.cons ⟨rfl,vq 0 rfl,rfl⟩ .nil)) (zS 1 G ax o0))) (zz [] [O 0 28 _] λ a w U=>?_)
 refine aa<|qg<|ao ?_ (aA G U (zm 0 G) ax)
 exact q0_wk.va
theorem EG {p q:Int}(hp : -9223372036854775808≤p)(hp1:p<9223372036854775808)(hq : -9223372036854775808≤q)(hq1:q<9223372036854775808)(h0:q≠0):Cn Tryz.prog 185 [In p,In q] (Qs 2 (Rat.divInt p q)):=by
 refine Cn.intro Tryz.func185 G zk nq (λ B w0 a U=>?_)
 have U:=zn [(0,In p),(1,In q)] [] U
 refine qb<|zg [] [⟨4,28,ptrH,some 0,_,none⟩] [.alc 0] [.g 0,.g 1] U (zY G (Str.zero aP) o0) (zz [(0,_),(1,_)] [O 4 28 _] λ a w U=>?_)
 refine zt<|zg [some (5,_)] [] [.v 5 _,.v 6 _,.v 7 _,.v 8 _,.v 9 _,.sto 0] [] U (zM 0 G (zQ G (of_z hp hp1) (.o (vq 0 G)) (zM 1 G (zQ G (of_z hq hq1) (.o (vq 2 G)) (zQ G (eX zo zo h0) (.p (vq 1 G) (vq 3 G)) (zS 4 G ax o0)))))) (zz [] [O 4 28 _] λ a w U=>?_)
 refine aa<|qg<|ao ?_ (aA G U (zm 0 G) ax)
 exact aL
theorem one_q  : Cn Tryz.prog 112 [] (Qs 2 1):=by
 refine Cn.intro Tryz.func112 G zk nq (λ B w0 a U=>?_)
 have U:=zn [] [] U
 refine qb<|zg [] [⟨0,28,ptrH,some 0,_,none⟩] [.alc 0] [] U (zY G (Str.zero aP) o0) (zz [] [O 0 28 _] λ a w U=>?_)
 refine zt<|zg [some (1,_)] [] [.v 1 _,.sto 0] [] U (zQ G (EG zd zd zd zd zd) (.cons ab (.cons ab .nil)) (zS 0 G ax o0)) (zz [] [O 0 28 _] λ a w U=>?_)
 refine aa<|qg<|ao ?_ (aA G U (zm 0 G) ax)
 exact aZ (qm (Qs 2) (show Rat.divInt 1 1=1 from G))
theorem vO {c d:Nat}{x y:Rat}(hc:c+d≤549755813888):Cn Tryz.prog 107 [Qs c x,Qs d y] (Qs (c+d+1) (x+y)):=by
 refine Cn.intro Tryz.func107 G zk nq (λ B w0 a U=>?_)
 have U:=zn [(0,Qs c x),(1,Qs d y)] [] U
 refine qb<|zg [] [⟨2,28,ptrH,some 0,_,none⟩,⟨3,28,ptrH,some 1,_,none⟩,⟨4,28,ptrH,some 2,_,none⟩] [.alc 0,.alc 1,.alc 2] [] U (zW 0 G (zW 1 G (zY G (Str.zero aP) o0))) (zz [] [O 2 28 _,O 3 28 _,O 4 28 _] λ a w U=>?_)
 refine zt<|zgd [[],[0],[],[2],[0,1,2,3],[],[5],[],[7],[0,1,2,3,4,5,6,7,8],[0,1,2,3,4,5,6,7,8,9],[],[11],[],[13],[0,1,2,3,4,5,6,7,8,9,10,11,12,13,14],[0,1,2,3,4,5,6,7,8,9,10,11,12,13,14,15],[0,1,2,3,4,5,6,7,8,9,10,11,12,13,14,15,16]] [none,none,some (17,_)] [] [.adr 5 2 (.some 0) True,.v 6 _,.adr 7 3 (.some 2) True,.v 8 _,.v 9 _,.adr 10 3 (.some 0) True,.v 11 _,.adr 12 2 (.some 2) True,.v 13 _,.v 14 _,.v 15 _,.adr 16 2 (.some 2) True,.v 17 _,.adr 18 3 (.some 2) True,.v 19 _,.v 20 _,.v 21 _,.sto 2] [] ae U (zO 0 G aW (zL 0 0 0 G ar (zO 1 G aR (zL 2 1 1 G ar (zQ G (db zo zo) (.p (vq 1 G) (vq 3 G)) (zO 1 G aW (zL 5 1 0 G ar (zO 0 G aR (zL 7 0 1 G ar (zQ G (db zo zo) (.p (vq 6 G) (vq 8 G)) (zQ G (rI zo zo) (.p (vq 4 G) (vq 9 G)) (zO 0 G aR (zL 11 0 1 G ar (zO 1 G aR (zL 13 1 1 G ar (zQ G (db zo zo) (.p (vq 12 G) (vq 14 G)) (zQ G (eX zo zo (den_nz x y)) (.p (vq 10 G) (vq 15 G)) (zS 16 G ax o0)))))))))))))))))) zk zk zk zk (zz [] [O 2 28 _,O 3 28 _,O 4 28 _] λ a w U=>?_)
 refine aa<|qg<|ao ?_ (aA G U (zm 2 G) ax)
 exact cd (aZ (qm (Qs _) (uS x y))) (bO zo).va
theorem po {c d:Nat}{x y:Rat}(hc:c+d≤549755813888):Cn Tryz.prog 110 [Qs c x,Qs d y] (Qs (c+d+1) (x-y)):=by
 refine Cn.intro Tryz.func110 G zk nq (λ B w0 a U=>?_)
 have U:=zn [(0,Qs c x),(1,Qs d y)] [] U
 refine qb<|zg [] [⟨2,28,ptrH,some 0,_,none⟩,⟨3,28,ptrH,some 1,_,none⟩,⟨4,28,ptrH,some 2,_,none⟩] [.alc 0,.alc 1,.alc 2] [] U (zW 0 G (zW 1 G (zY G (Str.zero aP) o0))) (zz [] [O 2 28 _,O 3 28 _,O 4 28 _] λ a w U=>?_)
 refine zt<|zgd [[],[0],[],[2],[0,1,2,3],[],[5],[],[7],[0,1,2,3,4,5,6,7,8],[0,1,2,3,4,5,6,7,8,9],[],[11],[],[13],[0,1,2,3,4,5,6,7,8,9,10,11,12,13,14],[0,1,2,3,4,5,6,7,8,9,10,11,12,13,14,15],[0,1,2,3,4,5,6,7,8,9,10,11,12,13,14,15,16]] [none,none,some (17,_)] [] [.adr 5 2 (.some 0) True,.v 6 _,.adr 7 3 (.some 2) True,.v 8 _,.v 9 _,.adr 10 3 (.some 0) True,.v 11 _,.adr 12 2 (.some 2) True,.v 13 _,.v 14 _,.v 15 _,.adr 16 2 (.some 2) True,.v 17 _,.adr 18 3 (.some 2) True,.v 19 _,.v 20 _,.v 21 _,.sto 2] [] ae U (zO 0 G aW (zL 0 0 0 G ar (zO 1 G aR (zL 2 1 1 G ar (zQ G (db zo zo) (.p (vq 1 G) (vq 3 G)) (zO 1 G aW (zL 5 1 0 G ar (zO 0 G aR (zL 7 0 1 G ar (zQ G (db zo zo) (.p (vq 6 G) (vq 8 G)) (zQ G (FT zo zo) (.p (vq 4 G) (vq 9 G)) (zO 0 G aR (zL 11 0 1 G ar (zO 1 G aR (zL 13 1 1 G ar (zQ G (db zo zo) (.p (vq 12 G) (vq 14 G)) (zQ G (eX zo zo (den_nz x y)) (.p (vq 10 G) (vq 15 G)) (zS 16 G ax o0)))))))))))))))))) zk zk zk zk (zz [] [O 2 28 _,O 3 28 _,O 4 28 _] λ a w U=>?_)
 refine aa<|qg<|ao ?_ (aA G U (zm 2 G) ax)
 exact cd (aZ (qm (Qs _) (F7 x y))) (bO zo).va
theorem gv {c d:Nat}{x y:Rat}(hc:c+d≤549755813888):Cn Tryz.prog 108 [Qs c x,Qs d y] (Qs (c+d) (x*y)):=by
 refine Cn.intro Tryz.func108 G zk nq (λ B w0 a U=>?_)
 have U:=zn [(0,Qs c x),(1,Qs d y)] [] U
 refine qb<|zg [] [⟨2,28,ptrH,some 0,_,none⟩,⟨3,28,ptrH,some 1,_,none⟩,⟨4,28,ptrH,some 2,_,none⟩] [.alc 0,.alc 1,.alc 2] [] U (zW 0 G (zW 1 G (zY G (Str.zero aP) o0))) (zz [] [O 2 28 _,O 3 28 _,O 4 28 _] λ a w U=>?_)
 refine zt<|zgd [[],[0],[],[2],[0,1,2,3],[],[5],[],[7],[0,1,2,3,4,5,6,7,8],[0,1,2,3,4,5,6,7,8,9],[0,1,2,3,4,5,6,7,8,9,10]] [none,none,some (11,_)] [] [.adr 5 2 (.some 0) True,.v 6 _,.adr 7 3 (.some 0) True,.v 8 _,.v 9 _,.adr 10 2 (.some 2) True,.v 11 _,.adr 12 3 (.some 2) True,.v 13 _,.v 14 _,.v 15 _,.sto 2] [] ae U (zO 0 G aW (zL 0 0 0 G ar (zO 1 G aW (zL 2 1 0 G ar (zQ G (db zo zo) (.p (vq 1 G) (vq 3 G)) (zO 0 G aR (zL 5 0 1 G ar (zO 1 G aR (zL 7 1 1 G ar (zQ G (db zo zo) (.p (vq 6 G) (vq 8 G)) (zQ G (eX zo zo (den_nz x y)) (.p (vq 4 G) (vq 9 G)) (zS 10 G ax o0)))))))))))) zk zk zk zk (zz [] [O 2 28 _,O 3 28 _,O 4 28 _] λ a w U=>?_)
 refine aa<|qg<|ao ?_ (aA G U (zm 2 G) ax)
 exact cd (aZ (qm (Qs _) (oY x y))) (bO zo).va
theorem over_q {c d:Nat}{x y:Rat}(hc:c+d≤549755813888)(h0:y≠0):Cn Tryz.prog 184 [Qs c x,Qs d y] (Qs (c+d) (x/y)):=by
 refine Cn.intro Tryz.func184 G zk nq (λ B w0 a U=>?_)
 have U:=zn [(0,Qs c x),(1,Qs d y)] [] U
 refine qb<|zg [] [⟨2,28,ptrH,some 0,_,none⟩,⟨3,28,ptrH,some 1,_,none⟩,⟨4,28,ptrH,some 2,_,none⟩] [.alc 0,.alc 1,.alc 2] [] U (zW 0 G (zW 1 G (zY G (Str.zero aP) o0))) (zz [] [O 2 28 _,O 3 28 _,O 4 28 _] λ a w U=>?_)
 refine zt<|zgd [[],[0],[],[2],[0,1,2,3],[],[5],[],[7],[0,1,2,3,4,5,6,7,8],[0,1,2,3,4,5,6,7,8,9],[0,1,2,3,4,5,6,7,8,9,10]] [none,none,some (11,_)] [] [.adr 5 2 (.some 0) True,.v 6 _,.adr 7 3 (.some 2) True,.v 8 _,.v 9 _,.adr 10 2 (.some 2) True,.v 11 _,.adr 12 3 (.some 0) True,.v 13 _,.v 14 _,.v 15 _,.sto 2] [] ae U (zO 0 G aW (zL 0 0 0 G ar (zO 1 G aR (zL 2 1 1 G ar (zQ G (db zo zo) (.p (vq 1 G) (vq 3 G)) (zO 0 G aR (zL 5 0 1 G ar (zO 1 G aW (zL 7 1 0 G ar (zQ G (db zo zo) (.p (vq 6 G) (vq 8 G)) (zQ G (eX zo zo (wm x h0)) (.p (vq 4 G) (vq 9 G)) (zS 10 G ax o0)))))))))))) zk zk zk zk (zz [] [O 2 28 _,O 3 28 _,O 4 28 _] λ a w U=>?_)
 refine aa<|qg<|ao ?_ (aA G U (zm 2 G) ax)
 exact cd (aZ (qm (Qs _) (oZ x y))) (bO zo).va
theorem Af {c:Nat}{x:Rat}(hc:c≤549755813888):Cn Tryz.prog 109 [Qs c x] ((RFA (rfOf (-x))).va):=by
 refine Cn.intro Tryz.func109 G zk nq (λ B w0 a U=>?_)
 have U:=zn [(0,Qs c x)] [] U
 refine qb<|zg [] [⟨1,28,ptrH,some 0,_,none⟩,⟨2,28,ptrH,some 1,_,none⟩] [.alc 0,.alc 1] [] U (zW 0 G (zY G (Str.zero aP) o0)) (zz [] [O 1 28 _,O 2 28 _] λ a w U=>?_)
 refine zt<|zgd [[],[0],[0,1],[],[3],[0,1,2],[0,1,2,3,4,5],[0,1,2,3,4,5,6],[0,1,2,3,4,5,6,7]] [none,some (8,_)] [] [.adr 3 1 (.some 0) True,.v 4 _,.v 5 _,.adr 6 1 (.some 2) True,.v 7 _,.v 8 _,.v 9 _,.v 10 _,.sto 1] [] ae U (zO 0 G aW (zL 0 0 0 G ar (zQ G (mc zo) (.o (vq 1 G)) (zO 0 G aR (zL 3 0 1 G ar (zQ G (of_z zd zd) (.cons ab .nil) (zQ G (rI zo zo) (.p (vq 4 G) (vq 5 G)) (zv G (aU (qs:=[(0,_),(1,_)]) aP (.cons ⟨rfl,vq 2 rfl,rfl⟩ (.cons ⟨rfl,vq 6 rfl,rfl⟩ .nil))) (zS 7 G ax o0))))))))) zk zk zk zk (zz [] [O 1 28 _,O 2 28 _] λ a w U=>?_)
 refine aa<|qg<|ao ?_ (aA G U (zm 1 G) ax)
 exact ((bo (.cons zaA (.cons zaA .nil))).trans (dc (qm (λ z=>cat [RIA (riOf (-x.num)),RIA (riOf z)]) (jk _)))).va
theorem copy_r {c:Nat}{x:Rat}(hc:c≤549755813888):Cn Tryz.prog 27 [Qs c x] ((RFA (rfOf x)).va):=by
 refine Cn.intro Tryz.func27 G zk nq (λ B w0 a U=>?_)
 have U:=zn [(0,Qs c x)] [] U
 refine qb<|zg [] [⟨1,28,ptrH,some 0,_,none⟩,⟨2,28,ptrH,some 1,_,none⟩] [.alc 0,.alc 1] [] U (zW 0 G (zY G (Str.zero aP) o0)) (zz [] [O 1 28 _,O 2 28 _] λ a w U=>?_)
 refine zt<|zg [η,η] [⟨3,26,ptrH,some 1,_,some (2,_)⟩] [.v 4 _,.alc 2,.sto 2] [] U (zQ G (of_z zd zd) (.cons ab .nil) (zY G (Str.zero bn) (zS 0 G ar o0))) (zz [] [O 1 28 _,O 2 28 _,O 3 26 _] λ a w U=>?_)
 refine zt<|zgd [[],[0],[],[0,1,2],[],[4],[],[0,1,2,3,4,5,6],[0,1,2,3,4,5,6,7],[0,1,2,3,4,5,6,7,8]] [none,some (9,_),none] [] [.adr 5 1 (.some 0) True,.v 6 _,.v 7 _,.v 8 _,.adr 9 1 (.some 2) True,.v 10 _,.v 11 _,.v 12 _,.v 13 _,.sto 1] [] ae U (zO 0 G aW (zL 0 0 0 G ar (zl 2 G ar (zQ G (rI zo zo) (.p (vq 1 G) (vq 2 G)) (zO 0 G aR (zL 4 0 1 G ar (zl 2 G ar (zQ G (rI zo zo) (.p (vq 5 G) (vq 6 G)) (zv G (aU (qs:=[(0,_),(1,_)]) aP (.cons ⟨rfl,vq 3 rfl,rfl⟩ (.cons ⟨rfl,vq 7 rfl,rfl⟩ .nil))) (zS 8 G ax o0)))))))))) zk zk zk zk (zz [] [O 1 28 _,O 2 28 _,O 3 26 _] λ a w U=>?_)
 refine aa<|qg<|ao ?_ (aA G U (zm 1 G) ax)
 exact ((bo (.cons zaA (.cons zaA .nil))).trans (dc (copy_e x))).va
theorem GW {c d:Nat}{x y:Rat}(hc:c+d≤549755813888):Cn Tryz.prog 25 [Qs c x,Qs d y] (In (cmQ x y)):=by
 refine Cn.intro Tryz.func25 G zk nq (λ B w0 a U=>?_)
 have U:=zn [(0,Qs c x),(1,Qs d y)] [] U
 refine qb<|zg [] [⟨2,28,ptrH,some 0,_,none⟩,⟨3,28,ptrH,some 1,_,none⟩] [.alc 0,.alc 1,.v 4 _] [.o 2] U (zW 0 G (zW 1 G (zv G (ac ab) o0))) (zz [(4,_)] [O 2 28 _,O 3 28 _] λ a w U=>?_)
 refine zt<|zgd [[],[0],[],[2],[0,1,2,3],[],[5],[],[7],[0,1,2,3,4,5,6,7,8],[0,1,2,3,4,5,6,7,8,9],[0,1,2,3,4,5,6,7,8,9,10]] [none,none] [] [.adr 5 2 (.some 0) True,.v 6 _,.adr 7 3 (.some 2) True,.v 8 _,.v 9 _,.adr 10 3 (.some 0) True,.v 11 _,.adr 12 2 (.some 2) True,.v 13 _,.v 14 _,.v 15 _,.v 4 _] [.o 11] ae U (zO 0 G aW (zL 0 0 0 G ar (zO 1 G aR (zL 2 1 1 G ar (zQ G (db zo zo) (.p (vq 1 G) (vq 3 G)) (zO 1 G aW (zL 5 1 0 G ar (zO 0 G aR (zL 7 0 1 G ar (zQ G (db zo zo) (.p (vq 6 G) (vq 8 G)) (zQ G (cmp_z zo zo) (.p (vq 4 G) (vq 9 G)) (zA 10 G o0)))))))))))) zk zk zk zk (zz [(4,_)] [O 2 28 _,O 3 28 _] λ a w U=>?_)
 refine aa<|qg<|ao ?_ (an G U (zm 0 G))
 exact aZ (qm In (cm_sg x y))
theorem sign_q {c:Nat}{x:Rat}:Cn Tryz.prog 99 [Qs c x] (In x.num.sign):=by
 refine Cn.intro Tryz.func99 G zk nq (λ B w0 a U=>?_)
 have U:=zn [(0,Qs c x)] [] U
 refine qb<|zg [] [⟨1,28,ptrH,some 0,_,none⟩] [.alc 0,.v 2 _] [.o 1] U (zW 0 G (zv G (ac ab) o0)) (zz [(2,_)] [O 1 28 _] λ a w U=>?_)
 refine zt<|zg [η] [] [.adr 3 1 (.some 0) True,.v 4 _,.v 5 _,.v 2 _] [.o 3] U (zO 0 G aW (zL 0 0 0 G ar (zQ G un (.o (vq 1 G)) (zA 2 G o0)))) (zz [(2,_)] [O 1 28 _] λ a w U=>?_)
 refine aa<|qg<|ao ?_ (an G U (zm 0 G))
 exact aL
theorem tG : ∃ fn, Tryz.prog.funcs[109]? = some fn ∧ (fn.name == "runtime.NumGoroutine") = false ∧ fn.body.isNone = false := ⟨_, Tryz.func109, by kernel_rfl, by kernel_rfl⟩
theorem se : ∃ fn, Tryz.prog.funcs[27]? = some fn ∧ (fn.name == "runtime.NumGoroutine") = false ∧ fn.body.isNone = false := ⟨_, Tryz.func27, by kernel_rfl, by kernel_rfl⟩
theorem Fl {k B:Nat}{r:Rat}(h:(Qs k r).p B v w):lz r.num≤k∧lz (r.den:Int)≤k:=by
 obtain ⟨cs,⟨ps,_,hp⟩,_⟩:=h
 cases hp with
 | cons h1 hp=>cases hp with | cons h2 _=>exact ⟨h1.1,h2.1⟩
theorem ig {c:Nat}{x:Rat}(hc:c≤549755813888):Cn Tryz.prog 109 [Qs c x] (Qs c (-x)) :=
 Cn.know (c:=lz x.num≤c∧lz (x.den:Int)≤c) tG (λ B w args ha=>by cases ha with | cons h1 _=>exact Fl h1) λ h=>(Af hc).wkp (B4 (by rw [kK,gV]; exact h.1) (by rw [kL]; exact h.2)).va
theorem copy_q {c:Nat}{x:Rat}(hc:c≤549755813888):Cn Tryz.prog 27 [Qs c x] (Qs c x) :=
 Cn.know (c:=lz x.num≤c∧lz (x.den:Int)≤c) se (λ B w args ha=>by cases ha with | cons h1 _=>exact Fl h1) λ h=>(copy_r hc).wkp (B4 h.1 h.2).va
theorem HJ (l:List Nat):UpA (MgA l) (MgA l):=⟨rfl,rfl,λ B cs w hB hp=>by
 obtain ⟨ok,h0,A,c,ds,rfl,h1,h2,h3,h4⟩:=hp
 refine ⟨ok,h0,A,c,ds,rfl,h1,h2,?_,λ hn=>?_⟩
 ·exact cat_nums.2 (cat_nums.1 h3)
 ·obtain ⟨b,o,e1,e2,e3,e4⟩:=h4 hn
  exact ⟨b,o,e1,e2,.inl e2,e4⟩⟩
theorem Ee {A:As}{c:Prop}(h:UpA A A):UpA (A.and c) (A.and c):=⟨rfl,rfl,λ B cs w hB hp=>⟨hp.1,h.2.2 B cs w hB hp.2⟩⟩
theorem u4 (x:RI):UpA (RIA x) (RIA x):=gg (.cons (HI _) (.cons (HJ _) .nil))
theorem fE (x:RF):UpA (RFA x) (RFA x):=gg (.cons (u4 _) (.cons (u4 _) .nil))
theorem upA_za {k:Nat}{z:Int}:UpA (ZA k z) (ZA k z):=Ee (u4 _)
theorem upA_qa {k:Nat}{r:Rat}:UpA (QA k r) (QA k r):=gg (.cons upA_za (.cons upA_za .nil))
theorem Hp {l:List As}(h:∀ A∈l,UpA A A):All2 UpA l l:=by
 induction l with
 | nil=>exact .nil
 | cons A l ih=>exact .cons (h A (by simp)) (ih λ A' hA=>h A' (by simp [hA]))
theorem fC {E:TypeId}{l:List As}(h:∀ A∈l,UpA A A):UpA (SlA E D l) (SlO E D l True):=⟨rfl,rfl,λ B cs w hB hp=>by
 obtain ⟨hD,A,c,ds,rfl,h1,h2,h3,h4⟩:=hp
 refine ⟨trivial,hD,A,c,ds,rfl,h1,h2,(gg (Hp h)).2.2 B ds w hB h3,λ hn=>?_⟩
 obtain ⟨b,o,e1,e2,e3,e4⟩:=h4 hn
 exact ⟨b,o,e1,e2,e2,e4⟩⟩
theorem EI {E:TypeId}{l:List As}{p:Prop}(h:(SlO E D l p).va.p B v w):l.length≤9223372036854775807:=by
 obtain ⟨cs,⟨_,_,A,c,ds,_,h1,h2,_⟩,_⟩:=h
 unfold maxLen at h2
 omega
def longQ (q:Rat):Bool:=[riOf q.num].any bigI || [riOf (q.den:Int)].any bigI
theorem longQ_false {q:Rat}:longQ q=false↔lz q.num≤2048∧lz (q.den:Int)≤2048:=by
 simp [longQ,bigI,ep]
 omega
def IsQ (A:As)(q:Rat):Prop:=∃ k,A=QA k q
theorem Au {E:TypeId}{l l':List As}(h:All2 WkA l l')(hD:∀ A∈l',∀ T∈A.deps,T∈D):WkA (SlA E D l) (SlA E D l'):=⟨rfl,rfl,λ B cs w ⟨_,A,c,ds,e,h1,h2,h3,h4⟩=>by
 have hl:=h.length
 exact ⟨hD,A,c,ds,by rw [← hl]; exact e,by rw [← hl]; exact h1,h2,(bo h).2.2 B ds w h3,λ hn=>h4 (by rw [hl]; exact hn)⟩⟩
theorem DF {L:List As}{qs:List Rat}(h:All2 IsQ L qs){j:Nat}(hj:j<qs.length):∃ k,L[j]?=some (QA k qs[j]):=by
 have hl:=h.length
 obtain ⟨q,h1,k,h2⟩:=h.get (List.getElem?_eq_getElem (show j<L.length by omega))
 rw [List.getElem?_eq_getElem hj] at h1
 injection h1 with h1
 exact ⟨k,by rw [List.getElem?_eq_getElem zo,h2,h1]⟩
theorem DE {L:List As}{qs:List Rat}(h:All2 IsQ L qs):∀ A∈L,UpA A A:=λ A hA=>by
 obtain ⟨j,hj⟩:=List.getElem?_of_mem hA
 obtain ⟨q,_,k,rfl⟩:=h.get hj
 exact upA_qa
theorem Gc {L:List As}{qs:List Rat}(h:All2 IsQ L qs):∀ A∈L,A.n=4:=λ A hA=>by
 obtain ⟨j,hj⟩:=List.getElem?_of_mem hA
 obtain ⟨q,_,k,rfl⟩:=h.get hj
 rfl
theorem wA {l:List Rat}{j:Nat}(h:j<l.length)(h2:longQ l[j]=true):true=l.any longQ:=(xQ.2 ⟨_,qf h,h2⟩).symm
theorem lq_no {l:List Rat}{j:Nat}(h:j<l.length)(h1:(l.take j).any longQ=false)(h2:longQ l[j]=false):(l.take (j+1)).any longQ=false:=by
 rw [qu h,jL,h1]
 simp [h2]
theorem long_q {L:List As}(qs:List Rat)(hL:All2 IsQ L qs)(hl:qs.length≤1099511627776):Cn Tryz.prog 116 [(SlA 28 [U32] L).va] (Bo (qs.any longQ)):=by
 have hLl:=hL.length
 refine Cn.introW Tryz.func116 G zk nq (.cons (fC (DE hL)).va .nil) (dv _).va (λ B w0 a hB0 U=>?_)
 have U:=zn [(0,(SlO 28 [U32] L True).va)] [] U
 refine qb<|zh [.v 2 _] [.g 0,.o 0] U (zv G (ac aJ) o0) (zz [(0,_),(2,_)] [] λ a w U=>?_)
 refine zt<|qb<|zh [.v 5 _,.v 6 _,.v 7 _] [.g 1,.o 0,.o 1,.o 2] U (zM 0 G (zv G (bg Tryz.underlying22 (bm (aD (vq 0 G)))) (zv G (ai ab) o0))) (zz [(2,_),(5,_),(6,_),(7,_)] [] λ a w U=>?_)
 refine aa<|qj ?_
 have U:=St.sel U [1,2,3]
 refine wp_loop_ghost (λ n a w=>∃ j:Nat,(n+j=qs.length∧(qs.take j).any longQ=false)∧St B w0 22 [(5,(SlO 28 [U32] L True).va),(6,In (qs.length:Nat)),(7,In (j:Nat))] [] a w) (qs.length) ?_ ?_
 ·exact ⟨0,⟨by omega,rfl⟩,by rw [hLl] at U; exact U⟩
 intro n a w hI
 obtain ⟨j,⟨hn,hno⟩,U⟩:=hI
 refine qb<|zh [.v 8 _] [.g 0,.g 1,.g 2,.o 0] U (zv G (aS (gq 2 G) (gq 1 G)) o0) (zz [(5,_),(6,_),(7,_),(8,_)] [] λ a w U=>?_)
 refine zt<|aj U (zm 3 G) (λ hb0=>?_) (λ hb0=>?_)
 ·have hj:j<qs.length:=by simp at hb0; omega
  obtain ⟨kj,hLj⟩:=DF hL hj
  refine qh<|zt<|qj<|qb<|zg [] [⟨4,28,ptrH,some 2,_,some (3,_)⟩] [.v 9 _,.v 10 _,.alc 0,.sto 0] [.g 0,.g 1,.g 2] U (zv G (bH cO (Gc hL) (bm (aD (gq 0 G))) (gq 2 G) hLj) (zv G (au (vq 0 G) ax) (zY G (Str.zero aP) (zS 1 G ax o0)))) (zz [(5,_),(6,_),(7,_)] [O 4 28 _] λ a w U=>?_)
  refine zt<|zg [η] [] [.adr 11 4 (.some 0) True,.v 12 _,.v 13 _,.v 14 _,.v 15 _,.adr 16 4 (.some 2) (_=false),.f 17 _,.f 18 _,.f 19 _,.v 20 _] [.g 0,.g 1,.g 2,.o 9] U (zO 0 G aW (zL 0 0 0 G ar (zv G (bJ (D:=[U32]) (l:=[_]) (xs:=[.tmp 12]) (cT zk) uk zk (n_ok zk) nq nq nq (.o (vq 1 G)) G G) (zQ G ((wH [riOf (qs[j]).num] nq).wk (.cons (Au (.cons zaA .nil) (cT zk)).va .nil)) (.o (vq 2 G)) (zv G (ai (vq 3 G)) (zC 4 0 G aR (zB 4 G (λ hg=>aF 5 G zk hg (lz0 0 G) (Sub.part 1 G G) ar) (zB 4 G (λ hg=>bJ (D:=[U32]) (l:=[_]) (xs:=[.tmp 17]) (cT zk) uk zk (n_ok zk) nq nq nq (.o (ak (vq 6 G) hg)) G G) (zB 4 G (λ hg=>be ((wH [riOf ((qs[j]).den:Int)] nq).wk (.cons (Au (.cons zaA .nil) (cT zk)).va .nil)) (.o (ak (vq 7 G) hg))) (zv G (r_or (vq 4 G) (vq 8 G)) o0)))))))))) (zz [(5,_),(6,_),(7,_),(20,_)] [O 4 28 _] λ a w U=>?_)
  refine aa<|aj U (zm 3 G) (λ hb1=>?_) (λ hb1=>?_)
  ·refine qb<|zg [η] [] [.v 2 _] [.g 0,.g 1,.g 2,.o 0] U (zv G (ac aJ) o0) (zz [(5,_),(6,_),(7,_),(2,_)] [O 4 28 _] λ a w U=>?_)
   refine aa<|qg<|aE ?_
   refine al ?_
   refine al ?_
   refine aE ?_
   refine al ?_
   refine aC ?_ (an G U (zm 3 G))
   rw [← wA hj hb1]
  ·refine qh<|ap ?_
   refine aa<|zg [η] [] [.v 21 _,.v 7 _] [.g 0,.g 1,.o 1] U (zv G (aN (gq 2 G) ab (ba zo)) (zv G (ai (vq 0 G)) o0)) (zz [(5,_),(6,_),(7,_)] [O 4 28 _] λ a w U=>?_)
   refine aa ?_
   have U:=St.sel U [0,1,2]
   have U:=St.selL U []
   exact ⟨n-1,by omega,j+1,⟨by omega,lq_no hj hno hb1⟩,U⟩
 ·obtain rfl:j=qs.length:=by simp at hb0; omega
  refine qK<|am<|am<|aB<|zt<|zh [.v 2 _] [.o 0] U (zv G (ac aJ) o0) (zz [(2,_)] [] λ a w U=>?_)
  refine aa<|qg<|aC ?_ (an G U (zm 0 G))
  rw [qF] at hno; rw [hno]
theorem nv {L:List As}(qs:List Rat)(hL:All2 IsQ L qs)(hl:qs.length≤1099511627776):Cn Tryz.prog 26 [(SlA 28 [U32] L).va] (In (if qs.any longQ then 4 else 0)):=by
 refine Cn.intro Tryz.func26 G zk nq (λ B w0 a U=>?_)
 have U:=zn [(0,(SlA 28 [U32] L).va)] [] U
 refine qb<|zh [.v 2 _] [.g 0,.o 0] U (zv G (ac ab) o0) (zz [(0,_),(2,_)] [] λ a w U=>?_)
 refine zt<|qb<|zh [.v 3 _,.v 4 _] [.g 1,.o 1] U (zM 0 G (zQ G (long_q qs hL hl) (.o (vq 0 G)) o0)) (zz [(2,_),(4,_)] [] λ a w U=>?_)
 refine aa<|aj U (zm 1 G) (λ hb0=>?_) (λ hb0=>?_)
 ·refine qb<|zh [.v 2 _] [.o 0] U (zv G (ac ab) o0) (zz [(2,_)] [] λ a w U=>?_)
  refine aa<|qg<|al ?_
  refine aC ?_ (an G U (zm 0 G))
  rw [hb0]; rfl
 ·refine qh<|zt<|zh [.v 2 _] [.o 0] U (zv G (ac ab) o0) (zz [(2,_)] [] λ a w U=>?_)
  refine aa<|qg<|aC ?_ (an G U (zm 0 G))
  rw [hb0]; rfl
def okF (x:RF):Bool:=okRI x.num&&okRI x.den&&decide (0<sgI x.den)&&decide (Nat.gcd (val x.num.mag) (val x.den.mag)=1)
theorem lS {x:RI}(ok:okL x.mag)(h:okRI x=true):∃ z,x=riOf z∧lz z≤2048:=by
 obtain ⟨neg,l⟩:=x
 simp only [okRI,qv,qI,jb,qk,beq_eq_false_iff_ne,ne_eq] at h ok
 obtain ⟨⟨h1,h2⟩,h3⟩:=h
 have hc:Canon l:=by
  refine ⟨ok,λ e=>?_⟩
  rcases List.eq_nil_or_concat l with rfl | ⟨m,y,rfl⟩
  ·simp at e
  ·simp at e
   subst e
   rcases h2 with h2 | h2
   ·simp at h2
   ·exact h2 (by simp)
 have e:limbs (val l)=l:=o3 hc
 cases neg with
 | false=>exact ⟨(val l:Nat),by simp [riOf,e],by show (limbs _).length≤2048; rw [j1,e]; omega⟩
 | true =>
  have hl:l≠[]:=λ e=>by subst e; simp at h3
  have hv:0<val l:=hc.val_pos hl
  exact ⟨-(val l:Nat),by simp [riOf,e]; omega,by show (limbs _).length≤2048; rw [Int.natAbs_neg,j1,e]; omega⟩
theorem Fz {z:Int}:okRI (riOf z)=decide (lz z≤2048):=by
 unfold okRI
 by_cases h0:z=0
 ·subst h0; simp [riOf,bt,lz]
 ·have h1:=fQ h0
  have h2:=(bi z.natAbs).2
  have e:(riOf z).mag=limbs z.natAbs:=rfl
  have e2:(limbs z.natAbs).length=lz z:=rfl
  have h3:(limbs z.natAbs).getD (lz z-1) 0≠0:=λ hh=>by
   apply h2
   rw [List.getLast?_eq_getElem?,e2,List.getElem?_eq_getElem zo]
   rw [List.getD_eq_getElem?_getD,List.getElem?_eq_getElem zo] at hh
   simpa using hh
  rw [e,e2]
  by_cases h4:lz z≤2048
  ·have h5:¬ ((lz z:Int)>2048):=by omega
   have h6:¬ ((lz z:Int)=0):=by omega
   have h7:¬ (((limbs z.natAbs).getD (lz z-1) 0:Nat):Int)=((0:Nat):Int):=by omega
   simp only [h4,h5,decide_true,decide_false,beq_eq_false_iff_ne.2 h7,beq_eq_false_iff_ne.2 h6,Bool.and_false,Bool.false_and,Bool.or_self,jq]
  ·have h5:((lz z:Int)>2048):=by omega
   simp only [h4,h5,decide_true,decide_false,Bool.true_or,kA]
theorem okF_q {x:RF}(ok:okL x.num.mag∧okL x.den.mag)(h:okF x=true):∃ r:Rat,x=rfOf r∧lz r.num≤2048∧lz (r.den:Int)≤2048:=by
 obtain ⟨xn,xd⟩:=x
 simp only [okF,ql,qH] at h ok
 obtain ⟨⟨⟨h1,h2⟩,h3⟩,h4⟩:=h
 obtain ⟨p,rfl,hp⟩:=lS ok.1 h1
 obtain ⟨q,rfl,hq⟩:=lS ok.2 h2
 rw [d6] at h3
 have hq0:0<q:=Int.sign_pos_iff.1 h3
 rw [bv,bv] at h4
 refine ⟨⟨p,q.natAbs,by omega,h4⟩,?_,hp,?_⟩
 ·show RF.mk _ _=RF.mk (riOf p) (riOf (q.natAbs:Nat))
  rw [show ((q.natAbs:Nat):Int)=q by omega]
 ·show lz ((q.natAbs:Nat):Int)≤2048
  rw [show ((q.natAbs:Nat):Int)=q by omega]
  exact hq
theorem ok1 {b:Bool}(h:(((if b then (0:Int) else 1) != 0))=false):b=true:=by cases b <;> simp at h ⊢
theorem DW {x:RF}(h:((((if okRI x.num then (0:Int) else 1) != 0) || ((if okRI x.den then (0:Int) else 1) != 0)) || decide (sgI x.den≤0))=true):(1:Int)=if okF x then 0 else 1:=by
 have:okF x=false:=by
  unfold okF
  cases h1:okRI x.num <;> cases h2:okRI x.den <;> simp [h1,h2] at h ⊢
  omega
 rw [this]; rfl
theorem I4 {p q:Int}(h:(sg3 ((Int.gcd p q:Nat):Int) 1 != 0)=true):Int.gcd p q≠1:=λ e=>by rw [e] at h; simp [sg3] at h
theorem mq {x:RF}(h:(RFA x).va.p B v w):okL x.num.mag∧okL x.den.mag:=by
 obtain ⟨cs,⟨ps,_,hp⟩,_⟩:=h
 cases hp with
 | cons h1 hp=>cases hp with | cons h2 _=>exact ⟨(gy ⟨_,h1,rfl⟩).1,(gy ⟨_,h2,rfl⟩).1⟩
theorem cmp_i {p q:Int}(hp:lz p≤1099511627776)(hq:lz q≤1099511627776):Cn Tryz.prog 114 [Zi p,Zi q] (In (sg3 p q)):=(DU (riOf p) (riOf q) (by rw [ep]; omega) (by rw [ep]; omega)).post (by rw [DT])
theorem lz_one:lz 1≤1099511627776:=qe (tb (k:=1) zd) zd
theorem Cu (xn xd:RI):Cn Tryz.prog 98 [(RFA ⟨xn,xd⟩).va] (In (if okF ⟨xn,xd⟩ then 0 else 1)):=by
 refine Cn.intro Tryz.func98 G zk nq (λ B w0 a U=>?_)
 have U:=zn [(0,(RFA ⟨xn,xd⟩).va)] [] U
 have hok:=mq (U.vals (0,(RFA ⟨xn,xd⟩).va) (zm 0 rfl))
 refine qb<|zg [] [⟨1,28,ptrH,some 0,_,none⟩] [.alc 0,.v 2 _] [.o 1] U (zW 0 G (zv G (ac ab) o0)) (zz [(2,_)] [O 1 28 _] λ a w U=>?_)
 refine zt<|qb<|zg [η] [] [.adr 3 1 (.some 0) True,.v 4 _,.v 5 _,.v 6 _,.v 7 _,.adr 8 1 (.some 2) (_=false),.f 9 _,.f 10 _,.f 11 _,.v 12 _,.v 13 _,.adr 14 1 (.some 2) (_=false),.f 15 _,.f 16 _,.f 17 _,.v 18 _] [.g 0,.o 15] U (zO 0 G aW (zL 0 0 0 G ar (zQ G (pV _) (.o (vq 1 G)) (zv G (bX (vq 2 G) ab) (zv G (ai (vq 3 G)) (zC 4 0 G aR (zB 4 G (λ hg=>aF 5 G zk hg (lz0 0 G) (Sub.part 1 G G) ar) (zB 4 G (λ hg=>be (pV _) (.o (ak (vq 6 G) hg))) (zB 4 G (λ hg=>bX (ak (vq 7 G) hg) ab) (zv G (r_or (vq 4 G) (vq 8 G)) (zv G (ai (vq 9 G)) (zC 10 0 G aR (zB 10 G (λ hg=>aF 11 G zk hg (lz0 0 G) (Sub.part 1 G G) ar) (zB 10 G (λ hg=>be (ro _) (.o (ak (vq 12 G) hg))) (zB 10 G (λ hg=>gz (ak (vq 13 G) hg) ab) (zv G (r_or (vq 10 G) (vq 14 G)) o0)))))))))))))))) (zz [(2,_),(18,_)] [O 1 28 _] λ a w U=>?_)
 refine aa<|aj U (zm 1 G) (λ hb0=>?_) (λ hb0=>?_)
 ·refine qb<|zg [η] [] [.v 2 _] [.o 0] U (zv G (ac ab) o0) (zz [(2,_)] [O 1 28 _] λ a w U=>?_)
  refine aa<|qg<|al ?_
  refine aC ?_ (an G U (zm 0 G))
  exact qm In (DW hb0)
 ·rw [qI,qI] at hb0
  obtain ⟨p,rfl,hp⟩:=lS hok.1 (ok1 hb0.1.1)
  obtain ⟨q,rfl,hq⟩:=lS hok.2 (ok1 hb0.1.2)
  have hq0:0<sgI (riOf q):=by have h2:¬ sgI (riOf q)≤0:=qr hb0.2; omega
  have hpq:=wy p q
  refine qh<|zt<|qb<|zg [η] [] [.adr 19 1 (.some 0) True,.v 20 _,.adr 21 1 (.some 2) True,.v 22 _,.v 23 _,.v 24 _,.v 25 _,.v 26 _] [.g 0,.o 7] U (zO 0 G aW (zL 0 0 0 G ar (zO 0 G aR (zL 2 0 1 G ar (zQ G ((sy p q zo zo).wkp gN) (.p (vq 1 G) (vq 3 G)) (zQ G (of_c 1 zd zd) (.cons ab .nil) (zQ G (cmp_i zo lz_one) (.p (vq 4 G) (vq 5 G)) (zv G (bX (vq 6 G) ab) o0)))))))) (zz [(2,_),(26,_)] [O 1 28 _] λ a w U=>?_)
  refine aa<|aj U (zm 1 G) (λ hb1=>?_) (λ hb1=>?_)
  ·refine qb<|zg [η] [] [.v 2 _] [.o 0] U (zv G (ac ab) o0) (zz [(2,_)] [O 1 28 _] λ a w U=>?_)
   refine aa<|qg<|al ?_
   refine aC ?_ (an G U (zm 0 G))
   have e1:=I4 hb1; exact qm In (by rw [show okF ⟨riOf p,riOf q⟩=false from by unfold okF; rw [bv,bv]; simp [show ¬ Nat.gcd p.natAbs q.natAbs=1 from e1]]; rfl)
  ·refine qh<|zt<|zg [η] [] [.v 2 _] [.o 0] U (zv G (ac ab) o0) (zz [(2,_)] [O 1 28 _] λ a w U=>?_)
   refine aa<|qg<|aC ?_ (an G U (zm 0 G))
   have e1:=y5 hb1; exact qm In (by rw [show okF ⟨riOf p,riOf q⟩=true from by unfold okF; rw [bv,bv,ok1 hb0.1.1,ok1 hb0.1.2]; simp [hq0,show Nat.gcd p.natAbs q.natAbs=1 from e1]]; rfl)
def okLb (l:List Nat):Bool:=l.all λ x=>decide (x<4294967296)
theorem okLb_iff {l:List Nat}:okLb l=true↔okL l:=by simp [okLb,okL]
def okX (x:RF):Bool:=okLb x.num.mag&&okLb x.den.mag&&okF x
def zI (x:RI):Int:=if x.neg then -(val x.mag:Nat) else (val x.mag:Nat)
def toQ (x:RF):Rat:=Rat.divInt (zI x.num) (zI x.den)
theorem Hu (z:Int):zI (riOf z)=z:=by
 unfold zI
 rw [bv]
 by_cases h:z<0 <;> simp [riOf,h] <;> omega
theorem HR (r:Rat):toQ (rfOf r)=r:=by
 show Rat.divInt (zI (riOf r.num)) (zI (riOf (r.den:Int)))=r
 rw [Hu,Hu]
 exact jY r
theorem rL {x:RF}(h:okL x.num.mag∧okL x.den.mag):okX x=okF x:=by rw [okX,okLb_iff.2 h.1,okLb_iff.2 h.2]; rfl
theorem okX_q {x:RF}(h:okX x=true):x=rfOf (toQ x)∧lz (toQ x).num≤2048∧lz ((toQ x).den:Int)≤2048:=by
 simp only [okX,ql] at h
 obtain ⟨r,rfl,h1⟩:=okF_q ⟨okLb_iff.1 h.1.1,okLb_iff.1 h.1.2⟩ h.2
 rw [HR]
 exact ⟨rfl,h1⟩
abbrev rf0:RF:=⟨⟨false,[]⟩,⟨false,[]⟩⟩
theorem C5 : ∃ fn, Tryz.prog.funcs[98]? = some fn ∧ (fn.name == "runtime.NumGoroutine") = false ∧ fn.body.isNone = false := ⟨_, Tryz.func98, by kernel_rfl, by kernel_rfl⟩
theorem pU (x:RF):Cn Tryz.prog 98 [(RFA x).va] (In (if okX x then 0 else 1)) :=
 Cn.know (c:=okL x.num.mag∧okL x.den.mag) C5 (λ B w args ha=>by cases ha with | cons h1 _=>exact mq h1) λ h=>(Cu x.num x.den).post (by rw [rL h])
theorem ok_no {l:List RF}{j:Nat}(h:j<l.length)(h2:((if okX l[j] then (0:Int) else 1) != 0)=true):false=l.all okX:=by
 have h3:okX l[j]=false:=by cases hh:okX l[j] <;> simp [hh] at h2 ⊢
 exact (vi.2 ⟨_,qf h,by simp [h3]⟩).symm
theorem Dn {l:List RF}{j:Nat}(h:j<l.length)(h1:(l.take j).all okX=true)(h2:((if okX l[j] then (0:Int) else 1) != 0)=false):(l.take (j+1)).all okX=true:=by
 rw [qu h,vA,h1]
 simp [ok1 h2]
theorem Ct (xs:List RF)(hl:xs.length≤1099511627776):Cn Tryz.prog 219 [(SlA 28 [U32] (xs.map RFA)).va] (Bo (xs.all okX)):=by
 refine Cn.introW Tryz.func219 rfl zk nq (.cons (fC (λ A hA=>by obtain ⟨x,_,rfl⟩:=qq.1 hA; exact fE x)).va .nil) (dv _).va (λ B w0 a hB0 U=>?_)
 have U:=zn [(0,(SlO 28 [U32] (xs.map RFA) True).va)] [] U
 refine qb<|zh [.v 2 _] [.g 0,.o 0] U (zv G (ac aJ) o0) (zz [(0,_),(2,_)] [] λ a w U=>?_)
 refine zt<|qb<|zh [.v 5 _,.v 6 _,.v 7 _] [.g 1,.o 0,.o 1,.o 2] U (zM 0 G (zv G (bg Tryz.underlying22 (bm (aD (vq 0 G)))) (zv G (ai ab) o0))) (zz [(2,_),(5,_),(6,_),(7,_)] [] λ a w U=>?_)
 refine aa<|qj ?_
 have U:=St.sel U [1,2,3]
 refine wp_loop_ghost (λ n a w=>∃ j:Nat,(n+j=xs.length∧(xs.take j).all okX=true)∧St B w0 15 [(5,(SlO 28 [U32] (xs.map RFA) True).va),(6,In (xs.length:Nat)),(7,In (j:Nat))] [] a w) (xs.length) ?_ ?_
 ·exact ⟨0,⟨by omega,rfl⟩,by rw [qc] at U; exact U⟩
 intro n a w hI
 obtain ⟨j,⟨hn,hno⟩,U⟩:=hI
 refine qb<|zh [.v 8 _] [.g 0,.g 1,.g 2,.o 0] U (zv G (aS (gq 2 G) (gq 1 G)) o0) (zz [(5,_),(6,_),(7,_),(8,_)] [] λ a w U=>?_)
 refine zt<|aj U (zm 3 G) (λ hb0=>?_) (λ hb0=>?_)
 ·have hj:j<xs.length:=by simp at hb0; omega
  refine qh<|zt<|qj<|qb<|zg [] [⟨4,28,ptrH,some 2,_,some (3,_)⟩] [.v 9 _,.v 10 _,.alc 0,.sto 0] [.g 0,.g 1,.g 2] U (zv G (bH cO (bW λ _=>rfl) (bm (aD (gq 0 G))) (gq 2 G) (bz hj)) (zv G (au (vq 0 G) ax) (zY G (Str.zero aP) (zS 1 G ax o0)))) (zz [(5,_),(6,_),(7,_)] [O 4 28 _] λ a w U=>?_)
  refine zt<|zg [η] [] [.v 11 _,.v 12 _,.v 13 _] [.g 0,.g 1,.g 2,.o 2] U (zl 0 G ax (zQ G (pU _) (.o (vq 0 G)) (zv G (bX (vq 1 G) ab) o0))) (zz [(5,_),(6,_),(7,_),(13,_)] [O 4 28 _] λ a w U=>?_)
  refine aa<|aj U (zm 3 G) (λ hb1=>?_) (λ hb1=>?_)
  ·refine qb<|zg [η] [] [.v 2 _] [.g 0,.g 1,.g 2,.o 0] U (zv G (ac aJ) o0) (zz [(5,_),(6,_),(7,_),(2,_)] [O 4 28 _] λ a w U=>?_)
   refine aa<|qg<|aE ?_
   refine al ?_
   refine al ?_
   refine aE ?_
   refine al ?_
   refine aC ?_ (an G U (zm 3 G))
   rw [← ok_no hj hb1]
  ·refine qh<|ap ?_
   refine aa<|zg [η] [] [.v 14 _,.v 7 _] [.g 0,.g 1,.o 1] U (zv G (aN (gq 2 G) ab (ba zo)) (zv G (ai (vq 0 G)) o0)) (zz [(5,_),(6,_),(7,_)] [O 4 28 _] λ a w U=>?_)
   refine aa ?_
   have U:=St.sel U [0,1,2]
   have U:=St.selL U []
   exact ⟨n-1,by omega,j+1,⟨by omega,Dn hj hno hb1⟩,U⟩
 ·obtain rfl:j=xs.length:=by simp at hb0; omega
  refine qK<|am<|am<|aB<|zt<|zh [.v 2 _] [.o 0] U (zv G (ac aJ) o0) (zz [(2,_)] [] λ a w U=>?_)
  refine aa<|qg<|aC ?_ (an G U (zm 0 G))
  rw [qF] at hno; rw [hno]
def ansF (q:Rat):RF × Int:=if longQ q then (rf0,4) else (rfOf q,0)
abbrev FrR (r:RF × Int):VA:=Tu [(RFA r.1).va,In r.2]
theorem rq_wk {k:Nat}{r:Rat}:Wk (Qs k r) (RFA (rfOf r)).va:=qaA.va
theorem tu2w {a b c d:VA}(h:Wk a c)(h':Wk b d):Wk (Tu [a,b]) (Tu [c,d]):=Ag (.cons h (.cons h' .nil))
theorem mz {q:Rat}:[q].any longQ=longQ q:=by simp
theorem ne0 {b:Bool}:((if b then (4:Int) else 0) != 0)=b:=by cases b <;> rfl
theorem has_wk' {R:Rg}{i:Nat}{x:Operand}{A A':VA}(h:Has R B w0 i x A)(hw:Wk A A'):Has R B w0 i x A':=λ a w av=>hw _ _ _ (h a w av)
theorem tN {c:Nat}{x:Rat}(hc:c≤549755813888):Cn Tryz.prog 239 [Qs c x] (FrR (ansF x)):=by
 refine Cn.intro Tryz.func239 G zk nq (λ B w0 a U=>?_)
 have U:=zn [(0,Qs c x)] [] U
 refine qb<|zg [] [⟨1,28,ptrH,some 0,_,none⟩,⟨2,28,ptrH,some 1,_,none⟩] [.alc 0,.alc 1,.v 3 _] [.o 2] U (zW 0 G (zY G (Str.zero aP) (zv G (ac ab) o0))) (zz [(3,_)] [O 1 28 _,O 2 28 _] λ a w U=>?_)
 refine zt<|qb<|zg [η,η] [] [.v 5 _,.v 6 _,.v 7 _,.v 4 _] [.g 0,.o 3] U (zl 0 G ax (zv G (bJ (D:=[U32]) (l:=[_]) (xs:=[.tmp 5]) (cT zk) cO zk (n_ok zk) nq nq nq (.o (vq 0 G)) G G) (zQ G ((nv [x] (.cons ⟨_,rfl⟩ .nil) nq)) (.o (vq 1 G)) (zA 2 G o0)))) (zz [(3,_),(4,_)] [O 1 28 _,O 2 28 _] λ a w U=>?_)
 refine zt<|zg [η,η] [] [.v 8 _,.v 9 _] [.g 0,.g 1,.o 1] U (zM 1 G (zv G (bX (vq 0 G) ab) o0)) (zz [(3,_),(4,_),(9,_)] [O 1 28 _,O 2 28 _] λ a w U=>?_)
 refine aa<|aj U (zm 2 G) (λ hb0=>?_) (λ hb0=>?_)
 ·rw [mz,ne0] at hb0
  refine qb<|zg [η,some (2,_)] [] [.v 10 _,.v 11 _,.sto 1,.v 3 _] [.o 3] U (zv G (aU (qs:=[]) aP .nil) (zM 1 G (zS 0 G ax (zA 1 G o0)))) (zz [(3,_)] [O 1 28 _,O 2 28 _] λ a w U=>?_)
  refine aa<|qg<|al ?_
  refine ao ?_ (bf (rs:=[.cell 2 28,.tmp 3]) G U (.cell (zm 1 G) ax (.tmp (zm 0 G) .nil)) zd)
  rw [ansF,qz hb0]; exact tu2w aL (aZ (by rw [mz,hb0]; rfl))
 ·rw [mz,ne0] at hb0
  refine qh<|zt<|zg [η,some (2,_)] [] [.v 12 _,.v 13 _,.sto 1,.v 3 _] [.o 3] U (zl 0 G ax (zQ G (copy_q zo) (.o (vq 0 G)) (zS 1 G ax (zv G (ac ab) o0)))) (zz [(3,_)] [O 1 28 _,O 2 28 _] λ a w U=>?_)
  refine aa<|qg<|ao ?_ (bf (rs:=[.cell 2 28,.tmp 3]) G U (.cell (zm 1 G) ax (.tmp (zm 0 G) .nil)) zd)
  rw [ansF,qw (by rw [hb0]; decide)]; exact tu2w rq_wk aL
theorem yn : ∃ fn, Tryz.prog.funcs[176]? = some fn ∧ (fn.name == "runtime.NumGoroutine") = false ∧ fn.body.isNone = false := ⟨_, Tryz.func176, by kernel_rfl, by kernel_rfl⟩
theorem yK {c:Nat}{p:Int}(hc:c≤2048):Cn Tryz.prog 176 [Zs c p] (In 0):=zs1 yn λ h=>(pV (riOf p)).post (by rw [Fz,qC (by omega:lz p≤2048)]; rfl)
theorem Dz {p:Int}(h0 : -9223372036854775808≤p)(h1:p<9223372036854775808):lz p≤2:=tb zo
theorem Ho {q:Rat}(h:lz q.num≤2048∧lz (q.den:Int)≤2048):ansF q=(rfOf q,0):=by rw [ansF,longQ_false.2 h]; rfl
theorem CI {p q:Int}(hq:q≠0)(hp:lz p≤2)(h2:lz q≤2):ansF (Rat.divInt p q)=(rfOf (Rat.divInt p q),0):=by
 have:=ft (p:=p) hq
 exact Ho zo
theorem make_q {p q:Int}(hq:q≠0):Cn Tryz.prog 216 [Zs 2 p,Zs 2 q] (FrR (ansF (Rat.divInt p q))):=by
 refine Cn.intro Tryz.func216 G zk nq (λ B w0 a U=>?_)
 have U:=zn [(0,Zs 2 p),(1,Zs 2 q)] [] U
 refine qb<|zg [] [⟨2,26,ptrH,some 0,_,none⟩,⟨3,26,ptrH,some 1,_,none⟩,⟨4,28,ptrH,some 2,_,none⟩] [.alc 0,.alc 1,.alc 2,.v 5 _] [.o 3] U (zW 0 G (zW 1 G (zY G (Str.zero aP) (zv G (ac ab) o0)))) (zz [(5,_)] [O 2 26 _,O 3 26 _,O 4 28 _] λ a w U=>?_)
 refine zt<|qb<|zg [η,η,η] [] [.v 6 _,.v 7 _,.v 8 _,.v 9 _,.f 10 _,.f 11 _,.f 12 _,.v 13 _] [.g 0,.o 7] U (zl 0 G ar (zQ G (yK zd) (.o (vq 0 G)) (zv G (bX (vq 1 G) ab) (zv G (ai (vq 2 G)) (zB 3 G (λ hg=>df (lz0 1 G) ar) (zB 3 G (λ hg=>be (yK zd) (.o (ak (vq 4 G) hg))) (zB 3 G (λ hg=>bX (ak (vq 5 G) hg) ab) (zv G (r_or (vq 3 G) (vq 6 G)) o0)))))))) (zz [(5,_),(13,_)] [O 2 26 _,O 3 26 _,O 4 28 _] λ a w U=>?_)
 refine aa<|aj U (zm 1 G) (λ hb0=>?_) (λ hb0=>?_)
 ·exact absurd hb0 zd
 ·refine qh<|zt<|qb<|zg [η,η,η] [] [.v 15 _,.v 16 _,.v 17 _] [.g 0,.o 2] U (zl 1 G ar (zQ G un (.o (vq 0 G)) (zv G (bC (vq 1 G) ab) o0))) (zz [(5,_),(17,_)] [O 2 26 _,O 3 26 _,O 4 28 _] λ a w U=>?_)
  refine aa<|aj U (zm 1 G) (λ hb1=>?_) (λ hb1=>?_)
  ·exact absurd hb1 (by simpa using hq)
  ·refine qh<|zt<|zg [η,η,some (6,_)] [] [.v 19 _,.v 20 _,.v 21 _,.v 22 _,.v 23 _,.v 24 _,.sto 2,.v 5 _] [.o 7] U (zl 0 G ar (zl 1 G ar (zQ G (eX zd zd hq) (.p (vq 0 G) (vq 1 G)) (zQ G (tN zd) (.o (vq 2 G)) (zv G (pd (vq 3 G)) (zv G (pc (vq 3 G)) (zS 4 G ax (zA 5 G o0)))))))) (zz [(5,_)] [O 2 26 _,O 3 26 _,O 4 28 _] λ a w U=>?_)
   refine aa<|qg<|ao ?_ (bf (rs:=[.cell 4 28,.tmp 5]) G U (.cell (zm 2 G) ax (.tmp (zm 0 G) .nil)) zd)
   exact aL
theorem ofQ_c {p q:Int}(hp : -9223372036854775808≤p)(hp1:p<9223372036854775808)(hq0 : -9223372036854775808≤q)(hq1:q<9223372036854775808)(hq:q≠0):Cn Tryz.prog 173 [In p,In q] (FrR (rfOf (Rat.divInt p q),0)):=by
 refine Cn.intro Tryz.func173 G zk nq (λ B w0 a U=>?_)
 have U:=zn [(0,In p),(1,In q)] [] U
 refine qb<|zg [] [⟨4,28,ptrH,some 0,_,none⟩] [.alc 0,.v 5 _] [.g 0,.g 1,.o 1] U (zY G (Str.zero aP) (zv G (ac ab) o0)) (zz [(0,_),(1,_),(5,_)] [O 4 28 _] λ a w U=>?_)
 refine zt<|zg [some (7,_)] [] [.v 6 _,.v 7 _,.v 8 _,.v 9 _,.v 10 _,.v 11 _,.v 12 _,.sto 0,.v 5 _] [.o 8] U (zM 0 G (zQ G (of_z hp hp1) (.o (vq 0 G)) (zM 1 G (zQ G (of_z hq0 hq1) (.o (vq 2 G)) (zQ G (make_q hq) (.p (vq 1 G) (vq 3 G)) (zv G (pd (vq 4 G)) (zv G (pc (vq 4 G)) (zS 5 G ax (zA 6 G o0))))))))) (zz [(5,_)] [O 4 28 _] λ a w U=>?_)
 refine aa<|qg<|ao ?_ (bf (rs:=[.cell 4 28,.tmp 5]) G U (.cell (zm 0 G) ax (.tmp (zm 0 G) .nil)) zd)
 rw [← CI hq (Dz hp hp1) (Dz hq0 hq1)]; exact aL
structure RG where
 re:RF
 im:RF
 deriving DecidableEq
structure RM where
 a:RF
 b:RF
 c:RF
 d:RF
 deriving DecidableEq
structure RR where
 y:RF
 u:RF
 deriving DecidableEq
structure GQ where
 re:Rat
 im:Rat
 deriving DecidableEq
structure MQ where
 a:Rat
 b:Rat
 c:Rat
 d:Rat
 deriving DecidableEq
structure YQ where
 y:Rat
 u:Rat
 deriving DecidableEq
def QMA (k:Nat)(x:MQ):As:=cat [QA k x.a,QA k x.b,QA k x.c,QA k x.d]
def QRA (k:Nat)(x:YQ):As:=cat [QA k x.y,QA k x.u]
theorem qa_x {k:Nat}{x:RF}(h:okX x=true)(hk:2048≤k):WkA (RFA x) (QA k (toQ x)):=by
 obtain ⟨h1,h2,h3⟩:=okX_q h
 exact (dc (qm RFA h1)).trans (B4 (qe h2 hk) (qe h3 hk))
theorem cC:Str Tryz.prog 126 [RFA rf0,RFA rf0,RFA rf0,RFA rf0] :=
 Str.of (z:=.agg #[.bool false,.slice none 0 0,.bool false,.slice none 0 0,.bool false,.slice none 0 0,.bool false,.slice none 0 0,.bool false,.slice none 0 0,.bool false,.slice none 0 0,.bool false,.slice none 0 0,.bool false,.slice none 0 0]) zk Tryz.underlying126 zk λ B w=>⟨[[.bool false,.slice none 0 0,.bool false,.slice none 0 0],[.bool false,.slice none 0 0,.bool false,.slice none 0 0],[.bool false,.slice none 0 0,.bool false,.slice none 0 0],[.bool false,.slice none 0 0,.bool false,.slice none 0 0]],rfl,(.cons (dX B w) (.cons (dX B w) (.cons (dX B w) (.cons (dX B w) .nil))))⟩
theorem gw:Str Tryz.prog 115 [RFA rf0,RFA rf0] :=
 Str.of (z:=.agg #[.bool false,.slice none 0 0,.bool false,.slice none 0 0,.bool false,.slice none 0 0,.bool false,.slice none 0 0]) zk Tryz.underlying115 zk λ B w=>⟨[[.bool false,.slice none 0 0,.bool false,.slice none 0 0],[.bool false,.slice none 0 0,.bool false,.slice none 0 0]],rfl,(.cons (dX B w) (.cons (dX B w) .nil))⟩
theorem tu3w {a b c d e f:VA}(h:Wk a d)(h':Wk b e)(h'':Wk c f):Wk (Tu [a,b,c]) (Tu [d,e,f]):=Ag (.cons h (.cons h' (.cons h'' .nil)))
def intSizeF (x:RI):Int:=IntKind.i64.wrap (1+(x.mag.length:Int))
def fracSizeF (x:RF):Int:=IntKind.i64.wrap (intSizeF x.num+intSizeF x.den)
def lowCostF (x y:RI):Int:=IntKind.i64.wrap (IntKind.i64.wrap ((IntKind.i64.wrap (min (x.mag.length:Int) 1048576*min (y.mag.length:Int) 1048576)).tdiv 16)*1024)
def fracCostF (x:RF):Int:=IntKind.i64.wrap (fracSizeF x+lowCostF x.num x.den)
def bydF (n:Int):List Int→Bool
 | []=>false
 | x::xs=>if decide (IntKind.i64.wrap (n+x)>1048576) then true else bydF (IntKind.i64.wrap (n+x)) xs
theorem H8 {n:Int}{l:List Int}{j:Nat}(h:j<l.length)(h2:decide (IntKind.i64.wrap (n+l[j])>1048576)=true):true=bydF n (l.drop j):=by
 rw [qG h,bydF,h2]; rfl
theorem byd_no {n:Int}{l:List Int}{j:Nat}(h:j<l.length)(h2:decide (IntKind.i64.wrap (n+l[j])>1048576)=false):bydF n (l.drop j)=bydF (IntKind.i64.wrap (n+l[j])) (l.drop (j+1)):=by
 rw [qG h,bydF,h2]; rfl
theorem A9 {j m:Nat}(h:j<m)(hm:m≤9223372036854775807):IntKind.i64.wrap ((j:Int)+1)=((j+1:Nat):Int):=by rw [wi64 zo zo]; rfl
theorem EJ {E:TypeId}{l:List As}(h:(SlA E D l).va.p B v w):l.length≤9223372036854775807:=by
 obtain ⟨cs,⟨_,A,c,ds,_,h1,h2,_⟩,_⟩:=h
 unfold maxLen at h2
 omega
theorem dV {E:TypeId}{α:Type}{f:α→As}{l:List α}(h:(SlA E D (l.map f)).va.p B v w):l.length≤9223372036854775807:=by
 have:=EJ h
 rwa [qc] at this
theorem oa (x:RI):Cn Tryz.prog 174 [(RIA x).va] (In (intSizeF x)):=by
 refine Cn.intro Tryz.func174 G zk nq (λ B w0 a U=>?_)
 have U:=zn [(0,(RIA x).va)] [] U
 refine qb<|zg [] [⟨1,26,ptrH,some 0,_,none⟩] [.alc 0,.v 2 _] [.o 1] U (zW 0 G (zv G (ac ab) o0)) (zz [(2,_)] [O 1 26 _] λ a w U=>?_)
 refine zt<|zg [η] [] [.adr 3 1 (.some 1) True,.v 4 _,.v 5 _,.v 6 _,.v 2 _] [.o 4] U (zO 0 G ay (zL 0 0 1 G aX (zv G (aI Tryz.underlying24 (vq 1 G)) (zv G (aN ab (vq 2 G) (G)) (zA 3 G o0))))) (zz [(2,_)] [O 1 26 _] λ a w U=>?_)
 refine aa<|qg<|ao ?_ (an G U (zm 0 G))
 exact aL
theorem tw (x:RF):Cn Tryz.prog 94 [(RFA x).va] (In (fracSizeF x)):=by
 refine Cn.intro Tryz.func94 G zk nq (λ B w0 a U=>?_)
 have U:=zn [(0,(RFA x).va)] [] U
 refine qb<|zg [] [⟨1,28,ptrH,some 0,_,none⟩] [.alc 0,.v 2 _] [.o 1] U (zW 0 G (zv G (ac ab) o0)) (zz [(2,_)] [O 1 28 _] λ a w U=>?_)
 refine zt<|zgd [[],[0],[0,1],[],[3],[0,1,2,3,4],[0,1,2,3,4,5],[0,1,2,3,4,5,6]] [none] [] [.adr 3 1 (.some 0) True,.v 4 _,.v 5 _,.adr 6 1 (.some 2) True,.v 7 _,.v 8 _,.v 9 _,.v 2 _] [.o 7] ae U (zO 0 G aW (zL 0 0 0 G ar (zQ G (oa _) (.o (vq 1 G)) (zO 0 G aR (zL 3 0 1 G ar (zQ G (oa _) (.o (vq 4 G)) (zv G (aN (vq 2 G) (vq 5 G) (G)) (zA 6 G o0)))))))) zk zk zk zk (zz [(2,_)] [O 1 28 _] λ a w U=>?_)
 refine aa<|qg<|ao ?_ (an G U (zm 0 G))
 exact aL
theorem wB (x y:RI):Cn Tryz.prog 95 [(RIA x).va,(RIA y).va] (In (lowCostF x y)):=by
 refine Cn.intro Tryz.func95 G zk nq (λ B w0 a U=>?_)
 have U:=zn [(0,(RIA x).va),(1,(RIA y).va)] [] U
 refine qb<|zg [] [⟨2,26,ptrH,some 0,_,none⟩,⟨3,26,ptrH,some 1,_,none⟩] [.alc 0,.alc 1,.v 4 _] [.o 2] U (zW 0 G (zW 1 G (zv G (ac ab) o0))) (zz [(4,_)] [O 2 26 _,O 3 26 _] λ a w U=>?_)
 refine zt<|zg [η,η] [] [.adr 5 2 (.some 1) True,.v 6 _,.v 7 _,.v 8 _,.adr 9 3 (.some 1) True,.v 10 _,.v 11 _,.v 12 _,.v 13 _,.v 14 _,.v 15 _,.v 4 _] [.o 11] U (zO 0 G ay (zL 0 0 1 G aX (zv G (aI Tryz.underlying24 (vq 1 G)) (zv G (Fa (vq 2 G) ab) (zO 1 G ay (zL 4 1 1 G aX (zv G (aI Tryz.underlying24 (vq 5 G)) (zv G (Fa (vq 6 G) ab) (zv G (iP (vq 3 G) (vq 7 G) (G)) (zv G (lC (vq 8 G) ab zd (G)) (zv G (iP (vq 9 G) ab (G)) (zA 10 G o0)))))))))))) (zz [(4,_)] [O 2 26 _,O 3 26 _] λ a w U=>?_)
 refine aa<|qg<|ao ?_ (an G U (zm 0 G))
 exact aL
theorem eZ (x:RF):Cn Tryz.prog 18 [(RFA x).va] (In (fracCostF x)):=by
 refine Cn.intro Tryz.func18 G zk nq (λ B w0 a U=>?_)
 have U:=zn [(0,(RFA x).va)] [] U
 refine qb<|zg [] [⟨1,28,ptrH,some 0,_,none⟩] [.alc 0,.v 2 _] [.o 1] U (zW 0 G (zv G (ac ab) o0)) (zz [(2,_)] [O 1 28 _] λ a w U=>?_)
 refine zt<|zgd [[],[0],[],[2],[],[4],[0,1,2,3,4,5],[0,1,2,3,4,5,6],[0,1,2,3,4,5,6,7]] [none] [] [.v 3 _,.v 4 _,.adr 5 1 (.some 0) True,.v 6 _,.adr 7 1 (.some 2) True,.v 8 _,.v 9 _,.v 10 _,.v 2 _] [.o 8] ae U (zl 0 G ax (zQ G (tw _) (.o (vq 0 G)) (zO 0 G aW (zL 2 0 0 G ar (zO 0 G aR (zL 4 0 1 G ar (zQ G (wB _ _) (.p (vq 3 G) (vq 5 G)) (zv G (aN (vq 1 G) (vq 6 G) (G)) (zA 7 G o0))))))))) zk zk zk zk (zz [(2,_)] [O 1 28 _] λ a w U=>?_)
 refine aa<|qg<|ao ?_ (an G U (zm 0 G))
 exact aL
theorem CA (l:List Int):Cn Tryz.prog 4 [(SlA 3 [] (l.map (NumA .i64))).va] (Bo (bydF 0 l)):=by
 refine Cn.intro Tryz.func4 G zk nq (λ B w0 a U=>?_)
 have U:=zn [(0,(SlA 3 [] (l.map (NumA .i64))).va)] [] U
 have hl:=dV (U.vals (0,(SlA 3 [] (l.map (NumA .i64))).va) (zm 0 rfl))
 refine qb<|zh [.v 2 _] [.g 0,.o 0] U (zv G (ac aJ) o0) (zz [(0,_),(2,_)] [] λ a w U=>?_)
 refine zt<|zh [.v 3 _] [.g 0,.g 1,.o 0] U (zv G (ac ab) o0) (zz [(0,_),(2,_),(3,_)] [] λ a w U=>?_)
 refine zt<|qb<|zh [.v 4 _] [.g 0,.g 1,.g 2,.o 0] U (zv G (ac ab) o0) (zz [(0,_),(2,_),(3,_),(4,_)] [] λ a w U=>?_)
 refine aa<|qj ?_
 have U:=St.sel U [0,2,3]
 refine wp_loop_ghost (λ n a w=>∃ (j:Nat) (m:Int),(n+j=l.length∧bydF 0 l=bydF m (l.drop j))∧St B w0 19 [(0,(SlA 3 [] (l.map (NumA .i64))).va),(3,In m),(4,In (j:Nat))] [] a w) (l.length) ?_ ?_
 ·exact ⟨0,0,⟨by omega,rfl⟩,U⟩
 intro n a w hI
 obtain ⟨j,m,⟨hn,hm⟩,U⟩:=hI
 refine qb<|qb<|zh [.v 5 _,.v 6 _,.v 7 _,.v 8 _] [.g 0,.g 1,.g 2,.o 3] U (zM 2 G (zM 0 G (zv G (bg Tryz.underlying31 (vq 1 G)) (zv G (aS (vq 0 G) (vq 2 G)) o0)))) (zz [(0,_),(3,_),(4,_),(8,_)] [] λ a w U=>?_)
 refine aa<|aj U (zm 3 G) (λ hb0=>?_) (λ hb0=>?_)
 ·have hj:j<l.length:=by rw [qc] at hb0; simp at hb0; omega
  refine qh<|zt<|qj<|qb<|zh [.v 11 _,.v 12 _,.v 13 _,.v 14 _,.v 15 _,.v 16 _,.v 3 _] [.g 0,.g 2,.o 6] U (zM 1 G (zM 0 G (zM 2 G (zv G (bH cP (bW λ _=>rfl) (vq 1 G) (vq 2 G) (bz hj)) (zv G (au (vq 3 G) ty_3) (zv G (aN (vq 0 G) (vq 4 G) (G)) (zA 5 G o0))))))) (zz [(0,_),(4,_),(3,_)] [] λ a w U=>?_)
  refine zt<|zh [.v 17 _,.v 18 _] [.g 0,.g 1,.g 2,.o 1] U (zM 2 G (zv G (ci (vq 0 G) ab) o0)) (zz [(0,_),(4,_),(3,_),(18,_)] [] λ a w U=>?_)
  refine aa<|aj U (zm 3 G) (λ hb1=>?_) (λ hb1=>?_)
  ·refine qb<|zh [.v 2 _] [.g 0,.g 1,.g 2,.o 0] U (zv G (ac aJ) o0) (zz [(0,_),(4,_),(3,_),(2,_)] [] λ a w U=>?_)
   refine aa<|qg<|aE ?_
   refine al ?_
   refine al ?_
   refine aE ?_
   refine al ?_
   refine ao ?_ (an G U (zm 3 G))
   exact aZ (qm Bo ((H8 hj hb1).trans hm.symm))
  ·refine qh<|ap ?_
   refine aa<|zh [.v 9 _,.v 10 _,.v 4 _] [.g 0,.g 2,.o 2] U (zM 1 G (zv G (aN (vq 0 G) ab (A9 hj hl)) (zA 1 G o0))) (zz [(0,_),(3,_),(4,_)] [] λ a w U=>?_)
   refine aa ?_
   have U:=St.sel U [0,1,2]
   exact ⟨n-1,by omega,j+1,_,⟨by omega,hm.trans (byd_no hj hb1)⟩,U⟩
 ·obtain rfl:j=l.length:=by rw [qc] at hb0; simp at hb0; omega
  refine qK<|am<|am<|aB<|zt<|zh [.v 2 _] [.o 0] U (zv G (ac aJ) o0) (zz [(2,_)] [] λ a w U=>?_)
  refine aa<|qg<|ao ?_ (an G U (zm 0 G))
  exact aZ (qm Bo (by rw [hm,q9 (qi _)]; rfl))
theorem AF {a b:RI}(hn:a.neg=b.neg)(h:a.mag=b.mag):true=decide (a=b):=by
 cases a; cases b; simp_all
theorem AI {a b:RI}(h:((a.neg != b.neg) || (((a.mag.length:Nat):Int) != ((b.mag.length:Nat):Int)))=true):false=decide (a=b):=by
 symm
 apply zb
 rintro rfl
 simp at h
theorem AG {a b:RI}(h:((a.neg != b.neg) || (((a.mag.length:Nat):Int) != ((b.mag.length:Nat):Int)))=false):a.neg=b.neg∧a.mag.length=b.mag.length:=by
 simp only [qI,bne_eq_false_iff_eq] at h
 exact ⟨h.1,by omega⟩
theorem AH {a b:RI}{j:Nat}(h1:j<a.mag.length)(h2:j<b.mag.length)(h:(((a.mag[j]:Nat):Int) != ((b.mag[j]:Nat):Int))=true):false=decide (a=b):=by
 symm
 apply zb
 rintro rfl
 simp at h
theorem Ex {l m:List Nat}{j:Nat}(h1:j<l.length)(h2:j<m.length)(h:l.take j=m.take j)(h3:(((l[j]:Nat):Int) != ((m[j]:Nat):Int))=false):l.take (j+1)=m.take (j+1):=by
 rw [qu h1,qu h2,h]
 simp only [bne_eq_false_iff_eq] at h3
 rw [show l[j]=m[j] by omega]
theorem I8 {a b:RF}:(decide (a.num=b.num)&&decide (a.den=b.den))=decide (a=b):=by
 cases a; cases b; rw [xW]; simp
theorem iL (x y:RI):Cn Tryz.prog 134 [(RIA x).va,(RIA y).va] (Bo (decide (x=y))):=by
 refine Cn.intro Tryz.func134 G zk nq (λ B w0 a U=>?_)
 have U:=zn [(0,(RIA x).va),(1,(RIA y).va)] [] U
 have hxk:=gy (U.vals (0,(RIA x).va) (zm 0 rfl))
 refine qb<|zg [] [⟨2,26,ptrH,some 0,_,none⟩,⟨3,26,ptrH,some 1,_,none⟩] [.alc 0,.alc 1,.v 4 _] [.o 2] U (zW 0 G (zW 1 G (zv G (ac aJ) o0))) (zz [(4,_)] [O 2 26 _,O 3 26 _] λ a w U=>?_)
 refine zt<|qb<|zg [η,η] [] [.adr 6 2 (.some 0) True,.v 7 _,.adr 8 3 (.some 0) True,.v 9 _,.v 10 _,.v 11 _,.adr 12 2 (.some 1) (_=false),.f 13 _,.f 14 _,.adr 15 3 (.some 1) (_=false),.f 16 _,.f 17 _,.f 18 _,.v 19 _] [.g 0,.o 13] U (zO 0 G aV (zL 0 0 0 G ty_4 (zO 1 G aV (zL 2 1 0 G ty_4 (zv G (lN zk (vq 1 G) (vq 3 G)) (zv G (ai (vq 4 G)) (zC 5 0 G ay (zB 5 G (λ hg=>aF 6 G zk hg (lz0 0 G) (Sub.part 1 G G) aX) (zB 5 G (λ hg=>aI Tryz.underlying24 (ak (vq 7 G) hg)) (zC 5 1 G ay (zB 5 G (λ hg=>aF 9 G zk hg (lz0 1 G) (Sub.part 1 G G) aX) (zB 5 G (λ hg=>aI Tryz.underlying24 (ak (vq 10 G) hg)) (zB 5 G (λ hg=>bX (ak (vq 8 G) hg) (ak (vq 11 G) hg)) (zv G (r_or (vq 5 G) (vq 12 G)) o0)))))))))))))) (zz [(4,_),(19,_)] [O 2 26 _,O 3 26 _] λ a w U=>?_)
 refine aa<|aj U (zm 1 G) (λ hb0=>?_) (λ hb0=>?_)
 ·refine qb<|zg [η,η] [] [.v 4 _] [.o 0] U (zv G (ac aJ) o0) (zz [(4,_)] [O 2 26 _,O 3 26 _] λ a w U=>?_)
  refine aa<|qg<|al ?_
  refine ao ?_ (an G U (zm 0 G))
  exact aZ (qm Bo (AI hb0))
 ·obtain ⟨hn1,hl⟩:=AG hb0
  refine qh<|zt<|qb<|zg [η,η] [] [.v 5 _] [.g 0,.o 0] U (zv G (ac ab) o0) (zz [(4,_),(5,_)] [O 2 26 _,O 3 26 _] λ a w U=>?_)
  refine aa<|qj ?_
  have U:=St.sel U [1]
  refine wp_loop_ghost (λ n a w=>∃ j:Nat,(n+j=x.mag.length∧x.mag.take j=y.mag.take j)∧St B w0 38 [(5,In (j:Nat))] [⟨2,26,ptrH,RIA x⟩,⟨3,26,ptrH,RIA y⟩] a w) (x.mag.length) ?_ ?_
  ·exact ⟨0,⟨by omega,rfl⟩,U⟩
  intro n a w hI
  obtain ⟨j,⟨hn,ht⟩,U⟩:=hI
  refine qb<|qb<|zg [η,η] [] [.v 20 _,.adr 21 2 (.some 1) True,.v 22 _,.v 23 _,.v 24 _] [.g 0,.o 4] U (zM 0 G (zO 0 G ay (zL 1 0 1 G aX (zv G (aI Tryz.underlying24 (vq 2 G)) (zv G (aS (vq 0 G) (vq 3 G)) o0))))) (zz [(5,_),(24,_)] [O 2 26 _,O 3 26 _] λ a w U=>?_)
  refine aa<|aj U (zm 1 G) (λ hb1=>?_) (λ hb1=>?_)
  ·have hj:j<x.mag.length:=by simp at hb1; omega
   refine qh<|zt<|qj<|qb<|zgd [[],[0],[],[0,1,2],[0,1,2,3],[],[5],[],[5,6,7],[5,6,7,8],[0,1,2,3,4,5,6,7,8,9]] [none,none] [] [.adr 27 2 (.some 1) True,.v 28 _,.v 29 _,.v 30 _,.v 31 _,.adr 32 3 (.some 1) True,.v 33 _,.v 34 _,.v 35 _,.v 36 _,.v 37 _] [.g 0,.o 10] ae U (zO 0 G ay (zL 0 0 1 G aX (zM 0 G (zv G (bG b9 (vq 1 G) (vq 2 G) zo) (zv G (au (vq 3 G) aO) (zO 1 G ay (zL 5 1 1 G aX (zM 0 G (zv G (bG b9 (vq 6 G) (vq 7 G) zo) (zv G (au (vq 8 G) aO) (zv G (bX (vq 4 G) (vq 9 G)) o0))))))))))) zk zk zk zk (zz [(5,_),(37,_)] [O 2 26 _,O 3 26 _] λ a w U=>?_)
   refine aa<|aj U (zm 1 G) (λ hb2=>?_) (λ hb2=>?_)
   ·refine qb<|zg [η,η] [] [.v 4 _] [.g 0,.o 0] U (zv G (ac aJ) o0) (zz [(5,_),(4,_)] [O 2 26 _,O 3 26 _] λ a w U=>?_)
    refine aa<|qg<|aE ?_
    refine al ?_
    refine al ?_
    refine aE ?_
    refine al ?_
    refine ao ?_ (an G U (zm 1 G))
    exact aZ (qm Bo (AH hj zo hb2))
   ·refine qh<|ap ?_
    refine aa<|zg [η,η] [] [.v 25 _,.v 26 _,.v 5 _] [.o 2] U (zM 0 G (zv G (aN (vq 0 G) ab (A9 hj hxk.2)) (zA 1 G o0))) (zz [(5,_)] [O 2 26 _,O 3 26 _] λ a w U=>?_)
    refine aa ?_
    have U:=St.sel U [0]
    exact ⟨n-1,by omega,j+1,⟨by omega,Ex hj zo ht hb2⟩,U⟩
  ·obtain rfl:j=x.mag.length:=by simp at hb1; omega
   refine qK<|am<|am<|aB<|zt<|zg [η,η] [] [.v 4 _] [.o 0] U (zv G (ac aJ) o0) (zz [(4,_)] [O 2 26 _,O 3 26 _] λ a w U=>?_)
   refine aa<|qg<|ao ?_ (an G U (zm 0 G))
   exact aZ (qm Bo (AF hn1 (by rw [qD (qi _),qD zo] at ht; exact ht)))
theorem dN (x y:RF):Cn Tryz.prog 36 [(RFA x).va,(RFA y).va] (Bo (decide (x=y))):=by
 refine Cn.intro Tryz.func36 G zk nq (λ B w0 a U=>?_)
 have U:=zn [(0,(RFA x).va),(1,(RFA y).va)] [] U
 refine qb<|zg [] [⟨2,28,ptrH,some 0,_,none⟩,⟨3,28,ptrH,some 1,_,none⟩] [.alc 0,.alc 1,.v 4 _] [.o 2] U (zW 0 G (zW 1 G (zv G (ac aJ) o0))) (zz [(4,_)] [O 2 28 _,O 3 28 _] λ a w U=>?_)
 refine zt<|zg [η,η] [] [.adr 5 2 (.some 0) True,.v 6 _,.adr 7 3 (.some 0) True,.v 8 _,.v 9 _,.v 10 _,.adr 11 2 (.some 2) (_=true),.t 12 _,.adr 13 3 (.some 2) (_=true),.t 14 _,.t 15 _,.v 16 _,.v 4 _] [.o 12] U (zO 0 G aW (zL 0 0 0 G ar (zO 1 G aW (zL 2 1 0 G ar (zQ G (iL _ _) (.p (vq 1 G) (vq 3 G)) (zv G (ai (vq 4 G)) (zC 5 0 G aR (zB 5 G (λ hg=>aF 6 G zk hg (lz0 0 G) (Sub.part 1 G G) ar) (zC 5 1 G aR (zB 5 G (λ hg=>aF 8 G zk hg (lz0 1 G) (Sub.part 1 G G) ar) (zB 5 G (λ hg=>be (iL _ _) (.p (ak (vq 7 G) hg) (ak (vq 9 G) hg))) (zv G (bA (vq 5 G) (vq 10 G)) (zA 11 G o0))))))))))))) (zz [(4,_)] [O 2 28 _,O 3 28 _] λ a w U=>?_)
 refine aa<|qg<|ao ?_ (an G U (zm 0 G))
 exact aZ (qm Bo I8)
end Go.Proofs.YtedfcalhhldijaaGreatDoor
