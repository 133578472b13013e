import Derived.Test.YthdbhckhignfcaaGreatDoorBxAa
import Derived.Test.YthdbhckhignfcaaGreatDoorBxAc
import Derived.Test.YthdbhckhignfcaaGreatDoorBxAi
set_option linter.unusedVariables false
set_option linter.unusedSimpArgs false
set_option linter.unusedSectionVars false
set_option maxRecDepth 100000
namespace Go.Proofs.YthdbhckhignfcaaGreatDoor
open Go Go.RowKit
theorem zji (p q:Int):(p.tdiv q).natAbs=p.natAbs/q.natAbs:=Int.natAbs_tdiv p q
theorem zhk (p q:Int):(p.tmod q).natAbs=p.natAbs%q.natAbs:=Int.natAbs_tmod p q
theorem zsx {p q:Int}(h:p.tdiv q≠0):(decide (p<0) != decide (q<0))=decide (p.tdiv q<0):=by
 have hp:p≠0:=fun e=>h (by rw [e,Int.zero_tdiv])
 have hq:q≠0:=fun e=>h (by rw [e,Int.tdiv_zero])
 have e:∀ {x y:Int},0<x→0<y→0≤x.tdiv y:=fun hx hy=>Int.tdiv_nonneg zo zo
 by_cases h2:p<0 <;> by_cases h3:q<0
 ·have:0≤(-p).tdiv (-q):=e zo zo
  rw [Int.neg_tdiv,Int.tdiv_neg,Int.neg_neg] at this
  simp [h2,h3]; omega
 ·have:0≤(-p).tdiv q:=e zo zo
  rw [Int.neg_tdiv] at this
  simp [h2,h3]; omega
 ·have:0≤p.tdiv (-q):=e zo zo
  rw [Int.tdiv_neg] at this
  simp [h2,h3]; omega
 ·have:0≤p.tdiv q:=e zo zo
  simp [h2,h3]; omega
theorem zn0 {p q:Int}(h:p.tmod q≠0):decide (p<0)=decide (p.tmod q<0):=by
 by_cases h2:p<0
 ·have:0≤(-p).tmod q:=Int.tmod_nonneg _ zo
  rw [Int.neg_tmod] at this
  simp [h2]; omega
 ·have:0≤p.tmod q:=Int.tmod_nonneg _ zo
  simp [h2]; omega
theorem zod {p q:Int}(h:p.natAbs<q.natAbs):p.tdiv q=0∧p.tmod q=p:=by
 have h1:(p.tdiv q).natAbs=0:=by rw [zji,Nat.div_eq_of_lt h]
 have h2:p.tdiv q=0:=by omega
 have h3:=Int.tdiv_mul_add_tmod p q
 exact ⟨h2,by rw [h2] at h3; simpa using h3⟩
theorem zz3 {a b n m:Nat}(ha:a<4294967296^n)(hb:4294967296^(m-1)≤b)(hm:0<m)(hmn:m≤n):a/b<4294967296^(n+1-m):=by
 have hp:0<4294967296^(m-1):=Nat.pow_pos zd
 rw [Nat.div_lt_iff_lt_mul zo]
 have:4294967296^(n+1-m)*4294967296^(m-1)≤4294967296^(n+1-m)*b:=Nat.mul_le_mul_left _ hb
 rw [← Nat.pow_add,show n+1-m+(m-1)=n by omega] at this
 omega
theorem divz_q {p q:Int}{n:Nat}(h:p.natAbs/q.natAbs<4294967296^n):rsig ((riOf p).neg != (riOf q).neg) (digs n (val (riOf p).mag/val (riOf q).mag))=riOf (p.tdiv q):=by
 rw [zbx,zbx]
 exact zcg (zc7 _ _) (by rw [ze2,Nat.mod_eq_of_lt h,zji]) zsx
theorem divz_r {p q:Int}{n:Nat}(h:p.natAbs%q.natAbs<4294967296^n):rsig (riOf p).neg (digs n (val (riOf p).mag%val (riOf q).mag))=riOf (p.tmod q):=by
 rw [zbx,zbx]
 exact zcg (zc7 _ _) (by rw [ze2,Nat.mod_eq_of_lt h,zhk]) zn0
theorem own_ri (p:Int):rsig (riOf p).neg (riOf p).mag=riOf p:=zcg (zmq p) (zbx p) fun _=>rfl
theorem size_no {p q:Int}(h:decide (sizeL (riOf p).mag (riOf q).mag<0)=true):p.natAbs<q.natAbs:=by
 have:=(ze8 (m:=p.natAbs) (n:=q.natAbs)).1
 have h':sizeL (limbs p.natAbs) (limbs q.natAbs)<0:=of_decide_eq_true h
 omega
theorem size_yes {p q:Int}(h:decide (sizeL (riOf p).mag (riOf q).mag<0)=false):q.natAbs≤p.natAbs:=by
 have:=(ze8 (m:=p.natAbs) (n:=q.natAbs)).1
 have h':¬ sizeL (limbs p.natAbs) (limbs q.natAbs)<0:=of_decide_eq_false h
 omega
theorem one_limb' {l:List Nat}{v:Nat}(hv:val l=v)(ok:okL l)(h:l.length=1):l[0]'zo=v∧v<4294967296:=by
 match l,h with
 | [x],_=>exact ⟨by simpa using hv,by have:=ok x (by simp); simp at hv; omega⟩
theorem zei {q:Int}(h:(riOf q).mag.length=1):(riOf q).mag[0]'zo=q.natAbs∧q.natAbs<4294967296:=one_limb' (zbx q) (zmq q) h
theorem zeu {p:Int}:(riOf p).mag.length=lz p:=rfl
theorem top_ne {q:Int}{k:Nat}(h:(riOf q).mag.length=k+2):(riOf q).mag.getD (k+1) 0≠0:=by
 have h1:=(zbm q.natAbs).2
 have h2:(limbs q.natAbs).length=k+2:=h
 intro hh
 apply h1
 rw [List.getLast?_eq_getElem?,h2,show k+2-1=k+1 from rfl]
 have:(limbs q.natAbs).getD (k+1) 0=0:=hh
 rw [List.getD_eq_getElem?_getD,List.getElem?_eq_getElem zo] at this
 rw [List.getElem?_eq_getElem zo]
 simpa using this
theorem zj3 {q:Int}(h:q≠0):0<lz q:=by unfold lz; rw [zdi zo]; simp
theorem zg1 {p q:Int}(h:p.natAbs≤q.natAbs):lz p≤lz q:=zcs h
theorem lz_low {q:Int}(h:q≠0):4294967296^(lz q-1)≤q.natAbs:=by
 have:=(zbm q.natAbs).lt_val (by rw [zdi zo]; simp)
 rw [zat] at this
 exact this
theorem zfk (q:Int):q.natAbs<4294967296^lz q:=zcm (Nat.le_refl _)
theorem zi_zeroN:(cat (setAll [BoA false,MgN []] [])).va=(RIN (riOf 0)).va:=by
 rw [show riOf 0=⟨false,[]⟩ from by simp [riOf,zbv]]
 rfl
theorem divz_qs {p q:Int}(hq:q≠0)(hge:q.natAbs≤p.natAbs)(h:(riOf q).mag.length=1):rsig ((riOf p).neg != (riOf q).neg) (digs (riOf p).mag.length (val (riOf p).mag/(riOf q).mag[0]'zo))=riOf (p.tdiv q):=by
 rw [show (riOf q).mag[0]'zo=val (riOf q).mag from by rw [(zei h).1,zbx]]
 have:=zz3 (zfk p) (lz_low hq) (zj3 hq) (zg1 hge)
 rw [show lz q=1 from h] at this
 exact divz_q this
theorem rsig_one {p q:Int}(h:(riOf q).mag.length=1)(hq:q≠0):rsig (riOf p).neg [val (riOf p).mag%(riOf q).mag[0]'zo]=riOf (p.tmod q):=by
 have h1:=zei h
 rw [h1.1,zbx]
 have:p.natAbs%q.natAbs<4294967296:=Nat.lt_trans (Nat.mod_lt _ zo) h1.2
 exact zcg (okL_cons.2 ⟨this,zdl⟩) (by rw [zhk]; simp) zn0
theorem zkp (p q:Int)(hq:q≠0)(hp:lz p≤1099511627776):Cn Tryz.prog 184 [Zi p,Zi q] (Tu [(RIN (riOf (p.tdiv q))).va,(RIN (riOf (p.tmod q))).va]):=by
 refine Cn.introW Tryz.func184 rfl zk nq (.cons (ztc _).va (.cons (ztc _).va .nil)) (zv5 (.cons (zh6 _).va (.cons (zh6 _).va .nil))) (fun B w0 a hB0 O=>?_)
 have O:=zn [(0,(RIO (riOf p)).va),(1,(RIO (riOf q)).va)] [] O
 refine wp_seq<|zg [] [⟨2,25,ptrH,some 0,_,none⟩,⟨3,25,ptrH,some 1,_,none⟩,⟨4,25,ptrH,some 2,_,none⟩,⟨5,25,ptrH,some 3,_,none⟩] [.alc 0,.alc 1,.alc 2,.alc 3] [] O (oc (zam rfl rfl rfl (gq 0 rfl)) (oc (zam rfl rfl rfl (gq 1 rfl)) (oc (zas rfl rfl rfl (Str.zero zga)) (oc (zas rfl rfl rfl (Str.zero zga)) o0)))) (zz [] [⟨2,25,ptrH,_⟩,⟨3,25,ptrH,_⟩,⟨4,25,ptrH,_⟩,⟨5,25,ptrH,_⟩] fun a w O=>?_)
 refine zt<|wp_block<|wp_seq<|zg [none,none,none,none] [] [.adr 11 2 (.some 1) True,.v 12 _,.adr 13 3 (.some 1) True,.v 14 _,.v 15 _,.v 16 _,.v 10 _] [.o 6] O (oc (ob_a rfl rfl (za9 (lz0 0 rfl) zah)) (zv rfl (za4 0 rfl zk trivial (lz0 0 rfl) (Sub.part 1 rfl rfl) zb9) (oc (ob_a rfl rfl (za9 (lz0 1 rfl) zah)) (zv rfl (za4 2 rfl zk trivial (lz0 1 rfl) (Sub.part 1 rfl rfl) zb9) (zv rfl (za5 (xs:=[.tmp 12,.tmp 14]) ((zr8 _ _).wk (.cons zj0 (.cons zj0 .nil))) (.cons (vq 1 rfl) (.cons (vq 3 rfl) .nil))) (zv rfl (zb1 (vq 4 rfl) za3) (zv rfl (za2 (vq 5 rfl)) o0))))))) (zz [(10,_)] [⟨2,25,ptrH,_⟩,⟨3,25,ptrH,_⟩,⟨4,25,ptrH,_⟩,⟨5,25,ptrH,_⟩] fun a w O=>?_)
 refine za0<|za8 O (zm 0 rfl) (fun hb0=>?_) (fun hb0=>?_)
 ·have hlt:=size_no hb0
  refine wp_seq<|zg [none,none,some (6,_),some (7,_)] [] [.v 17 _,.adr 18 2 (.some 0) True,.v 19 _,.adr 20 2 (.some 1) True,.v 21 _,.v 22 _,.sto 2,.sto 3] [] O (zv rfl (zbg (xs:=[]) (qs:=[]) (zd3 famN) .nil) (oc (ob_a rfl rfl (za9 (lz0 0 rfl) zb7)) (zv rfl (za4 1 rfl zk trivial (lz0 0 rfl) (Sub.part 0 rfl rfl) ty_4) (oc (ob_a rfl rfl (za9 (lz0 0 rfl) zah)) (zv rfl (za4 3 rfl zk trivial (lz0 0 rfl) (Sub.part 1 rfl rfl) zb9) (zv rfl (za5 (xs:=[.tmp 19,.tmp 21]) ((own_c _ _ hp).wk (.cons zbn (.cons zj0 .nil))) (.cons (vq 2 rfl) (.cons (vq 4 rfl) .nil))) (oc (zak rfl rfl rfl (vq 0 rfl) zac (Eq.trans (b:=2) rfl rfl)) (oc (zak rfl rfl rfl (vq 5 rfl) zac (Eq.trans (b:=2) rfl rfl)) o0)))))))) (zz [] [⟨2,25,ptrH,_⟩,⟨3,25,ptrH,_⟩,⟨4,25,ptrH,_⟩,⟨5,25,ptrH,_⟩] fun a w O=>?_)
  refine za0<|wp_ret<|zba ?_
  refine zag ?_
  refine zao ?_ (zb6 (rs:=[.cell 4 25,.cell 5 25]) rfl O (.cell (zm 2 rfl) zac (.cell (zm 3 rfl) zac .nil)) zd)
  exact tu2 ((congrArg (fun z=>(RIN (riOf z)).va) (zod hlt).1).trans zi_zeroN.symm).symm (congrArg (fun x=>(RIN x).va) ((own_ri p).trans (congrArg riOf (zod hlt).2.symm)))
 ·have hge:=size_yes hb0
  have hp0:0<(riOf p).mag.length:=Nat.lt_of_lt_of_le (zj3 hq) (zg1 hge)
  refine wp_seq<|zg [none,none,none,none] [] [.adr 24 3 (.some 1) True,.v 25 _,.v 26 _,.v 27 _,.v 23 _] [.o 4] O (oc (ob_a rfl rfl (za9 (lz0 1 rfl) zah)) (zv rfl (za4 0 rfl zk trivial (lz0 1 rfl) (Sub.part 1 rfl rfl) zb9) (zv rfl (zax Tryz.underlying23 (zaz (vq 1 rfl))) (zv rfl (zca (vq 2 rfl) za3) (zv rfl (za2 (vq 3 rfl)) o0))))) (zz [(23,_)] [⟨2,25,ptrH,_⟩,⟨3,25,ptrH,_⟩,⟨4,25,ptrH,_⟩,⟨5,25,ptrH,_⟩] fun a w O=>?_)
  refine za0<|za8 O (zm 0 rfl) (fun hb1=>?_) (fun hb1=>?_)
  ·have h1:(riOf q).mag.length=1:=by simp at hb1; omega
   refine wp_seq<|zg [none,none,none,none] [] [.adr 28 2 (.some 1) True,.v 29 _,.v 30 _,.v 6 _] [.o 3] O (oc (ob_a rfl rfl (za9 (lz0 0 rfl) zah)) (zv rfl (za4 0 rfl zk trivial (lz0 0 rfl) (Sub.part 1 rfl rfl) zb9) (zv rfl (za5 (xs:=[.tmp 29]) ((zz8 _ hp).wk (.cons zj0 .nil)) (.cons (vq 1 rfl) .nil)) (zv rfl (za2 (vq 2 rfl)) o0)))) (zz [(6,_)] [⟨2,25,ptrH,_⟩,⟨3,25,ptrH,_⟩,⟨4,25,ptrH,_⟩,⟨5,25,ptrH,_⟩] fun a w O=>?_)
   obtain ⟨c,ext,hc1,hc2,hok,hcx,O⟩:=St.own O hB0 0 rfl hp0 rfl
   have O:=St.sel O []
   refine zt<|zg [some (5,_),none,none,none,none] [] [.adr 31 6 .none True,.adr 32 3 (.some 1) True,.v 33 _,.v 34 _,.v 35 _,.cal 36 _ 0,.v 7 _] [.o 6] O (oc (ob_a rfl rfl zdd) (oc (ob_a rfl rfl (za9 (lz0 2 rfl) zah)) (zv rfl (za4 1 rfl zk trivial (lz0 2 rfl) (Sub.part 1 rfl rfl) zb9) (zv rfl (zc4 zbc (zaz (vq 2 rfl)) (zau 0 rfl) zo) (zv rfl (zad (vq 3 rfl) zb0) (oc (ob_cal (xs:=[.tmp 31,.tmp 35]) rfl rfl rfl (short_c _ ext c _ (zmq p) hp (by rw [(zei h1).1]; omega) (by rw [(zei h1).1]; exact (zei h1).2)) (.cons (arw2 0 rfl zk) (.cons (vq 4 rfl) .nil))) (zv rfl (za2 (has_c 5 rfl zk zk)) o0))))))) (zz [(7,_)] [⟨6,106,slH (riOf p).mag.length c,_⟩,⟨2,25,ptrH,_⟩,⟨3,25,ptrH,_⟩,⟨4,25,ptrH,_⟩,⟨5,25,ptrH,_⟩] fun a w O=>?_)
   refine zt<|zgd [[],[0],[],[2],[0,1,2,3],[],[0,1,2,3,4,5],[],[7],[],[9],[0,1,2,3,4,5,6,7,8,9,10],[0,1,2,3,4,5,6,7,8,9,10,11],[0,1,2,3,4,5,6,7,8,9,10,11,12]] [none,none,none,some (12,_),some (13,_)] [] [.adr 37 2 (.some 0) True,.v 38 _,.adr 39 3 (.some 0) True,.v 40 _,.v 41 _,.adr 42 6 .none True,.v 43 _,.adr 44 2 (.some 0) True,.v 45 _,.v 46 _,.v 47 _,.v 48 _,.sto 3,.sto 4] [] za6 O (oc (ob_a rfl rfl (za9 (lz0 1 rfl) zb7)) (zv rfl (za4 0 rfl zk trivial (lz0 1 rfl) (Sub.part 0 rfl rfl) ty_4) (oc (ob_a rfl rfl (za9 (lz0 2 rfl) zb7)) (zv rfl (za4 2 rfl zk trivial (lz0 2 rfl) (Sub.part 0 rfl rfl) ty_4) (zv rfl (zls zk (vq 1 rfl) (vq 3 rfl)) (oc (ob_a rfl rfl zdd) (zv rfl (za5 (xs:=[.tmp 41,.tmp 42]) (zds _ _) (.cons (vq 4 rfl) (.cons (has_rowX 5 rfl zk (lz0 0 rfl) ⟨(zal _ _).symm,hc1,hc2,zc7 _ _⟩ (by rw [hcx,List.length_append,List.length_append,zal])) .nil))) (oc (ob_a rfl rfl (za9 (lz0 1 rfl) zb7)) (zv rfl (za4 7 rfl zk trivial (lz0 1 rfl) (Sub.part 0 rfl rfl) ty_4) (zv rfl (za1 (gq 0 rfl)) (zv rfl (zwb (l:=[_]) (xs:=[.tmp 46]) zbc zk nq nq (okL_cons.2 ⟨Nat.lt_trans (Nat.mod_lt _ (by rw [(zei h1).1]; omega)) (by rw [(zei h1).1]; exact (zei h1).2),zdl⟩) (.cons (vq 9 rfl) .nil) rfl rfl) (zv rfl (za5 (xs:=[.tmp 45,.tmp 47]) (zds _ _) (.cons (vq 8 rfl) (.cons (vq 10 rfl) .nil))) (oc (zak rfl rfl rfl (vq 6 rfl) zac (Eq.trans (b:=2) rfl rfl)) (oc (zak rfl rfl rfl (vq 11 rfl) zac (Eq.trans (b:=2) rfl rfl)) o0)))))))))))))) zk zk zk zk (zz [] [⟨6,106,slH (riOf p).mag.length c,_⟩,⟨2,25,ptrH,_⟩,⟨3,25,ptrH,_⟩,⟨4,25,ptrH,_⟩,⟨5,25,ptrH,_⟩] fun a w O=>?_)
   refine za0<|wp_ret<|zba ?_
   refine zag ?_
   refine zao ?_ (zb6 (rs:=[.cell 4 25,.cell 5 25]) rfl O (.cell (zm 3 rfl) zac (.cell (zm 4 rfl) zac .nil)) zd)
   exact tu2 (congrArg (fun x=>(RIN x).va) (divz_qs hq hge h1)) (congrArg (fun x=>(RIN x).va) (rsig_one h1 hq))
  ·have h1:(riOf q).mag.length≠1:=by simp at hb1; omega
   have hql:=zj3 hq
   rw [← zeu] at hql
   obtain ⟨k,hk⟩:∃ k,(riOf q).mag.length=k+2:=⟨(riOf q).mag.length-2,by omega⟩
   have hkp:k+2≤(riOf p).mag.length:=by rw [← hk]; exact zg1 hge
   refine wp_skip<|zae ?_
   refine zt<|zg [none,none,none,none] [] [.adr 50 2 (.some 1) True,.v 51 _,.adr 52 3 (.some 1) True,.v 53 _,.v 54 _,.v 49 _,.v 55 _,.v 56 _,.v 8 _,.v 9 _] [.o 8,.o 9] O (oc (ob_a rfl rfl (za9 (lz0 0 rfl) zah)) (zv rfl (za4 0 rfl zk trivial (lz0 0 rfl) (Sub.part 1 rfl rfl) zb9) (oc (ob_a rfl rfl (za9 (lz0 1 rfl) zah)) (zv rfl (za4 2 rfl zk trivial (lz0 1 rfl) (Sub.part 1 rfl rfl) zb9) (zv rfl (za5 (xs:=[.tmp 51,.tmp 53]) ((divide_c _ _ k hk (top_ne hk) hkp hp).wk (.cons zj0 (.cons zj0 .nil))) (.cons (vq 1 rfl) (.cons (vq 3 rfl) .nil))) (zv rfl (za1 (vq 4 rfl)) (zv rfl (zb4 (vq 5 rfl) rfl) (zv rfl (zb4 (vq 5 rfl) rfl) (zv rfl (za2 (vq 6 rfl)) (zv rfl (za2 (vq 7 rfl)) o0)))))))))) (zz [(8,_),(9,_)] [⟨2,25,ptrH,_⟩,⟨3,25,ptrH,_⟩,⟨4,25,ptrH,_⟩,⟨5,25,ptrH,_⟩] fun a w O=>?_)
   refine zt<|zgd [[],[0],[],[2],[0,1,2,3],[],[0,1,2,3,4,5],[],[7],[],[0,1,2,3,4,5,6,7,8,9],[0,1,2,3,4,5,6,7,8,9,10],[0,1,2,3,4,5,6,7,8,9,10,11]] [none,none,some (11,_),some (12,_)] [] [.adr 57 2 (.some 0) True,.v 58 _,.adr 59 3 (.some 0) True,.v 60 _,.v 61 _,.v 62 _,.v 63 _,.adr 64 2 (.some 0) True,.v 65 _,.v 66 _,.v 67 _,.sto 2,.sto 3] [] za6 O (oc (ob_a rfl rfl (za9 (lz0 0 rfl) zb7)) (zv rfl (za4 0 rfl zk trivial (lz0 0 rfl) (Sub.part 0 rfl rfl) ty_4) (oc (ob_a rfl rfl (za9 (lz0 1 rfl) zb7)) (zv rfl (za4 2 rfl zk trivial (lz0 1 rfl) (Sub.part 0 rfl rfl) ty_4) (zv rfl (zls zk (vq 1 rfl) (vq 3 rfl)) (zv rfl (za1 (gq 0 rfl)) (zv rfl (za5 (xs:=[.tmp 61,.tmp 62]) (zds _ _) (.cons (vq 4 rfl) (.cons (vq 5 rfl) .nil))) (oc (ob_a rfl rfl (za9 (lz0 0 rfl) zb7)) (zv rfl (za4 7 rfl zk trivial (lz0 0 rfl) (Sub.part 0 rfl rfl) ty_4) (zv rfl (za1 (gq 1 rfl)) (zv rfl (za5 (xs:=[.tmp 65,.tmp 66]) (zds _ _) (.cons (vq 8 rfl) (.cons (vq 9 rfl) .nil))) (oc (zak rfl rfl rfl (vq 6 rfl) zac (Eq.trans (b:=2) rfl rfl)) (oc (zak rfl rfl rfl (vq 10 rfl) zac (Eq.trans (b:=2) rfl rfl)) o0))))))))))))) zk zk zk zk (zz [] [⟨2,25,ptrH,_⟩,⟨3,25,ptrH,_⟩,⟨4,25,ptrH,_⟩,⟨5,25,ptrH,_⟩] fun a w O=>?_)
   refine za0<|wp_ret<|zao ?_ (zb6 (rs:=[.cell 4 25,.cell 5 25]) rfl O (.cell (zm 2 rfl) zac (.cell (zm 3 rfl) zac .nil)) zd)
   exact tu2 (congrArg (fun x=>(RIN x).va) (divz_q (hk▸zz3 (zfk p) (lz_low hq) (zj3 hq) (zg1 hge)))) (congrArg (fun x=>(RIN x).va) (divz_r (Nat.lt_trans (Nat.mod_lt _ zo) (hk▸zfk q))))
end Go.Proofs.YthdbhckhignfcaaGreatDoor
namespace Go.Proofs.YthdbhckhignfcaaGreatDoor
open Go Go.RowKit
theorem zws (p:Int):rsig false (riOf p).mag=riOf ((p.natAbs:Nat):Int):=zcg (zmq p) (by rw [zbx]; omega) fun _=>by simp
theorem lz_abs (p:Int):lz ((p.natAbs:Nat):Int)=lz p:=by simp [lz]
theorem len_nz {n:Nat}(h:decide (((riOf (n:Int)).mag.length:Int)>0)=true):0<n:=by
 rcases Nat.eq_zero_or_pos n with rfl | hp
 ·simp [riOf,zbv] at h
 ·exact hp
theorem len_z {n:Nat}(h:decide (((riOf (n:Int)).mag.length:Int)>0)=false):n=0:=by
 rcases Nat.eq_zero_or_pos n with rfl | hp
 ·rfl
 ·have:=zj3 (q:=(n:Int)) zo
  have h':¬ (((riOf (n:Int)).mag.length:Int)>0):=of_decide_eq_false h
  rw [zeu] at h'
  omega
theorem lz_tmod {x n:Nat}(h:lz (n:Int)≤1099511627776)(hn:0<n):lz ((x%n:Nat):Int)≤1099511627776:=Nat.le_trans (zg1 (by have:=Nat.mod_lt x hn; omega)) h
theorem gcd_step {x n p:Nat}(h:Nat.gcd x n=p):Nat.gcd n (x%n)=p:=by rw [← h,Nat.gcd_comm n,Nat.gcd_comm x,Nat.gcd_rec n x]
theorem zt3 (p q:Int)(hp:lz p≤1099511627776)(hq:lz q≤1099511627776):Cn Tryz.prog 156 [Zi p,Zi q] ((RIN (riOf ((Int.gcd p q:Nat):Int))).va):=by
 refine Cn.intro Tryz.func156 rfl zk nq (fun B w0 a O=>?_)
 have O:=zn [(0,Zi p),(1,Zi q)] [] O
 refine wp_seq<|zg [] [⟨2,25,ptrH,some 0,_,none⟩,⟨3,25,ptrH,some 1,_,none⟩,⟨4,25,ptrH,some 2,_,none⟩] [.alc 0,.alc 1,.alc 2] [] O (oc (zam rfl rfl rfl (gq 0 rfl)) (oc (zam rfl rfl rfl (gq 1 rfl)) (oc (zas rfl rfl rfl (Str.zero zbo)) o0))) (zz [] [⟨2,25,ptrH,_⟩,⟨3,25,ptrH,_⟩,⟨4,25,ptrH,_⟩] fun a w O=>?_)
 refine zt<|zgd [[],[0],[0,1],[],[3],[0,1,2,3,4],[],[],[0,1,2,3,4,5,6,7],[0,1,2,3,4,5,6,7,8]] [none,none,none] [⟨5,25,ptrH,some 6,_,some (8,_)⟩,⟨6,25,ptrH,some 7,_,some (9,_)⟩] [.adr 9 2 (.some 1) True,.v 10 _,.v 11 _,.adr 12 3 (.some 1) True,.v 13 _,.v 14 _,.alc 3,.alc 4,.sto 3,.sto 4] [] za6 O (oc (ob_a rfl rfl (za9 (lz0 0 rfl) zah)) (zv rfl (za4 0 rfl zk trivial (lz0 0 rfl) (Sub.part 1 rfl rfl) zb9) (zv rfl (za5 (xs:=[.const (.bool false),.tmp 10]) (own_c _ _ hp) (.cons zav (.cons (vq 1 rfl) .nil))) (oc (ob_a rfl rfl (za9 (lz0 1 rfl) zah)) (zv rfl (za4 3 rfl zk trivial (lz0 1 rfl) (Sub.part 1 rfl rfl) zb9) (zv rfl (za5 (xs:=[.const (.bool false),.tmp 13]) (own_c _ _ hq) (.cons zav (.cons (vq 4 rfl) .nil))) (oc (zas rfl rfl rfl (Str.zero zbo)) (oc (zas rfl rfl rfl (Str.zero zbo)) (oc (zak rfl rfl rfl (vq 2 rfl) zac (Eq.trans (b:=2) rfl rfl)) (oc (zak rfl rfl rfl (vq 5 rfl) zac (Eq.trans (b:=2) rfl rfl)) o0)))))))))) zk zk zk zk (zz [] [⟨2,25,ptrH,_⟩,⟨3,25,ptrH,_⟩,⟨4,25,ptrH,_⟩,⟨5,25,ptrH,_⟩,⟨6,25,ptrH,_⟩] fun a w O=>?_)
 refine zt<|wp_block ?_
 have O:=St.sel O []
 have O:=St.selL O [2,3,4]
 refine wp_loop_ghost (fun n a w=>∃ x:Nat,(Nat.gcd x n=Int.gcd p q∧lz (x:Int)≤1099511627776∧lz (n:Int)≤1099511627776)∧St B w0 28 [] [⟨4,25,ptrH,cat [BoA false,MgA []]⟩,⟨5,25,ptrH,RIN (riOf ((x:Nat):Int))⟩,⟨6,25,ptrH,RIN (riOf ((n:Nat):Int))⟩] a w) (q.natAbs) ?_ ?_
 ·exact ⟨p.natAbs,⟨rfl,by rw [lz_abs]; exact hp,by rw [lz_abs]; exact hq⟩,by rw [show rsig false (limbs p.natAbs)=_ from zws p,show rsig false (limbs q.natAbs)=_ from zws q] at O; exact O⟩
 intro n a w hI
 obtain ⟨x,⟨hg,hx,hn⟩,O⟩:=hI
 refine wp_seq<|wp_seq<|zg [none,none,none] [] [.adr 15 6 (.some 1) True,.v 16 _,.v 17 _,.v 18 _] [.o 3] O (oc (ob_a rfl rfl (za9 (lz0 2 rfl) zah)) (zv rfl (za4 0 rfl zk trivial (lz0 2 rfl) (Sub.part 1 rfl rfl) zb9) (zv rfl (zax Tryz.underlying23 (zq9 (vq 1 rfl))) (zv rfl (zev (vq 2 rfl) za3) o0)))) (zz [(18,_)] [⟨4,25,ptrH,_⟩,⟨5,25,ptrH,_⟩,⟨6,25,ptrH,_⟩] fun a w O=>?_)
 refine za0<|za8 O (zm 0 rfl) (fun hb0=>?_) (fun hb0=>?_)
 ·have h0:=len_nz hb0
  refine wp_skip<|za0<|wp_block<|wp_seq<|zg [none,none,none] [⟨7,25,ptrH,some 6,_,some (8,_)⟩,⟨8,25,ptrH,some 7,_,some (9,_)⟩] [.v 20 _,.v 21 _,.v 22 _,.v 19 _,.v 23 _,.v 24 _,.alc 3,.alc 4,.sto 3,.sto 4] [] O (zv rfl (zaq (lz0 1 rfl) zac) (zv rfl (zaq (lz0 2 rfl) zac) (zv rfl (za5 (xs:=[.tmp 20,.tmp 21]) ((zkp _ _ zo hx).wk (.cons ziz (.cons ziz .nil))) (.cons (vq 0 rfl) (.cons (vq 1 rfl) .nil))) (zv rfl (za1 (vq 2 rfl)) (zv rfl (zb4 (vq 3 rfl) rfl) (zv rfl (zb4 (vq 3 rfl) rfl) (oc (zas rfl rfl rfl (Str.zero zbo)) (oc (zas rfl rfl rfl (Str.zero zbo)) (oc (zak rfl rfl rfl (vq 4 rfl) zac (Eq.trans (b:=2) rfl rfl)) (oc (zak rfl rfl rfl (vq 5 rfl) zac (Eq.trans (b:=2) rfl rfl)) o0)))))))))) (zz [] [⟨4,25,ptrH,_⟩,⟨5,25,ptrH,_⟩,⟨6,25,ptrH,_⟩,⟨7,25,ptrH,_⟩,⟨8,25,ptrH,_⟩] fun a w O=>?_)
  refine za0<|zgd [[],[],[0],[0,1,2]] [none,some (2,_),some (3,_),none,none] [] [.v 25 _,.v 26 _,.sto 1,.sto 2] [] za6 O (zv rfl (zaq (lz0 2 rfl) zac) (zv rfl (zaq (lz0 4 rfl) zac) (oc (zak rfl rfl rfl (vq 0 rfl) zac (Eq.trans (b:=2) rfl rfl)) (oc (zak rfl rfl rfl (vq 1 rfl) zac (Eq.trans (b:=2) rfl rfl)) o0)))) zk zk zk zk (zz [] [⟨4,25,ptrH,_⟩,⟨5,25,ptrH,_⟩,⟨6,25,ptrH,_⟩,⟨7,25,ptrH,_⟩,⟨8,25,ptrH,_⟩] fun a w O=>?_)
  refine zae ?_
  refine za0 ?_
  have O:=St.sel O []
  have O:=St.selL O [0,1,2]
  exact ⟨x%n,Nat.mod_lt _ h0,n,⟨gcd_step hg,hn,lz_tmod hn h0⟩,O⟩
 ·obtain rfl:=len_z hb0
  refine wp_exit<|za7<|za7<|zap<|zt<|zg [some (1,_),none,none] [] [.v 27 _,.sto 0] [] O (zv rfl (zaq (lz0 1 rfl) zac) (oc (zak rfl rfl rfl (vq 0 rfl) zac (Eq.trans (b:=2) rfl rfl)) o0)) (zz [] [⟨4,25,ptrH,_⟩,⟨5,25,ptrH,_⟩,⟨6,25,ptrH,_⟩] fun a w O=>?_)
  refine za0<|wp_ret<|zao ?_ (zaj rfl O (zm 0 rfl) zac)
  exact congrArg (fun z:Nat=>(RIN (riOf (z:Int))).va) ((Nat.gcd_zero_right x).symm.trans hg)
theorem long1_c (x:RI):Cn Tryz.prog 192 [(RIA x).va] (Bo (decide ((x.mag.length:Int)>2048))):=by
 refine Cn.intro Tryz.func192 rfl zk nq (fun B w0 a O=>?_)
 have O:=zn [(0,(RIA x).va)] [] O
 refine wp_seq<|zg [] [⟨1,25,ptrH,some 0,_,none⟩] [.alc 0,.v 2 _] [.o 1] O (oc (zam rfl rfl rfl (gq 0 rfl)) (zv rfl (za2 zav) o0)) (zz [(2,_)] [⟨1,25,ptrH,_⟩] fun a w O=>?_)
 refine zt<|zg [none] [] [.adr 3 1 (.some 1) True,.v 4 _,.v 5 _,.v 6 _,.v 2 _] [.o 4] O (oc (ob_a rfl rfl (za9 (lz0 0 rfl) zah)) (zv rfl (za4 0 rfl zk trivial (lz0 0 rfl) (Sub.part 1 rfl rfl) zb9) (zv rfl (zax Tryz.underlying23 (vq 1 rfl)) (zv rfl (zev (vq 2 rfl) za3) (zv rfl (za2 (vq 3 rfl)) o0))))) (zz [(2,_)] [⟨1,25,ptrH,_⟩] fun a w O=>?_)
 exact za0<|wp_ret<|zaf rfl O (zm 0 rfl)
def bigI (x:RI):Bool:=decide ((x.mag.length:Int)>2048)
theorem long1_b (x:RI):Cn Tryz.prog 192 [(RIA x).va] (Bo (bigI x)):=long1_c x
theorem big_some {l:List RI}{j:Nat}(h:j<l.length)(h2:bigI l[j]=true):l.any bigI=true:=List.any_eq_true.2 ⟨_,List.getElem_mem h,h2⟩
theorem take_no {l:List RI}{j:Nat}(h:j<l.length)(h1:(l.take j).any bigI=false)(h2:bigI l[j]=false):(l.take (j+1)).any bigI=false:=by
 rw [List.take_succ_eq_append_getElem h,List.any_append,h1]
 simp [h2]
def IxV (b:Bool):VA where
 p _ v _:=∃ n:Int,v=.int .i64 n∧b=decide (n≥0)
 deps:=[]
 cg:=fun _ _ _ _ _ h=>h
 wr:=fun _ _ _ _ _ _ _ _ _ _ _ _ h=>h
theorem ix_of {n:Int}{b:Bool}(h:b=decide (n≥0)):Wk (In n) (IxV b):=fun _ _ _ hv=>⟨n,zbq hv,h⟩
theorem r_ix {P:Program}{Q:Exit→Act→World→Prop}{R:Rg}{B:Nat}{w0:Bs}{i:Nat}{x:Operand}{xt yt:TypeId}{b:Bool}(hx:Has R B w0 i x (IxV b)):Wv P Q R B w0 i (.binOp .geq xt x (.const (.int .i64 0)) yt) (Bo b) :=
 zbr fun _ _ _ _ _ a w av=>by
  obtain ⟨n,e1,rfl⟩:=hx a w av
  refine ⟨.bool (decide (n≥0)),w,?_,Grow.refl w,zlf _ _ _⟩
  have hg:(eqGuard .geq xt x (.const (.int .i64 0)) (.int .i64 n) (.int .i64 0)).run P w=.ok () w:=by unfold eqGuard; split <;> rfl
  have e2:a.eval (.const (.int .i64 0))=.int .i64 0:=rfl
  have hr:(binOp .geq xt (.int .i64 n) (.int .i64 0)).run P w=.ok (.bool (decide (n≥0))) w:=by rw [binOp_geq]; rfl
  simp only [execOp,e1,e2,Sem.run_bind,hg,hr,Result.andThen_ok,Sem.run_pure]
theorem index_c (l:List RI)(hl:l.length≤1099511627776):Cn Tryz.prog 212 [(SlA 25 [U32] (l.map RIA)).va,FnV Tryz.prog [] (fun x:RI=>[(RIA x).va]) (fun x=>Bo (bigI x))] (IxV (l.any bigI)):=by
 refine Cn.intro Tryz.func212 rfl zk nq (fun B w0 a O=>?_)
 have O:=zn [(0,(SlA 25 [U32] (l.map RIA)).va),(1,FnV Tryz.prog [] (fun x:RI=>[(RIA x).va]) (fun x=>Bo (bigI x)))] [] O
 refine wp_seq<|zh [.v 4 _] [.g 0,.g 1,.o 0] O (zv rfl (za2 za3) o0) (zz [(0,_),(1,_),(4,_)] [] fun a w O=>?_)
 refine zt<|wp_seq<|zh [.v 6 _,.v 7 _,.v 8 _] [.g 0,.g 1,.g 2,.o 1,.o 2] O (zv rfl (za1 (gq 0 rfl)) (zv rfl (zbk Tryz.underlying217 (vq 0 rfl)) (zv rfl (za1 za3) o0))) (zz [(0,_),(1,_),(4,_),(7,_),(8,_)] [] fun a w O=>?_)
 refine za0<|wp_block ?_
 have O:=St.sel O [0,1,3,4]
 refine wp_loop_ghost (fun n a w=>∃ j:Nat,(n+j=l.length∧(l.take j).any bigI=false)∧St B w0 19 [(0,(SlA 25 [U32] (l.map RIA)).va),(1,FnV Tryz.prog [] (fun x:RI=>[(RIA x).va]) (fun x=>Bo (bigI x))),(7,In (l.length:Nat)),(8,In (j:Nat))] [] a w) (l.length) ?_ ?_
 ·exact ⟨0,⟨by omega,rfl⟩,by rw [List.length_map] at O; exact O⟩
 intro n a w hI
 obtain ⟨j,⟨hn,hno⟩,O⟩:=hI
 refine wp_seq<|zh [.v 9 _] [.g 0,.g 1,.g 2,.g 3,.o 0] O (zv rfl (zb1 (gq 3 rfl) (gq 2 rfl)) o0) (zz [(0,_),(1,_),(7,_),(8,_),(9,_)] [] fun a w O=>?_)
 refine zt<|za8 O (zm 4 rfl) (fun hb0=>?_) (fun hb0=>?_)
 ·have hj:j<l.length:=by simp at hb0; omega
  refine wp_skip<|zt<|wp_block<|wp_seq<|zh [.v 10 _,.v 5 _] [.g 0,.g 1,.g 2,.g 3,.o 1] O (zv rfl (za1 (gq 3 rfl)) (zv rfl (za2 (vq 0 rfl)) o0)) (zz [(0,_),(1,_),(7,_),(8,_),(5,_)] [] fun a w O=>?_)
  refine zt<|zh [.v 11 _,.v 12 _,.v 13 _,.v 14 _,.v 15 _,.v 16 _] [.g 0,.g 1,.g 2,.g 3,.g 4,.o 5] O (zv rfl (za1 (gq 1 rfl)) (zv rfl (za1 (gq 0 rfl)) (zv rfl (za1 (gq 4 rfl)) (zv rfl (zd0 zvg (zgp fun _=>rfl) (vq 1 rfl) (vq 2 rfl) (ze1 hj)) (zv rfl (zad (vq 3 rfl) zac) (zv rfl (r_callv (xs:=[.tmp 15]) _ (vq 0 rfl) (.cons (vq 4 rfl) .nil)) o0)))))) (zz [(0,_),(1,_),(7,_),(8,_),(5,_),(16,_)] [] fun a w O=>?_)
  refine za0<|za8 O (zm 5 rfl) (fun hb1=>?_) (fun hb1=>?_)
  ·refine wp_seq<|zh [.v 17 _,.v 4 _] [.g 0,.g 1,.g 2,.g 3,.o 1] O (zv rfl (za1 (gq 4 rfl)) (zv rfl (za2 (vq 0 rfl)) o0)) (zz [(0,_),(1,_),(7,_),(8,_),(4,_)] [] fun a w O=>?_)
   refine za0<|wp_ret<|zba ?_
   refine zag ?_
   refine zag ?_
   refine zba ?_
   refine zag ?_
   refine zai ?_ (zaf rfl O (zm 4 rfl))
   exact ix_of (by rw [big_some hj hb1]; simp)
  ·refine wp_skip<|zae ?_
   refine za0<|zh [.v 18 _,.v 8 _] [.g 0,.g 1,.g 2,.o 1] O (zv rfl (zb5 (gq 3 rfl) za3 (zb3 zo)) (zv rfl (za1 (vq 0 rfl)) o0)) (zz [(0,_),(1,_),(7,_),(8,_)] [] fun a w O=>?_)
   refine za0 ?_
   have O:=St.sel O [0,1,2,3]
   exact ⟨n-1,by omega,j+1,⟨by omega,take_no hj hno hb1⟩,O⟩
 ·obtain rfl:j=l.length:=by simp at hb0; omega
  refine wp_exit<|za7<|za7<|zap<|zt<|zh [.v 4 _] [.o 0] O (zv rfl (za2 za3) o0) (zz [(4,_)] [] fun a w O=>?_)
  refine za0<|wp_ret<|zai ?_ (zaf rfl O (zm 0 rfl))
  exact ix_of (by rw [List.take_length] at hno; rw [hno]; rfl)
theorem zuk (l:List RI)(hl:l.length≤1099511627776):Cn Tryz.prog 191 [(SlA 25 [U32] (l.map RIA)).va,FnV Tryz.prog [] (fun x:RI=>[(RIA x).va]) (fun x=>Bo (bigI x))] (Bo (l.any bigI)):=by
 refine Cn.intro Tryz.func191 rfl zk nq (fun B w0 a O=>?_)
 have O:=zn [(0,(SlA 25 [U32] (l.map RIA)).va),(1,FnV Tryz.prog [] (fun x:RI=>[(RIA x).va]) (fun x=>Bo (bigI x)))] [] O
 refine wp_seq<|zh [.v 4 _] [.g 0,.g 1,.o 0] O (zv rfl (za2 zav) o0) (zz [(0,_),(1,_),(4,_)] [] fun a w O=>?_)
 refine zt<|zh [.v 5 _,.v 6 _,.v 7 _,.v 8 _,.v 4 _] [.o 4] O (zv rfl (za1 (gq 0 rfl)) (zv rfl (za1 (gq 1 rfl)) (zv rfl (za5 (xs:=[.tmp 5,.tmp 6]) (index_c _ hl) (.cons (vq 0 rfl) (.cons (vq 1 rfl) .nil))) (zv rfl (r_ix (vq 2 rfl)) (zv rfl (za2 (vq 3 rfl)) o0))))) (zz [(4,_)] [] fun a w O=>?_)
 exact za0<|wp_ret<|zaf rfl O (zm 0 rfl)
theorem zxk (l:List RI)(hl:l.length≤1099511627776):Cn Tryz.prog 165 [(SlA 25 [U32] (l.map RIA)).va] (Bo (l.any bigI)):=by
 refine Cn.intro Tryz.func165 rfl zk nq (fun B w0 a O=>?_)
 have O:=zn [(0,(SlA 25 [U32] (l.map RIA)).va)] [] O
 refine wp_seq<|zh [.v 2 _] [.g 0,.o 0] O (zv rfl (za2 zav) o0) (zz [(0,_),(2,_)] [] fun a w O=>?_)
 refine zt<|zh [.v 3 _,.v 4 _,.v 2 _] [.o 2] O (zv rfl (za1 (gq 0 rfl)) (zv rfl (za5 (xs:=[.tmp 3,.func 192]) (zuk _ hl) (.cons (vq 0 rfl) (.cons (has_func long1_b) .nil))) (zv rfl (za2 (vq 1 rfl)) o0))) (zz [(2,_)] [] fun a w O=>?_)
 exact za0<|wp_ret<|zaf rfl O (zm 0 rfl)
end Go.Proofs.YthdbhckhignfcaaGreatDoor
namespace Go.Proofs.YthdbhckhignfcaaGreatDoor
open Go Go.RowKit
theorem zx9 {z:Int}{k:Nat}(h:z.natAbs<4294967296^k):lz z≤k:=zej h
theorem zew (p q:Int):lz (p*q)≤lz p+lz q:=by
 apply zx9
 rw [Int.natAbs_mul,Nat.pow_add]
 exact Nat.mul_lt_mul'' (zfk p) (zfk q)
theorem zlx (p q:Int):lz (p+q)≤max (lz p) (lz q)+1:=by
 apply zx9
 have h1:p.natAbs<4294967296^max (lz p) (lz q):=Nat.lt_of_lt_of_le (zfk p) (Nat.pow_le_pow_right zd (Nat.le_max_left _ _))
 have h2:q.natAbs<4294967296^max (lz p) (lz q):=Nat.lt_of_lt_of_le (zfk q) (Nat.pow_le_pow_right zd (Nat.le_max_right _ _))
 have h3:=Int.natAbs_add_le p q
 rw [Nat.pow_succ]
 omega
theorem lz_sub (p q:Int):lz (p-q)≤max (lz p) (lz q)+1:=by have:=zlx p (-q); rw [zhm] at this; exact this
theorem zkb (p q:Int):lz (p.tdiv q)≤lz p:=zg1 (by rw [zji]; exact Nat.div_le_self _ _)
theorem lz_tm {p q:Int}(h:q≠0):lz (p.tmod q)≤lz q:=zg1 (by rw [zhk]; exact Nat.le_of_lt (Nat.mod_lt _ zo))
theorem zxa (p q:Int):lz ((Int.gcd p q:Nat):Int)≤max (lz p) (lz q):=by
 by_cases h:p=0
 ·subst h
  have:lz ((Int.gcd 0 q:Nat):Int)=lz q:=by simp [lz]
  omega
 ·have:lz ((Int.gcd p q:Nat):Int)≤lz p:=zg1 (by
   have:Int.gcd p q≤p.natAbs:=Nat.le_of_dvd zo (Nat.gcd_dvd_left _ _)
   omega)
  omega
def ZA (k:Nat)(z:Int):As:=(RIA (riOf z)).and (lz z≤k)
abbrev Zs (k:Nat)(z:Int):VA:=(ZA k z).va
theorem wk_z {k:Nat}{z:Int}:Wk (Zs k z) (Zi z):=fun _ _ _ h=>(zed h).2
theorem zs_le {k B:Nat}{z:Int}{v:Value}{w:World}(h:(Zs k z).p B v w):lz z≤k:=(zed h).1
theorem zgx {k:Nat}{z:Int}(h:lz z≤k):Wk (Zi z) (Zs k z):=fun _ _ _ hp=>va_and h hp
section
variable {P:Program} {f:FuncId} {post:VA} {a b:Nat} {p q:Int}
theorem zs1 (hex : ∃ fn, P.funcs[f]? = some fn ∧ (fn.name == "runtime.NumGoroutine") = false ∧ fn.body.isNone = false) (h : lz p ≤ a → Cn P f [Zi p] post) : Cn P f [Zs a p] post :=
 Cn.know (c:=lz p≤a) hex (fun B w args ha=>by cases ha with | cons h1 _=>exact zs_le h1) fun hc=>(h hc).wk (.cons wk_z .nil)
theorem zs2 (hex : ∃ fn, P.funcs[f]? = some fn ∧ (fn.name == "runtime.NumGoroutine") = false ∧ fn.body.isNone = false) (h : lz p ≤ a → lz q ≤ b → Cn P f [Zi p, Zi q] post) : Cn P f [Zs a p, Zs b q] post :=
 Cn.know (c:=lz p≤a∧lz q≤b) hex (fun B w args ha=>by cases ha with | cons h1 ha=>cases ha with | cons h2 _=>exact ⟨zs_le h1,zs_le h2⟩) fun hc=>(h hc.1 hc.2).wk (.cons wk_z (.cons wk_z .nil))
end
theorem zc6 {A A' A'':VA}(h:Wk A A')(h':Wk A' A''):Wk A A'':=fun B v w hp=>h' B v w (h B v w hp)
theorem zbt {A A':VA}(h:A=A'):Wk A A':=h▸zbn
theorem all_wk {l l':List VA}(h:All2 Wk l l'){B:Nat}{w:World}:∀ {vs:List Value},All2 (fun (A:VA) v=>A.p B v w) l vs→All2 (fun (A:VA) v=>A.p B v w) l' vs:=by
 induction h with
 | nil=>intro vs hp; cases hp; exact .nil
 | cons h1 _ ih=>intro vs hp; cases hp with | cons h2 h3=>exact .cons (h1 _ _ _ h2) (ih h3)
theorem zzx {l l':List VA}(h:All2 Wk l l'):Wk (Tu l) (Tu l'):=fun _ _ _ ⟨vs,hv,hp⟩=>⟨vs,hv,all_wk h hp⟩
def sg3 (p q:Int):Int:=if p<q then -1 else if q<p then 1 else 0
theorem zdt (p:Int):sgI (riOf p)=p.sign:=by
 unfold sgI
 by_cases h:p=0
 ·subst h; simp [riOf,zbv]
 ·have:=zj3 h
  rw [zeu,if_neg zo]
  by_cases h2:p<0
  ·simp [riOf,h2,Int.sign_eq_neg_one_of_neg h2]
  ·have:0<p:=by omega
   simp [riOf,h2,Int.sign_eq_one_of_pos this]
theorem sizeL_sg (m n:Nat):(sizeL (limbs m) (limbs n)<0↔m<n)∧(sizeL (limbs m) (limbs n)=0↔m=n)∧(0<sizeL (limbs m) (limbs n)↔n<m):=by
 have:=(ze8 (m:=m) (n:=n))
 omega
theorem cmp_ri (p q:Int):cmpI (riOf p) (riOf q)=sg3 p q:=by
 unfold cmpI
 rw [zdt,zdt]
 have h:=sizeL_sg p.natAbs q.natAbs
 have e1:(riOf p).mag=limbs p.natAbs:=rfl
 have e2:(riOf q).mag=limbs q.natAbs:=rfl
 rw [e1,e2]
 generalize sizeL (limbs p.natAbs) (limbs q.natAbs)=s at *
 have hp:p.sign=if p<0 then -1 else if p=0 then 0 else 1:=by
  rcases Int.lt_trichotomy p 0 with h | h | h
  ·rw [if_pos h,Int.sign_eq_neg_one_of_neg h]
  ·subst h; rfl
  ·rw [if_neg zo,if_neg zo,Int.sign_eq_one_of_pos h]
 have hq:q.sign=if q<0 then -1 else if q=0 then 0 else 1:=by
  rcases Int.lt_trichotomy q 0 with h | h | h
  ·rw [if_pos h,Int.sign_eq_neg_one_of_neg h]
  ·subst h; rfl
  ·rw [if_neg zo,if_neg zo,Int.sign_eq_one_of_pos h]
 have hn:(riOf p).neg=decide (p<0):=rfl
 rw [hp,hq,hn]
 unfold sg3
 by_cases h1:p<0
 ·by_cases h2:q<0
  ·simp only [h1,h2,if_true,decide_true]; rw [if_neg zo]; split <;> (try split) <;> omega
  ·rw [if_pos h1,if_neg h2,if_pos (by split <;> omega),if_pos (by split <;> omega),if_pos zo]
 ·by_cases h2:q<0
  ·rw [if_neg h1,if_pos h2,if_pos (by split <;> omega),if_neg (by split <;> omega),if_neg zo,if_pos zo]
  ·simp only [h1,h2,if_false,decide_false]
   by_cases h3:p=0 <;> by_cases h4:q=0 <;> simp only [h3,h4,if_true,if_false]
   ·rw [if_neg zo]; simp; omega
   ·rw [if_pos zo,if_pos zo,if_pos zo]
   ·rw [if_pos zo,if_neg zo,if_neg zo,if_pos zo]
   ·rw [if_neg zo]; simp only [Bool.false_eq_true,if_false]; split <;> (try split) <;> omega
theorem zr4 (p q:Int):rsig ((riOf p).neg != (riOf q).neg) (digs ((riOf p).mag.length+(riOf q).mag.length) (val (riOf p).mag*val (riOf q).mag))=riOf (p*q):=by
 rw [zbx,zbx]
 refine zcg (zc7 _ _) ?_ fun hz=>?_
 ·rw [ze2,Nat.mod_eq_of_lt,Int.natAbs_mul]
  rw [zeu,zeu,Nat.pow_add]
  exact Nat.mul_lt_mul'' (zfk p) (zfk q)
 ·have hp:p≠0:=fun e=>hz (by rw [e,Int.zero_mul])
  have hq:q≠0:=fun e=>hz (by rw [e,Int.mul_zero])
  show (decide (p<0) != decide (q<0))=decide (p*q<0)
  by_cases h1:p<0 <;> by_cases h2:q<0
  ·have:=Int.mul_pos_of_neg_of_neg h1 h2; simp [h1,h2]; omega
  ·have:=Int.mul_neg_of_neg_of_pos h1 (by omega:0<q); simp [h1,h2]; omega
  ·have:=Int.mul_neg_of_pos_of_neg (by omega:0<p) h2; simp [h1,h2]; omega
  ·have:=Int.mul_pos (by omega:0<p) (by omega:0<q); simp [h1,h2]; omega
theorem zss : ∃ fn, Tryz.prog.funcs[164]? = some fn ∧ (fn.name == "runtime.NumGoroutine") = false ∧ fn.body.isNone = false := ⟨_, Tryz.func164, by kernel_rfl, by kernel_rfl⟩
theorem zyu : ∃ fn, Tryz.prog.funcs[161]? = some fn ∧ (fn.name == "runtime.NumGoroutine") = false ∧ fn.body.isNone = false := ⟨_, Tryz.func161, by kernel_rfl, by kernel_rfl⟩
theorem ex_Minus : ∃ fn, Tryz.prog.funcs[189]? = some fn ∧ (fn.name == "runtime.NumGoroutine") = false ∧ fn.body.isNone = false := ⟨_, Tryz.func189, by kernel_rfl, by kernel_rfl⟩
theorem ex_Cmp : ∃ fn, Tryz.prog.funcs[155]? = some fn ∧ (fn.name == "runtime.NumGoroutine") = false ∧ fn.body.isNone = false := ⟨_, Tryz.func155, by kernel_rfl, by kernel_rfl⟩
theorem ex_Sign : ∃ fn, Tryz.prog.funcs[154]? = some fn ∧ (fn.name == "runtime.NumGoroutine") = false ∧ fn.body.isNone = false := ⟨_, Tryz.func154, by kernel_rfl, by kernel_rfl⟩
theorem zp6 : ∃ fn, Tryz.prog.funcs[184]? = some fn ∧ (fn.name == "runtime.NumGoroutine") = false ∧ fn.body.isNone = false := ⟨_, Tryz.func184, by kernel_rfl, by kernel_rfl⟩
theorem zyv : ∃ fn, Tryz.prog.funcs[156]? = some fn ∧ (fn.name == "runtime.NumGoroutine") = false ∧ fn.body.isNone = false := ⟨_, Tryz.func156, by kernel_rfl, by kernel_rfl⟩
theorem zys : ∃ fn, Tryz.prog.funcs[190]? = some fn ∧ (fn.name == "runtime.NumGoroutine") = false ∧ fn.body.isNone = false := ⟨_, Tryz.func190, by kernel_rfl, by kernel_rfl⟩
section
variable {a b:Nat} {p q:Int} (ha:a≤1099511627776)
include ha
theorem zr1:Cn Tryz.prog 190 [Zs a p] (Zs a (-p)):=zs1 zys fun h=>(zv3 p zo).wkp (zgx (by rw [zhm]; exact h))
variable (hb:b≤1099511627776)
include hb
theorem zf7:Cn Tryz.prog 164 [Zs a p,Zs b q] (Zs (a+b) (p*q)):=zs2 zss fun h h'=>(zva (riOf p) (riOf q) (by rw [zeu]; omega) (by rw [zeu]; omega)).wkp (zc6 (zc6 ziz (zbt (congrArg (fun x=>(RIA x).va) (zr4 p q)))) (zgx (by have:=zew p q; omega)))
theorem plus_z:Cn Tryz.prog 161 [Zs a p,Zs b q] (Zs (max a b+1) (p+q)):=zs2 zyu fun h h'=>(plus_c p q zo zo).wkp (zgx (by have:=zlx p q; omega))
theorem minus_z:Cn Tryz.prog 189 [Zs a p,Zs b q] (Zs (max a b+1) (p-q)):=zs2 ex_Minus fun h h'=>(zx6 p q zo zo).wkp (zgx (by have:=lz_sub p q; omega))
theorem cmp_z:Cn Tryz.prog 155 [Zs a p,Zs b q] (In (sg3 p q)):=zs2 ex_Cmp fun h h'=>(cmpI_c (riOf p) (riOf q) (by rw [zeu]; omega) (by rw [zeu]; omega)).post (by rw [cmp_ri])
theorem zt2:Cn Tryz.prog 156 [Zs a p,Zs b q] (Zs (max a b) ((Int.gcd p q:Nat):Int)):=zs2 zyv fun h h'=>(zt3 p q zo zo).wkp (zc6 ziz (zgx (by have:=zxa p q; omega)))
omit hb in
theorem zsy (hq:q≠0):Cn Tryz.prog 184 [Zs a p,Zs b q] (Tu [Zs a (p.tdiv q),Zs b (p.tmod q)]):=zs2 zp6 fun h h'=>(zkp p q hq zo).wkp (zzx (.cons (zc6 ziz (zgx (by have:=zkb p q; omega))) (.cons (zc6 ziz (zgx (by have:=lz_tm (p:=p) hq; omega))) .nil)))
end
theorem zvj {a:Nat}{p:Int}:Cn Tryz.prog 154 [Zs a p] (In p.sign):=zs1 ex_Sign fun _=>(zr9 (riOf p)).post (by rw [zdt])
theorem of_z {n:Int}(h0 : -9223372036854775808≤n)(h1:n<9223372036854775808):Cn Tryz.prog 157 [In n] (Zs 2 n):=(of_c n h0 h1).wkp (zgx (zx9 zo))
def QA (k:Nat)(r:Rat):As:=cat [ZA k r.num,ZA k (r.den:Int)]
abbrev Qs (k:Nat)(r:Rat):VA:=(QA k r).va
def WkA (A A':As):Prop:=A'.n=A.n∧A'.ag=A.ag∧∀ B cs w,A.p B cs w→A'.p B cs w
theorem WkA.va {A A':As}(h:WkA A A'):Wk A.va A'.va:=fun B v w ⟨cs,hp,hv⟩=>⟨cs,h.2.2 B cs w hp,by rw [h.2.1]; exact hv⟩
theorem WkA.refl (A:As):WkA A A:=⟨rfl,rfl,fun _ _ _ h=>h⟩
theorem WkA.trans {A A' A'':As}(h:WkA A A')(h':WkA A' A''):WkA A A'':=⟨h'.1.trans h.1,h'.2.1.trans h.2.1,fun B cs w hp=>h'.2.2 B cs w (h.2.2 B cs w hp)⟩
theorem zju {A A':As}(h:A=A'):WkA A A':=h▸WkA.refl A
theorem zc1 {l l':List As}(h:All2 WkA l l'):WkA (cat l) (cat l'):=by
 have key:∀ {l l':List As},All2 WkA l l'→(cat l').n=(cat l).n∧∀ B ps w,All2 (fun (A:As) c=>A.p B c w) l ps→All2 (fun (A:As) c=>A.p B c w) l' ps:=by
  intro l l' h
  induction h with
  | nil=>exact ⟨rfl,fun B ps w h=>by cases h; exact .nil⟩
  | cons h1 _ ih =>
   refine ⟨?_,fun B ps w h=>?_⟩
   ·have:=ih.1
    simp only [cat,List.map_cons,List.sum_cons] at this ⊢
    rw [h1.1,this]
   ·cases h with
    | cons h2 h3=>exact .cons (h1.2.2 _ _ _ h2) (ih.2 _ _ _ h3)
 exact ⟨(key h).1,rfl,fun B cs w ⟨ps,e1,e2⟩=>⟨ps,e1,(key h).2 B ps w e2⟩⟩
theorem zaA {k:Nat}{z:Int}:WkA (ZA k z) (RIA (riOf z)):=⟨rfl,rfl,fun _ _ _ h=>h.2⟩
theorem za_of {k:Nat}{z:Int}(h:lz z≤k):WkA (RIA (riOf z)) (ZA k z):=⟨rfl,rfl,fun _ _ _ hp=>⟨h,hp⟩⟩
theorem zfv {k k':Nat}{z:Int}(h:k≤k'):WkA (ZA k z) (ZA k' z):=⟨rfl,rfl,fun _ _ _ hp=>⟨Nat.le_trans hp.1 h,hp.2⟩⟩
theorem qaA {k:Nat}{r:Rat}:WkA (QA k r) (RFA (rfOf r)):=zc1 (.cons zaA (.cons zaA .nil))
theorem qa_of {k:Nat}{r:Rat}(h:lz r.num≤k)(h':lz (r.den:Int)≤k):WkA (RFA (rfOf r)) (QA k r):=zc1 (.cons (za_of h) (.cons (za_of h') .nil))
theorem zbp {k k':Nat}{r:Rat}(h:k≤k'):WkA (QA k r) (QA k' r):=zc1 (.cons (zfv h) (.cons (zfv h) .nil))
theorem St.wkL {B N:Nat}{w0:Bs}{Γ:List (Nat × VA)}{Λ:List Lc}{a:Act}{w:World}(h:St B w0 N Γ Λ a w){s:Nat}{T:TypeId}{H:Hd}{A A':As}(k:Nat)(hm:Λ[k]?=some ⟨s,T,H,A⟩)(e:WkA A A'):St B w0 N Γ (Λ.set k ⟨s,T,H,A'⟩) a w:=by
 obtain ⟨hk,he⟩:=List.getElem?_eq_some_iff.1 hm
 have hset:∀ l∈Λ.set k ⟨s,T,H,A'⟩,l=⟨s,T,H,A'⟩∨l∈Λ:=fun l hl=>(List.mem_or_eq_of_mem_set hl).symm
 have hin:(⟨s,T,H,A⟩:Lc)∈Λ:=List.mem_of_getElem? hm
 have hd:∀ l∈Λ.set k ⟨s,T,H,A'⟩,∃ l'∈Λ,l'.s=l.s:=fun l hl=>by
  rcases hset l hl with rfl | hl
  ·exact ⟨_,hin,rfl⟩
  ·exact ⟨l,hl,rfl⟩
 refine ⟨h.lo,h.defers,h.size,h.base,h.vals,fun l hl=>?_,fun l hl m hm' hne=>?_⟩
 ·rcases hset l hl with rfl | hl
  ·obtain ⟨g,cs,h1,h2,h3,h4⟩:=h.locs _ hin
   exact ⟨g,cs,h1,h2,h3,e.2.2 _ _ _ h4⟩
  ·exact h.locs l hl
 ·obtain ⟨l',hl',e1⟩:=hd l hl
  obtain ⟨m',hm'',e2⟩:=hd m hm'
  have:=h.dis l' hl' m' hm'' (by rw [e1,e2]; exact hne)
  rw [e1,e2] at this
  exact this
theorem zya {n:Nat}(h:(sg3 ((n:Nat):Int) 1 != 0)=false):n=1:=by
 unfold sg3 at h
 simp at h
 split at h
 ·simp at h
 ·split at h
  ·simp at h
  ·omega
theorem zr5 {n:Nat}{x:Int}(h:(sg3 ((n:Nat):Int) 1 != 0)=false):x=x.tdiv ((n:Nat):Int):=by rw [zya h,Int.natCast_one,Int.tdiv_one]
theorem zpo {z:Int}(h:decide (z.sign<0)=true):z<0:=Int.sign_neg_iff.1 (of_decide_eq_true h)
theorem zvo {z:Int}(h:decide (z.sign<0)=false):¬ z<0:=fun hh=>of_decide_eq_false h (Int.sign_neg_iff.2 hh)
theorem zn4 {p q:Int}(hq:q≠0):(if q.tdiv (Int.gcd p q:Nat)<0 then -(p.tdiv (Int.gcd p q:Nat)) else p.tdiv (Int.gcd p q:Nat))=(Rat.divInt p q).num ∧
  (if q.tdiv (Int.gcd p q:Nat)<0 then -(q.tdiv (Int.gcd p q:Nat)) else q.tdiv (Int.gcd p q:Nat))=((Rat.divInt p q).den:Int):=by
 have hg:0<Int.gcd p q:=Int.gcd_pos_of_ne_zero_right p hq
 have d1:((Int.gcd p q:Nat):Int)∣p:=Int.gcd_dvd_left ..
 have d2:((Int.gcd p q:Nat):Int)∣q:=Int.gcd_dvd_right ..
 rw [Rat.num_divInt,Rat.den_divInt,if_neg hq,Int.gcd_comm q p]
 generalize Int.gcd p q=g at *
 obtain ⟨x,rfl⟩:=d1
 obtain ⟨y,rfl⟩:=d2
 have hg':(g:Int)≠0:=by omega
 rw [Int.mul_tdiv_cancel_left _ hg',Int.mul_tdiv_cancel_left _ hg']
 have hy:y≠0:=fun e=>hq (by rw [e,Int.mul_zero])
 have e2:((g:Int)*y).natAbs/g=y.natAbs:=by rw [Int.natAbs_mul]; exact Nat.mul_div_cancel_left _ hg
 rw [e2]
 by_cases h:y<0
 ·have h1:(g:Int)*y<0:=Int.mul_neg_of_pos_of_neg zo h
  rw [Int.sign_eq_neg_one_of_neg h1,if_pos h,if_pos h]
  refine ⟨?_,by omega⟩
  rw [show (-1:Int)*(g*x)=g*(-x) by rw [Int.mul_neg]; omega,Int.mul_ediv_cancel_left _ hg']
 ·have h1:0<(g:Int)*y:=Int.mul_pos zo zo
  rw [Int.sign_eq_one_of_pos h1,if_neg h,if_neg h,Int.one_mul,Int.mul_ediv_cancel_left _ hg']
  exact ⟨rfl,by omega⟩
theorem zh1 {p q:Int}(hq:q≠0):lz (Rat.divInt p q).num≤lz p∧lz ((Rat.divInt p q).den:Int)≤lz q:=by
 obtain ⟨h1,h2⟩:=zn4 (p:=p) hq
 rw [← h1,← h2]
 have a1:=zkb p (Int.gcd p q:Nat)
 have a2:=zkb q (Int.gcd p q:Nat)
 constructor <;> split <;> first | (rw [zhm]; assumption) | assumption
theorem zjj {c d:Nat}{p q:Int}(hc:c≤1099511627776)(hd:d≤1099511627776)(hq:q≠0):Cn Tryz.prog 163 [Zs c p,Zs d q] (Qs (max c d) (Rat.divInt p q)):=by
 have hg0:0<Int.gcd p q:=Int.gcd_pos_of_ne_zero_right p hq
 obtain ⟨hn1,hn2⟩:=zn4 (p:=p) hq
 refine Cn.intro Tryz.func163 rfl zk nq (fun B w0 a O=>?_)
 have O:=zn [(0,Zs c p),(1,Zs d q)] [] O
 refine wp_seq<|zg [] [⟨2,25,ptrH,some 0,_,none⟩,⟨3,25,ptrH,some 1,_,none⟩,⟨4,27,ptrH,some 2,_,none⟩] [.alc 0,.alc 1,.alc 2] [] O (oc (zam rfl rfl rfl (gq 0 rfl)) (oc (zam rfl rfl rfl (gq 1 rfl)) (oc (zas rfl rfl rfl (Str.zero zbe)) o0))) (zz [] [⟨2,25,ptrH,_⟩,⟨3,25,ptrH,_⟩,⟨4,27,ptrH,_⟩] fun a w O=>?_)
 refine zt<|wp_seq<|zg [none,none,none] [⟨5,25,ptrH,some 3,_,some (4,_)⟩] [.v 6 _,.v 7 _,.v 8 _,.alc 3,.sto 3] [] O (zv rfl (zaq (lz0 0 rfl) zac) (zv rfl (zaq (lz0 1 rfl) zac) (zv rfl (za5 (xs:=[.tmp 6,.tmp 7]) (zt2 zo zo) (.cons (vq 0 rfl) (.cons (vq 1 rfl) .nil))) (oc (zas rfl rfl rfl (Str.zero zbo)) (oc (zak rfl rfl rfl (vq 2 rfl) zac (Eq.trans (b:=2) rfl rfl)) o0))))) (zz [] [⟨2,25,ptrH,_⟩,⟨3,25,ptrH,_⟩,⟨4,27,ptrH,_⟩,⟨5,25,ptrH,_⟩] fun a w O=>?_)
 refine zt<|zgd [[],[],[0,1],[0,1,2]] [none,none,none,none] [] [.v 9 _,.v 10 _,.v 11 _,.v 12 _] [.o 3] za6 O (zv rfl (zaq (lz0 3 rfl) zac) (zv rfl (za5 (xs:=[.const (.int .i64 (1))]) (of_z zd zd) (.cons za3 .nil)) (zv rfl (za5 (xs:=[.tmp 9,.tmp 10]) (cmp_z zo zo) (.cons (vq 0 rfl) (.cons (vq 1 rfl) .nil))) (zv rfl (zdw (vq 2 rfl) za3) o0)))) zk zk zk zk (zz [(12,_)] [⟨2,25,ptrH,_⟩,⟨3,25,ptrH,_⟩,⟨4,27,ptrH,_⟩,⟨5,25,ptrH,_⟩] fun a w O=>?_)
 refine za0<|zcn (fun a w =>  St B w0 35 [] [⟨2,25,ptrH,ZA c (p.tdiv ((Int.gcd p q:Nat):Int))⟩,⟨3,25,ptrH,ZA d (q.tdiv ((Int.gcd p q:Nat):Int))⟩,⟨4,27,ptrH,RFA ⟨⟨false,[]⟩,⟨false,[]⟩⟩⟩,⟨5,25,ptrH,ZA (max c d) ((Int.gcd p q:Nat):Int)⟩] a w) O (zm 0 rfl) (fun hb0=>?_) (fun hb0=>?_) (fun a w O=>?_)
 ·refine wp_seq<|zg [some (6,_),none,none,none] [] [.v 14 _,.v 15 _,.v 16 _,.v 13 _,.v 17 _,.v 18 _,.sto 0] [] O (zv rfl (zaq (lz0 0 rfl) zac) (zv rfl (zaq (lz0 3 rfl) zac) (zv rfl (za5 (xs:=[.tmp 14,.tmp 15]) (zsy zo zo) (.cons (vq 0 rfl) (.cons (vq 1 rfl) .nil))) (zv rfl (za1 (vq 2 rfl)) (zv rfl (zb4 (vq 3 rfl) rfl) (zv rfl (zb4 (vq 3 rfl) rfl) (oc (zak rfl rfl rfl (vq 4 rfl) zac (Eq.trans (b:=2) rfl rfl)) o0))))))) (zz [] [⟨2,25,ptrH,_⟩,⟨3,25,ptrH,_⟩,⟨4,27,ptrH,_⟩,⟨5,25,ptrH,_⟩] fun a w O=>?_)
  refine za0<|zg [none,some (6,_),none,none] [] [.v 20 _,.v 21 _,.v 22 _,.v 19 _,.v 23 _,.v 24 _,.sto 1] [] O (zv rfl (zaq (lz0 1 rfl) zac) (zv rfl (zaq (lz0 3 rfl) zac) (zv rfl (za5 (xs:=[.tmp 20,.tmp 21]) (zsy zo zo) (.cons (vq 0 rfl) (.cons (vq 1 rfl) .nil))) (zv rfl (za1 (vq 2 rfl)) (zv rfl (zb4 (vq 3 rfl) rfl) (zv rfl (zb4 (vq 3 rfl) rfl) (oc (zak rfl rfl rfl (vq 4 rfl) zac (Eq.trans (b:=2) rfl rfl)) o0))))))) (zz [] [⟨2,25,ptrH,_⟩,⟨3,25,ptrH,_⟩,⟨4,27,ptrH,_⟩,⟨5,25,ptrH,_⟩] fun a w O=>?_)
  refine za0 ?_
  have O:=St.sel O []
  exact O
 ·refine wp_skip<|za0 ?_
  have O:=St.sel O []
  have O:=St.cvA (A':=ZA c (p.tdiv ((Int.gcd p q:Nat):Int))) O 0 rfl (congrArg (ZA c) (zr5 hb0))
  have O:=St.cvA (A':=ZA d (q.tdiv ((Int.gcd p q:Nat):Int))) O 1 rfl (congrArg (ZA d) (zr5 hb0))
  exact O
 refine zt<|wp_seq<|zg [none,none,none,none] [] [.v 25 _,.v 26 _,.v 27 _] [.o 2] O (zv rfl (zaq (lz0 1 rfl) zac) (zv rfl (za5 (xs:=[.tmp 25]) zvj (.cons (vq 0 rfl) .nil)) (zv rfl (zb1 (vq 1 rfl) za3) o0))) (zz [(27,_)] [⟨2,25,ptrH,_⟩,⟨3,25,ptrH,_⟩,⟨4,27,ptrH,_⟩,⟨5,25,ptrH,_⟩] fun a w O=>?_)
 refine za0<|zcn (fun a w =>  St B w0 35 [] [⟨2,25,ptrH,ZA c (Rat.divInt p q).num⟩,⟨3,25,ptrH,ZA d ((Rat.divInt p q).den:Int)⟩,⟨4,27,ptrH,RFA ⟨⟨false,[]⟩,⟨false,[]⟩⟩⟩,⟨5,25,ptrH,ZA (max c d) ((Int.gcd p q:Nat):Int)⟩] a w) O (zm 0 rfl) (fun hb1=>?_) (fun hb1=>?_) (fun a w O=>?_)
 ·refine zgd [[],[0],[],[0,1,2],[0,1,2,3],[0,1,2,3,4]] [some (4,_),some (5,_),none,none] [] [.v 28 _,.v 29 _,.v 30 _,.v 31 _,.sto 0,.sto 1] [] za6 O (zv rfl (zaq (lz0 0 rfl) zac) (zv rfl (za5 (xs:=[.tmp 28]) (zr1 zo) (.cons (vq 0 rfl) .nil)) (zv rfl (zaq (lz0 1 rfl) zac) (zv rfl (za5 (xs:=[.tmp 30]) (zr1 zo) (.cons (vq 2 rfl) .nil)) (oc (zak rfl rfl rfl (vq 1 rfl) zac (Eq.trans (b:=2) rfl rfl)) (oc (zak rfl rfl rfl (vq 3 rfl) zac (Eq.trans (b:=2) rfl rfl)) o0)))))) zk zk zk zk (zz [] [⟨2,25,ptrH,_⟩,⟨3,25,ptrH,_⟩,⟨4,27,ptrH,_⟩,⟨5,25,ptrH,_⟩] fun a w O=>?_)
  refine za0 ?_
  have O:=St.sel O []
  rw [if_pos (zpo hb1)] at hn1 hn2; rw [hn1,hn2] at O; exact O
 ·refine wp_skip<|za0 ?_
  have O:=St.sel O []
  rw [if_neg (zvo hb1)] at hn1 hn2; rw [hn1,hn2] at O; exact O
 refine zt<|zg [none,none,some (3,_),none] [] [.v 32 _,.v 33 _,.v 34 _,.sto 2] [] O (zv rfl (zaq (lz0 0 rfl) zac) (zv rfl (zaq (lz0 1 rfl) zac) (zv rfl (zbg (xs:=[(0,.tmp 32),(1,.tmp 33)]) (qs:=[(0,_),(1,_)]) zbe (.cons ⟨rfl,(vq 0 rfl),rfl⟩ (.cons ⟨rfl,(vq 1 rfl),rfl⟩ .nil))) (oc (zak rfl rfl rfl (vq 2 rfl) zar (Eq.trans (b:=4) rfl rfl)) o0)))) (zz [] [⟨2,25,ptrH,_⟩,⟨3,25,ptrH,_⟩,⟨4,27,ptrH,_⟩,⟨5,25,ptrH,_⟩] fun a w O=>?_)
 refine za0<|wp_ret<|zai ?_ (zaj rfl O (zm 2 rfl) zar)
 exact (zc1 (.cons (zfv (Nat.le_max_left _ _)) (.cons (zfv (Nat.le_max_right _ _)) .nil))).va
end Go.Proofs.YthdbhckhignfcaaGreatDoor
