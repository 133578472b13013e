import Derived.Test.YthncfchnkjemiaaGreatDoorIlAa
import Derived.Test.YthncfchnkjemiaaGreatDoorIlAc
import Derived.Test.YthncfchnkjemiaaGreatDoorIlAk
set_option linter.unusedVariables false
set_option linter.unusedSimpArgs false
set_option linter.unusedSectionVars false
set_option maxRecDepth 100000
namespace Go.Proofs.YthncfchnkjemiaaGreatDoor
open Go Go.RowKit
theorem nat_tdiv (p q:Int):(p.tdiv q).natAbs=p.natAbs / q.natAbs:=Int.natAbs_tdiv p q
theorem nat_tmod (p q:Int):(p.tmod q).natAbs=p.natAbs % q.natAbs:=Int.natAbs_tmod p q
theorem divz_neg {p q:Int} (h:p.tdiv q≠0):(decide (p<0) != decide (q<0))=decide (p.tdiv q<0):=by
 have hp:p≠0:=fun e=>h (by rw [e,Int.zero_tdiv])
 have hq:q≠0:=fun e=>h (by rw [e,Int.tdiv_zero])
 have e:∀ {x y:Int},0<x→0<y→0≤x.tdiv y:=fun hx hy=>Int.tdiv_nonneg zo zo
 by_cases h2:p<0 <;> by_cases h3:q<0
 ·have:0≤(-p).tdiv (-q):=e zo zo
  rw [Int.neg_tdiv,Int.tdiv_neg,Int.neg_neg] at this
  simp [h2,h3]; omega
 ·have:0≤(-p).tdiv q:=e zo zo
  rw [Int.neg_tdiv] at this
  simp [h2,h3]; omega
 ·have:0≤p.tdiv (-q):=e zo zo
  rw [Int.tdiv_neg] at this
  simp [h2,h3]; omega
 ·have:0≤p.tdiv q:=e zo zo
  simp [h2,h3]; omega
theorem modz_neg {p q:Int} (h:p.tmod q≠0):decide (p<0)=decide (p.tmod q<0):=by
 by_cases h2:p<0
 ·have:0≤(-p).tmod q:=Int.tmod_nonneg _ zo
  rw [Int.neg_tmod] at this
  simp [h2]; omega
 ·have:0≤p.tmod q:=Int.tmod_nonneg _ zo
  simp [h2]; omega
theorem small_div {p q:Int} (h:p.natAbs<q.natAbs):p.tdiv q=0∧p.tmod q=p:=by
 have h1:(p.tdiv q).natAbs=0:=by rw [nat_tdiv,Nat.div_eq_of_lt h]
 have h2:p.tdiv q=0:=by omega
 have h3:=Int.tdiv_mul_add_tmod p q
 exact ⟨h2,by rw [h2] at h3; simpa using h3⟩
theorem divz_lt {a b n m:Nat} (ha:a<4294967296 ^ n) (hb:4294967296 ^ (m - 1)≤b) (hm:0<m) (hmn:m≤n):a / b<4294967296 ^ (n+1 - m):=by
 have hp:0<4294967296 ^ (m - 1):=Nat.pow_pos zd
 rw [Nat.div_lt_iff_lt_mul zo]
 have:4294967296 ^ (n+1 - m)*4294967296 ^ (m - 1)≤4294967296 ^ (n+1 - m)*b:=Nat.mul_le_mul_left _ hb
 rw [← Nat.pow_add,show n+1 - m+(m - 1)=n by omega] at this
 omega
theorem divz_q {p q:Int} {n:Nat} (h:p.natAbs / q.natAbs<4294967296 ^ n):rsig ((riOf p).neg != (riOf q).neg) (digs n (val (riOf p).mag / val (riOf q).mag))=riOf (p.tdiv q):=by
 rw [val_ri,val_ri]
 exact rsig_of (okL_digs _ _) (by rw [val_digs,Nat.mod_eq_of_lt h,nat_tdiv]) divz_neg
theorem divz_r {p q:Int} {n:Nat} (h:p.natAbs % q.natAbs<4294967296 ^ n):rsig (riOf p).neg (digs n (val (riOf p).mag % val (riOf q).mag))=riOf (p.tmod q):=by
 rw [val_ri,val_ri]
 exact rsig_of (okL_digs _ _) (by rw [val_digs,Nat.mod_eq_of_lt h,nat_tmod]) modz_neg
theorem own_ri (p:Int):rsig (riOf p).neg (riOf p).mag=riOf p:=rsig_of (ok_ri p) (val_ri p) fun _=>rfl
theorem size_no {p q:Int} (h:decide (sizeL (riOf p).mag (riOf q).mag<0)=true):p.natAbs<q.natAbs:=by
 have:=(sizeL_limbs (m:=p.natAbs) (n:=q.natAbs)).1
 have h':sizeL (limbs p.natAbs) (limbs q.natAbs)<0:=of_decide_eq_true h
 omega
theorem size_yes {p q:Int} (h:decide (sizeL (riOf p).mag (riOf q).mag<0)=false):q.natAbs≤p.natAbs:=by
 have:=(sizeL_limbs (m:=p.natAbs) (n:=q.natAbs)).1
 have h':¬ sizeL (limbs p.natAbs) (limbs q.natAbs)<0:=of_decide_eq_false h
 omega
theorem one_limb' {l:List Nat} {v:Nat} (hv:val l=v) (ok:okL l) (h:l.length=1):l[0]'zo=v∧v<4294967296:=by
 match l,h with
 | [x],_=>exact ⟨by simpa using hv,by have:=ok x (by simp); simp at hv; omega⟩
theorem one_limb {q:Int} (h:(riOf q).mag.length=1):(riOf q).mag[0]'zo=q.natAbs∧q.natAbs<4294967296:=one_limb' (val_ri q) (ok_ri q) h
theorem ri_len {p:Int}:(riOf p).mag.length=lz p:=rfl
theorem top_ne {q:Int} {k:Nat} (h:(riOf q).mag.length=k+2):(riOf q).mag.getD (k+1) 0≠0:=by
 have h1:=(canon_limbs q.natAbs).2
 have h2:(limbs q.natAbs).length=k+2:=h
 intro hh
 apply h1
 rw [List.getLast?_eq_getElem?,h2,show k+2 - 1=k+1 from rfl]
 have:(limbs q.natAbs).getD (k+1) 0=0:=hh
 rw [List.getD_eq_getElem?_getD,List.getElem?_eq_getElem zo] at this
 rw [List.getElem?_eq_getElem zo]
 simpa using this
theorem lz_pos {q:Int} (h:q≠0):0<lz q:=by unfold lz; rw [limbs_pos zo]; simp
theorem lz_mono {p q:Int} (h:p.natAbs≤q.natAbs):lz p≤lz q:=len_mono h
theorem lz_low {q:Int} (h:q≠0):4294967296 ^ (lz q - 1)≤q.natAbs:=by
 have:=(canon_limbs q.natAbs).lt_val (by rw [limbs_pos zo]; simp)
 rw [val_limbs] at this
 exact this
theorem lz_high (q:Int):q.natAbs<4294967296 ^ lz q:=lt_of_limbs_len (Nat.le_refl _)
theorem zi_zeroN:(cat (setAll [BoA false,MgN []] [])).va=(RIN (riOf 0)).va:=by
 rw [show riOf 0=⟨false,[]⟩ from by simp [riOf,limbs_zero]]
 rfl
theorem divz_qs {p q:Int} (hq:q≠0) (hge:q.natAbs≤p.natAbs) (h:(riOf q).mag.length=1):rsig ((riOf p).neg != (riOf q).neg) (digs (riOf p).mag.length (val (riOf p).mag / (riOf q).mag[0]'zo))=riOf (p.tdiv q):=by
 rw [show (riOf q).mag[0]'zo=val (riOf q).mag from by rw [(one_limb h).1,val_ri]]
 have:=divz_lt (lz_high p) (lz_low hq) (lz_pos hq) (lz_mono hge)
 rw [show lz q=1 from h] at this
 exact divz_q this
theorem rsig_one {p q:Int} (h:(riOf q).mag.length=1) (hq:q≠0):rsig (riOf p).neg [val (riOf p).mag % (riOf q).mag[0]'zo]=riOf (p.tmod q):=by
 have h1:=one_limb h
 rw [h1.1,val_ri]
 have:p.natAbs % q.natAbs<4294967296:=Nat.lt_trans (Nat.mod_lt _ zo) h1.2
 exact rsig_of (okL_cons.2 ⟨this,okL_nil⟩) (by rw [nat_tmod]; simp) modz_neg
theorem divideZ_c (p q:Int) (hq:q≠0) (hp:lz p≤1099511627776):Cn Tryz.prog 322 [Zi p,Zi q] (Tu [(RIN (riOf (p.tdiv q))).va,(RIN (riOf (p.tmod q))).va]):=by
 refine Cn.introW Tryz.func322 rfl zk nq (.cons (up_ri _).va (.cons (up_ri _).va .nil)) (tu_free (.cons (free_ri _).va (.cons (free_ri _).va .nil))) (fun B w0 a hB0 hst=>?_)
 have hst:St B w0 68 [(0,(RIO (riOf p)).va),(1,(RIO (riOf q)).va)] [] a w0.w:=hst
 refine wp_seq ?_
 refine gl (sts:=[]) (news:=[⟨2,24,ptrH,some 0,_,none⟩,⟨3,24,ptrH,some 1,_,none⟩,⟨4,24,ptrH,some 2,_,none⟩,⟨5,24,ptrH,some 3,_,none⟩]) (sp:=[.alc 0,.alc 1,.alc 2,.alc 3]) [] hst (oc (ob_box rfl rfl rfl (gq 0 rfl)) (oc (ob_box rfl rfl rfl (gq 1 rfl)) (oc (ob_alc rfl rfl rfl (Str.zero str_intO)) (oc (ob_alc rfl rfl rfl (Str.zero str_intO)) o0)))) (fun a w hst=>?_)
 have hst:St B w0 68 [] [⟨2,24,ptrH,_⟩,⟨3,24,ptrH,_⟩,⟨4,24,ptrH,_⟩,⟨5,24,ptrH,_⟩] a w:=hst
 refine zt ?_
 refine wp_block ?_
 refine wp_seq ?_
 refine gl (sts:=[none,none,none,none]) (news:=[]) (sp:=[.adr 11 2 (.some 1) True,.val 12 _,.adr 13 3 (.some 1) True,.val 14 _,.val 15 _,.val 16 _,.val 10 _]) [.o 6] hst (oc (ob_a rfl rfl (a_fld (lz0 0 rfl) fld_24_1)) (zv rfl rfl (r_loadf 0 rfl zk trivial (lz0 0 rfl) (Sub.part 1 rfl rfl) ty_22) (oc (ob_a rfl rfl (a_fld (lz0 1 rfl) fld_24_1)) (zv rfl rfl (r_loadf 2 rfl zk trivial (lz0 1 rfl) (Sub.part 1 rfl rfl) ty_22) (zv rfl rfl (r_call (xs:=[.tmp 12,.tmp 14]) ((size_c _ _).wk (.cons wk_mgO (.cons wk_mgO .nil))) (.cons (vq 1 rfl) (.cons (vq 3 rfl) .nil))) (zv rfl rfl (r_lss (vq 4 rfl) has_num) (zv rfl rfl (r_assign (vq 5 rfl)) o0))))))) (fun a w hst=>?_)
 have hst:St B w0 68 [(10,_)] [⟨2,24,ptrH,_⟩,⟨3,24,ptrH,_⟩,⟨4,24,ptrH,_⟩,⟨5,24,ptrH,_⟩] a w:=hst
 refine thn_normal ?_
 refine cond_of hst (zm 0 rfl) (fun hb0=>?_) (fun hb0=>?_)
 ·have hlt:=size_no hb0
  refine wp_seq ?_
  refine gl (sts:=[none,none,some (6,_),some (7,_)]) (news:=[]) (sp:=[.val 17 _,.adr 18 2 (.some 0) True,.val 19 _,.adr 20 2 (.some 1) True,.val 21 _,.val 22 _,.sto 2,.sto 3]) [] hst (zv rfl rfl (r_build (xs:=[]) (qs:=[]) (fam_str famN) .nil) (oc (ob_a rfl rfl (a_fld (lz0 0 rfl) fld_24_0)) (zv rfl rfl (r_loadf 1 rfl zk trivial (lz0 0 rfl) (Sub.part 0 rfl rfl) ty_4) (oc (ob_a rfl rfl (a_fld (lz0 0 rfl) fld_24_1)) (zv rfl rfl (r_loadf 3 rfl zk trivial (lz0 0 rfl) (Sub.part 1 rfl rfl) ty_22) (zv rfl rfl (r_call (xs:=[.tmp 19,.tmp 21]) ((own_c _ _ hp).wk (.cons wk_id (.cons wk_mgO .nil))) (.cons (vq 2 rfl) (.cons (vq 4 rfl) .nil))) (oc (ob_sto rfl rfl rfl (vq 0 rfl) ty_24 (Eq.trans (b:=2) rfl rfl)) (oc (ob_sto rfl rfl rfl (vq 5 rfl) ty_24 (Eq.trans (b:=2) rfl rfl)) o0)))))))) (fun a w hst=>?_)
  have hst:St B w0 68 [] [⟨2,24,ptrH,_⟩,⟨3,24,ptrH,_⟩,⟨4,24,ptrH,_⟩,⟨5,24,ptrH,_⟩] a w:=hst
  refine thn_normal ?_
  refine wp_ret ?_
  refine blk_ret ?_
  refine thn_ret ?_
  refine ret_cast ?_ (ret_many (rs:=[.cell 4 24,.cell 5 24]) rfl hst (.cell (zm 2 rfl) ty_24 (.cell (zm 3 rfl) ty_24 .nil)) zd)
  exact tu2 ((congrArg (fun z=>(RIN (riOf z)).va) (small_div hlt).1).trans zi_zeroN.symm).symm (congrArg (fun x=>(RIN x).va) ((own_ri p).trans (congrArg riOf (small_div hlt).2.symm)))
 ·have hge:=size_yes hb0
  have hp0:0<(riOf p).mag.length:=Nat.lt_of_lt_of_le (lz_pos hq) (lz_mono hge)
  refine wp_seq ?_
  refine gl (sts:=[none,none,none,none]) (news:=[]) (sp:=[.adr 24 3 (.some 1) True,.val 25 _,.val 26 _,.val 27 _,.val 23 _]) [.o 4] hst (oc (ob_a rfl rfl (a_fld (lz0 1 rfl) fld_24_1)) (zv rfl rfl (r_loadf 0 rfl zk trivial (lz0 1 rfl) (Sub.part 1 rfl rfl) ty_22) (zv rfl rfl (r_lenm Tryz.underlying22 (has_old (vq 1 rfl))) (zv rfl rfl (r_eql (vq 2 rfl) has_num) (zv rfl rfl (r_assign (vq 3 rfl)) o0))))) (fun a w hst=>?_)
  have hst:St B w0 68 [(23,_)] [⟨2,24,ptrH,_⟩,⟨3,24,ptrH,_⟩,⟨4,24,ptrH,_⟩,⟨5,24,ptrH,_⟩] a w:=hst
  refine thn_normal ?_
  refine cond_of hst (zm 0 rfl) (fun hb1=>?_) (fun hb1=>?_)
  ·have h1:(riOf q).mag.length=1:=by simp at hb1; omega
   refine wp_seq ?_
   refine gl (sts:=[none,none,none,none]) (news:=[]) (sp:=[.adr 28 2 (.some 1) True,.val 29 _,.val 30 _,.val 6 _]) [.o 3] hst (oc (ob_a rfl rfl (a_fld (lz0 0 rfl) fld_24_1)) (zv rfl rfl (r_loadf 0 rfl zk trivial (lz0 0 rfl) (Sub.part 1 rfl rfl) ty_22) (zv rfl rfl (r_call (xs:=[.tmp 29]) ((clone_c _ hp).wk (.cons wk_mgO .nil)) (.cons (vq 1 rfl) .nil)) (zv rfl rfl (r_assign (vq 2 rfl)) o0)))) (fun a w hst=>?_)
   have hst:St B w0 68 [(6,_)] [⟨2,24,ptrH,_⟩,⟨3,24,ptrH,_⟩,⟨4,24,ptrH,_⟩,⟨5,24,ptrH,_⟩] a w:=hst
   obtain ⟨c,ext,hc1,hc2,hok,hcx,hst⟩:=St.own hst hB0 0 rfl hp0 rfl
   have hst:=St.sel hst []
   refine zt ?_
   refine gl (sts:=[some (5,_),none,none,none,none]) (news:=[]) (sp:=[.adr 31 6 .none True,.adr 32 3 (.some 1) True,.val 33 _,.val 34 _,.val 35 _,.cal 36 _ 0,.val 7 _]) [.o 6] hst (oc (ob_a rfl rfl a_mov) (oc (ob_a rfl rfl (a_fld (lz0 2 rfl) fld_24_1)) (zv rfl rfl (r_loadf 1 rfl zk trivial (lz0 2 rfl) (Sub.part 1 rfl rfl) ty_22) (zv rfl rfl (r_idxm sl_22 (has_old (vq 2 rfl)) (has_nat 0 rfl) zo) (zv rfl rfl (r_loade (vq 3 rfl) ty_168) (oc (ob_cal (xs:=[.tmp 31,.tmp 35]) rfl rfl rfl (short_c _ ext c _ (ok_ri p) hp (by rw [(one_limb h1).1]; omega) (by rw [(one_limb h1).1]; exact (one_limb h1).2)) (.cons (arw2 0 rfl zk) (.cons (vq 4 rfl) .nil))) (zv rfl rfl (r_assign (has_c 5 rfl zk zk)) o0))))))) (fun a w hst=>?_)
   have hst:St B w0 68 [(7,_)] [⟨6,168,slH (riOf p).mag.length c,_⟩,⟨2,24,ptrH,_⟩,⟨3,24,ptrH,_⟩,⟨4,24,ptrH,_⟩,⟨5,24,ptrH,_⟩] a w:=hst
   refine zt ?_
   refine go_draw (anc:=[[],[0],[],[2],[0,1,2,3],[],[0,1,2,3,4,5],[],[7],[],[9],[0,1,2,3,4,5,6,7,8,9,10],[0,1,2,3,4,5,6,7,8,9,10,11],[0,1,2,3,4,5,6,7,8,9,10,11,12]]) (sts:=[none,none,none,some (12,_),some (13,_)]) (news:=[]) (sp:=[.adr 37 2 (.some 0) True,.val 38 _,.adr 39 3 (.some 0) True,.val 40 _,.val 41 _,.adr 42 6 .none True,.val 43 _,.adr 44 2 (.some 0) True,.val 45 _,.val 46 _,.val 47 _,.val 48 _,.sto 3,.sto 4]) [] follows_mixed hst (oc (ob_a rfl rfl (a_fld (lz0 1 rfl) fld_24_0)) (zv rfl rfl (r_loadf 0 rfl zk trivial (lz0 1 rfl) (Sub.part 0 rfl rfl) ty_4) (oc (ob_a rfl rfl (a_fld (lz0 2 rfl) fld_24_0)) (zv rfl rfl (r_loadf 2 rfl zk trivial (lz0 2 rfl) (Sub.part 0 rfl rfl) ty_4) (zv rfl rfl (r_neqb zk (vq 1 rfl) (vq 3 rfl)) (oc (ob_a rfl rfl a_mov) (zv rfl rfl (r_call (xs:=[.tmp 41,.tmp 42]) (signedN_c _ _) (.cons (vq 4 rfl) (.cons (has_rowX 5 rfl zk (lz0 0 rfl) ⟨(digs_length _ _).symm,hc1,hc2,okL_digs _ _⟩ (by rw [hcx,List.length_append,List.length_append,digs_length])) .nil))) (oc (ob_a rfl rfl (a_fld (lz0 1 rfl) fld_24_0)) (zv rfl rfl (r_loadf 7 rfl zk trivial (lz0 1 rfl) (Sub.part 0 rfl rfl) ty_4) (zv rfl rfl (r_move (gq 0 rfl)) (zv rfl rfl (r_slicemN (l:=[_]) (xs:=[.tmp 46]) sl_22 zk nq nq (okL_cons.2 ⟨Nat.lt_trans (Nat.mod_lt _ (by rw [(one_limb h1).1]; omega)) (by rw [(one_limb h1).1]; exact (one_limb h1).2),okL_nil⟩) (.cons (vq 9 rfl) .nil) rfl rfl) (zv rfl rfl (r_call (xs:=[.tmp 45,.tmp 47]) (signedN_c _ _) (.cons (vq 8 rfl) (.cons (vq 10 rfl) .nil))) (oc (ob_sto rfl rfl rfl (vq 6 rfl) ty_24 (Eq.trans (b:=2) rfl rfl)) (oc (ob_sto rfl rfl rfl (vq 11 rfl) ty_24 (Eq.trans (b:=2) rfl rfl)) o0)))))))))))))) zk zk zk zk (fun a w hst=>?_)
   have hst:St B w0 68 [] [⟨6,168,slH (riOf p).mag.length c,_⟩,⟨2,24,ptrH,_⟩,⟨3,24,ptrH,_⟩,⟨4,24,ptrH,_⟩,⟨5,24,ptrH,_⟩] a w:=hst
   refine thn_normal ?_
   refine wp_ret ?_
   refine blk_ret ?_
   refine thn_ret ?_
   refine ret_cast ?_ (ret_many (rs:=[.cell 4 24,.cell 5 24]) rfl hst (.cell (zm 3 rfl) ty_24 (.cell (zm 4 rfl) ty_24 .nil)) zd)
   exact tu2 (congrArg (fun x=>(RIN x).va) (divz_qs hq hge h1)) (congrArg (fun x=>(RIN x).va) (rsig_one h1 hq))
  ·have h1:(riOf q).mag.length≠1:=by simp at hb1; omega
   have hql:=lz_pos hq
   rw [← ri_len] at hql
   obtain ⟨k,hk⟩:∃ k,(riOf q).mag.length=k+2:=⟨(riOf q).mag.length - 2,by omega⟩
   have hkp:k+2≤(riOf p).mag.length:=by rw [← hk]; exact lz_mono hge
   refine wp_skip ?_
   refine blk_normal ?_
   refine zt ?_
   refine gl (sts:=[none,none,none,none]) (news:=[]) (sp:=[.adr 50 2 (.some 1) True,.val 51 _,.adr 52 3 (.some 1) True,.val 53 _,.val 54 _,.val 49 _,.val 55 _,.val 56 _,.val 8 _,.val 9 _]) [.o 8,.o 9] hst (oc (ob_a rfl rfl (a_fld (lz0 0 rfl) fld_24_1)) (zv rfl rfl (r_loadf 0 rfl zk trivial (lz0 0 rfl) (Sub.part 1 rfl rfl) ty_22) (oc (ob_a rfl rfl (a_fld (lz0 1 rfl) fld_24_1)) (zv rfl rfl (r_loadf 2 rfl zk trivial (lz0 1 rfl) (Sub.part 1 rfl rfl) ty_22) (zv rfl rfl (r_call (xs:=[.tmp 51,.tmp 53]) ((divide_c _ _ k hk (top_ne hk) hkp hp).wk (.cons wk_mgO (.cons wk_mgO .nil))) (.cons (vq 1 rfl) (.cons (vq 3 rfl) .nil))) (zv rfl rfl (r_move (vq 4 rfl)) (zv rfl rfl (r_extract (vq 5 rfl) rfl) (zv rfl rfl (r_extract (vq 5 rfl) rfl) (zv rfl rfl (r_assign (vq 6 rfl)) (zv rfl rfl (r_assign (vq 7 rfl)) o0)))))))))) (fun a w hst=>?_)
   have hst:St B w0 68 [(8,_),(9,_)] [⟨2,24,ptrH,_⟩,⟨3,24,ptrH,_⟩,⟨4,24,ptrH,_⟩,⟨5,24,ptrH,_⟩] a w:=hst
   refine zt ?_
   refine go_draw (anc:=[[],[0],[],[2],[0,1,2,3],[],[0,1,2,3,4,5],[],[7],[],[0,1,2,3,4,5,6,7,8,9],[0,1,2,3,4,5,6,7,8,9,10],[0,1,2,3,4,5,6,7,8,9,10,11]]) (sts:=[none,none,some (11,_),some (12,_)]) (news:=[]) (sp:=[.adr 57 2 (.some 0) True,.val 58 _,.adr 59 3 (.some 0) True,.val 60 _,.val 61 _,.val 62 _,.val 63 _,.adr 64 2 (.some 0) True,.val 65 _,.val 66 _,.val 67 _,.sto 2,.sto 3]) [] follows_mixed hst (oc (ob_a rfl rfl (a_fld (lz0 0 rfl) fld_24_0)) (zv rfl rfl (r_loadf 0 rfl zk trivial (lz0 0 rfl) (Sub.part 0 rfl rfl) ty_4) (oc (ob_a rfl rfl (a_fld (lz0 1 rfl) fld_24_0)) (zv rfl rfl (r_loadf 2 rfl zk trivial (lz0 1 rfl) (Sub.part 0 rfl rfl) ty_4) (zv rfl rfl (r_neqb zk (vq 1 rfl) (vq 3 rfl)) (zv rfl rfl (r_move (gq 0 rfl)) (zv rfl rfl (r_call (xs:=[.tmp 61,.tmp 62]) (signedN_c _ _) (.cons (vq 4 rfl) (.cons (vq 5 rfl) .nil))) (oc (ob_a rfl rfl (a_fld (lz0 0 rfl) fld_24_0)) (zv rfl rfl (r_loadf 7 rfl zk trivial (lz0 0 rfl) (Sub.part 0 rfl rfl) ty_4) (zv rfl rfl (r_move (gq 1 rfl)) (zv rfl rfl (r_call (xs:=[.tmp 65,.tmp 66]) (signedN_c _ _) (.cons (vq 8 rfl) (.cons (vq 9 rfl) .nil))) (oc (ob_sto rfl rfl rfl (vq 6 rfl) ty_24 (Eq.trans (b:=2) rfl rfl)) (oc (ob_sto rfl rfl rfl (vq 10 rfl) ty_24 (Eq.trans (b:=2) rfl rfl)) o0))))))))))))) zk zk zk zk (fun a w hst=>?_)
   have hst:St B w0 68 [] [⟨2,24,ptrH,_⟩,⟨3,24,ptrH,_⟩,⟨4,24,ptrH,_⟩,⟨5,24,ptrH,_⟩] a w:=hst
   refine thn_normal ?_
   refine wp_ret ?_
   refine ret_cast ?_ (ret_many (rs:=[.cell 4 24,.cell 5 24]) rfl hst (.cell (zm 2 rfl) ty_24 (.cell (zm 3 rfl) ty_24 .nil)) zd)
   exact tu2 (congrArg (fun x=>(RIN x).va) (divz_q (hk▸divz_lt (lz_high p) (lz_low hq) (lz_pos hq) (lz_mono hge)))) (congrArg (fun x=>(RIN x).va) (divz_r (Nat.lt_trans (Nat.mod_lt _ zo) (hk▸lz_high q))))
end Go.Proofs.YthncfchnkjemiaaGreatDoor
namespace Go.Proofs.YthncfchnkjemiaaGreatDoor
open Go Go.RowKit
theorem own_abs (p:Int):rsig false (riOf p).mag=riOf ((p.natAbs:Nat):Int):=rsig_of (ok_ri p) (by rw [val_ri]; omega) fun _=>by simp
theorem lz_abs (p:Int):lz ((p.natAbs:Nat):Int)=lz p:=by simp [lz]
theorem len_nz {n:Nat} (h:decide (((riOf (n:Int)).mag.length:Int)>0)=true):0<n:=by
 rcases Nat.eq_zero_or_pos n with rfl | hp
 ·simp [riOf,limbs_zero] at h
 ·exact hp
theorem len_z {n:Nat} (h:decide (((riOf (n:Int)).mag.length:Int)>0)=false):n=0:=by
 rcases Nat.eq_zero_or_pos n with rfl | hp
 ·rfl
 ·have:=lz_pos (q:=(n:Int)) zo
  have h':¬ (((riOf (n:Int)).mag.length:Int)>0):=of_decide_eq_false h
  rw [ri_len] at h'
  omega
theorem lz_tmod {x n:Nat} (h:lz (n:Int)≤1099511627776) (hn:0<n):lz ((x % n:Nat):Int)≤1099511627776:=Nat.le_trans (lz_mono (by have:=Nat.mod_lt x hn; omega)) h
theorem gcd_step {x n p:Nat} (h:Nat.gcd x n=p):Nat.gcd n (x % n)=p:=by rw [← h,Nat.gcd_comm n,Nat.gcd_comm x,Nat.gcd_rec n x]
theorem common_c (p q:Int) (hp:lz p≤1099511627776) (hq:lz q≤1099511627776):Cn Tryz.prog 290 [Zi p,Zi q] ((RIN (riOf ((Int.gcd p q:Nat):Int))).va):=by
 refine Cn.intro Tryz.func290 rfl zk nq (fun B w0 a hst=>?_)
 have hst:St B w0 28 [(0,Zi p),(1,Zi q)] [] a w0.w:=hst
 refine wp_seq ?_
 refine gl (sts:=[]) (news:=[⟨2,24,ptrH,some 0,_,none⟩,⟨3,24,ptrH,some 1,_,none⟩,⟨4,24,ptrH,some 2,_,none⟩]) (sp:=[.alc 0,.alc 1,.alc 2]) [] hst (oc (ob_box rfl rfl rfl (gq 0 rfl)) (oc (ob_box rfl rfl rfl (gq 1 rfl)) (oc (ob_alc rfl rfl rfl (Str.zero str_int)) o0))) (fun a w hst=>?_)
 have hst:St B w0 28 [] [⟨2,24,ptrH,_⟩,⟨3,24,ptrH,_⟩,⟨4,24,ptrH,_⟩] a w:=hst
 refine zt ?_
 refine go_draw (anc:=[[],[0],[0,1],[],[3],[0,1,2,3,4],[],[],[0,1,2,3,4,5,6,7],[0,1,2,3,4,5,6,7,8]]) (sts:=[none,none,none]) (news:=[⟨5,24,ptrH,some 6,_,some (8,_)⟩,⟨6,24,ptrH,some 7,_,some (9,_)⟩]) (sp:=[.adr 9 2 (.some 1) True,.val 10 _,.val 11 _,.adr 12 3 (.some 1) True,.val 13 _,.val 14 _,.alc 3,.alc 4,.sto 3,.sto 4]) [] follows_mixed hst (oc (ob_a rfl rfl (a_fld (lz0 0 rfl) fld_24_1)) (zv rfl rfl (r_loadf 0 rfl zk trivial (lz0 0 rfl) (Sub.part 1 rfl rfl) ty_22) (zv rfl rfl (r_call (xs:=[.const (.bool false),.tmp 10]) (own_c _ _ hp) (.cons has_bo (.cons (vq 1 rfl) .nil))) (oc (ob_a rfl rfl (a_fld (lz0 1 rfl) fld_24_1)) (zv rfl rfl (r_loadf 3 rfl zk trivial (lz0 1 rfl) (Sub.part 1 rfl rfl) ty_22) (zv rfl rfl (r_call (xs:=[.const (.bool false),.tmp 13]) (own_c _ _ hq) (.cons has_bo (.cons (vq 4 rfl) .nil))) (oc (ob_alc rfl rfl rfl (Str.zero str_int)) (oc (ob_alc rfl rfl rfl (Str.zero str_int)) (oc (ob_sto rfl rfl rfl (vq 2 rfl) ty_24 (Eq.trans (b:=2) rfl rfl)) (oc (ob_sto rfl rfl rfl (vq 5 rfl) ty_24 (Eq.trans (b:=2) rfl rfl)) o0)))))))))) zk zk zk zk (fun a w hst=>?_)
 have hst:St B w0 28 [] [⟨2,24,ptrH,_⟩,⟨3,24,ptrH,_⟩,⟨4,24,ptrH,_⟩,⟨5,24,ptrH,_⟩,⟨6,24,ptrH,_⟩] a w:=hst
 refine zt ?_
 refine wp_block ?_
 have hst:=St.sel hst []
 have hst:=St.selL hst [2,3,4]
 refine wp_loop_ghost (fun n a w=>∃ x:Nat,(Nat.gcd x n=Int.gcd p q∧lz (x:Int)≤1099511627776∧lz (n:Int)≤1099511627776)∧St B w0 28 [] [⟨4,24,ptrH,cat [BoA false,MgA []]⟩,⟨5,24,ptrH,RIN (riOf ((x:Nat):Int))⟩,⟨6,24,ptrH,RIN (riOf ((n:Nat):Int))⟩] a w) (q.natAbs) ?_ ?_
 ·exact ⟨p.natAbs,⟨rfl,by rw [lz_abs]; exact hp,by rw [lz_abs]; exact hq⟩,by rw [show rsig false (limbs p.natAbs)=_ from own_abs p,show rsig false (limbs q.natAbs)=_ from own_abs q] at hst; exact hst⟩
 intro n a w hI
 obtain ⟨x,⟨hg,hx,hn⟩,hst⟩:=hI
 refine wp_seq ?_
 refine wp_seq ?_
 refine gl (sts:=[none,none,none]) (news:=[]) (sp:=[.adr 15 6 (.some 1) True,.val 16 _,.val 17 _,.val 18 _]) [.o 3] hst (oc (ob_a rfl rfl (a_fld (lz0 2 rfl) fld_24_1)) (zv rfl rfl (r_loadf 0 rfl zk trivial (lz0 2 rfl) (Sub.part 1 rfl rfl) ty_22) (zv rfl rfl (r_lenm Tryz.underlying22 (has_new (vq 1 rfl))) (zv rfl rfl (r_gtr (vq 2 rfl) has_num) o0)))) (fun a w hst=>?_)
 have hst:St B w0 28 [(18,_)] [⟨4,24,ptrH,_⟩,⟨5,24,ptrH,_⟩,⟨6,24,ptrH,_⟩] a w:=hst
 refine thn_normal ?_
 refine cond_of hst (zm 0 rfl) (fun hb0=>?_) (fun hb0=>?_)
 ·have h0:=len_nz hb0
  refine wp_skip ?_
  refine thn_normal ?_
  refine wp_block ?_
  refine wp_seq ?_
  refine gl (sts:=[none,none,none]) (news:=[⟨7,24,ptrH,some 6,_,some (8,_)⟩,⟨8,24,ptrH,some 7,_,some (9,_)⟩]) (sp:=[.val 20 _,.val 21 _,.val 22 _,.val 19 _,.val 23 _,.val 24 _,.alc 3,.alc 4,.sto 3,.sto 4]) [] hst (zv rfl rfl (r_load (lz0 1 rfl) ty_24) (zv rfl rfl (r_load (lz0 2 rfl) ty_24) (zv rfl rfl (r_call (xs:=[.tmp 20,.tmp 21]) ((divideZ_c _ _ zo hx).wk (.cons wk_riN (.cons wk_riN .nil))) (.cons (vq 0 rfl) (.cons (vq 1 rfl) .nil))) (zv rfl rfl (r_move (vq 2 rfl)) (zv rfl rfl (r_extract (vq 3 rfl) rfl) (zv rfl rfl (r_extract (vq 3 rfl) rfl) (oc (ob_alc rfl rfl rfl (Str.zero str_int)) (oc (ob_alc rfl rfl rfl (Str.zero str_int)) (oc (ob_sto rfl rfl rfl (vq 4 rfl) ty_24 (Eq.trans (b:=2) rfl rfl)) (oc (ob_sto rfl rfl rfl (vq 5 rfl) ty_24 (Eq.trans (b:=2) rfl rfl)) o0)))))))))) (fun a w hst=>?_)
  have hst:St B w0 28 [] [⟨4,24,ptrH,_⟩,⟨5,24,ptrH,_⟩,⟨6,24,ptrH,_⟩,⟨7,24,ptrH,_⟩,⟨8,24,ptrH,_⟩] a w:=hst
  refine thn_normal ?_
  refine go_draw (anc:=[[],[],[0],[0,1,2]]) (sts:=[none,some (2,_),some (3,_),none,none]) (news:=[]) (sp:=[.val 25 _,.val 26 _,.sto 1,.sto 2]) [] follows_mixed hst (zv rfl rfl (r_load (lz0 2 rfl) ty_24) (zv rfl rfl (r_load (lz0 4 rfl) ty_24) (oc (ob_sto rfl rfl rfl (vq 0 rfl) ty_24 (Eq.trans (b:=2) rfl rfl)) (oc (ob_sto rfl rfl rfl (vq 1 rfl) ty_24 (Eq.trans (b:=2) rfl rfl)) o0)))) zk zk zk zk (fun a w hst=>?_)
  have hst:St B w0 28 [] [⟨4,24,ptrH,_⟩,⟨5,24,ptrH,_⟩,⟨6,24,ptrH,_⟩,⟨7,24,ptrH,_⟩,⟨8,24,ptrH,_⟩] a w:=hst
  refine blk_normal ?_
  refine thn_normal ?_
  have hst:=St.sel hst []
  have hst:=St.selL hst [0,1,2]
  exact ⟨x % n,Nat.mod_lt _ h0,n,⟨gcd_step hg,hn,lz_tmod hn h0⟩,hst⟩
 ·obtain rfl:=len_z hb0
  refine wp_exit ?_
  refine thn_exit ?_
  refine thn_exit ?_
  refine blk_exit ?_
  refine zt ?_
  refine gl (sts:=[some (1,_),none,none]) (news:=[]) (sp:=[.val 27 _,.sto 0]) [] hst (zv rfl rfl (r_load (lz0 1 rfl) ty_24) (oc (ob_sto rfl rfl rfl (vq 0 rfl) ty_24 (Eq.trans (b:=2) rfl rfl)) o0)) (fun a w hst=>?_)
  have hst:St B w0 28 [] [⟨4,24,ptrH,_⟩,⟨5,24,ptrH,_⟩,⟨6,24,ptrH,_⟩] a w:=hst
  refine thn_normal ?_
  refine wp_ret ?_
  refine ret_cast ?_ (ret_cell rfl hst (zm 0 rfl) ty_24)
  exact congrArg (fun z:Nat=>(RIN (riOf (z:Int))).va) ((Nat.gcd_zero_right x).symm.trans hg)
theorem long1_c (x:RI):Cn Tryz.prog 352 [(RIA x).va] (Bo (decide ((x.mag.length:Int)>2048))):=by
 refine Cn.intro Tryz.func352 rfl zk nq (fun B w0 a hst=>?_)
 have hst:St B w0 7 [(0,(RIA x).va)] [] a w0.w:=hst
 refine wp_seq ?_
 refine gl (sts:=[]) (news:=[⟨1,24,ptrH,some 0,_,none⟩]) (sp:=[.alc 0,.val 2 _]) [.o 1] hst (oc (ob_box rfl rfl rfl (gq 0 rfl)) (zv rfl rfl (r_assign has_bo) o0)) (fun a w hst=>?_)
 have hst:St B w0 7 [(2,_)] [⟨1,24,ptrH,_⟩] a w:=hst
 refine zt ?_
 refine gl (sts:=[none]) (news:=[]) (sp:=[.adr 3 1 (.some 1) True,.val 4 _,.val 5 _,.val 6 _,.val 2 _]) [.o 4] hst (oc (ob_a rfl rfl (a_fld (lz0 0 rfl) fld_24_1)) (zv rfl rfl (r_loadf 0 rfl zk trivial (lz0 0 rfl) (Sub.part 1 rfl rfl) ty_22) (zv rfl rfl (r_lenm Tryz.underlying22 (vq 1 rfl)) (zv rfl rfl (r_gtr (vq 2 rfl) has_num) (zv rfl rfl (r_assign (vq 3 rfl)) o0))))) (fun a w hst=>?_)
 have hst:St B w0 7 [(2,_)] [⟨1,24,ptrH,_⟩] a w:=hst
 refine thn_normal ?_
 refine wp_ret ?_
 exact ret_tmp rfl hst (zm 0 rfl)
def bigI (x:RI):Bool:=decide ((x.mag.length:Int)>2048)
theorem long1_b (x:RI):Cn Tryz.prog 352 [(RIA x).va] (Bo (bigI x)):=long1_c x
theorem big_some {l:List RI} {j:Nat} (h:j<l.length) (h2:bigI l[j]=true):l.any bigI=true:=List.any_eq_true.2 ⟨_,List.getElem_mem h,h2⟩
theorem take_no {l:List RI} {j:Nat} (h:j<l.length) (h1:(l.take j).any bigI=false) (h2:bigI l[j]=false):(l.take (j+1)).any bigI=false:=by
 rw [List.take_succ_eq_append_getElem h,List.any_append,h1]
 simp [h2]
def IxV (b:Bool):VA where
 p _ v _:=∃ n:Int,v=.int .i64 n∧b=decide (n≥0)
 deps:=[]
 cg:=fun _ _ _ _ _ h=>h
 wr:=fun _ _ _ _ _ _ _ _ _ _ _ _ h=>h
theorem ix_of {n:Int} {b:Bool} (h:b=decide (n≥0)):Wk (In n) (IxV b):=fun _ _ _ hv=>⟨n,num_val hv,h⟩
theorem r_ix {P:Program} {Q:Exit→Act→World→Prop} {R:Rg} {B:Nat} {w0:Bs} {i:Nat} {x:Operand} {xt yt:TypeId} {b:Bool} (hx:Has R B w0 i x (IxV b)):Wv P Q R B w0 i (.binOp .geq xt x (.const (.int .i64 0)) yt) (Bo b) :=
 wv_run fun _ _ _ _ _ a w av=>by
  obtain ⟨n,e1,rfl⟩:=hx a w av
  refine ⟨.bool (decide (n≥0)),w,?_,Grow.refl w,val_bo _ _ _⟩
  have hg:(eqGuard .geq xt x (.const (.int .i64 0)) (.int .i64 n) (.int .i64 0)).run P w=.ok () w:=by unfold eqGuard; split <;> rfl
  have e2:a.eval (.const (.int .i64 0))=.int .i64 0:=rfl
  have hr:(binOp .geq xt (.int .i64 n) (.int .i64 0)).run P w=.ok (.bool (decide (n≥0))) w:=by rw [binOp_geq]; rfl
  simp only [execOp,e1,e2,Sem.run_bind,hg,hr,Result.andThen_ok,Sem.run_pure]
theorem index_c (l:List RI) (hl:l.length≤1099511627776):Cn Tryz.prog 372 [(SlA 24 [U32] (l.map RIA)).va,FnV Tryz.prog [] (fun x:RI=>[(RIA x).va]) (fun x=>Bo (bigI x))] (IxV (l.any bigI)):=by
 refine Cn.intro Tryz.func372 rfl zk nq (fun B w0 a hst=>?_)
 have hst:St B w0 19 [(0,(SlA 24 [U32] (l.map RIA)).va),(1,FnV Tryz.prog [] (fun x:RI=>[(RIA x).va]) (fun x=>Bo (bigI x)))] [] a w0.w:=hst
 refine wp_seq ?_
 refine gl (sts:=[]) (news:=[]) (sp:=[.val 4 _]) [.g 0,.g 1,.o 0] hst (zv rfl rfl (r_assign has_num) o0) (fun a w hst=>?_)
 have hst:St B w0 19 [(0,_),(1,_),(4,_)] [] a w:=hst
 refine zt ?_
 refine wp_seq ?_
 refine gl (sts:=[]) (news:=[]) (sp:=[.val 6 _,.val 7 _,.val 8 _]) [.g 0,.g 1,.g 2,.o 1,.o 2] hst (zv rfl rfl (r_move (gq 0 rfl)) (zv rfl rfl (r_len Tryz.underlying306 (vq 0 rfl)) (zv rfl rfl (r_move has_num) o0))) (fun a w hst=>?_)
 have hst:St B w0 19 [(0,_),(1,_),(4,_),(7,_),(8,_)] [] a w:=hst
 refine thn_normal ?_
 refine wp_block ?_
 have hst:=St.sel hst [0,1,3,4]
 refine wp_loop_ghost (fun n a w=>∃ j:Nat,(n+j=l.length∧(l.take j).any bigI=false)∧St B w0 19 [(0,(SlA 24 [U32] (l.map RIA)).va),(1,FnV Tryz.prog [] (fun x:RI=>[(RIA x).va]) (fun x=>Bo (bigI x))),(7,In (l.length:Nat)),(8,In (j:Nat))] [] a w) (l.length) ?_ ?_
 ·exact ⟨0,⟨by omega,rfl⟩,by rw [List.length_map] at hst; exact hst⟩
 intro n a w hI
 obtain ⟨j,⟨hn,hno⟩,hst⟩:=hI
 refine wp_seq ?_
 refine gl (sts:=[]) (news:=[]) (sp:=[.val 9 _]) [.g 0,.g 1,.g 2,.g 3,.o 0] hst (zv rfl rfl (r_lss (gq 3 rfl) (gq 2 rfl)) o0) (fun a w hst=>?_)
 have hst:St B w0 19 [(0,_),(1,_),(7,_),(8,_),(9,_)] [] a w:=hst
 refine zt ?_
 refine cond_of hst (zm 4 rfl) (fun hb0=>?_) (fun hb0=>?_)
 ·have hj:j<l.length:=by simp at hb0; omega
  refine wp_skip ?_
  refine zt ?_
  refine wp_block ?_
  refine wp_seq ?_
  refine gl (sts:=[]) (news:=[]) (sp:=[.val 10 _,.val 5 _]) [.g 0,.g 1,.g 2,.g 3,.o 1] hst (zv rfl rfl (r_move (gq 3 rfl)) (zv rfl rfl (r_assign (vq 0 rfl)) o0)) (fun a w hst=>?_)
  have hst:St B w0 19 [(0,_),(1,_),(7,_),(8,_),(5,_)] [] a w:=hst
  refine zt ?_
  refine gl (sts:=[]) (news:=[]) (sp:=[.val 11 _,.val 12 _,.val 13 _,.val 14 _,.val 15 _,.val 16 _]) [.g 0,.g 1,.g 2,.g 3,.g 4,.o 5] hst (zv rfl rfl (r_move (gq 1 rfl)) (zv rfl rfl (r_move (gq 0 rfl)) (zv rfl rfl (r_move (gq 4 rfl)) (zv rfl rfl (r_idx sl_306 (map_n fun _=>rfl) (vq 1 rfl) (vq 2 rfl) (map_at hj)) (zv rfl rfl (r_loade (vq 3 rfl) ty_24) (zv rfl rfl (r_callv (xs:=[.tmp 15]) _ (vq 0 rfl) (.cons (vq 4 rfl) .nil)) o0)))))) (fun a w hst=>?_)
  have hst:St B w0 19 [(0,_),(1,_),(7,_),(8,_),(5,_),(16,_)] [] a w:=hst
  refine thn_normal ?_
  refine cond_of hst (zm 5 rfl) (fun hb1=>?_) (fun hb1=>?_)
  ·refine wp_seq ?_
   refine gl (sts:=[]) (news:=[]) (sp:=[.val 17 _,.val 4 _]) [.g 0,.g 1,.g 2,.g 3,.o 1] hst (zv rfl rfl (r_move (gq 4 rfl)) (zv rfl rfl (r_assign (vq 0 rfl)) o0)) (fun a w hst=>?_)
   have hst:St B w0 19 [(0,_),(1,_),(7,_),(8,_),(4,_)] [] a w:=hst
   refine thn_normal ?_
   refine wp_ret ?_
   refine blk_ret ?_
   refine thn_ret ?_
   refine thn_ret ?_
   refine blk_ret ?_
   refine thn_ret ?_
   refine ret_wk ?_ (ret_tmp rfl hst (zm 4 rfl))
   exact ix_of (by rw [big_some hj hb1]; simp)
  ·refine wp_skip ?_
   refine blk_normal ?_
   refine thn_normal ?_
   refine gl (sts:=[]) (news:=[]) (sp:=[.val 18 _,.val 8 _]) [.g 0,.g 1,.g 2,.o 1] hst (zv rfl rfl (r_add (gq 3 rfl) has_num (wi_succ zo)) (zv rfl rfl (r_move (vq 0 rfl)) o0)) (fun a w hst=>?_)
   have hst:St B w0 19 [(0,_),(1,_),(7,_),(8,_)] [] a w:=hst
   refine thn_normal ?_
   have hst:=St.sel hst [0,1,2,3]
   exact ⟨n - 1,by omega,j+1,⟨by omega,take_no hj hno hb1⟩,hst⟩
 ·obtain rfl:j=l.length:=by simp at hb0; omega
  refine wp_exit ?_
  refine thn_exit ?_
  refine thn_exit ?_
  refine blk_exit ?_
  refine zt ?_
  refine gl (sts:=[]) (news:=[]) (sp:=[.val 4 _]) [.o 0] hst (zv rfl rfl (r_assign has_num) o0) (fun a w hst=>?_)
  have hst:St B w0 19 [(4,_)] [] a w:=hst
  refine thn_normal ?_
  refine wp_ret ?_
  refine ret_wk ?_ (ret_tmp rfl hst (zm 0 rfl))
  exact ix_of (by rw [List.take_length] at hno; rw [hno]; rfl)
theorem contains_c (l:List RI) (hl:l.length≤1099511627776):Cn Tryz.prog 351 [(SlA 24 [U32] (l.map RIA)).va,FnV Tryz.prog [] (fun x:RI=>[(RIA x).va]) (fun x=>Bo (bigI x))] (Bo (l.any bigI)):=by
 refine Cn.intro Tryz.func351 rfl zk nq (fun B w0 a hst=>?_)
 have hst:St B w0 9 [(0,(SlA 24 [U32] (l.map RIA)).va),(1,FnV Tryz.prog [] (fun x:RI=>[(RIA x).va]) (fun x=>Bo (bigI x)))] [] a w0.w:=hst
 refine wp_seq ?_
 refine gl (sts:=[]) (news:=[]) (sp:=[.val 4 _]) [.g 0,.g 1,.o 0] hst (zv rfl rfl (r_assign has_bo) o0) (fun a w hst=>?_)
 have hst:St B w0 9 [(0,_),(1,_),(4,_)] [] a w:=hst
 refine zt ?_
 refine gl (sts:=[]) (news:=[]) (sp:=[.val 5 _,.val 6 _,.val 7 _,.val 8 _,.val 4 _]) [.o 4] hst (zv rfl rfl (r_move (gq 0 rfl)) (zv rfl rfl (r_move (gq 1 rfl)) (zv rfl rfl (r_call (xs:=[.tmp 5,.tmp 6]) (index_c _ hl) (.cons (vq 0 rfl) (.cons (vq 1 rfl) .nil))) (zv rfl rfl (r_ix (vq 2 rfl)) (zv rfl rfl (r_assign (vq 3 rfl)) o0))))) (fun a w hst=>?_)
 have hst:St B w0 9 [(4,_)] [] a w:=hst
 refine thn_normal ?_
 refine wp_ret ?_
 exact ret_tmp rfl hst (zm 0 rfl)
theorem longI_c (l:List RI) (hl:l.length≤1099511627776):Cn Tryz.prog 321 [(SlA 24 [U32] (l.map RIA)).va] (Bo (l.any bigI)):=by
 refine Cn.intro Tryz.func321 rfl zk nq (fun B w0 a hst=>?_)
 have hst:St B w0 5 [(0,(SlA 24 [U32] (l.map RIA)).va)] [] a w0.w:=hst
 refine wp_seq ?_
 refine gl (sts:=[]) (news:=[]) (sp:=[.val 2 _]) [.g 0,.o 0] hst (zv rfl rfl (r_assign has_bo) o0) (fun a w hst=>?_)
 have hst:St B w0 5 [(0,_),(2,_)] [] a w:=hst
 refine zt ?_
 refine gl (sts:=[]) (news:=[]) (sp:=[.val 3 _,.val 4 _,.val 2 _]) [.o 2] hst (zv rfl rfl (r_move (gq 0 rfl)) (zv rfl rfl (r_call (xs:=[.tmp 3,.func 352]) (contains_c _ hl) (.cons (vq 0 rfl) (.cons (has_func long1_b) .nil))) (zv rfl rfl (r_assign (vq 1 rfl)) o0))) (fun a w hst=>?_)
 have hst:St B w0 5 [(2,_)] [] a w:=hst
 refine thn_normal ?_
 refine wp_ret ?_
 exact ret_tmp rfl hst (zm 0 rfl)
end Go.Proofs.YthncfchnkjemiaaGreatDoor
