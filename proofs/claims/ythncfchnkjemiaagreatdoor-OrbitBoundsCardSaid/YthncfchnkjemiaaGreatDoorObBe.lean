import Derived.Test.YthncfchnkjemiaaGreatDoorObAa
import Derived.Test.YthncfchnkjemiaaGreatDoorObAc
import Derived.Test.YthncfchnkjemiaaGreatDoorObAo
import Derived.Test.YthncfchnkjemiaaGreatDoorObAq
import Derived.Test.YthncfchnkjemiaaGreatDoorObBd
set_option linter.unusedVariables false
set_option linter.unusedSimpArgs false
set_option linter.unusedSectionVars false
set_option maxRecDepth 100000
namespace Go.Proofs.YthncfchnkjemiaaGreatDoor
open Go Go.RowKit
theorem r9cross_q {c d e f:Nat} {x y z u:Rat} (hk:c+d+e+f≤900000000):Cn Tryz.prog 213 [Qs c x,Qs d y,Qs e z,Qs f u] (Qs (c+f+(d+e)+1) (x*u - y*z)):=by
 refine Cn.intro Tryz.func213 rfl zk nq (fun B w0 a hst=>?_)
 have hst:St B w0 16 [(0,Qs c x),(1,Qs d y),(2,Qs e z),(3,Qs f u)] [] a w0.w:=hst
 refine wp_seq ?_
 refine gl (sts:=[]) (news:=[⟨4,26,ptrH,some 0,_,none⟩,⟨5,26,ptrH,some 1,_,none⟩,⟨6,26,ptrH,some 2,_,none⟩,⟨7,26,ptrH,some 3,_,none⟩,⟨8,26,ptrH,some 4,_,none⟩]) (sp:=[.alc 0,.alc 1,.alc 2,.alc 3,.alc 4]) [] hst (oc (ob_box rfl rfl rfl (gq 0 rfl)) (oc (ob_box rfl rfl rfl (gq 1 rfl)) (oc (ob_box rfl rfl rfl (gq 2 rfl)) (oc (ob_box rfl rfl rfl (gq 3 rfl)) (oc (ob_alc rfl rfl rfl (Str.zero str_frac)) o0))))) (fun a w hst=>?_)
 have hst:St B w0 16 [] [⟨4,26,ptrH,_⟩,⟨5,26,ptrH,_⟩,⟨6,26,ptrH,_⟩,⟨7,26,ptrH,_⟩,⟨8,26,ptrH,_⟩] a w:=hst
 refine zt ?_
 refine go_draw (anc:=[[],[],[0,1],[],[],[0,1,2,3,4],[0,1,2,3,4,5],[0,1,2,3,4,5,6]]) (sts:=[none,none,none,none,some (7,_)]) (news:=[]) (sp:=[.val 9 _,.val 10 _,.val 11 _,.val 12 _,.val 13 _,.val 14 _,.val 15 _,.sto 4]) [] follows_mixed hst (zv rfl rfl (r_load (lz0 0 rfl) ty_26) (zv rfl rfl (r_load (lz0 3 rfl) ty_26) (zv rfl rfl (r_call (xs:=[.tmp 9,.tmp 10]) (r2times_q zo) (.cons (vq 0 rfl) (.cons (vq 1 rfl) .nil))) (zv rfl rfl (r_load (lz0 1 rfl) ty_26) (zv rfl rfl (r_load (lz0 2 rfl) ty_26) (zv rfl rfl (r_call (xs:=[.tmp 12,.tmp 13]) (r2times_q zo) (.cons (vq 3 rfl) (.cons (vq 4 rfl) .nil))) (zv rfl rfl (r_call (xs:=[.tmp 11,.tmp 14]) (r2minus_q zo) (.cons (vq 2 rfl) (.cons (vq 5 rfl) .nil))) (oc (ob_sto rfl rfl rfl (vq 6 rfl) ty_26 (Eq.trans (b:=4) rfl rfl)) o0)))))))) zk zk zk zk (fun a w hst=>?_)
 have hst:St B w0 16 [] [⟨4,26,ptrH,_⟩,⟨5,26,ptrH,_⟩,⟨6,26,ptrH,_⟩,⟨7,26,ptrH,_⟩,⟨8,26,ptrH,_⟩] a w:=hst
 refine thn_normal ?_
 refine wp_ret ?_
 refine ret_wk ?_ (ret_cell rfl hst (zm 4 rfl) ty_26)
 exact wk_id
theorem r9det_x {m:RM} (h:[m.a,m.b,m.c,m.d].all okX=true):Cn Tryz.prog 213 [(RFA m.a).va,(RFA m.b).va,(RFA m.c).va,(RFA m.d).va] (Qs 8193 (toQ m.a*toQ m.d - toQ m.b*toQ m.c)):=by
 simp only [List.all_cons,List.all_nil,Bool.and_true,Bool.and_eq_true] at h
 exact (r9cross_q (c:=2048) (d:=2048) (e:=2048) (f:=2048) zd).wk (.cons (qa_x h.1 (Nat.le_refl _)).va (.cons (qa_x h.2.1 (Nat.le_refl _)).va (.cons (qa_x h.2.2.1 (Nat.le_refl _)).va (.cons (qa_x h.2.2.2 (Nat.le_refl _)).va .nil))))
theorem r9may_e {m:RM}:Bo ([m.a,m.b,m.c,m.d].all okX && (cmQ (toQ m.a*toQ m.d - toQ m.b*toQ m.c) 1 == 0))=Bo (okM m):=by rw [cm_eq]; rfl
theorem r9may_c (m:RM):Cn Tryz.prog 163 [(RMA m).va] (Bo (okM m)):=by
 refine Cn.intro Tryz.func163 rfl zk nq (fun B w0 a hst=>?_)
 have hst:St B w0 26 [(0,(RMA m).va)] [] a w0.w:=hst
 refine wp_seq ?_
 refine gl (sts:=[]) (news:=[⟨1,28,ptrH,some 0,_,none⟩]) (sp:=[.alc 0,.val 2 _]) [.o 1] hst (oc (ob_box rfl rfl rfl (gq 0 rfl)) (zv rfl rfl (r_assign has_bo) o0)) (fun a w hst=>?_)
 have hst:St B w0 26 [(2,_)] [⟨1,28,ptrH,_⟩] a w:=hst
 refine zt ?_
 refine gl (sts:=[none]) (news:=[]) (sp:=((.adr 3 1 (.some 0) True:Sp)::(.val 4 _)::(.adr 5 1 (.some 4) True)::(.val 6 _)::(.adr 7 1 (.some 8) True)::(.val 8 _)::(.adr 9 1 (.some 12) True)::(.val 10 _)::(.val 11 _)::(.val 12 _)::(.val 13 _)::(.adr 14 1 (.some 0) (_=true))::(.val 15 (Wh (_=true) _))::(.adr 16 1 (.some 4) (_=true))::(.val 17 (Wh (_=true) _))::(.adr 18 1 (.some 8) (_=true))::(.val 19 (Wh (_=true) _))::(.adr 20 1 (.some 12) (_=true))::(.val 21 (Wh (_=true) _))::(.val 22 (Wh (_=true) _))::(.val 23 (Wh (_=true) _))::(.val 24 (Wh (_=true) _))::(.val 25 _)::(.val 2 _)::[])) [.o 23] hst (oc (ob_a rfl rfl (a_fld (lz0 0 rfl) fld_28_0)) (zv rfl rfl (r_loadf 0 rfl zk trivial (lz0 0 rfl) (Sub.part 0 rfl rfl) ty_26) (oc (ob_a rfl rfl (a_fld (lz0 0 rfl) fld_28_1)) (zv rfl rfl (r_loadf 2 rfl zk trivial (lz0 0 rfl) (Sub.part 1 rfl rfl) ty_26) (oc (ob_a rfl rfl (a_fld (lz0 0 rfl) fld_28_2)) (zv rfl rfl (r_loadf 4 rfl zk trivial (lz0 0 rfl) (Sub.part 2 rfl rfl) ty_26) (oc (ob_a rfl rfl (a_fld (lz0 0 rfl) fld_28_3)) (zv rfl rfl (r_loadf 6 rfl zk trivial (lz0 0 rfl) (Sub.part 3 rfl rfl) ty_26) (zv rfl rfl (r_slice (D:=[U32]) (l:=[_,_,_,_]) (xs:=[.tmp 4,.tmp 6,.tmp 8,.tmp 10]) (nd_ok zk) sl_142 zk (n_ok zk) nq nq nq (.cons (vq 1 rfl) (.cons (vq 3 rfl) (.cons (vq 5 rfl) (.cons (vq 7 rfl) .nil)))) rfl rfl) (zv rfl rfl (r_call (xs:=[.tmp 11]) (r2checks_c [m.a,m.b,m.c,m.d] nq) (.cons (vq 8 rfl) .nil)) (zv rfl rfl (r_move (vq 9 rfl)) (oc (ob_ag rfl rfl rfl (vq 10 rfl) nq (fun hg=>a_fld (lz0 0 rfl) fld_28_0)) (oc (ob_gd rfl rfl rfl (vq 10 rfl) nq (fun hg=>r_loadf 11 rfl zk hg (lz0 0 rfl) (Sub.part 0 rfl rfl) ty_26)) (oc (ob_ag rfl rfl rfl (vq 10 rfl) nq (fun hg=>a_fld (lz0 0 rfl) fld_28_1)) (oc (ob_gd rfl rfl rfl (vq 10 rfl) nq (fun hg=>r_loadf 13 rfl zk hg (lz0 0 rfl) (Sub.part 1 rfl rfl) ty_26)) (oc (ob_ag rfl rfl rfl (vq 10 rfl) nq (fun hg=>a_fld (lz0 0 rfl) fld_28_2)) (oc (ob_gd rfl rfl rfl (vq 10 rfl) nq (fun hg=>r_loadf 15 rfl zk hg (lz0 0 rfl) (Sub.part 2 rfl rfl) ty_26)) (oc (ob_ag rfl rfl rfl (vq 10 rfl) nq (fun hg=>a_fld (lz0 0 rfl) fld_28_3)) (oc (ob_gd rfl rfl rfl (vq 10 rfl) nq (fun hg=>r_loadf 17 rfl zk hg (lz0 0 rfl) (Sub.part 3 rfl rfl) ty_26)) (oc (ob_gd rfl rfl rfl (vq 10 rfl) nq (fun hg=>r_call (xs:=[.tmp 15,.tmp 17,.tmp 19,.tmp 21]) (r9det_x hg) (.cons (has_wh (vq 12 rfl) hg) (.cons (has_wh (vq 14 rfl) hg) (.cons (has_wh (vq 16 rfl) hg) (.cons (has_wh (vq 18 rfl) hg) .nil)))))) (oc (ob_gd rfl rfl rfl (vq 10 rfl) nq (fun hg=>r_call (xs:=[]) r2one_q .nil)) (oc (ob_gd rfl rfl rfl (vq 10 rfl) nq (fun hg=>r_call (xs:=[.tmp 22,.tmp 23]) (r2same_q zo) (.cons (has_wh (vq 19 rfl) hg) (.cons (has_wh (vq 20 rfl) hg) .nil)))) (zv rfl rfl (r_and (vq 10 rfl) (vq 21 rfl)) (zv rfl rfl (r_assign (vq 22 rfl)) o0)))))))))))))))))))))))) (fun a w hst=>?_)
 have hst:St B w0 26 [(2,_)] [⟨1,28,ptrH,_⟩] a w:=hst
 refine thn_normal ?_
 refine wp_ret ?_
 refine ret_wk ?_ (ret_tmp rfl hst (zm 0 rfl))
 exact wk_eq r9may_e
theorem r9check_c (m:RM):Cn Tryz.prog 75 [(RMA m).va] (In (if okM m then 0 else 1)):=by
 refine Cn.intro Tryz.func75 rfl zk nq (fun B w0 a hst=>?_)
 have hst:St B w0 6 [(0,(RMA m).va)] [] a w0.w:=hst
 refine wp_seq ?_
 refine gl (sts:=[]) (news:=[⟨1,28,ptrH,some 0,_,none⟩]) (sp:=[.alc 0,.val 2 _]) [.o 1] hst (oc (ob_box rfl rfl rfl (gq 0 rfl)) (zv rfl rfl (r_assign has_num) o0)) (fun a w hst=>?_)
 have hst:St B w0 6 [(2,_)] [⟨1,28,ptrH,_⟩] a w:=hst
 refine zt ?_
 refine wp_seq ?_
 refine gl (sts:=[none]) (news:=[]) (sp:=[.val 3 _,.val 4 _,.val 5 _]) [.g 0,.o 2] hst (zv rfl rfl (r_load (lz0 0 rfl) ty_28) (zv rfl rfl (r_call (xs:=[.tmp 3]) (r9may_c m) (.cons (vq 0 rfl) .nil)) (zv rfl rfl (r_not (vq 1 rfl)) o0))) (fun a w hst=>?_)
 have hst:St B w0 6 [(2,_),(5,_)] [⟨1,28,ptrH,_⟩] a w:=hst
 refine thn_normal ?_
 refine cond_of hst (zm 1 rfl) (fun hb0=>?_) (fun hb0=>?_)
 ·refine wp_seq ?_
  refine gl (sts:=[none]) (news:=[]) (sp:=[.val 2 _]) [.o 0] hst (zv rfl rfl (r_assign has_num) o0) (fun a w hst=>?_)
  have hst:St B w0 6 [(2,_)] [⟨1,28,ptrH,_⟩] a w:=hst
  refine thn_normal ?_
  refine wp_ret ?_
  refine thn_ret ?_
  refine ret_wk ?_ (ret_tmp rfl hst (zm 0 rfl))
  rw [if_neg (by intro e; rw [e] at hb0; exact absurd hb0 zd)]; exact wk_id
 ·refine wp_skip ?_
  refine zt ?_
  refine gl (sts:=[none]) (news:=[]) (sp:=[.val 2 _]) [.o 0] hst (zv rfl rfl (r_assign has_num) o0) (fun a w hst=>?_)
  have hst:St B w0 6 [(2,_)] [⟨1,28,ptrH,_⟩] a w:=hst
  refine thn_normal ?_
  refine wp_ret ?_
  refine ret_wk ?_ (ret_tmp rfl hst (zm 0 rfl))
  rw [if_pos (by simpa using hb0)]; exact wk_id
theorem r9mayRay_c (r:RR):Cn Tryz.prog 211 [(RRA r).va] (Bo ([r.y,r.u].all okX)):=by
 refine Cn.intro Tryz.func211 rfl zk nq (fun B w0 a hst=>?_)
 have hst:St B w0 9 [(0,(RRA r).va)] [] a w0.w:=hst
 refine wp_seq ?_
 refine gl (sts:=[]) (news:=[⟨1,30,ptrH,some 0,_,none⟩]) (sp:=[.alc 0,.val 2 _]) [.o 1] hst (oc (ob_box rfl rfl rfl (gq 0 rfl)) (zv rfl rfl (r_assign has_bo) o0)) (fun a w hst=>?_)
 have hst:St B w0 9 [(2,_)] [⟨1,30,ptrH,_⟩] a w:=hst
 refine zt ?_
 refine gl (sts:=[none]) (news:=[]) (sp:=[.adr 3 1 (.some 0) True,.val 4 _,.adr 5 1 (.some 4) True,.val 6 _,.val 7 _,.val 8 _,.val 2 _]) [.o 6] hst (oc (ob_a rfl rfl (a_fld (lz0 0 rfl) fld_30_0)) (zv rfl rfl (r_loadf 0 rfl zk trivial (lz0 0 rfl) (Sub.part 0 rfl rfl) ty_26) (oc (ob_a rfl rfl (a_fld (lz0 0 rfl) fld_30_1)) (zv rfl rfl (r_loadf 2 rfl zk trivial (lz0 0 rfl) (Sub.part 1 rfl rfl) ty_26) (zv rfl rfl (r_slice (D:=[U32]) (l:=[_,_]) (xs:=[.tmp 4,.tmp 6]) (nd_ok zk) sl_142 zk (n_ok zk) nq nq nq (.cons (vq 1 rfl) (.cons (vq 3 rfl) .nil)) rfl rfl) (zv rfl rfl (r_call (xs:=[.tmp 7]) (r2checks_c [r.y,r.u] nq) (.cons (vq 4 rfl) .nil)) (zv rfl rfl (r_assign (vq 5 rfl)) o0))))))) (fun a w hst=>?_)
 have hst:St B w0 9 [(2,_)] [⟨1,30,ptrH,_⟩] a w:=hst
 refine thn_normal ?_
 refine wp_ret ?_
 refine ret_wk ?_ (ret_tmp rfl hst (zm 0 rfl))
 exact wk_id
end Go.Proofs.YthncfchnkjemiaaGreatDoor
namespace Go.Proofs.YthncfchnkjemiaaGreatDoor
open Go Go.RowKit
theorem big_e {x:RI}:decide ((x.mag.length:Int)>2048)=bigI x:=by unfold bigI; simp
theorem lq_e {q:Rat}:(bigI (riOf q.num) || bigI (riOf (q.den:Int)))=longQ q:=by simp [longQ]
theorem r1long_c (x:RI):Cn Tryz.prog 301 [(RIA x).va] (Bo (bigI x)):=by
 refine Cn.intro Tryz.func301 rfl zk nq (fun B w0 a hst=>?_)
 have hst:St B w0 7 [(0,(RIA x).va)] [] a w0.w:=hst
 refine wp_seq ?_
 refine gl (sts:=[]) (news:=[⟨1,24,ptrH,some 0,_,none⟩]) (sp:=[.alc 0,.val 2 _]) [.o 1] hst (oc (ob_box rfl rfl rfl (gq 0 rfl)) (zv rfl rfl (r_assign has_bo) o0)) (fun a w hst=>?_)
 have hst:St B w0 7 [(2,_)] [⟨1,24,ptrH,_⟩] a w:=hst
 refine zt ?_
 refine gl (sts:=[none]) (news:=[]) (sp:=[.adr 3 1 (.some 1) True,.val 4 _,.val 5 _,.val 6 _,.val 2 _]) [.o 4] hst (oc (ob_a rfl rfl (a_fld (lz0 0 rfl) fld_24_1)) (zv rfl rfl (r_loadf 0 rfl zk trivial (lz0 0 rfl) (Sub.part 1 rfl rfl) ty_22) (zv rfl rfl (r_lenm Tryz.underlying22 (vq 1 rfl)) (zv rfl rfl (r_gtr (vq 2 rfl) has_num) (zv rfl rfl (r_assign (vq 3 rfl)) o0))))) (fun a w hst=>?_)
 have hst:St B w0 7 [(2,_)] [⟨1,24,ptrH,_⟩] a w:=hst
 refine thn_normal ?_
 refine wp_ret ?_
 refine ret_wk ?_ (ret_tmp rfl hst (zm 0 rfl))
 exact wk_eq (congrArg Bo big_e)
theorem r2long_q {L:List As} (qs:List Rat) (hL:All2 IsQ L qs) (hl:qs.length≤1099511627776):Cn Tryz.prog 179 [(SlA 26 [U32] L).va] (Bo (qs.any longQ)):=by
 have hLl:=hL.length
 refine Cn.introW Tryz.func179 rfl zk nq (.cons (up_sl (isq_up hL)).va .nil) (free_bo _).va (fun B w0 a hB0 hst=>?_)
 have hst:St B w0 24 [(0,(SlO 26 [U32] L True).va)] [] a w0.w:=hst
 refine wp_seq ?_
 refine gl (sts:=[]) (news:=[]) (sp:=[.val 2 _]) [.g 0,.o 0] hst (zv rfl rfl (r_assign has_bo) o0) (fun a w hst=>?_)
 have hst:St B w0 24 [(0,_),(2,_)] [] a w:=hst
 refine zt ?_
 refine wp_seq ?_
 refine gl (sts:=[]) (news:=[]) (sp:=[.val 3 _]) [.g 0,.g 1,.o 0] hst (zv rfl rfl (r_assign has_num) o0) (fun a w hst=>?_)
 have hst:St B w0 24 [(0,_),(2,_),(3,_)] [] a w:=hst
 refine thn_normal ?_
 refine wp_block ?_
 have hst:=St.sel hst [0,2]
 refine wp_loop_ghost (fun n a w=>∃ j:Nat,(n+j=qs.length∧(qs.take j).any longQ=false)∧St B w0 24 [(0,(SlO 26 [U32] L True).va),(3,In (j:Nat))] [] a w) (qs.length) ?_ ?_
 ·exact ⟨0,⟨by omega,rfl⟩,hst⟩
 intro n a w hI
 obtain ⟨j,⟨hn,hno⟩,hst⟩:=hI
 refine wp_seq ?_
 refine wp_seq ?_
 refine gl (sts:=[]) (news:=[]) (sp:=[.val 4 _,.val 5 _,.val 6 _,.val 7 _]) [.g 0,.g 1,.o 3] hst (zv rfl rfl (r_move (gq 1 rfl)) (zv rfl rfl (r_move (gq 0 rfl)) (zv rfl rfl (r_len Tryz.underlying142 (has_and (has_old (vq 1 rfl)))) (zv rfl rfl (r_lss (vq 0 rfl) (vq 2 rfl)) o0)))) (fun a w hst=>?_)
 have hst:St B w0 24 [(0,_),(3,_),(7,_)] [] a w:=hst
 refine thn_normal ?_
 refine cond_of hst (zm 2 rfl) (fun hb0=>?_) (fun hb0=>?_)
 ·have hj:j<qs.length:=by rw [hLl] at hb0; simp at hb0; omega
  obtain ⟨kj,hLj⟩:=isq_at hL hj
  refine wp_skip ?_
  refine zt ?_
  refine wp_block ?_
  refine wp_seq ?_
  refine gl (sts:=[]) (news:=[]) (sp:=[.val 10 _,.val 11 _,.val 12 _,.val 13 _,.val 14 _,.val 15 _,.val 16 _,.val 17 (Wh (_=false) _),.val 18 (Wh (_=false) _),.val 19 (Wh (_=false) _),.val 20 (Wh (_=false) _),.val 21 (Wh (_=false) _),.val 22 (Wh (_=false) _),.val 23 _]) [.g 0,.g 1,.o 13] hst (zv rfl rfl (r_move (gq 0 rfl)) (zv rfl rfl (r_move (gq 1 rfl)) (zv rfl rfl (r_idx sl_142 (isq_n hL) (has_and (has_old (vq 0 rfl))) (vq 1 rfl) hLj) (zv rfl rfl (r_fielde (vq 2 rfl) fld_26_0 (Sub.part 0 rfl rfl)) (zv rfl rfl (r_loade (vq 3 rfl) ty_24) (zv rfl rfl (r_call (xs:=[.tmp 14]) ((r1long_c (riOf (qs[j]).num)).wk (.cons zaA.va .nil)) (.cons (vq 4 rfl) .nil)) (zv rfl rfl (r_move (vq 5 rfl)) (oc (ob_gd rfl rfl rfl (vq 6 rfl) nq (fun hg=>r_move (gq 0 rfl))) (oc (ob_gd rfl rfl rfl (vq 6 rfl) nq (fun hg=>r_move (gq 1 rfl))) (oc (ob_gd rfl rfl rfl (vq 6 rfl) nq (fun hg=>r_idx sl_142 (isq_n hL) (has_and (has_old (has_wh (vq 7 rfl) hg))) (has_wh (vq 8 rfl) hg) hLj)) (oc (ob_gd rfl rfl rfl (vq 6 rfl) nq (fun hg=>r_fielde (has_wh (vq 9 rfl) hg) fld_26_1 (Sub.part 1 rfl rfl))) (oc (ob_gd rfl rfl rfl (vq 6 rfl) nq (fun hg=>r_loade (has_wh (vq 10 rfl) hg) ty_24)) (oc (ob_gd rfl rfl rfl (vq 6 rfl) nq (fun hg=>r_call (xs:=[.tmp 21]) ((r1long_c (riOf ((qs[j]).den:Int))).wk (.cons zaA.va .nil)) (.cons (has_wh (vq 11 rfl) hg) .nil))) (zv rfl rfl (r_or (vq 6 rfl) (vq 12 rfl)) o0)))))))))))))) (fun a w hst=>?_)
  have hst:St B w0 24 [(0,_),(3,_),(23,_)] [] a w:=hst
  refine thn_normal ?_
  refine cond_of hst (zm 2 rfl) (fun hb1=>?_) (fun hb1=>?_)
  ·rw [lq_e] at hb1
   refine wp_seq ?_
   refine gl (sts:=[]) (news:=[]) (sp:=[.val 2 _]) [.g 0,.g 1,.o 0] hst (zv rfl rfl (r_assign has_bo) o0) (fun a w hst=>?_)
   have hst:St B w0 24 [(0,_),(3,_),(2,_)] [] a w:=hst
   refine thn_normal ?_
   refine wp_ret ?_
   refine blk_ret ?_
   refine thn_ret ?_
   refine thn_ret ?_
   refine blk_ret ?_
   refine thn_ret ?_
   refine ret_cast ?_ (ret_tmp rfl hst (zm 2 rfl))
   rw [← lq_some hj hb1]
  ·rw [lq_e] at hb1
   refine wp_skip ?_
   refine blk_normal ?_
   refine thn_normal ?_
   refine gl (sts:=[]) (news:=[]) (sp:=[.val 8 _,.val 9 _,.val 3 _]) [.g 0,.o 2] hst (zv rfl rfl (r_move (gq 1 rfl)) (zv rfl rfl (r_add (vq 0 rfl) has_num (wi_succ zo)) (zv rfl rfl (r_assign (vq 1 rfl)) o0))) (fun a w hst=>?_)
   have hst:St B w0 24 [(0,_),(3,_)] [] a w:=hst
   refine thn_normal ?_
   have hst:=St.sel hst [0,1]
   exact ⟨n - 1,by omega,j+1,⟨by omega,lq_no hj hno hb1⟩,hst⟩
 ·obtain rfl:j=qs.length:=by rw [hLl] at hb0; simp at hb0; omega
  refine wp_exit ?_
  refine thn_exit ?_
  refine thn_exit ?_
  refine blk_exit ?_
  refine zt ?_
  refine gl (sts:=[]) (news:=[]) (sp:=[.val 2 _]) [.o 0] hst (zv rfl rfl (r_assign has_bo) o0) (fun a w hst=>?_)
  have hst:St B w0 24 [(2,_)] [] a w:=hst
  refine thn_normal ?_
  refine wp_ret ?_
  refine ret_cast ?_ (ret_tmp rfl hst (zm 0 rfl))
  rw [List.take_length] at hno; rw [hno]
def abQ (b:Rat):Rat:=if b.num.sign<0 then -b else b
end Go.Proofs.YthncfchnkjemiaaGreatDoor
