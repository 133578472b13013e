import Derived.Test.YthncfchnkjemiaaGreatDoorIlAa
import Derived.Test.YthncfchnkjemiaaGreatDoorIlAc
import Derived.Test.YthncfchnkjemiaaGreatDoorIlAp
import Derived.Test.YthncfchnkjemiaaGreatDoorIlAq
import Derived.Test.YthncfchnkjemiaaGreatDoorIlBc
import Derived.ProofKit
import Derived.OpenShut
import Derived.ChangeOld
import Derived.Below
import Derived.Deep.Slices
import Derived.SizedLaws
set_option linter.unusedVariables false
set_option linter.unusedSimpArgs false
set_option linter.unusedSectionVars false
set_option maxRecDepth 100000
namespace Go.Proofs.YthncfchnkjemiaaGreatDoor
open Go Go.RowKit
theorem r9cross_q {c d e f:Nat} {x y z u:Rat} (hk:c+d+e+f≤900000000):Cn Tryz.prog 213 [Qs c x,Qs d y,Qs e z,Qs f u] (Qs (c+f+(d+e)+1) (x*u - y*z)):=by
 refine Cn.intro Tryz.func213 rfl zk nq (fun B w0 a hst=>?_)
 have hst:St B w0 16 [(0,Qs c x),(1,Qs d y),(2,Qs e z),(3,Qs f u)] [] a w0.w:=hst
 refine wp_seq ?_
 refine gl (sts:=[]) (news:=[⟨4,26,ptrH,some 0,_,none⟩,⟨5,26,ptrH,some 1,_,none⟩,⟨6,26,ptrH,some 2,_,none⟩,⟨7,26,ptrH,some 3,_,none⟩,⟨8,26,ptrH,some 4,_,none⟩]) (sp:=[.alc 0,.alc 1,.alc 2,.alc 3,.alc 4]) [] hst (oc (ob_box rfl rfl rfl (gq 0 rfl)) (oc (ob_box rfl rfl rfl (gq 1 rfl)) (oc (ob_box rfl rfl rfl (gq 2 rfl)) (oc (ob_box rfl rfl rfl (gq 3 rfl)) (oc (ob_alc rfl rfl rfl (Str.zero str_frac)) o0))))) (fun a w hst=>?_)
 have hst:St B w0 16 [] [⟨4,26,ptrH,_⟩,⟨5,26,ptrH,_⟩,⟨6,26,ptrH,_⟩,⟨7,26,ptrH,_⟩,⟨8,26,ptrH,_⟩] a w:=hst
 refine zt ?_
 refine go_draw (anc:=[[],[],[0,1],[],[],[0,1,2,3,4],[0,1,2,3,4,5],[0,1,2,3,4,5,6]]) (sts:=[none,none,none,none,some (7,_)]) (news:=[]) (sp:=[.val 9 _,.val 10 _,.val 11 _,.val 12 _,.val 13 _,.val 14 _,.val 15 _,.sto 4]) [] follows_mixed hst (zv rfl rfl (r_load (lz0 0 rfl) ty_26) (zv rfl rfl (r_load (lz0 3 rfl) ty_26) (zv rfl rfl (r_call (xs:=[.tmp 9,.tmp 10]) (r2times_q zo) (.cons (vq 0 rfl) (.cons (vq 1 rfl) .nil))) (zv rfl rfl (r_load (lz0 1 rfl) ty_26) (zv rfl rfl (r_load (lz0 2 rfl) ty_26) (zv rfl rfl (r_call (xs:=[.tmp 12,.tmp 13]) (r2times_q zo) (.cons (vq 3 rfl) (.cons (vq 4 rfl) .nil))) (zv rfl rfl (r_call (xs:=[.tmp 11,.tmp 14]) (r2minus_q zo) (.cons (vq 2 rfl) (.cons (vq 5 rfl) .nil))) (oc (ob_sto rfl rfl rfl (vq 6 rfl) ty_26 (Eq.trans (b:=4) rfl rfl)) o0)))))))) zk zk zk zk (fun a w hst=>?_)
 have hst:St B w0 16 [] [⟨4,26,ptrH,_⟩,⟨5,26,ptrH,_⟩,⟨6,26,ptrH,_⟩,⟨7,26,ptrH,_⟩,⟨8,26,ptrH,_⟩] a w:=hst
 refine thn_normal ?_
 refine wp_ret ?_
 refine ret_wk ?_ (ret_cell rfl hst (zm 4 rfl) ty_26)
 exact wk_id
theorem r9det_x {m:RM} (h:[m.a,m.b,m.c,m.d].all okX=true):Cn Tryz.prog 213 [(RFA m.a).va,(RFA m.b).va,(RFA m.c).va,(RFA m.d).va] (Qs 8193 (toQ m.a*toQ m.d - toQ m.b*toQ m.c)):=by
 simp only [List.all_cons,List.all_nil,Bool.and_true,Bool.and_eq_true] at h
 exact (r9cross_q (c:=2048) (d:=2048) (e:=2048) (f:=2048) zd).wk (.cons (qa_x h.1 (Nat.le_refl _)).va (.cons (qa_x h.2.1 (Nat.le_refl _)).va (.cons (qa_x h.2.2.1 (Nat.le_refl _)).va (.cons (qa_x h.2.2.2 (Nat.le_refl _)).va .nil))))
theorem r9may_e {m:RM}:Bo ([m.a,m.b,m.c,m.d].all okX && (cmQ (toQ m.a*toQ m.d - toQ m.b*toQ m.c) 1 == 0))=Bo (okM m):=by rw [cm_eq]; rfl
theorem r9may_c (m:RM):Cn Tryz.prog 163 [(RMA m).va] (Bo (okM m)):=by
 refine Cn.intro Tryz.func163 rfl zk nq (fun B w0 a hst=>?_)
 have hst:St B w0 26 [(0,(RMA m).va)] [] a w0.w:=hst
 refine wp_seq ?_
 refine gl (sts:=[]) (news:=[⟨1,28,ptrH,some 0,_,none⟩]) (sp:=[.alc 0,.val 2 _]) [.o 1] hst (oc (ob_box rfl rfl rfl (gq 0 rfl)) (zv rfl rfl (r_assign has_bo) o0)) (fun a w hst=>?_)
 have hst:St B w0 26 [(2,_)] [⟨1,28,ptrH,_⟩] a w:=hst
 refine zt ?_
 refine gl (sts:=[none]) (news:=[]) (sp:=((.adr 3 1 (.some 0) True:Sp)::(.val 4 _)::(.adr 5 1 (.some 4) True)::(.val 6 _)::(.adr 7 1 (.some 8) True)::(.val 8 _)::(.adr 9 1 (.some 12) True)::(.val 10 _)::(.val 11 _)::(.val 12 _)::(.val 13 _)::(.adr 14 1 (.some 0) (_=true))::(.val 15 (Wh (_=true) _))::(.adr 16 1 (.some 4) (_=true))::(.val 17 (Wh (_=true) _))::(.adr 18 1 (.some 8) (_=true))::(.val 19 (Wh (_=true) _))::(.adr 20 1 (.some 12) (_=true))::(.val 21 (Wh (_=true) _))::(.val 22 (Wh (_=true) _))::(.val 23 (Wh (_=true) _))::(.val 24 (Wh (_=true) _))::(.val 25 _)::(.val 2 _)::[])) [.o 23] hst (oc (ob_a rfl rfl (a_fld (lz0 0 rfl) fld_28_0)) (zv rfl rfl (r_loadf 0 rfl zk trivial (lz0 0 rfl) (Sub.part 0 rfl rfl) ty_26) (oc (ob_a rfl rfl (a_fld (lz0 0 rfl) fld_28_1)) (zv rfl rfl (r_loadf 2 rfl zk trivial (lz0 0 rfl) (Sub.part 1 rfl rfl) ty_26) (oc (ob_a rfl rfl (a_fld (lz0 0 rfl) fld_28_2)) (zv rfl rfl (r_loadf 4 rfl zk trivial (lz0 0 rfl) (Sub.part 2 rfl rfl) ty_26) (oc (ob_a rfl rfl (a_fld (lz0 0 rfl) fld_28_3)) (zv rfl rfl (r_loadf 6 rfl zk trivial (lz0 0 rfl) (Sub.part 3 rfl rfl) ty_26) (zv rfl rfl (r_slice (D:=[U32]) (l:=[_,_,_,_]) (xs:=[.tmp 4,.tmp 6,.tmp 8,.tmp 10]) (nd_ok zk) sl_142 zk (n_ok zk) nq nq nq (.cons (vq 1 rfl) (.cons (vq 3 rfl) (.cons (vq 5 rfl) (.cons (vq 7 rfl) .nil)))) rfl rfl) (zv rfl rfl (r_call (xs:=[.tmp 11]) (r2checks_c [m.a,m.b,m.c,m.d] nq) (.cons (vq 8 rfl) .nil)) (zv rfl rfl (r_move (vq 9 rfl)) (oc (ob_ag rfl rfl rfl (vq 10 rfl) nq (fun hg=>a_fld (lz0 0 rfl) fld_28_0)) (oc (ob_gd rfl rfl rfl (vq 10 rfl) nq (fun hg=>r_loadf 11 rfl zk hg (lz0 0 rfl) (Sub.part 0 rfl rfl) ty_26)) (oc (ob_ag rfl rfl rfl (vq 10 rfl) nq (fun hg=>a_fld (lz0 0 rfl) fld_28_1)) (oc (ob_gd rfl rfl rfl (vq 10 rfl) nq (fun hg=>r_loadf 13 rfl zk hg (lz0 0 rfl) (Sub.part 1 rfl rfl) ty_26)) (oc (ob_ag rfl rfl rfl (vq 10 rfl) nq (fun hg=>a_fld (lz0 0 rfl) fld_28_2)) (oc (ob_gd rfl rfl rfl (vq 10 rfl) nq (fun hg=>r_loadf 15 rfl zk hg (lz0 0 rfl) (Sub.part 2 rfl rfl) ty_26)) (oc (ob_ag rfl rfl rfl (vq 10 rfl) nq (fun hg=>a_fld (lz0 0 rfl) fld_28_3)) (oc (ob_gd rfl rfl rfl (vq 10 rfl) nq (fun hg=>r_loadf 17 rfl zk hg (lz0 0 rfl) (Sub.part 3 rfl rfl) ty_26)) (oc (ob_gd rfl rfl rfl (vq 10 rfl) nq (fun hg=>r_call (xs:=[.tmp 15,.tmp 17,.tmp 19,.tmp 21]) (r9det_x hg) (.cons (has_wh (vq 12 rfl) hg) (.cons (has_wh (vq 14 rfl) hg) (.cons (has_wh (vq 16 rfl) hg) (.cons (has_wh (vq 18 rfl) hg) .nil)))))) (oc (ob_gd rfl rfl rfl (vq 10 rfl) nq (fun hg=>r_call (xs:=[]) r2one_q .nil)) (oc (ob_gd rfl rfl rfl (vq 10 rfl) nq (fun hg=>r_call (xs:=[.tmp 22,.tmp 23]) (r2same_q zo) (.cons (has_wh (vq 19 rfl) hg) (.cons (has_wh (vq 20 rfl) hg) .nil)))) (zv rfl rfl (r_and (vq 10 rfl) (vq 21 rfl)) (zv rfl rfl (r_assign (vq 22 rfl)) o0)))))))))))))))))))))))) (fun a w hst=>?_)
 have hst:St B w0 26 [(2,_)] [⟨1,28,ptrH,_⟩] a w:=hst
 refine thn_normal ?_
 refine wp_ret ?_
 refine ret_wk ?_ (ret_tmp rfl hst (zm 0 rfl))
 exact wk_eq r9may_e
end Go.Proofs.YthncfchnkjemiaaGreatDoor
namespace Go.Proofs.YthncfchnkjemiaaGreatDoor
open Go Go.RowKit
theorem big_e {x:RI}:decide ((x.mag.length:Int)>2048)=bigI x:=by unfold bigI; simp
theorem lq_e {q:Rat}:(bigI (riOf q.num) || bigI (riOf (q.den:Int)))=longQ q:=by simp [longQ]
theorem r1long_c (x:RI):Cn Tryz.prog 301 [(RIA x).va] (Bo (bigI x)):=by
 refine Cn.intro Tryz.func301 rfl zk nq (fun B w0 a hst=>?_)
 have hst:St B w0 7 [(0,(RIA x).va)] [] a w0.w:=hst
 refine wp_seq ?_
 refine gl (sts:=[]) (news:=[⟨1,24,ptrH,some 0,_,none⟩]) (sp:=[.alc 0,.val 2 _]) [.o 1] hst (oc (ob_box rfl rfl rfl (gq 0 rfl)) (zv rfl rfl (r_assign has_bo) o0)) (fun a w hst=>?_)
 have hst:St B w0 7 [(2,_)] [⟨1,24,ptrH,_⟩] a w:=hst
 refine zt ?_
 refine gl (sts:=[none]) (news:=[]) (sp:=[.adr 3 1 (.some 1) True,.val 4 _,.val 5 _,.val 6 _,.val 2 _]) [.o 4] hst (oc (ob_a rfl rfl (a_fld (lz0 0 rfl) fld_24_1)) (zv rfl rfl (r_loadf 0 rfl zk trivial (lz0 0 rfl) (Sub.part 1 rfl rfl) ty_22) (zv rfl rfl (r_lenm Tryz.underlying22 (vq 1 rfl)) (zv rfl rfl (r_gtr (vq 2 rfl) has_num) (zv rfl rfl (r_assign (vq 3 rfl)) o0))))) (fun a w hst=>?_)
 have hst:St B w0 7 [(2,_)] [⟨1,24,ptrH,_⟩] a w:=hst
 refine thn_normal ?_
 refine wp_ret ?_
 refine ret_wk ?_ (ret_tmp rfl hst (zm 0 rfl))
 exact wk_eq (congrArg Bo big_e)
theorem r2long_q {L:List As} (qs:List Rat) (hL:All2 IsQ L qs) (hl:qs.length≤1099511627776):Cn Tryz.prog 179 [(SlA 26 [U32] L).va] (Bo (qs.any longQ)):=by
 have hLl:=hL.length
 refine Cn.introW Tryz.func179 rfl zk nq (.cons (up_sl (isq_up hL)).va .nil) (free_bo _).va (fun B w0 a hB0 hst=>?_)
 have hst:St B w0 24 [(0,(SlO 26 [U32] L True).va)] [] a w0.w:=hst
 refine wp_seq ?_
 refine gl (sts:=[]) (news:=[]) (sp:=[.val 2 _]) [.g 0,.o 0] hst (zv rfl rfl (r_assign has_bo) o0) (fun a w hst=>?_)
 have hst:St B w0 24 [(0,_),(2,_)] [] a w:=hst
 refine zt ?_
 refine wp_seq ?_
 refine gl (sts:=[]) (news:=[]) (sp:=[.val 3 _]) [.g 0,.g 1,.o 0] hst (zv rfl rfl (r_assign has_num) o0) (fun a w hst=>?_)
 have hst:St B w0 24 [(0,_),(2,_),(3,_)] [] a w:=hst
 refine thn_normal ?_
 refine wp_block ?_
 have hst:=St.sel hst [0,2]
 refine wp_loop_ghost (fun n a w=>∃ j:Nat,(n+j=qs.length∧(qs.take j).any longQ=false)∧St B w0 24 [(0,(SlO 26 [U32] L True).va),(3,In (j:Nat))] [] a w) (qs.length) ?_ ?_
 ·exact ⟨0,⟨by omega,rfl⟩,hst⟩
 intro n a w hI
 obtain ⟨j,⟨hn,hno⟩,hst⟩:=hI
 refine wp_seq ?_
 refine wp_seq ?_
 refine gl (sts:=[]) (news:=[]) (sp:=[.val 4 _,.val 5 _,.val 6 _,.val 7 _]) [.g 0,.g 1,.o 3] hst (zv rfl rfl (r_move (gq 1 rfl)) (zv rfl rfl (r_move (gq 0 rfl)) (zv rfl rfl (r_len Tryz.underlying142 (has_and (has_old (vq 1 rfl)))) (zv rfl rfl (r_lss (vq 0 rfl) (vq 2 rfl)) o0)))) (fun a w hst=>?_)
 have hst:St B w0 24 [(0,_),(3,_),(7,_)] [] a w:=hst
 refine thn_normal ?_
 refine cond_of hst (zm 2 rfl) (fun hb0=>?_) (fun hb0=>?_)
 ·have hj:j<qs.length:=by rw [hLl] at hb0; simp at hb0; omega
  obtain ⟨kj,hLj⟩:=isq_at hL hj
  refine wp_skip ?_
  refine zt ?_
  refine wp_block ?_
  refine wp_seq ?_
  refine gl (sts:=[]) (news:=[]) (sp:=[.val 10 _,.val 11 _,.val 12 _,.val 13 _,.val 14 _,.val 15 _,.val 16 _,.val 17 (Wh (_=false) _),.val 18 (Wh (_=false) _),.val 19 (Wh (_=false) _),.val 20 (Wh (_=false) _),.val 21 (Wh (_=false) _),.val 22 (Wh (_=false) _),.val 23 _]) [.g 0,.g 1,.o 13] hst (zv rfl rfl (r_move (gq 0 rfl)) (zv rfl rfl (r_move (gq 1 rfl)) (zv rfl rfl (r_idx sl_142 (isq_n hL) (has_and (has_old (vq 0 rfl))) (vq 1 rfl) hLj) (zv rfl rfl (r_fielde (vq 2 rfl) fld_26_0 (Sub.part 0 rfl rfl)) (zv rfl rfl (r_loade (vq 3 rfl) ty_24) (zv rfl rfl (r_call (xs:=[.tmp 14]) ((r1long_c (riOf (qs[j]).num)).wk (.cons zaA.va .nil)) (.cons (vq 4 rfl) .nil)) (zv rfl rfl (r_move (vq 5 rfl)) (oc (ob_gd rfl rfl rfl (vq 6 rfl) nq (fun hg=>r_move (gq 0 rfl))) (oc (ob_gd rfl rfl rfl (vq 6 rfl) nq (fun hg=>r_move (gq 1 rfl))) (oc (ob_gd rfl rfl rfl (vq 6 rfl) nq (fun hg=>r_idx sl_142 (isq_n hL) (has_and (has_old (has_wh (vq 7 rfl) hg))) (has_wh (vq 8 rfl) hg) hLj)) (oc (ob_gd rfl rfl rfl (vq 6 rfl) nq (fun hg=>r_fielde (has_wh (vq 9 rfl) hg) fld_26_1 (Sub.part 1 rfl rfl))) (oc (ob_gd rfl rfl rfl (vq 6 rfl) nq (fun hg=>r_loade (has_wh (vq 10 rfl) hg) ty_24)) (oc (ob_gd rfl rfl rfl (vq 6 rfl) nq (fun hg=>r_call (xs:=[.tmp 21]) ((r1long_c (riOf ((qs[j]).den:Int))).wk (.cons zaA.va .nil)) (.cons (has_wh (vq 11 rfl) hg) .nil))) (zv rfl rfl (r_or (vq 6 rfl) (vq 12 rfl)) o0)))))))))))))) (fun a w hst=>?_)
  have hst:St B w0 24 [(0,_),(3,_),(23,_)] [] a w:=hst
  refine thn_normal ?_
  refine cond_of hst (zm 2 rfl) (fun hb1=>?_) (fun hb1=>?_)
  ·rw [lq_e] at hb1
   refine wp_seq ?_
   refine gl (sts:=[]) (news:=[]) (sp:=[.val 2 _]) [.g 0,.g 1,.o 0] hst (zv rfl rfl (r_assign has_bo) o0) (fun a w hst=>?_)
   have hst:St B w0 24 [(0,_),(3,_),(2,_)] [] a w:=hst
   refine thn_normal ?_
   refine wp_ret ?_
   refine blk_ret ?_
   refine thn_ret ?_
   refine thn_ret ?_
   refine blk_ret ?_
   refine thn_ret ?_
   refine ret_cast ?_ (ret_tmp rfl hst (zm 2 rfl))
   rw [← lq_some hj hb1]
  ·rw [lq_e] at hb1
   refine wp_skip ?_
   refine blk_normal ?_
   refine thn_normal ?_
   refine gl (sts:=[]) (news:=[]) (sp:=[.val 8 _,.val 9 _,.val 3 _]) [.g 0,.o 2] hst (zv rfl rfl (r_move (gq 1 rfl)) (zv rfl rfl (r_add (vq 0 rfl) has_num (wi_succ zo)) (zv rfl rfl (r_assign (vq 1 rfl)) o0))) (fun a w hst=>?_)
   have hst:St B w0 24 [(0,_),(3,_)] [] a w:=hst
   refine thn_normal ?_
   have hst:=St.sel hst [0,1]
   exact ⟨n - 1,by omega,j+1,⟨by omega,lq_no hj hno hb1⟩,hst⟩
 ·obtain rfl:j=qs.length:=by rw [hLl] at hb0; simp at hb0; omega
  refine wp_exit ?_
  refine thn_exit ?_
  refine thn_exit ?_
  refine blk_exit ?_
  refine zt ?_
  refine gl (sts:=[]) (news:=[]) (sp:=[.val 2 _]) [.o 0] hst (zv rfl rfl (r_assign has_bo) o0) (fun a w hst=>?_)
  have hst:St B w0 24 [(2,_)] [] a w:=hst
  refine thn_normal ?_
  refine wp_ret ?_
  refine ret_cast ?_ (ret_tmp rfl hst (zm 0 rfl))
  rw [List.take_length] at hno; rw [hno]
theorem r11ans_q {c:Nat} {x:Rat} (hc:c≤549755813888):Cn Tryz.prog 170 [Qs c x] (FrR (ansF x)):=by
 refine Cn.intro Tryz.func170 rfl zk nq (fun B w0 a hst=>?_)
 have hst:St B w0 9 [(0,Qs c x)] [] a w0.w:=hst
 refine wp_seq ?_
 refine gl (sts:=[]) (news:=[⟨1,26,ptrH,some 0,_,none⟩,⟨2,26,ptrH,some 1,_,none⟩]) (sp:=[.alc 0,.alc 1,.val 3 _]) [.o 2] hst (oc (ob_box rfl rfl rfl (gq 0 rfl)) (oc (ob_alc rfl rfl rfl (Str.zero str_frac)) (zv rfl rfl (r_assign has_num) o0))) (fun a w hst=>?_)
 have hst:St B w0 9 [(3,_)] [⟨1,26,ptrH,_⟩,⟨2,26,ptrH,_⟩] a w:=hst
 refine zt ?_
 refine wp_seq ?_
 refine gl (sts:=[none,none]) (news:=[]) (sp:=[.val 4 _,.val 5 _,.val 6 _]) [.g 0,.o 2] hst (zv rfl rfl (r_load (lz0 0 rfl) ty_26) (zv rfl rfl (r_slice (D:=[U32]) (l:=[_]) (xs:=[.tmp 4]) (nd_ok zk) sl_142 zk (n_ok zk) nq nq nq (.cons (vq 0 rfl) .nil) rfl rfl) (zv rfl rfl (r_call (xs:=[.tmp 5]) (r2long_q [x] (.cons ⟨_,rfl⟩ .nil) nq) (.cons (vq 1 rfl) .nil)) o0))) (fun a w hst=>?_)
 have hst:St B w0 9 [(3,_),(6,_)] [⟨1,26,ptrH,_⟩,⟨2,26,ptrH,_⟩] a w:=hst
 refine thn_normal ?_
 refine cond_of hst (zm 1 rfl) (fun hb0=>?_) (fun hb0=>?_)
 ·rw [one_long] at hb0
  refine wp_seq ?_
  refine gl (sts:=[none,some (1,_)]) (news:=[]) (sp:=[.val 7 _,.sto 1,.val 3 _]) [.o 2] hst (zv rfl rfl (r_build (xs:=[]) (qs:=[]) str_frac .nil) (oc (ob_sto rfl rfl rfl (vq 0 rfl) ty_26 (Eq.trans (b:=4) rfl rfl)) (zv rfl rfl (r_assign has_num) o0))) (fun a w hst=>?_)
  have hst:St B w0 9 [(3,_)] [⟨1,26,ptrH,_⟩,⟨2,26,ptrH,_⟩] a w:=hst
  refine thn_normal ?_
  refine wp_ret ?_
  refine thn_ret ?_
  refine ret_wk ?_ (ret_many (rs:=[.cell 2 26,.tmp 3]) rfl hst (.cell (zm 1 rfl) ty_26 (.tmp (zm 0 rfl) .nil)) zd)
  rw [ansF,if_pos hb0]; exact wk_id
 ·rw [one_long] at hb0
  refine wp_skip ?_
  refine zt ?_
  refine gl (sts:=[none,some (1,_)]) (news:=[]) (sp:=[.val 8 _,.sto 1,.val 3 _]) [.o 2] hst (zv rfl rfl (r_load (lz0 0 rfl) ty_26) (oc (ob_sto rfl rfl rfl (vq 0 rfl) ty_26 (Eq.trans (b:=4) rfl rfl)) (zv rfl rfl (r_assign has_num) o0))) (fun a w hst=>?_)
  have hst:St B w0 9 [(3,_)] [⟨1,26,ptrH,_⟩,⟨2,26,ptrH,_⟩] a w:=hst
  refine thn_normal ?_
  refine wp_ret ?_
  refine ret_wk ?_ (ret_many (rs:=[.cell 2 26,.tmp 3]) rfl hst (.cell (zm 1 rfl) ty_26 (.tmp (zm 0 rfl) .nil)) zd)
  rw [ansF,if_neg (by rw [hb0]; decide)]; exact tu2w rq_wk wk_id
theorem r11two_q {c d:Nat} {x y:Rat} (hc:c≤549755813888) (hd:d≤549755813888):Cn Tryz.prog 166 [Qs c x,Qs d y] (TwR (twF x y)):=by
 refine Cn.intro Tryz.func166 rfl zk nq (fun B w0 a hst=>?_)
 have hst:St B w0 15 [(0,Qs c x),(1,Qs d y)] [] a w0.w:=hst
 refine wp_seq ?_
 refine gl (sts:=[]) (news:=[⟨2,26,ptrH,some 0,_,none⟩,⟨3,26,ptrH,some 1,_,none⟩,⟨4,26,ptrH,some 2,_,none⟩,⟨5,26,ptrH,some 3,_,none⟩]) (sp:=[.alc 0,.alc 1,.alc 2,.alc 3,.val 6 _]) [.o 4] hst (oc (ob_box rfl rfl rfl (gq 0 rfl)) (oc (ob_box rfl rfl rfl (gq 1 rfl)) (oc (ob_alc rfl rfl rfl (Str.zero str_frac)) (oc (ob_alc rfl rfl rfl (Str.zero str_frac)) (zv rfl rfl (r_assign has_num) o0))))) (fun a w hst=>?_)
 have hst:St B w0 15 [(6,_)] [⟨2,26,ptrH,_⟩,⟨3,26,ptrH,_⟩,⟨4,26,ptrH,_⟩,⟨5,26,ptrH,_⟩] a w:=hst
 refine zt ?_
 refine wp_seq ?_
 refine gl (sts:=[none,none,none,none]) (news:=[]) (sp:=[.val 7 _,.val 8 _,.val 9 _,.val 10 _]) [.g 0,.o 3] hst (zv rfl rfl (r_load (lz0 0 rfl) ty_26) (zv rfl rfl (r_load (lz0 1 rfl) ty_26) (zv rfl rfl (r_slice (D:=[U32]) (l:=[_,_]) (xs:=[.tmp 7,.tmp 8]) (nd_ok zk) sl_142 zk (n_ok zk) nq nq nq (.cons (vq 0 rfl) (.cons (vq 1 rfl) .nil)) rfl rfl) (zv rfl rfl (r_call (xs:=[.tmp 9]) (r2long_q [x,y] (.cons ⟨_,rfl⟩ (.cons ⟨_,rfl⟩ .nil)) nq) (.cons (vq 2 rfl) .nil)) o0)))) (fun a w hst=>?_)
 have hst:St B w0 15 [(6,_),(10,_)] [⟨2,26,ptrH,_⟩,⟨3,26,ptrH,_⟩,⟨4,26,ptrH,_⟩,⟨5,26,ptrH,_⟩] a w:=hst
 refine thn_normal ?_
 refine cond_of hst (zm 1 rfl) (fun hb0=>?_) (fun hb0=>?_)
 ·refine wp_seq ?_
  refine gl (sts:=[none,none,some (2,_),some (3,_)]) (news:=[]) (sp:=[.val 11 _,.val 12 _,.sto 2,.sto 3,.val 6 _]) [.o 4] hst (zv rfl rfl (r_build (xs:=[]) (qs:=[]) str_frac .nil) (zv rfl rfl (r_build (xs:=[]) (qs:=[]) str_frac .nil) (oc (ob_sto rfl rfl rfl (vq 0 rfl) ty_26 (Eq.trans (b:=4) rfl rfl)) (oc (ob_sto rfl rfl rfl (vq 1 rfl) ty_26 (Eq.trans (b:=4) rfl rfl)) (zv rfl rfl (r_assign has_num) o0))))) (fun a w hst=>?_)
  have hst:St B w0 15 [(6,_)] [⟨2,26,ptrH,_⟩,⟨3,26,ptrH,_⟩,⟨4,26,ptrH,_⟩,⟨5,26,ptrH,_⟩] a w:=hst
  refine thn_normal ?_
  refine wp_ret ?_
  refine thn_ret ?_
  refine ret_wk ?_ (ret_many (rs:=[.cell 4 26,.cell 5 26,.tmp 6]) rfl hst (.cell (zm 2 rfl) ty_26 (.cell (zm 3 rfl) ty_26 (.tmp (zm 0 rfl) .nil))) zd)
  rw [show twF x y=(rf0,rf0,4) from if_pos hb0]; exact wk_id
 ·refine wp_skip ?_
  refine zt ?_
  refine go_draw (anc:=[[],[],[0],[0,1,2],[0,1,2,3]]) (sts:=[none,none,some (2,_),some (3,_)]) (news:=[]) (sp:=[.val 13 _,.val 14 _,.sto 2,.sto 3,.val 6 _]) [.o 4] follows_mixed hst (zv rfl rfl (r_load (lz0 0 rfl) ty_26) (zv rfl rfl (r_load (lz0 1 rfl) ty_26) (oc (ob_sto rfl rfl rfl (vq 0 rfl) ty_26 (Eq.trans (b:=4) rfl rfl)) (oc (ob_sto rfl rfl rfl (vq 1 rfl) ty_26 (Eq.trans (b:=4) rfl rfl)) (zv rfl rfl (r_assign has_num) o0))))) zk zk zk zk (fun a w hst=>?_)
  have hst:St B w0 15 [(6,_)] [⟨2,26,ptrH,_⟩,⟨3,26,ptrH,_⟩,⟨4,26,ptrH,_⟩,⟨5,26,ptrH,_⟩] a w:=hst
  refine thn_normal ?_
  refine wp_ret ?_
  refine ret_wk ?_ (ret_many (rs:=[.cell 4 26,.cell 5 26,.tmp 6]) rfl hst (.cell (zm 2 rfl) ty_26 (.cell (zm 3 rfl) ty_26 (.tmp (zm 0 rfl) .nil))) zd)
  rw [twF,if_neg (by rw [hb0]; decide)]; exact tu3w rq_wk rq_wk wk_id
theorem may2_no {m:RM} {t:RF} (h:(!okM m || ![t].all okX)=true):(okM m && okX t)=false:=by
 cases h1:okM m <;> cases h2:okX t <;> simp_all
theorem may2_yes {m:RM} {t:RF} (h:(!okM m || ![t].all okX)=false):(okM m && okX t)=true:=by
 cases h1:okM m <;> cases h2:okX t <;> simp_all
theorem r11image_c (m:RM) (t:RF):Cn Tryz.prog 32 [(RMA m).va,(RFA t).va] (TwR (imF m t)):=by
 refine Cn.intro Tryz.func32 rfl zk nq (fun B w0 a hst=>?_)
 have hst:St B w0 50 [(0,(RMA m).va),(1,(RFA t).va)] [] a w0.w:=hst
 refine wp_seq ?_
 refine gl (sts:=[]) (news:=[⟨2,28,ptrH,some 0,_,none⟩,⟨3,26,ptrH,some 1,_,none⟩,⟨4,26,ptrH,some 2,_,none⟩,⟨5,26,ptrH,some 3,_,none⟩]) (sp:=[.alc 0,.alc 1,.alc 2,.alc 3,.val 6 _]) [.o 4] hst (oc (ob_box rfl rfl rfl (gq 0 rfl)) (oc (ob_box rfl rfl rfl (gq 1 rfl)) (oc (ob_alc rfl rfl rfl (Str.zero str_frac)) (oc (ob_alc rfl rfl rfl (Str.zero str_frac)) (zv rfl rfl (r_assign has_num) o0))))) (fun a w hst=>?_)
 have hst:St B w0 50 [(6,_)] [⟨2,28,ptrH,_⟩,⟨3,26,ptrH,_⟩,⟨4,26,ptrH,_⟩,⟨5,26,ptrH,_⟩] a w:=hst
 refine zt ?_
 refine wp_seq ?_
 refine gl (sts:=[none,none,none,none]) (news:=[]) (sp:=[.val 9 _,.val 10 _,.val 11 _,.val 12 _,.val 13 (Wh (_=false) _),.val 14 (Wh (_=false) _),.val 15 (Wh (_=false) _),.val 16 (Wh (_=false) _),.val 17 _]) [.g 0,.o 8] hst (zv rfl rfl (r_load (lz0 0 rfl) ty_28) (zv rfl rfl (r_call (xs:=[.tmp 9]) (r9may_c _) (.cons (vq 0 rfl) .nil)) (zv rfl rfl (r_not (vq 1 rfl)) (zv rfl rfl (r_move (vq 2 rfl)) (oc (ob_gd rfl rfl rfl (vq 3 rfl) nq (fun hg=>r_load (lz0 1 rfl) ty_26)) (oc (ob_gd rfl rfl rfl (vq 3 rfl) nq (fun hg=>r_slice (D:=[U32]) (l:=[_]) (xs:=[.tmp 13]) (nd_ok zk) sl_142 zk (n_ok zk) nq nq nq (.cons (has_wh (vq 4 rfl) hg) .nil) rfl rfl)) (oc (ob_gd rfl rfl rfl (vq 3 rfl) nq (fun hg=>r_call (xs:=[.tmp 14]) ((r2checks_c [t] nq).wk (.cons wk_id .nil)) (.cons (has_wh (vq 5 rfl) hg) .nil))) (oc (ob_gd rfl rfl rfl (vq 3 rfl) nq (fun hg=>r_not (has_wh (vq 6 rfl) hg))) (zv rfl rfl (r_or (vq 3 rfl) (vq 7 rfl)) o0))))))))) (fun a w hst=>?_)
 have hst:St B w0 50 [(6,_),(17,_)] [⟨2,28,ptrH,_⟩,⟨3,26,ptrH,_⟩,⟨4,26,ptrH,_⟩,⟨5,26,ptrH,_⟩] a w:=hst
 refine thn_normal ?_
 refine cond_of hst (zm 1 rfl) (fun hb0=>?_) (fun hb0=>?_)
 ·have hno:=may2_no hb0
  refine wp_seq ?_
  refine gl (sts:=[none,none,some (2,_),some (3,_)]) (news:=[]) (sp:=[.val 18 _,.val 19 _,.sto 2,.sto 3,.val 6 _]) [.o 4] hst (zv rfl rfl (r_build (xs:=[]) (qs:=[]) str_frac .nil) (zv rfl rfl (r_build (xs:=[]) (qs:=[]) str_frac .nil) (oc (ob_sto rfl rfl rfl (vq 0 rfl) ty_26 (Eq.trans (b:=4) rfl rfl)) (oc (ob_sto rfl rfl rfl (vq 1 rfl) ty_26 (Eq.trans (b:=4) rfl rfl)) (zv rfl rfl (r_assign has_num) o0))))) (fun a w hst=>?_)
  have hst:St B w0 50 [(6,_)] [⟨2,28,ptrH,_⟩,⟨3,26,ptrH,_⟩,⟨4,26,ptrH,_⟩,⟨5,26,ptrH,_⟩] a w:=hst
  refine thn_normal ?_
  refine wp_ret ?_
  refine thn_ret ?_
  refine ret_wk ?_ (ret_many (rs:=[.cell 4 26,.cell 5 26,.tmp 6]) rfl hst (.cell (zm 2 rfl) ty_26 (.cell (zm 3 rfl) ty_26 (.tmp (zm 0 rfl) .nil))) zd)
  rw [imF,if_neg (by rw [hno]; decide)]; exact wk_id
 ·have hyes:=may2_yes hb0
  have hst:=St.wkL hst 0 rfl (qm_x (okM_all (and_mx hyes).1))
  have hst:=St.wkL hst 1 rfl (qa_x (and_mx hyes).2 (Nat.le_refl 2048))
  refine wp_skip ?_
  refine zt ?_
  refine go_draw (anc:=[[],[0],[],[0,1,2],[],[4],[0,1,2,3,4,5],[],[0,1,2,3,4,5,6,7]]) (sts:=[none,none,none,none]) (news:=[⟨7,26,ptrH,some 7,_,some (8,_)⟩]) (sp:=[.adr 20 2 (.some 8) True,.val 21 _,.val 22 _,.val 23 _,.adr 24 2 (.some 12) True,.val 25 _,.val 26 _,.alc 4,.sto 4]) [.g 0] follows_mixed hst (oc (ob_a rfl rfl (a_fld (lz0 0 rfl) fld_28_2)) (zv rfl rfl (r_loadf 0 rfl zk trivial (lz0 0 rfl) (Sub.part 2 rfl rfl) ty_26) (zv rfl rfl (r_load (lz0 1 rfl) ty_26) (zv rfl rfl (r_call (xs:=[.tmp 21,.tmp 22]) (r2times_q zo) (.cons (vq 1 rfl) (.cons (vq 2 rfl) .nil))) (oc (ob_a rfl rfl (a_fld (lz0 0 rfl) fld_28_3)) (zv rfl rfl (r_loadf 4 rfl zk trivial (lz0 0 rfl) (Sub.part 3 rfl rfl) ty_26) (zv rfl rfl (r_call (xs:=[.tmp 23,.tmp 25]) (r2plus_q zo) (.cons (vq 3 rfl) (.cons (vq 5 rfl) .nil))) (oc (ob_alc rfl rfl rfl (Str.zero str_frac)) (oc (ob_sto rfl rfl rfl (vq 6 rfl) ty_26 (Eq.trans (b:=4) rfl rfl)) o0))))))))) zk zk zk zk (fun a w hst=>?_)
  have hst:St B w0 50 [(6,_)] [⟨2,28,ptrH,_⟩,⟨3,26,ptrH,_⟩,⟨4,26,ptrH,_⟩,⟨5,26,ptrH,_⟩,⟨7,26,ptrH,_⟩] a w:=hst
  refine zt ?_
  refine wp_seq ?_
  refine gl (sts:=[none,none,none,none,none]) (news:=[]) (sp:=[.val 27 _,.val 28 _,.val 29 _]) [.g 0,.o 2] hst (zv rfl rfl (r_load (lz0 4 rfl) ty_26) (zv rfl rfl (r_call (xs:=[.tmp 27]) r2sign_q (.cons (vq 0 rfl) .nil)) (zv rfl rfl (r_eql (vq 1 rfl) has_num) o0))) (fun a w hst=>?_)
  have hst:St B w0 50 [(6,_),(29,_)] [⟨2,28,ptrH,_⟩,⟨3,26,ptrH,_⟩,⟨4,26,ptrH,_⟩,⟨5,26,ptrH,_⟩,⟨7,26,ptrH,_⟩] a w:=hst
  refine thn_normal ?_
  refine cond_of hst (zm 1 rfl) (fun hb1=>?_) (fun hb1=>?_)
  ·rw [sgn0,decide_eq_true_eq] at hb1
   refine wp_seq ?_
   refine gl (sts:=[none,none,some (2,_),some (3,_),none]) (news:=[]) (sp:=[.val 30 _,.val 31 _,.sto 2,.sto 3,.val 6 _]) [.o 4] hst (zv rfl rfl (r_build (xs:=[]) (qs:=[]) str_frac .nil) (zv rfl rfl (r_build (xs:=[]) (qs:=[]) str_frac .nil) (oc (ob_sto rfl rfl rfl (vq 0 rfl) ty_26 (Eq.trans (b:=4) rfl rfl)) (oc (ob_sto rfl rfl rfl (vq 1 rfl) ty_26 (Eq.trans (b:=4) rfl rfl)) (zv rfl rfl (r_assign has_num) o0))))) (fun a w hst=>?_)
   have hst:St B w0 50 [(6,_)] [⟨2,28,ptrH,_⟩,⟨3,26,ptrH,_⟩,⟨4,26,ptrH,_⟩,⟨5,26,ptrH,_⟩,⟨7,26,ptrH,_⟩] a w:=hst
   refine thn_normal ?_
   refine wp_ret ?_
   refine thn_ret ?_
   refine ret_wk ?_ (ret_many (rs:=[.cell 4 26,.cell 5 26,.tmp 6]) rfl hst (.cell (zm 2 rfl) ty_26 (.cell (zm 3 rfl) ty_26 (.tmp (zm 0 rfl) .nil))) zd)
   rw [imF,if_pos hyes,if_pos (show loQ (toM m) (toQ t)=0 from hb1)]; exact wk_id
  ·rw [sgn0,decide_eq_false_iff_not] at hb1
   refine wp_skip ?_
   refine zt ?_
   refine go_draw (anc:=[[],[0],[],[0,1,2],[],[4],[0,1,2,3,4,5],[],[0,1,2,3,4,5,6,7]]) (sts:=[none,none,none,none,none]) (news:=[⟨8,26,ptrH,some 7,_,some (8,_)⟩]) (sp:=[.adr 32 2 (.some 0) True,.val 33 _,.val 34 _,.val 35 _,.adr 36 2 (.some 4) True,.val 37 _,.val 38 _,.alc 5,.sto 5]) [.g 0] follows_mixed hst (oc (ob_a rfl rfl (a_fld (lz0 0 rfl) fld_28_0)) (zv rfl rfl (r_loadf 0 rfl zk trivial (lz0 0 rfl) (Sub.part 0 rfl rfl) ty_26) (zv rfl rfl (r_load (lz0 1 rfl) ty_26) (zv rfl rfl (r_call (xs:=[.tmp 33,.tmp 34]) (r2times_q zo) (.cons (vq 1 rfl) (.cons (vq 2 rfl) .nil))) (oc (ob_a rfl rfl (a_fld (lz0 0 rfl) fld_28_1)) (zv rfl rfl (r_loadf 4 rfl zk trivial (lz0 0 rfl) (Sub.part 1 rfl rfl) ty_26) (zv rfl rfl (r_call (xs:=[.tmp 35,.tmp 37]) (r2plus_q zo) (.cons (vq 3 rfl) (.cons (vq 5 rfl) .nil))) (oc (ob_alc rfl rfl rfl (Str.zero str_frac)) (oc (ob_sto rfl rfl rfl (vq 6 rfl) ty_26 (Eq.trans (b:=4) rfl rfl)) o0))))))))) zk zk zk zk (fun a w hst=>?_)
   have hst:St B w0 50 [(6,_)] [⟨2,28,ptrH,_⟩,⟨3,26,ptrH,_⟩,⟨4,26,ptrH,_⟩,⟨5,26,ptrH,_⟩,⟨7,26,ptrH,_⟩,⟨8,26,ptrH,_⟩] a w:=hst
   refine zt ?_
   refine go_draw (anc:=[[],[],[0,1],[0,1,2],[0,1,2,3],[],[0,1,2,3,4,5],[0,1,2,3,4,5,6],[0,1,2,3,4,5,6,7],[0,1,2,3,4,5,6,7],[0,1,2,3,4,5,6,7],[0,1,2,3,4,5,6,7,8,9,10],[0,1,2,3,4,5,6,7,8,9,10,11],[0,1,2,3,4,5,6,7,8,9,10,11,12]]) (sts:=[none,none,some (11,_),some (12,_),none,none]) (news:=[]) (sp:=[.val 39 _,.val 40 _,.val 41 _,.val 42 _,.val 43 _,.val 44 _,.val 45 _,.val 46 _,.val 47 _,.val 48 _,.val 49 _,.sto 2,.sto 3,.val 6 _]) [.o 13] follows_mixed hst (zv rfl rfl (r_load (lz0 5 rfl) ty_26) (zv rfl rfl (r_load (lz0 4 rfl) ty_26) (zv rfl rfl (r_call (xs:=[.tmp 39,.tmp 40]) (r2over_q zd hb1) (.cons (vq 0 rfl) (.cons (vq 1 rfl) .nil))) (zv rfl rfl (r_call (xs:=[.tmp 41]) (r2turned_q zo) (.cons (vq 2 rfl) .nil)) (zv rfl rfl (r_call (xs:=[]) r2one_q .nil) (zv rfl rfl (r_load (lz0 4 rfl) ty_26) (zv rfl rfl (r_call (xs:=[.tmp 43,.tmp 44]) (r2over_q zd hb1) (.cons (vq 4 rfl) (.cons (vq 5 rfl) .nil))) (zv rfl rfl (r_call (xs:=[.tmp 42,.tmp 45]) (r11two_q zd zd) (.cons (vq 3 rfl) (.cons (vq 6 rfl) .nil))) (zv rfl rfl (r_ex0 (vq 7 rfl)) (zv rfl rfl (r_ex1 (vq 7 rfl)) (zv rfl rfl (r_ex2 (vq 7 rfl)) (oc (ob_sto rfl rfl rfl (vq 8 rfl) ty_26 (Eq.trans (b:=4) rfl rfl)) (oc (ob_sto rfl rfl rfl (vq 9 rfl) ty_26 (Eq.trans (b:=4) rfl rfl)) (zv rfl rfl (r_assign (vq 10 rfl)) o0)))))))))))))) zk zk zk zk (fun a w hst=>?_)
   have hst:St B w0 50 [(6,_)] [⟨2,28,ptrH,_⟩,⟨3,26,ptrH,_⟩,⟨4,26,ptrH,_⟩,⟨5,26,ptrH,_⟩,⟨7,26,ptrH,_⟩,⟨8,26,ptrH,_⟩] a w:=hst
   refine thn_normal ?_
   refine wp_ret ?_
   refine ret_wk ?_ (ret_many (rs:=[.cell 4 26,.cell 5 26,.tmp 6]) rfl hst (.cell (zm 2 rfl) ty_26 (.cell (zm 3 rfl) ty_26 (.tmp (zm 0 rfl) .nil))) zd)
   rw [imF,if_pos hyes,if_neg (show ¬ loQ (toM m) (toQ t)=0 from hb1)]; exact wk_id
def abQ (b:Rat):Rat:=if b.num.sign<0 then -b else b
theorem ab_0 {b:Rat}:abQ b=0↔b=0:=by
 unfold abQ
 split
 ·constructor
  ·intro h; grind
  ·intro h; subst h; rfl
 ·exact Iff.rfl
theorem st_a {b t:Rat} (h:¬ abQ b=0):(if b=0 then ((rf0,3):RF × Int) else if b.num.sign=1 then ansF (t / b) else ansF (t / -b))=ansF (t / abQ b):=by
 have h0:¬ b=0:=fun e=>h (ab_0.2 e)
 have hn:b.num≠0:=fun e=>h0 (Rat.num_eq_zero.1 e)
 rw [if_neg h0]
 unfold abQ
 by_cases h1:b.num<0
 ·have e:b.num.sign = -1:=Int.sign_eq_neg_one_of_neg h1
  rw [e,if_neg zd,if_pos zd]
 ·have e:b.num.sign=1:=Int.sign_eq_one_of_pos zo
  rw [e,if_pos rfl,if_neg zd]
theorem r2sgn_x {m:RM} {t:RF} (h:(!okM m || ![t].all okX)=false):Cn Tryz.prog 165 [(RFA t).va] (In (toQ t).num.sign) :=
 r2sign_q.wk (.cons (qa_x (and_mx (may2_yes h)).2 (Nat.le_refl 2048)).va .nil)
theorem st_c {m:RM} {t:RF} {c:Bool} (h:((!okM m || ![t].all okX) || c)=true):((okM m && okX t) && !c)=false:=by
 cases h1:okM m <;> cases h2:okX t <;> cases c <;> simp_all
theorem st_d {m:RM} {t:RF} {c:Bool} (h:((!okM m || ![t].all okX) || c)=false):((okM m && okX t) && !c)=true:=by
 cases h1:okM m <;> cases h2:okX t <;> cases c <;> simp_all
theorem r11stop_c (m:RM) (t:RF):Cn Tryz.prog 34 [(RMA m).va,(RFA t).va] (FrR (stF m t)):=by
 refine Cn.intro Tryz.func34 rfl zk nq (fun B w0 a hst=>?_)
 have hst:St B w0 39 [(0,(RMA m).va),(1,(RFA t).va)] [] a w0.w:=hst
 refine wp_seq ?_
 refine gl (sts:=[]) (news:=[⟨2,28,ptrH,some 0,_,none⟩,⟨3,26,ptrH,some 1,_,none⟩,⟨4,26,ptrH,some 2,_,none⟩]) (sp:=[.alc 0,.alc 1,.alc 2,.val 5 _]) [.o 3] hst (oc (ob_box rfl rfl rfl (gq 0 rfl)) (oc (ob_box rfl rfl rfl (gq 1 rfl)) (oc (ob_alc rfl rfl rfl (Str.zero str_frac)) (zv rfl rfl (r_assign has_num) o0)))) (fun a w hst=>?_)
 have hst:St B w0 39 [(5,_)] [⟨2,28,ptrH,_⟩,⟨3,26,ptrH,_⟩,⟨4,26,ptrH,_⟩] a w:=hst
 refine zt ?_
 refine wp_seq ?_
 refine gl (sts:=[none,none,none]) (news:=[]) (sp:=[.val 7 _,.val 8 _,.val 9 _,.val 10 _,.val 11 (Wh (_=false) _),.val 12 (Wh (_=false) _),.val 13 (Wh (_=false) _),.val 14 (Wh (_=false) _),.val 15 _,.val 16 _,.val 17 (Wh (_=false) _),.val 18 (Wh (_=false) _),.val 19 (Wh (_=false) _),.val 20 _]) [.g 0,.o 13] hst (zv rfl rfl (r_load (lz0 0 rfl) ty_28) (zv rfl rfl (r_call (xs:=[.tmp 7]) (r9may_c _) (.cons (vq 0 rfl) .nil)) (zv rfl rfl (r_not (vq 1 rfl)) (zv rfl rfl (r_move (vq 2 rfl)) (oc (ob_gd rfl rfl rfl (vq 3 rfl) nq (fun hg=>r_load (lz0 1 rfl) ty_26)) (oc (ob_gd rfl rfl rfl (vq 3 rfl) nq (fun hg=>r_slice (D:=[U32]) (l:=[_]) (xs:=[.tmp 11]) (nd_ok zk) sl_142 zk (n_ok zk) nq nq nq (.cons (has_wh (vq 4 rfl) hg) .nil) rfl rfl)) (oc (ob_gd rfl rfl rfl (vq 3 rfl) nq (fun hg=>r_call (xs:=[.tmp 12]) ((r2checks_c [t] nq).wk (.cons wk_id .nil)) (.cons (has_wh (vq 5 rfl) hg) .nil))) (oc (ob_gd rfl rfl rfl (vq 3 rfl) nq (fun hg=>r_not (has_wh (vq 6 rfl) hg))) (zv rfl rfl (r_or (vq 3 rfl) (vq 7 rfl)) (zv rfl rfl (r_move (vq 8 rfl)) (oc (ob_gd rfl rfl rfl (vq 9 rfl) nq (fun hg=>r_load (lz0 1 rfl) ty_26)) (oc (ob_gd rfl rfl rfl (vq 9 rfl) nq (fun hg=>r_call (xs:=[.tmp 17]) (r2sgn_x hg) (.cons (has_wh (vq 10 rfl) hg) .nil))) (oc (ob_gd rfl rfl rfl (vq 9 rfl) nq (fun hg=>r_lss (has_wh (vq 11 rfl) hg) has_num)) (zv rfl rfl (r_or (vq 9 rfl) (vq 12 rfl)) o0)))))))))))))) (fun a w hst=>?_)
 have hst:St B w0 39 [(5,_),(20,_)] [⟨2,28,ptrH,_⟩,⟨3,26,ptrH,_⟩,⟨4,26,ptrH,_⟩] a w:=hst
 refine thn_normal ?_
 refine cond_of hst (zm 1 rfl) (fun hb0=>?_) (fun hb0=>?_)
 ·have hno:=st_c hb0
  refine wp_seq ?_
  refine gl (sts:=[none,none,some (1,_)]) (news:=[]) (sp:=[.val 21 _,.sto 2,.val 5 _]) [.o 2] hst (zv rfl rfl (r_build (xs:=[]) (qs:=[]) str_frac .nil) (oc (ob_sto rfl rfl rfl (vq 0 rfl) ty_26 (Eq.trans (b:=4) rfl rfl)) (zv rfl rfl (r_assign has_num) o0))) (fun a w hst=>?_)
  have hst:St B w0 39 [(5,_)] [⟨2,28,ptrH,_⟩,⟨3,26,ptrH,_⟩,⟨4,26,ptrH,_⟩] a w:=hst
  refine thn_normal ?_
  refine wp_ret ?_
  refine thn_ret ?_
  refine ret_wk ?_ (ret_many (rs:=[.cell 4 26,.tmp 5]) rfl hst (.cell (zm 2 rfl) ty_26 (.tmp (zm 0 rfl) .nil)) zd)
  rw [stF,if_neg (by rw [hno]; decide)]; exact wk_id
 ·have hyes:=st_d hb0
  have hok:=(Bool.and_eq_true _ _▸hyes:_∧_).1
  have hst:=St.wkL hst 0 rfl (qm_x (okM_all (and_mx hok).1))
  have hst:=St.wkL hst 1 rfl (qa_x (and_mx hok).2 (Nat.le_refl 2048))
  refine wp_skip ?_
  refine zt ?_
  refine gl (sts:=[none,none,none]) (news:=[⟨6,26,ptrH,some 2,_,some (3,_)⟩]) (sp:=[.adr 22 2 (.some 4) True,.val 23 _,.alc 3,.sto 3]) [.g 0] hst (oc (ob_a rfl rfl (a_fld (lz0 0 rfl) fld_28_1)) (zv rfl rfl (r_loadf 0 rfl zk trivial (lz0 0 rfl) (Sub.part 1 rfl rfl) ty_26) (oc (ob_alc rfl rfl rfl (Str.zero str_frac)) (oc (ob_sto rfl rfl rfl (vq 1 rfl) ty_26 (Eq.trans (b:=4) rfl rfl)) o0)))) (fun a w hst=>?_)
  have hst:St B w0 39 [(5,_)] [⟨2,28,ptrH,_⟩,⟨3,26,ptrH,_⟩,⟨4,26,ptrH,_⟩,⟨6,26,ptrH,_⟩] a w:=hst
  refine zt ?_
  refine wp_seq ?_
  refine gl (sts:=[none,none,none,none]) (news:=[]) (sp:=[.val 24 _,.val 25 _,.val 26 _]) [.g 0,.o 2] hst (zv rfl rfl (r_load (lz0 3 rfl) ty_26) (zv rfl rfl (r_call (xs:=[.tmp 24]) r2sign_q (.cons (vq 0 rfl) .nil)) (zv rfl rfl (r_lss (vq 1 rfl) has_num) o0))) (fun a w hst=>?_)
  have hst:St B w0 39 [(5,_),(26,_)] [⟨2,28,ptrH,_⟩,⟨3,26,ptrH,_⟩,⟨4,26,ptrH,_⟩,⟨6,26,ptrH,_⟩] a w:=hst
  refine thn_normal ?_
  refine cond_join (fun a w =>  St B w0 39 [] [⟨2,28,ptrH,QMA 2048 (toM m)⟩,⟨3,26,ptrH,QA 2048 (toQ t)⟩,⟨4,26,ptrH,RFA rf0⟩,⟨6,26,ptrH,QA 2048 (abQ (toM m).b)⟩] a w) hst (zm 1 rfl) (fun hb1=>?_) (fun hb1=>?_) (fun a w hst=>?_)
  ·refine gl (sts:=[none,none,none,some (2,_)]) (news:=[]) (sp:=[.val 27 _,.val 28 _,.sto 3]) [.g 0] hst (zv rfl rfl (r_load (lz0 3 rfl) ty_26) (zv rfl rfl (r_call (xs:=[.tmp 27]) (r2turned_q zo) (.cons (vq 0 rfl) .nil)) (oc (ob_sto rfl rfl rfl (vq 1 rfl) ty_26 (Eq.trans (b:=4) rfl rfl)) o0))) (fun a w hst=>?_)
   have hst:St B w0 39 [(5,_)] [⟨2,28,ptrH,_⟩,⟨3,26,ptrH,_⟩,⟨4,26,ptrH,_⟩,⟨6,26,ptrH,_⟩] a w:=hst
   refine thn_normal ?_
   have hst:=St.sel hst []
   have e : -(toM m).b=abQ (toM m).b:=(if_pos (of_decide_eq_true hb1)).symm
   have hst:=St.cvA (A':=QA 2048 (abQ (toM m).b)) hst 3 rfl (congrArg (QA 2048) e)
   exact hst
  ·refine wp_skip ?_
   refine thn_normal ?_
   have hst:=St.sel hst []
   have e:(toM m).b=abQ (toM m).b:=(if_neg (of_decide_eq_false hb1)).symm
   have hst:=St.cvA (A':=QA 2048 (abQ (toM m).b)) hst 3 rfl (congrArg (QA 2048) e)
   exact hst
  refine zt ?_
  refine wp_seq ?_
  refine gl (sts:=[none,none,none,none]) (news:=[]) (sp:=[.val 29 _,.val 30 _,.val 31 _]) [.o 2] hst (zv rfl rfl (r_load (lz0 3 rfl) ty_26) (zv rfl rfl (r_call (xs:=[.tmp 29]) r2sign_q (.cons (vq 0 rfl) .nil)) (zv rfl rfl (r_eql (vq 1 rfl) has_num) o0))) (fun a w hst=>?_)
  have hst:St B w0 39 [(31,_)] [⟨2,28,ptrH,_⟩,⟨3,26,ptrH,_⟩,⟨4,26,ptrH,_⟩,⟨6,26,ptrH,_⟩] a w:=hst
  refine thn_normal ?_
  refine cond_of hst (zm 0 rfl) (fun hb2=>?_) (fun hb2=>?_)
  ·rw [sgn0,decide_eq_true_eq] at hb2
   refine wp_seq ?_
   refine gl (sts:=[none,none,some (1,_),none]) (news:=[]) (sp:=[.val 32 _,.sto 2,.val 5 _]) [.o 2] hst (zv rfl rfl (r_build (xs:=[]) (qs:=[]) str_frac .nil) (oc (ob_sto rfl rfl rfl (vq 0 rfl) ty_26 (Eq.trans (b:=4) rfl rfl)) (zv rfl rfl (r_assign has_num) o0))) (fun a w hst=>?_)
   have hst:St B w0 39 [(5,_)] [⟨2,28,ptrH,_⟩,⟨3,26,ptrH,_⟩,⟨4,26,ptrH,_⟩,⟨6,26,ptrH,_⟩] a w:=hst
   refine thn_normal ?_
   refine wp_ret ?_
   refine thn_ret ?_
   refine ret_wk ?_ (ret_many (rs:=[.cell 4 26,.tmp 5]) rfl hst (.cell (zm 2 rfl) ty_26 (.tmp (zm 0 rfl) .nil)) zd)
   rw [stF,if_pos hyes,if_pos (ab_0.1 hb2)]; exact wk_id
  ·rw [sgn0,decide_eq_false_iff_not] at hb2
   refine wp_skip ?_
   refine zt ?_
   refine gl (sts:=[none,none,some (6,_),none]) (news:=[]) (sp:=[.val 33 _,.val 34 _,.val 35 _,.val 36 _,.val 37 _,.val 38 _,.sto 2,.val 5 _]) [.o 7] hst (zv rfl rfl (r_load (lz0 1 rfl) ty_26) (zv rfl rfl (r_load (lz0 3 rfl) ty_26) (zv rfl rfl (r_call (xs:=[.tmp 33,.tmp 34]) (r2over_q zd hb2) (.cons (vq 0 rfl) (.cons (vq 1 rfl) .nil))) (zv rfl rfl (r_call (xs:=[.tmp 35]) (r11ans_q zd) (.cons (vq 2 rfl) .nil)) (zv rfl rfl (r_ex0 (vq 3 rfl)) (zv rfl rfl (r_ex1 (vq 3 rfl)) (oc (ob_sto rfl rfl rfl (vq 4 rfl) ty_26 (Eq.trans (b:=4) rfl rfl)) (zv rfl rfl (r_assign (vq 5 rfl)) o0)))))))) (fun a w hst=>?_)
   have hst:St B w0 39 [(5,_)] [⟨2,28,ptrH,_⟩,⟨3,26,ptrH,_⟩,⟨4,26,ptrH,_⟩,⟨6,26,ptrH,_⟩] a w:=hst
   refine thn_normal ?_
   refine wp_ret ?_
   refine ret_wk ?_ (ret_many (rs:=[.cell 4 26,.tmp 5]) rfl hst (.cell (zm 2 rfl) ty_26 (.tmp (zm 0 rfl) .nil)) zd)
   rw [stF,if_pos hyes,st_a hb2]; exact wk_id
end Go.Proofs.YthncfchnkjemiaaGreatDoor
namespace Go.Proofs.YthncfchnkjemiaaGreatDoor
open Go Go.RowKit
open Go.ChangeShapes Go.WideShapes Go.ChangeAt
section
variable {H:Type} {enc:TypeId × Value→H} {w:World} {base:Nat} {spare:Nat→Bool} {held:Bool} {fuel:Nat} {cs:List Value} {x:DataW H × List MemPlace}
end
end Go.Proofs.YthncfchnkjemiaaGreatDoor
namespace Go.Proofs.YthncfchnkjemiaaGreatDoor
open Go Go.RowKit
open Go.ChangeShapes Go.WideShapes Go.ChangeAt
def wdI (x:RI):Prop:=x.mag.length≤140737488355328
def wdF (x:RF):Prop:=wdI x.num∧wdI x.den
def wdM (x:RM):Prop:=wdF x.a∧wdF x.b∧wdF x.c∧wdF x.d
abbrev Wt {H:Type} (P:Program) (t:TypeId) (d:DataW H):Prop:=∀ n∈d.weights P t,n≤reachBytes
section
variable {H:Type} {enc:TypeId × Value→H} {w:World} {base:Nat} {spare:Nat→Bool} {held:Bool} {fuel:Nat} {cs:List Value} {x:DataW H × List MemPlace}
theorem rb_mg (h:DataW.trod enc Tryz.prog w base spare held fuel 22 cs=some x) (hw:Wt Tryz.prog 22 x.1):∃ l,(MgA l).p w.heap.size cs w∧l.length≤140737488355328:=by
 obtain ⟨l,hl⟩:=rd_mg h
 refine ⟨l,hl,?_⟩
 rcases open_ints Tryz.underlying22 Tryz.underlying168 zk h with ⟨hcs,_⟩ | ⟨a,len,cap,zs,rfl,_,h1,hm,hz,hx,hcell,hwz⟩
 ·subst hcs
  obtain ⟨_,_,A,c,ds,e,_⟩:=hl
  rw [List.length_map] at e
  simp only [List.cons.injEq,Value.slice.injEq,and_true] at e
  omega
 ·obtain ⟨_,_,A,c,ds,e,_⟩:=hl
  rw [List.length_map] at e
  simp only [List.cons.injEq,Value.slice.injEq,and_true] at e
  have h4:Tryz.prog.bytesOf 168=4:=by kernel_rfl
  have:=hw (((lits .u32 (zs.take len):List (DataW H)).length+(lits .u32 (zs.drop len):List (DataW H)).length)*Tryz.prog.bytesOf 168) (by rw [hx]; simp [DataW.weights,Tryz.underlying22,lits])
  rw [h4] at this
  simp only [lits,List.length_map,List.length_take,List.length_drop] at this
  have hlen:len≤zs.length:=by rw [hz]; split <;> omega
  unfold reachBytes at this
  omega
theorem rb_part {P:Program} {t:TypeId} {fs:Array Field} (ht:P.underlying t=some (.struct fs)) (h:DataW.trod enc P w base spare held fuel t cs=some x) (hw:Wt P t x.1) (j:Nat) {f:Field} (hf:fs[j]?=some f) :
  ∃ n y,DataW.trod enc P w base spare held n f.type ((cs.drop f.offset).take (P.cellsOf f.type))=some y∧Wt P f.type y.1:=by
 obtain ⟨xs,n,_,hx,_,hlen,hel⟩:=DataW.trod_struct ht h
 have hj:j<fs.size:=(Array.getElem?_eq_some_iff.1 hf).1
 have h1:=hel j f hf
 rw [List.getElem?_eq_getElem zo] at h1
 refine ⟨n,_,h1,fun k hk=>hw k ?_⟩
 rw [hx]
 simp only [DataW.weights,ht]
 exact DataW.weights_mem_each (j:=j) (by rw [List.getElem?_map]; show (fs.toList[j]?).map _=_; rw [Array.getElem?_toList,hf]; rfl) (by rw [List.getElem?_map,List.getElem?_eq_getElem zo]; rfl) k hk
theorem rb_ri (h:DataW.trod enc Tryz.prog w base spare held fuel 24 cs=some x) (hw:Wt Tryz.prog 24 x.1):∃ y,(RIA y).p w.heap.size cs w∧wdI y:=by
 have hl:cs.length=2:=by
  obtain ⟨_,_,_,_,hl,_,_⟩:=DataW.trod_struct Tryz.underlying24 h
  exact hl.trans zk
 obtain ⟨n0,y0,h0,w0⟩:=rb_part Tryz.underlying24 h hw 0 rfl
 have c0:Tryz.prog.cellsOf 4=1:=by kernel_rfl
 have h0:DataW.trod enc Tryz.prog w base spare held n0 4 ((cs.drop 0).take (Tryz.prog.cellsOf 4))=some y0:=h0
 rw [c0] at h0
 obtain ⟨a0,q0⟩:=rd_bo h0
 obtain ⟨n1,y1,h1,w1⟩:=rb_part Tryz.underlying24 h hw 1 rfl
 have c1:Tryz.prog.cellsOf 22=1:=by kernel_rfl
 have h1:DataW.trod enc Tryz.prog w base spare held n1 22 ((cs.drop 1).take (Tryz.prog.cellsOf 22))=some y1:=h1
 rw [c1] at h1
 obtain ⟨a1,q1,b1⟩:=rb_mg h1 w1
 exact ⟨⟨a0,a1⟩,cat_two q0 q1 hl,b1⟩
theorem rb_rf (h:DataW.trod enc Tryz.prog w base spare held fuel 26 cs=some x) (hw:Wt Tryz.prog 26 x.1):∃ y,(RFA y).p w.heap.size cs w∧wdF y:=by
 have hl:cs.length=4:=by
  obtain ⟨_,_,_,_,hl,_,_⟩:=DataW.trod_struct Tryz.underlying26 h
  exact hl.trans zk
 obtain ⟨n0,y0,h0,w0⟩:=rb_part Tryz.underlying26 h hw 0 rfl
 have c0:Tryz.prog.cellsOf 24=2:=by kernel_rfl
 have h0:DataW.trod enc Tryz.prog w base spare held n0 24 ((cs.drop 0).take (Tryz.prog.cellsOf 24))=some y0:=h0
 rw [c0] at h0
 obtain ⟨a0,q0,b0⟩:=rb_ri h0 w0
 obtain ⟨n1,y1,h1,w1⟩:=rb_part Tryz.underlying26 h hw 1 rfl
 have c1:Tryz.prog.cellsOf 24=2:=by kernel_rfl
 have h1:DataW.trod enc Tryz.prog w base spare held n1 24 ((cs.drop 2).take (Tryz.prog.cellsOf 24))=some y1:=h1
 rw [c1] at h1
 obtain ⟨a1,q1,b1⟩:=rb_ri h1 w1
 exact ⟨⟨a0,a1⟩,cat_two q0 q1 hl,⟨b0,b1⟩⟩
theorem rb_rm (h:DataW.trod enc Tryz.prog w base spare held fuel 28 cs=some x) (hw:Wt Tryz.prog 28 x.1):∃ y,(RMA y).p w.heap.size cs w∧wdM y:=by
 have hl:cs.length=16:=by
  obtain ⟨_,_,_,_,hl,_,_⟩:=DataW.trod_struct Tryz.underlying28 h
  exact hl.trans zk
 obtain ⟨n0,y0,h0,w0⟩:=rb_part Tryz.underlying28 h hw 0 rfl
 have c0:Tryz.prog.cellsOf 26=4:=by kernel_rfl
 have h0:DataW.trod enc Tryz.prog w base spare held n0 26 ((cs.drop 0).take (Tryz.prog.cellsOf 26))=some y0:=h0
 rw [c0] at h0
 obtain ⟨a0,q0,b0⟩:=rb_rf h0 w0
 obtain ⟨n1,y1,h1,w1⟩:=rb_part Tryz.underlying28 h hw 1 rfl
 have c1:Tryz.prog.cellsOf 26=4:=by kernel_rfl
 have h1:DataW.trod enc Tryz.prog w base spare held n1 26 ((cs.drop 4).take (Tryz.prog.cellsOf 26))=some y1:=h1
 rw [c1] at h1
 obtain ⟨a1,q1,b1⟩:=rb_rf h1 w1
 obtain ⟨n2,y2,h2,w2⟩:=rb_part Tryz.underlying28 h hw 2 rfl
 have c2:Tryz.prog.cellsOf 26=4:=by kernel_rfl
 have h2:DataW.trod enc Tryz.prog w base spare held n2 26 ((cs.drop 8).take (Tryz.prog.cellsOf 26))=some y2:=h2
 rw [c2] at h2
 obtain ⟨a2,q2,b2⟩:=rb_rf h2 w2
 obtain ⟨n3,y3,h3,w3⟩:=rb_part Tryz.underlying28 h hw 3 rfl
 have c3:Tryz.prog.cellsOf 26=4:=by kernel_rfl
 have h3:DataW.trod enc Tryz.prog w base spare held n3 26 ((cs.drop 12).take (Tryz.prog.cellsOf 26))=some y3:=h3
 rw [c3] at h3
 obtain ⟨a3,q3,b3⟩:=rb_rf h3 w3
 exact ⟨⟨a0,a1,a2,a3⟩,cat_four q0 q1 q2 q3 hl,⟨b0,b1,b2,b3⟩⟩
theorem arg_ofB {P:Program} {α:Type} {A:α→As} {bd:α→Prop} {t:TypeId} {fs:Array Field} {r:Reach} {b0:Nat} {v:Value} {d:DataW H} {p:List MemPlace} (hag:∀ y,(A y).ag=true) (ht:P.underlying t=some (.struct fs))
  (rd:∀ {fuel:Nat} {cs:List Value} {x:DataW H × List MemPlace},DataW.trod enc P w base spare held fuel t cs=some x→Wt P t x.1→∃ y,(A y).p w.heap.size cs w∧bd y)
  (hv:Value.okWide P w r b0 t v) (h:DataW.Trod enc P w base spare held t v d p) (hw:Wt P t d):∃ y,(A y).va.p w.heap.size v w∧bd y:=by
 obtain ⟨cs,hcs,_⟩:=okWide_struct ht hv
 subst hcs
 obtain ⟨fuel,hf⟩:=h
 obtain ⟨y,hy,hb⟩:=rd hf hw
 refine ⟨y,⟨cs.toList,hy,?_⟩,hb⟩
 unfold shape
 rw [hag y,if_pos rfl]
theorem wt_of {P:Program} {ts:List TypeId} {ds:List (DataW H)} (h:(DataW.weightsEach P ts ds).all (· ≤ reachBytes)=true) (j:Nat) {t:TypeId} {d:DataW H} (ht:ts[j]?=some t) (hd:ds[j]?=some d):Wt P t d:=fun n hn=>by
 have:=List.all_eq_true.1 h n (DataW.weights_mem_each ht hd n hn)
 simpa using this
end
theorem frac_cost {x:RF} (h:wdF x):∃ c:Nat,fracCostF x=(c:Int)∧x.num.mag.length+x.den.mag.length+2≤c∧c≤4503599627370496:=by
 obtain ⟨h1,h2⟩:=h
 unfold wdI at h1 h2
 have e1:intSizeF x.num=((1+x.num.mag.length:Nat):Int):=by unfold intSizeF; rw [wi64 zo zo]; omega
 have e2:intSizeF x.den=((1+x.den.mag.length:Nat):Int):=by unfold intSizeF; rw [wi64 zo zo]; omega
 have e3:fracSizeF x=((2+x.num.mag.length+x.den.mag.length:Nat):Int):=by unfold fracSizeF; rw [e1,e2,wi64 zo zo]; omega
 obtain ⟨u,hu⟩:∃ u:Nat,u=min x.num.mag.length 1048576:=⟨_,rfl⟩
 obtain ⟨v,hv⟩:∃ v:Nat,v=min x.den.mag.length 1048576:=⟨_,rfl⟩
 have hu':min (x.num.mag.length:Int) 1048576=(u:Int):=by omega
 have hv':min (x.den.mag.length:Int) 1048576=(v:Int):=by omega
 have huv:u*v≤1048576*1048576:=Nat.mul_le_mul zo zo
 have h16:u*v / 16≤68719476736:=Nat.le_trans (Nat.div_le_div_right huv) zd
 have e4:lowCostF x.num x.den=((u*v / 16*1024:Nat):Int):=by
  unfold lowCostF
  have t1:IntKind.i64.wrap (((u*v:Nat):Int))=((u*v:Nat):Int):=wi64 zo zo
  have t2:(((u*v:Nat):Int)).tdiv 16=((u*v / 16:Nat):Int):=by rw [show (16:Int)=((16:Nat):Int) from rfl,Int.tdiv_eq_ediv_of_nonneg zo,← Int.natCast_ediv]
  have t3:IntKind.i64.wrap (((u*v / 16:Nat):Int))=((u*v / 16:Nat):Int):=wi64 zo zo
  rw [hu',hv',← Int.natCast_mul,t1,t2,t3,wi64 zo zo]
  omega
 refine ⟨2+x.num.mag.length+x.den.mag.length+u*v / 16*1024,?_,by omega,by omega⟩
 unfold fracCostF
 rw [e3,e4,wi64 zo zo]
 omega
theorem mat_cost {x:RM} (h:wdM x):∃ a b c d:Nat,matCostF x=((a+b+c+d:Nat):Int)∧(x.a.num.mag.length+x.a.den.mag.length≤a∧x.b.num.mag.length+x.b.den.mag.length≤b∧x.c.num.mag.length+x.c.den.mag.length≤c∧x.d.num.mag.length+x.d.den.mag.length≤d)∧a+b+c+d≤18014398509481984:=by
 obtain ⟨h1,h2,h3,h4⟩:=h
 obtain ⟨a,ea,la,ma⟩:=frac_cost h1
 obtain ⟨b,eb,lb,mb⟩:=frac_cost h2
 obtain ⟨c,ec,lc,mc⟩:=frac_cost h3
 obtain ⟨d,ed,ld,md⟩:=frac_cost h4
 refine ⟨a,b,c,d,?_,⟨by omega,by omega,by omega,by omega⟩,by omega⟩
 unfold matCostF
 rw [ea,eb,ec,ed,wi64 (x:=(a:Int)+b) zo zo,wi64 (x:=(a:Int)+b+c) zo zo,wi64 zo zo]
 omega
theorem byd_sum {n:Nat} {l:List Nat} (hn:n+l.sum≤9223372036854775807) (h:bydF (n:Int) (l.map fun (x:Nat)=>(x:Int))=false):n≤1048576∨l=[]→n+l.sum≤1048576∨l=[]:=by
 induction l generalizing n with
 | nil=>exact fun _=>.inr rfl
 | cons x l ih =>
  intro _
  simp only [List.sum_cons] at hn
  simp only [List.map_cons,bydF] at h
  rw [wi64 zo zo] at h
  split at h
  ·cases h
  ·rename_i h1
   have h2:n+x≤1048576:=by
    rw [decide_eq_true_eq] at h1
    omega
   rw [show ((n:Int)+(x:Int))=((n+x:Nat):Int) from rfl] at h
   rcases ih (n:=n+x) zo h (.inl h2) with h3 | h3
   ·left; simp only [List.sum_cons]; omega
   ·subst h3; left; simp; omega
theorem byd_0 {l:List Nat} (hn:l.sum≤9223372036854775807) (h:bydF 0 (l.map fun (x:Nat)=>(x:Int))=false):l.sum≤1048576:=by
 rcases byd_sum (n:=0) zo h (.inl zd) with h | h
 ·omega
 ·subst h; decide
end Go.Proofs.YthncfchnkjemiaaGreatDoor
