import Derived.Test.YthncfchnkjemiaaGreatDoorObAa
import Derived.Test.YthncfchnkjemiaaGreatDoorObAc
import Derived.Test.YthncfchnkjemiaaGreatDoorObBb
import Derived.Test.YthncfchnkjemiaaGreatDoorObBc
import Derived.Test.YthncfchnkjemiaaGreatDoorObBf
import Derived.Test.YthncfchnkjemiaaGreatDoorObBg
set_option linter.unusedVariables false
set_option linter.unusedSimpArgs false
set_option linter.unusedSectionVars false
set_option maxRecDepth 100000
namespace Go.Proofs.YthncfchnkjemiaaGreatDoor
open Go Go.RowKit
theorem byd_mr {x:RM} {r:RR} (hx:wdM x) (hr:wdR r) (h:bydF 0 [matCostF x,rayCostF r]=false):(bdF x.a∧bdF x.b∧bdF x.c∧bdF x.d)∧(bdF r.y∧bdF r.u):=by
 obtain ⟨a,b,c,d,e,l,hs⟩:=mat_cost hx
 obtain ⟨a1,b1,e1,l1,s1⟩:=ray_cost hr
 rw [e,e1] at h
 have:=byd_0 (l:=[a+b+c+d,a1+b1]) (by simp; omega) h
 simp at this
 unfold bdF
 omega
theorem bd_to (q:Rat):bdF (toO q).1:=by
 unfold toO
 split
 ·exact bd_rf0
 ·rename_i h; exact bd_of h
theorem bd_fo (x:RM) (r:RR):bdF (foO x r).1:=by
 unfold foO
 split
 ·exact bd_to _
 ·exact bd_rf0
theorem bd_bo (x:RM) (r:RR):bdF (boO x r).1:=by
 unfold boO
 repeat' split
 all_goals first | exact bd_to _ | exact bd_rf0
theorem beyond13b_c (x:RM) (r:RR):Cn Tryz.prog 11 [(RMA x).va,(RRA r).va] (Bo (bydF 0 [matCostF x,rayCostF r])):=by
 refine Cn.intro Tryz.func11 rfl zk nq (fun B w0 a hst=>?_)
 have hst:St B w0 11 [(0,(RMA x).va),(1,(RRA r).va)] [] a w0.w:=hst
 refine wp_seq ?_
 refine gl (sts:=[]) (news:=[⟨2,28,ptrH,some 0,_,none⟩,⟨3,30,ptrH,some 1,_,none⟩]) (sp:=[.alc 0,.alc 1,.val 4 _]) [.o 2] hst (oc (ob_box rfl rfl rfl (gq 0 rfl)) (oc (ob_box rfl rfl rfl (gq 1 rfl)) (zv rfl rfl (r_assign has_bo) o0))) (fun a w hst=>?_)
 have hst:St B w0 11 [(4,_)] [⟨2,28,ptrH,_⟩,⟨3,30,ptrH,_⟩] a w:=hst
 refine zt ?_
 refine go_draw (anc:=[[],[0],[],[0,1,2],[0,1,2,3],[0,1,2,3,4],[0,1,2,3,4,5]]) (sts:=[none,none]) (news:=[]) (sp:=[.val 5 _,.val 6 _,.val 7 _,.val 8 _,.val 9 _,.val 10 _,.val 4 _]) [.o 6] follows_mixed hst (zv rfl rfl (r_load (lz0 0 rfl) ty_28) (zv rfl rfl (r_call (xs:=[.tmp 5]) (matCost_c _) (.cons (vq 0 rfl) .nil)) (zv rfl rfl (r_load (lz0 1 rfl) ty_30) (zv rfl rfl (r_call (xs:=[.tmp 7]) (rayCost_c _) (.cons (vq 2 rfl) .nil)) (zv rfl rfl (r_slice (D:=[]) (l:=[_,_]) (xs:=[.tmp 6,.tmp 8]) (nd_ok zk) sl_114 zk (n_ok zk) nq nq nq (.cons (vq 1 rfl) (.cons (vq 3 rfl) .nil)) rfl rfl) (zv rfl rfl (r_call (xs:=[.tmp 9]) (beyond_c [_,_]) (.cons (vq 4 rfl) .nil)) (zv rfl rfl (r_assign (vq 5 rfl)) o0))))))) zk zk zk zk (fun a w hst=>?_)
 have hst:St B w0 11 [(4,_)] [⟨2,28,ptrH,_⟩,⟨3,30,ptrH,_⟩] a w:=hst
 refine thn_normal ?_
 refine wp_ret ?_
 exact ret_tmp rfl hst (zm 0 rfl)
set_option maxHeartbeats 2000000 in
theorem bounds_w (x:RM) (hx:wdM x) (r:RR) (hr:wdR r):Cn Tryz.prog 3 [(RMA x).va,(RRA r).va] (Bo true):=by
 refine Cn.introW Tryz.func3 rfl zk nq (.cons up_om.va (.cons up_orr.va .nil)) (free_bo _).va (fun B w0 a hB0 hst=>?_)
 have hst:St B w0 115 [(0,(OM x).va),(1,(OR r).va)] [] a w0.w:=hst
 have hB:=hB0
 refine wp_seq ?_
 refine gl (sts:=[]) (news:=[⟨2,28,ptrH,some 0,_,none⟩,⟨3,30,ptrH,some 1,_,none⟩]) (sp:=[.alc 0,.alc 1,.val 4 _]) [.o 2] hst (oc (ob_box rfl rfl rfl (gq 0 rfl)) (oc (ob_box rfl rfl rfl (gq 1 rfl)) (zv rfl rfl (r_assign has_bo) o0))) (fun a w hst=>?_)
 have hst:St B w0 115 [(4,_)] [⟨2,28,ptrH,_⟩,⟨3,30,ptrH,_⟩] a w:=hst
 refine zt ?_
 refine wp_seq ?_
 refine gl (sts:=[none,none]) (news:=[]) (sp:=[.val 20 _,.val 21 _,.val 22 _]) [.g 0,.o 2] hst (zv rfl rfl (r_load (lz0 0 rfl) ty_28) (zv rfl rfl (r_load (lz0 1 rfl) ty_30) (zv rfl rfl (r_call (xs:=[.tmp 20,.tmp 21]) (beyond13b_c x r) (.cons (has_wk' (vq 0 rfl) om_rma.va) (.cons (has_wk' (vq 1 rfl) or_rra.va) .nil))) o0))) (fun a w hst=>?_)
 have hst:St B w0 115 [(4,_),(22,_)] [⟨2,28,ptrH,_⟩,⟨3,30,ptrH,_⟩] a w:=hst
 refine thn_normal ?_
 refine cond_of hst (zm 1 rfl) (fun hb0=>?_) (fun hb0=>?_)
 ·refine wp_seq ?_
  refine gl (sts:=[none,none]) (news:=[]) (sp:=[.val 4 _]) [.o 0] hst (zv rfl rfl (r_assign has_bo) o0) (fun a w hst=>?_)
  have hst:St B w0 115 [(4,_)] [⟨2,28,ptrH,_⟩,⟨3,30,ptrH,_⟩] a w:=hst
  refine thn_normal ?_
  refine wp_ret ?_
  refine thn_ret ?_
  refine ret_wk ?_ (ret_tmp rfl hst (zm 0 rfl))
  exact wk_id
 ·have hb:=byd_mr hx hr hb0
  refine wp_skip ?_
  refine zt ?_
  refine go_linV (sts:=[none,none]) (news:=[⟨5,28,ptrH,some 2,_,some (3,fun ν=>_)⟩]) (sp:=[(fun ν=>.val 23 _),(fun ν=>.val 24 (PinA (ν 1) ((TMD x).and (SepAll [] (ν 1)))).va),(fun ν=>.alc 2),(fun ν=>.sto 2)]) [.g 0] hst ⟨of_u fun ν=>ob_v rfl rfl (r_load (lz0 0 rfl) ty_28),⟨of_call (us:=fun ν=>[]) (xs:=[.tmp 23]) rfl rfl (twinMatrixD_c x hb.1) new_tmd free_tmd (.cons (upA_rm _).va .nil) (fun ν=>(.cons (has_wk' (vq 0 rfl) om_rma.va) .nil)) (fun _ _=>rfl) (fun ν=>live_nil),⟨of_u fun ν=>ob_alc rfl rfl rfl (Str.zero str_matrix),⟨of_u fun ν=>ob_sto rfl rfl rfl (vq 1 rfl) ty_28 (Eq.trans (b:=16) rfl rfl),trivial⟩⟩⟩⟩ ⟨(fun ν ν' h=>rfl),⟨(fun ν ν' h=>by first | rfl | simp only [h 1 rfl]),⟨(fun ν ν' h=>by first | rfl | simp only [h 1 rfl]),⟨(fun ν ν' h=>by first | rfl | simp only [h 1 rfl]),trivial⟩⟩⟩⟩ ⟨trivial,⟨trivial,⟨(fun ν ν' h=>by first | rfl | simp only [h 1 rfl]),trivial⟩⟩⟩ zk (fun ν=>by kernel_rfl) (fun ν=>by kernel_rfl) (fun ν3 a w hst=>?_)
  have hst:St B w0 115 [(4,_)] [⟨2,28,ptrH,_⟩,⟨3,30,ptrH,_⟩,⟨5,28,ptrH,_⟩] a w:=hst
  refine zt ?_
  refine go_linV (sts:=[none,none,none]) (news:=[⟨6,30,ptrH,some 2,_,some (3,fun ν=>_)⟩]) (sp:=[(fun ν=>.val 25 _),(fun ν=>.val 26 (PinA (ν 1) ((TRD r).and (SepAll [(ν3 1)] (ν 1)))).va),(fun ν=>.alc 3),(fun ν=>.sto 3)]) [.g 0] hst ⟨of_u fun ν=>ob_v rfl rfl (r_load (lz0 1 rfl) ty_30),⟨of_call (us:=fun ν=>[(ν3 1)]) (xs:=[.tmp 25]) rfl rfl (twinRayD_c r hb.2) new_trd free_trd (.cons (upA_rr _).va .nil) (fun ν=>(.cons (has_wk' (vq 0 rfl) or_rra.va) .nil)) (fun _ _=>rfl) (fun ν=>(live_loc (new_and new_tmd) (lz0 2 rfl) live_nil)),⟨of_u fun ν=>ob_alc rfl rfl rfl (Str.zero str_ray),⟨of_u fun ν=>ob_sto rfl rfl rfl (vq 1 rfl) ty_30 (Eq.trans (b:=8) rfl rfl),trivial⟩⟩⟩⟩ ⟨(fun ν ν' h=>rfl),⟨(fun ν ν' h=>by first | rfl | simp only [h 1 rfl]),⟨(fun ν ν' h=>by first | rfl | simp only [h 1 rfl]),⟨(fun ν ν' h=>by first | rfl | simp only [h 1 rfl]),trivial⟩⟩⟩⟩ ⟨trivial,⟨trivial,⟨trivial,⟨(fun ν ν' h=>by first | rfl | simp only [h 1 rfl]),trivial⟩⟩⟩⟩ zk (fun ν=>by kernel_rfl) (fun ν=>by kernel_rfl) (fun ν4 a w hst=>?_)
  have hst:St B w0 115 [(4,_)] [⟨2,28,ptrH,_⟩,⟨3,30,ptrH,_⟩,⟨5,28,ptrH,_⟩,⟨6,30,ptrH,_⟩] a w:=hst
  refine zt ?_
  refine go_linV (sts:=[none,none,none,none]) (news:=[⟨7,26,ptrH,some 6,_,some (7,fun ν=>_)⟩]) (sp:=[(fun ν=>.val 28 _),(fun ν=>.val 29 _),(fun ν=>.val 30 (PinT (ν 2) [RFD (foO x r).1,NumA .i64 (foO x r).2] [(ν3 1),(ν4 1)])),(fun ν=>.val 27 _),(fun ν=>.val 31 (PinA (ν 4) ((RFD (foO x r).1).and (SepAll [(ν3 1),(ν4 1)] (ν 4)))).va),(fun ν=>.val 32 _),(fun ν=>.alc 4),(fun ν=>.sto 4),(fun ν=>.val 8 _)]) [.g 0,.o 8] hst ⟨of_u fun ν=>ob_v rfl rfl (r_load (lz0 2 rfl) ty_28),⟨of_u fun ν=>ob_v rfl rfl (r_load (lz0 3 rfl) ty_30),⟨of_callT (us:=fun ν=>[(ν3 1),(ν4 1)]) (xs:=[.tmp 28,.tmp 29]) rfl rfl ((formD_c x r).wk (.cons wkA_rmr.va (.cons wkA_rrr.va .nil))) nf_frd (.cons upA_rmr.va (.cons upA_rrr.va .nil)) (fun ν=>(.cons (has_wk' (vq 0 rfl) (pin_wk.trans (and_wk.trans (dis_wk.trans rmt_rmr))).va) (.cons (has_wk' (vq 1 rfl) (pin_wk.trans (and_wk.trans (dis_wk.trans rrt_rrr))).va) .nil))) (fun _ _=>rfl) (fun ν=>(live_loc (new_and new_tmd) (lz0 2 rfl) (live_loc (new_and new_trd) (lz0 3 rfl) live_nil))),⟨of_u fun ν=>ob_v rfl rfl (r_move (vq 2 rfl)),⟨of_ext (us:=fun ν=>[(ν3 1),(ν4 1)]) rfl rfl (fun ν=>(vq 3 rfl)) rfl (fun _ _=>rfl),⟨of_u fun ν=>ob_v rfl rfl (r_extT (A:=NumA .i64 (foO x r).2) (vq 3 rfl) rfl),⟨of_u fun ν=>ob_alc rfl rfl rfl (Str.zero str_frac),⟨of_u fun ν=>ob_sto rfl rfl rfl (vq 4 rfl) ty_26 (Eq.trans (b:=4) rfl rfl),⟨of_u fun ν=>ob_v rfl rfl (r_assign (vq 5 rfl)),trivial⟩⟩⟩⟩⟩⟩⟩⟩⟩ ⟨(fun ν ν' h=>rfl),⟨(fun ν ν' h=>rfl),⟨(fun ν ν' h=>by first | rfl | simp only [h 2 rfl]),⟨(fun ν ν' h=>by first | rfl | simp only [h 2 rfl]),⟨(fun ν ν' h=>by first | rfl | simp only [h 2 rfl,h 4 rfl]),⟨(fun ν ν' h=>by first | rfl | simp only [h 2 rfl,h 4 rfl]),⟨(fun ν ν' h=>by first | rfl | simp only [h 2 rfl,h 4 rfl]),⟨(fun ν ν' h=>by first | rfl | simp only [h 2 rfl,h 4 rfl]),⟨(fun ν ν' h=>by first | rfl | simp only [h 2 rfl,h 4 rfl]),trivial⟩⟩⟩⟩⟩⟩⟩⟩⟩ ⟨trivial,⟨trivial,⟨trivial,⟨trivial,⟨(fun ν ν' h=>by first | rfl | simp only [h 2 rfl,h 4 rfl]),trivial⟩⟩⟩⟩⟩ zk (fun ν=>by kernel_rfl) (fun ν=>by kernel_rfl) (fun ν5 a w hst=>?_)
  have hst:St B w0 115 [(4,_),(8,_)] [⟨2,28,ptrH,_⟩,⟨3,30,ptrH,_⟩,⟨5,28,ptrH,_⟩,⟨6,30,ptrH,_⟩,⟨7,26,ptrH,_⟩] a w:=hst
  refine zt ?_
  refine gl (sts:=[none,none,none,none,none]) (news:=[]) (sp:=[.val 34 _,.val 35 _,.val 36 _,.val 33 _,.val 37 _,.val 38 _,.val 9 _,.val 10 _]) [.g 0,.g 1,.o 6,.o 7] hst (zv rfl rfl (r_load (lz0 2 rfl) ty_28) (zv rfl rfl (r_load (lz0 3 rfl) ty_30) (zv rfl rfl (r_call (xs:=[.tmp 34,.tmp 35]) ((stays_c x r).wk (.cons wkA_rmr.va (.cons wkA_rrr.va .nil))) (.cons (has_wk' (vq 0 rfl) (pin_wk.trans (and_wk.trans (dis_wk.trans rmt_rmr))).va) (.cons (has_wk' (vq 1 rfl) (pin_wk.trans (and_wk.trans (dis_wk.trans rrt_rrr))).va) .nil))) (zv rfl rfl (r_move (vq 2 rfl)) (zv rfl rfl (r_ex0 (vq 3 rfl)) (zv rfl rfl (r_ex1 (vq 3 rfl)) (zv rfl rfl (r_assign (vq 4 rfl)) (zv rfl rfl (r_assign (vq 5 rfl)) o0)))))))) (fun a w hst=>?_)
  have hst:St B w0 115 [(4,_),(8,_),(9,_),(10,_)] [⟨2,28,ptrH,_⟩,⟨3,30,ptrH,_⟩,⟨5,28,ptrH,_⟩,⟨6,30,ptrH,_⟩,⟨7,26,ptrH,_⟩] a w:=hst
  refine zt ?_
  refine go_linV (sts:=[none,none,none,none,none]) (news:=[⟨11,26,ptrH,some 6,_,some (7,fun ν=>_)⟩]) (sp:=[(fun ν=>.val 40 _),(fun ν=>.val 41 _),(fun ν=>.val 42 (PinT (ν 2) [RFD (boO x r).1,NumA .i64 (boO x r).2] [(ν3 1),(ν4 1),(ν5 4)])),(fun ν=>.val 39 _),(fun ν=>.val 43 (PinA (ν 4) ((RFD (boO x r).1).and (SepAll [(ν3 1),(ν4 1),(ν5 4)] (ν 4)))).va),(fun ν=>.val 44 _),(fun ν=>.alc 5),(fun ν=>.sto 5),(fun ν=>.val 12 _)]) [.g 0,.g 1,.g 2,.g 3,.o 8] hst ⟨of_u fun ν=>ob_v rfl rfl (r_load (lz0 2 rfl) ty_28),⟨of_u fun ν=>ob_v rfl rfl (r_load (lz0 3 rfl) ty_30),⟨of_callT (us:=fun ν=>[(ν3 1),(ν4 1),(ν5 4)]) (xs:=[.tmp 40,.tmp 41]) rfl rfl ((boundD_c x r).wk (.cons wkA_rmr.va (.cons wkA_rrr.va .nil))) nf_frd (.cons upA_rmr.va (.cons upA_rrr.va .nil)) (fun ν=>(.cons (has_wk' (vq 0 rfl) (pin_wk.trans (and_wk.trans (dis_wk.trans rmt_rmr))).va) (.cons (has_wk' (vq 1 rfl) (pin_wk.trans (and_wk.trans (dis_wk.trans rrt_rrr))).va) .nil))) (fun _ _=>rfl) (fun ν=>(live_loc (new_and new_tmd) (lz0 2 rfl) (live_loc (new_and new_trd) (lz0 3 rfl) (live_loc (new_and new_rfd) (lz0 4 rfl) live_nil)))),⟨of_u fun ν=>ob_v rfl rfl (r_move (vq 2 rfl)),⟨of_ext (us:=fun ν=>[(ν3 1),(ν4 1),(ν5 4)]) rfl rfl (fun ν=>(vq 3 rfl)) rfl (fun _ _=>rfl),⟨of_u fun ν=>ob_v rfl rfl (r_extT (A:=NumA .i64 (boO x r).2) (vq 3 rfl) rfl),⟨of_u fun ν=>ob_alc rfl rfl rfl (Str.zero str_frac),⟨of_u fun ν=>ob_sto rfl rfl rfl (vq 4 rfl) ty_26 (Eq.trans (b:=4) rfl rfl),⟨of_u fun ν=>ob_v rfl rfl (r_assign (vq 5 rfl)),trivial⟩⟩⟩⟩⟩⟩⟩⟩⟩ ⟨(fun ν ν' h=>rfl),⟨(fun ν ν' h=>rfl),⟨(fun ν ν' h=>by first | rfl | simp only [h 2 rfl]),⟨(fun ν ν' h=>by first | rfl | simp only [h 2 rfl]),⟨(fun ν ν' h=>by first | rfl | simp only [h 2 rfl,h 4 rfl]),⟨(fun ν ν' h=>by first | rfl | simp only [h 2 rfl,h 4 rfl]),⟨(fun ν ν' h=>by first | rfl | simp only [h 2 rfl,h 4 rfl]),⟨(fun ν ν' h=>by first | rfl | simp only [h 2 rfl,h 4 rfl]),⟨(fun ν ν' h=>by first | rfl | simp only [h 2 rfl,h 4 rfl]),trivial⟩⟩⟩⟩⟩⟩⟩⟩⟩ ⟨trivial,⟨trivial,⟨trivial,⟨trivial,⟨trivial,⟨(fun ν ν' h=>by first | rfl | simp only [h 2 rfl,h 4 rfl]),trivial⟩⟩⟩⟩⟩⟩ zk (fun ν=>by kernel_rfl) (fun ν=>by kernel_rfl) (fun ν7 a w hst=>?_)
  have hst:St B w0 115 [(4,_),(8,_),(9,_),(10,_),(12,_)] [⟨2,28,ptrH,_⟩,⟨3,30,ptrH,_⟩,⟨5,28,ptrH,_⟩,⟨6,30,ptrH,_⟩,⟨7,26,ptrH,_⟩,⟨11,26,ptrH,_⟩] a w:=hst
  refine zt ?_
  refine gl (sts:=[none,none,none,none,none,none]) (news:=[⟨13,26,ptrH,some 6,_,some (7,_)⟩]) (sp:=[.val 46 _,.val 47 _,.val 48 _,.val 45 _,.val 49 _,.val 50 _,.alc 6,.sto 6,.val 14 _]) [.g 0,.g 1,.g 2,.g 3,.g 4,.o 8] hst (zv rfl rfl (r_load (lz0 0 rfl) ty_28) (zv rfl rfl (r_load (lz0 1 rfl) ty_30) (zv rfl rfl (r_call (xs:=[.tmp 46,.tmp 47]) (r13Form_c x r) (.cons (has_wk' (vq 0 rfl) om_rma.va) (.cons (has_wk' (vq 1 rfl) or_rra.va) .nil))) (zv rfl rfl (r_move (vq 2 rfl)) (zv rfl rfl (r_ex0 (vq 3 rfl)) (zv rfl rfl (r_ex1 (vq 3 rfl)) (oc (ob_alc rfl rfl rfl (Str.zero str_frac)) (oc (ob_sto rfl rfl rfl (vq 4 rfl) ty_26 (Eq.trans (b:=4) rfl rfl)) (zv rfl rfl (r_assign (vq 5 rfl)) o0))))))))) (fun a w hst=>?_)
  have hst:St B w0 115 [(4,_),(8,_),(9,_),(10,_),(12,_),(14,_)] [⟨2,28,ptrH,_⟩,⟨3,30,ptrH,_⟩,⟨5,28,ptrH,_⟩,⟨6,30,ptrH,_⟩,⟨7,26,ptrH,_⟩,⟨11,26,ptrH,_⟩,⟨13,26,ptrH,_⟩] a w:=hst
  refine zt ?_
  refine gl (sts:=[none,none,none,none,none,none,none]) (news:=[]) (sp:=[.val 52 _,.val 53 _,.val 54 _,.val 51 _,.val 55 _,.val 56 _,.val 15 _,.val 16 _]) [.g 0,.g 1,.g 2,.g 3,.g 4,.g 5,.o 6,.o 7] hst (zv rfl rfl (r_load (lz0 0 rfl) ty_28) (zv rfl rfl (r_load (lz0 1 rfl) ty_30) (zv rfl rfl (r_call (xs:=[.tmp 52,.tmp 53]) (r13Stays_c x r) (.cons (has_wk' (vq 0 rfl) om_rma.va) (.cons (has_wk' (vq 1 rfl) or_rra.va) .nil))) (zv rfl rfl (r_move (vq 2 rfl)) (zv rfl rfl (r_ex0 (vq 3 rfl)) (zv rfl rfl (r_ex1 (vq 3 rfl)) (zv rfl rfl (r_assign (vq 4 rfl)) (zv rfl rfl (r_assign (vq 5 rfl)) o0)))))))) (fun a w hst=>?_)
  have hst:St B w0 115 [(4,_),(8,_),(9,_),(10,_),(12,_),(14,_),(15,_),(16,_)] [⟨2,28,ptrH,_⟩,⟨3,30,ptrH,_⟩,⟨5,28,ptrH,_⟩,⟨6,30,ptrH,_⟩,⟨7,26,ptrH,_⟩,⟨11,26,ptrH,_⟩,⟨13,26,ptrH,_⟩] a w:=hst
  refine zt ?_
  refine gl (sts:=[none,none,none,none,none,none,none]) (news:=[⟨17,26,ptrH,some 6,_,some (7,_)⟩]) (sp:=[.val 58 _,.val 59 _,.val 60 _,.val 57 _,.val 61 _,.val 62 _,.alc 7,.sto 7,.val 18 _]) [.g 0,.g 1,.g 2,.g 3,.g 4,.g 5,.g 6,.g 7,.o 8] hst (zv rfl rfl (r_load (lz0 0 rfl) ty_28) (zv rfl rfl (r_load (lz0 1 rfl) ty_30) (zv rfl rfl (r_call (xs:=[.tmp 58,.tmp 59]) (r13Bound_c x r) (.cons (has_wk' (vq 0 rfl) om_rma.va) (.cons (has_wk' (vq 1 rfl) or_rra.va) .nil))) (zv rfl rfl (r_move (vq 2 rfl)) (zv rfl rfl (r_ex0 (vq 3 rfl)) (zv rfl rfl (r_ex1 (vq 3 rfl)) (oc (ob_alc rfl rfl rfl (Str.zero str_frac)) (oc (ob_sto rfl rfl rfl (vq 4 rfl) ty_26 (Eq.trans (b:=4) rfl rfl)) (zv rfl rfl (r_assign (vq 5 rfl)) o0))))))))) (fun a w hst=>?_)
  have hst:St B w0 115 [(4,_),(8,_),(9,_),(10,_),(12,_),(14,_),(15,_),(16,_),(18,_)] [⟨2,28,ptrH,_⟩,⟨3,30,ptrH,_⟩,⟨5,28,ptrH,_⟩,⟨6,30,ptrH,_⟩,⟨7,26,ptrH,_⟩,⟨11,26,ptrH,_⟩,⟨13,26,ptrH,_⟩,⟨17,26,ptrH,_⟩] a w:=hst
  refine zt ?_
  refine wp_seq ?_
  refine gl (sts:=[none,none,none,none,none,none,none,none]) (news:=[]) (sp:=((.val 63 _:Sp)::(.val 64 _)::(.val 65 _)::(.val 66 _)::(.val 67 (Wh (_=false) _))::(.val 68 (Wh (_=false) _))::(.val 69 (Wh (_=false) _))::(.val 70 _)::(.val 71 _)::(.val 72 (Wh (_=false) _))::(.val 73 (Wh (_=false) _))::(.val 74 (Wh (_=false) _))::(.val 75 _)::(.val 76 _)::(.val 77 (Wh (_=false) _))::(.val 78 (Wh (_=false) _))::(.val 79 (Wh (_=false) _))::(.val 80 _)::(.val 81 _)::(.val 82 (Wh (_=false) _))::(.val 83 (Wh (_=false) _))::(.val 84 (Wh (_=false) _))::(.val 85 (Wh (_=false) _))::(.val 86 _)::(.val 87 _)::(.val 88 (Wh (_=false) _))::(.val 89 (Wh (_=false) _))::(.val 90 (Wh (_=false) _))::(.val 91 (Wh (_=false) _))::(.val 92 _)::(.val 93 _)::(.val 94 (Wh (_=false) _))::(.val 95 (Wh (_=false) _))::(.val 96 (Wh (_=false) _))::(.val 97 (Wh (_=false) _))::(.val 98 _)::(.val 99 _)::(.val 100 (Wh (_=false) _))::(.val 101 (Wh (_=false) _))::(.val 102 (Wh (_=false) _))::(.val 103 (Wh (_=false) _))::(.val 104 _)::[])) [.g 0,.o 41] hst (zv rfl rfl (r_move (gq 1 rfl)) (zv rfl rfl (r_move (gq 5 rfl)) (zv rfl rfl (r_neq (vq 0 rfl) (vq 1 rfl)) (zv rfl rfl (r_move (vq 2 rfl)) (oc (ob_gd rfl rfl rfl (vq 3 rfl) nq (fun hg=>r_move (gq 3 rfl))) (oc (ob_gd rfl rfl rfl (vq 3 rfl) nq (fun hg=>r_move (gq 7 rfl))) (oc (ob_gd rfl rfl rfl (vq 3 rfl) nq (fun hg=>r_neq (has_wh (vq 4 rfl) hg) (has_wh (vq 5 rfl) hg))) (zv rfl rfl (r_or (vq 3 rfl) (vq 6 rfl)) (zv rfl rfl (r_move (vq 7 rfl)) (oc (ob_gd rfl rfl rfl (vq 8 rfl) nq (fun hg=>r_move (gq 4 rfl))) (oc (ob_gd rfl rfl rfl (vq 8 rfl) nq (fun hg=>r_move (gq 8 rfl))) (oc (ob_gd rfl rfl rfl (vq 8 rfl) nq (fun hg=>r_neq (has_wh (vq 9 rfl) hg) (has_wh (vq 10 rfl) hg))) (zv rfl rfl (r_or (vq 8 rfl) (vq 11 rfl)) (zv rfl rfl (r_move (vq 12 rfl)) (oc (ob_gd rfl rfl rfl (vq 13 rfl) nq (fun hg=>r_move (gq 2 rfl))) (oc (ob_gd rfl rfl rfl (vq 13 rfl) nq (fun hg=>r_move (gq 6 rfl))) (oc (ob_gd rfl rfl rfl (vq 13 rfl) nq (fun hg=>r_neqb zk (has_wh (vq 14 rfl) hg) (has_wh (vq 15 rfl) hg))) (zv rfl rfl (r_or (vq 13 rfl) (vq 16 rfl)) (zv rfl rfl (r_move (vq 17 rfl)) (oc (ob_gd rfl rfl rfl (vq 18 rfl) nq (fun hg=>r_load (lz0 4 rfl) ty_26)) (oc (ob_gd rfl rfl rfl (vq 18 rfl) nq (fun hg=>r_load (lz0 6 rfl) ty_26)) (oc (ob_gd rfl rfl rfl (vq 18 rfl) nq (fun hg=>r_call (xs:=[.tmp 82,.tmp 83]) (sameFrac_c _ _) (.cons (has_wk' (has_wh (vq 19 rfl) hg) (pin_wk.trans (and_wk.trans rfd_rfa)).va) (.cons (has_wh (vq 20 rfl) hg) .nil)))) (oc (ob_gd rfl rfl rfl (vq 18 rfl) nq (fun hg=>r_not (has_wh (vq 21 rfl) hg))) (zv rfl rfl (r_or (vq 18 rfl) (vq 22 rfl)) (zv rfl rfl (r_move (vq 23 rfl)) (oc (ob_gd rfl rfl rfl (vq 24 rfl) nq (fun hg=>r_load (lz0 5 rfl) ty_26)) (oc (ob_gd rfl rfl rfl (vq 24 rfl) nq (fun hg=>r_load (lz0 7 rfl) ty_26)) (oc (ob_gd rfl rfl rfl (vq 24 rfl) nq (fun hg=>r_call (xs:=[.tmp 88,.tmp 89]) (sameFrac_c _ _) (.cons (has_wk' (has_wh (vq 25 rfl) hg) (pin_wk.trans (and_wk.trans rfd_rfa)).va) (.cons (has_wh (vq 26 rfl) hg) .nil)))) (oc (ob_gd rfl rfl rfl (vq 24 rfl) nq (fun hg=>r_not (has_wh (vq 27 rfl) hg))) (zv rfl rfl (r_or (vq 24 rfl) (vq 28 rfl)) (zv rfl rfl (r_move (vq 29 rfl)) (oc (ob_gd rfl rfl rfl (vq 30 rfl) nq (fun hg=>r_load (lz0 2 rfl) ty_28)) (oc (ob_gd rfl rfl rfl (vq 30 rfl) nq (fun hg=>r_load (lz0 0 rfl) ty_28)) (oc (ob_gd rfl rfl rfl (vq 30 rfl) nq (fun hg=>r_call (xs:=[.tmp 94,.tmp 95]) (leftMatrixR_c x x hb.1) (.cons (has_wk' (has_wh (vq 31 rfl) hg) (pin_wk.trans (and_wk.trans (dis_wk.trans rmt_rmr))).va) (.cons (has_wk' (has_wh (vq 32 rfl) hg) om_rma.va) .nil)))) (oc (ob_gd rfl rfl rfl (vq 30 rfl) nq (fun hg=>r_not (has_wh (vq 33 rfl) hg))) (zv rfl rfl (r_or (vq 30 rfl) (vq 34 rfl)) (zv rfl rfl (r_move (vq 35 rfl)) (oc (ob_gd rfl rfl rfl (vq 36 rfl) nq (fun hg=>r_load (lz0 3 rfl) ty_30)) (oc (ob_gd rfl rfl rfl (vq 36 rfl) nq (fun hg=>r_load (lz0 1 rfl) ty_30)) (oc (ob_gd rfl rfl rfl (vq 36 rfl) nq (fun hg=>r_call (xs:=[.tmp 100,.tmp 101]) (leftRayR_c r r hb.2) (.cons (has_wk' (has_wh (vq 37 rfl) hg) (pin_wk.trans (and_wk.trans (dis_wk.trans rrt_rrr))).va) (.cons (has_wk' (has_wh (vq 38 rfl) hg) or_rra.va) .nil)))) (oc (ob_gd rfl rfl rfl (vq 36 rfl) nq (fun hg=>r_not (has_wh (vq 39 rfl) hg))) (zv rfl rfl (r_or (vq 36 rfl) (vq 40 rfl)) o0)))))))))))))))))))))))))))))))))))))))))) (fun a w hst=>?_)
  have hst:St B w0 115 [(4,_),(104,_)] [⟨2,28,ptrH,_⟩,⟨3,30,ptrH,_⟩,⟨5,28,ptrH,_⟩,⟨6,30,ptrH,_⟩,⟨7,26,ptrH,_⟩,⟨11,26,ptrH,_⟩,⟨13,26,ptrH,_⟩,⟨17,26,ptrH,_⟩] a w:=hst
  refine thn_normal ?_
  refine cond_of hst (zm 1 rfl) (fun hb1=>?_) (fun hb1=>?_)
  ·exact absurd hb1 (by simp)
  ·refine wp_skip ?_
   refine zt ?_
   refine gl (sts:=[none,none,none,none,none,none,none,none]) (news:=[⟨19,59,ptrH,some 1,_,some (2,_)⟩]) (sp:=[.val 105 _,.alc 8,.sto 8]) [.g 0] hst (zv rfl rfl (r_build (xs:=[]) (qs:=[]) str_book .nil) (oc (ob_alc rfl rfl rfl zero_book) (oc (ob_sto rfl rfl rfl (vq 0 rfl) ty_59 (Eq.trans (b:=17) rfl rfl)) o0))) (fun a w hst=>?_)
   have hst:St B w0 115 [(4,_)] [⟨2,28,ptrH,_⟩,⟨3,30,ptrH,_⟩,⟨5,28,ptrH,_⟩,⟨6,30,ptrH,_⟩,⟨7,26,ptrH,_⟩,⟨11,26,ptrH,_⟩,⟨13,26,ptrH,_⟩,⟨17,26,ptrH,_⟩,⟨19,59,ptrH,_⟩] a w:=hst
   have hst:=St.wkL (A':=BkE []) hst 8 rfl zbk_bke
   refine zt ?_
   obtain ⟨m5,v5,n5,o5,s5,hst⟩:=St.splitN (AP:=(fun m:Nat→Value=>MatP x m)) (kl:=(fun m:Nat→Value=>km x m)) tmd_rmn mat_names hst 2 rfl
   obtain ⟨m6,v6,n6,o6,s6,hst⟩:=St.splitN (AP:=(fun m:Nat→Value=>RayP r m)) (kl:=(fun m:Nat→Value=>kr r m)) trd_rrn ray_names hst 3 rfl
   obtain ⟨m7,v7,n7,o7,s7,hst⟩:=St.splitN (AP:=(fun m:Nat→Value=>FracP (foO x r).1 (m 0) (m 1))) (kl:=(fun m:Nat→Value=>kf (foO x r).1 (m 0) (m 1))) (WkA.refl _) fracs_names hst 4 rfl
   obtain ⟨m11,v11,n11,o11,s11,hst⟩:=St.splitN (AP:=(fun m:Nat→Value=>FracP (boO x r).1 (m 0) (m 1))) (kl:=(fun m:Nat→Value=>kf (boO x r).1 (m 0) (m 1))) (WkA.refl _) fracs_names hst 5 rfl
   have hq0:=kb_add kb_nil v5 n5 sepAll_nil
   have hk0:=kb_sep hq0
   have hq1:=kb_add hq0 v6 n6 (sepAll_cons (sep_of s6 0 rfl) sepAll_nil)
   have hk1:=kb_sep hq1
   have hq2:=kb_add hq1 v7 n7 (sepAll_cons (sep_of s7 0 rfl) (sepAll_cons (sep_of s7 1 rfl) sepAll_nil))
   have hk2:=kb_sep hq2
   have hq3:=kb_add hq2 v11 n11 (sepAll_cons (sep_of s11 0 rfl) (sepAll_cons (sep_of s11 1 rfl) (sepAll_cons (sep_of s11 2 rfl) sepAll_nil)))
   have hk3:=kb_sep hq3
   refine go_head (sp:=[.val 106 _,.val 107 VT]) 1 1 99 1 OneC [.g 0,.o 0] hst (zv rfl rfl (r_load (lz0 2 rfl) ty_28) o0) rfl zd zk zk (fun a w hst=>?_)
   have hst:St B w0 115 [(4,_),(106,_)] [⟨2,28,ptrH,_⟩,⟨3,30,ptrH,_⟩,⟨5,28,ptrH,_⟩,⟨6,30,ptrH,_⟩,⟨7,26,ptrH,_⟩,⟨11,26,ptrH,_⟩,⟨13,26,ptrH,_⟩,⟨17,26,ptrH,_⟩,⟨19,59,ptrH,_⟩] a w:=hst
   rw [show List.range' 1 1=[1] from rfl]
   rw [wpOps_cons]
   refine op_ckS (A1:=BkE (addL [] ([]++km x m5))) (xs:=[.tmp 106]) [0] [1] 8 rfl hst ((keepM_c x m5 (addL [] []) (sepL_app hk0).2 (by rw [addL_len]; exact Nat.le_of_ble_eq_true zk)).wk (fun B cs w h=>by rw [addL_app]; exact h)) rfl rfl (.cons ⟨_,rfl,rfl⟩ .nil) rfl (may_all hB) zd zk zk zk zk (fun a w hst=>?_)
   refine wpOps_nS ?_
   have hst:St B w0 115 [(107,_),(4,_)] [⟨2,28,ptrH,_⟩,⟨3,30,ptrH,_⟩,⟨5,28,ptrH,_⟩,⟨6,30,ptrH,_⟩,⟨7,26,ptrH,_⟩,⟨11,26,ptrH,_⟩,⟨13,26,ptrH,_⟩,⟨17,26,ptrH,_⟩,⟨19,59,ptrH,BkE (addL [] ([]++km x m5))⟩] a w:=hst
   refine zt ?_
   refine go_head (sp:=[.val 108 _,.val 109 VT]) 1 1 99 1 OneC [.g 1,.o 0] hst (zv rfl rfl (r_load (lz0 3 rfl) ty_30) o0) rfl zd zk zk (fun a w hst=>?_)
   have hst:St B w0 115 [(4,_),(108,_)] [⟨2,28,ptrH,_⟩,⟨3,30,ptrH,_⟩,⟨5,28,ptrH,_⟩,⟨6,30,ptrH,_⟩,⟨7,26,ptrH,_⟩,⟨11,26,ptrH,_⟩,⟨13,26,ptrH,_⟩,⟨17,26,ptrH,_⟩,⟨19,59,ptrH,_⟩] a w:=hst
   rw [show List.range' 1 1=[1] from rfl]
   rw [wpOps_cons]
   refine op_ckS (A1:=BkE (addL [] (([]++km x m5)++kr r m6))) (xs:=[.tmp 108]) [0] [1] 8 rfl hst ((keepR_c r m6 (addL [] ([]++km x m5)) (sepL_app hk1).2 (by rw [addL_len]; exact Nat.le_of_ble_eq_true zk)).wk (fun B cs w h=>by rw [addL_app]; exact h)) rfl rfl (.cons ⟨_,rfl,rfl⟩ .nil) rfl (may_all hB) zd zk zk zk zk (fun a w hst=>?_)
   refine wpOps_nS ?_
   have hst:St B w0 115 [(109,_),(4,_)] [⟨2,28,ptrH,_⟩,⟨3,30,ptrH,_⟩,⟨5,28,ptrH,_⟩,⟨6,30,ptrH,_⟩,⟨7,26,ptrH,_⟩,⟨11,26,ptrH,_⟩,⟨13,26,ptrH,_⟩,⟨17,26,ptrH,_⟩,⟨19,59,ptrH,BkE (addL [] (([]++km x m5)++kr r m6))⟩] a w:=hst
   refine zt ?_
   refine go_head (sp:=[.val 110 _,.val 111 VT]) 1 1 99 1 OneC [.g 1,.o 0] hst (zv rfl rfl (r_load (lz0 4 rfl) ty_26) o0) rfl zd zk zk (fun a w hst=>?_)
   have hst:St B w0 115 [(4,_),(110,_)] [⟨2,28,ptrH,_⟩,⟨3,30,ptrH,_⟩,⟨5,28,ptrH,_⟩,⟨6,30,ptrH,_⟩,⟨7,26,ptrH,_⟩,⟨11,26,ptrH,_⟩,⟨13,26,ptrH,_⟩,⟨17,26,ptrH,_⟩,⟨19,59,ptrH,_⟩] a w:=hst
   rw [show List.range' 1 1=[1] from rfl]
   rw [wpOps_cons]
   refine op_ckS (A1:=BkE (addL [] ((([]++km x m5)++kr r m6)++kf (foO x r).1 (m7 0) (m7 1)))) (xs:=[.tmp 110]) [0] [1] 8 rfl hst ((keepF_c (foO x r).1 (m7 0) (m7 1) (addL [] (([]++km x m5)++kr r m6)) (sepL_app hk2).2 (by rw [addL_len]; exact Nat.le_of_ble_eq_true zk)).wk (fun B cs w h=>by rw [addL_app]; exact h)) rfl rfl (.cons ⟨_,rfl,rfl⟩ .nil) rfl (may_all hB) zd zk zk zk zk (fun a w hst=>?_)
   refine wpOps_nS ?_
   have hst:St B w0 115 [(111,_),(4,_)] [⟨2,28,ptrH,_⟩,⟨3,30,ptrH,_⟩,⟨5,28,ptrH,_⟩,⟨6,30,ptrH,_⟩,⟨7,26,ptrH,_⟩,⟨11,26,ptrH,_⟩,⟨13,26,ptrH,_⟩,⟨17,26,ptrH,_⟩,⟨19,59,ptrH,BkE (addL [] ((([]++km x m5)++kr r m6)++kf (foO x r).1 (m7 0) (m7 1)))⟩] a w:=hst
   refine zt ?_
   refine go_head (sp:=[.val 112 _,.val 113 VT]) 1 1 99 1 OneC [.g 1,.o 0] hst (zv rfl rfl (r_load (lz0 5 rfl) ty_26) o0) rfl zd zk zk (fun a w hst=>?_)
   have hst:St B w0 115 [(4,_),(112,_)] [⟨2,28,ptrH,_⟩,⟨3,30,ptrH,_⟩,⟨5,28,ptrH,_⟩,⟨6,30,ptrH,_⟩,⟨7,26,ptrH,_⟩,⟨11,26,ptrH,_⟩,⟨13,26,ptrH,_⟩,⟨17,26,ptrH,_⟩,⟨19,59,ptrH,_⟩] a w:=hst
   rw [show List.range' 1 1=[1] from rfl]
   rw [wpOps_cons]
   refine op_ckS (A1:=BkE (addL [] (((([]++km x m5)++kr r m6)++kf (foO x r).1 (m7 0) (m7 1))++kf (boO x r).1 (m11 0) (m11 1)))) (xs:=[.tmp 112]) [0] [1] 8 rfl hst ((keepF_c (boO x r).1 (m11 0) (m11 1) (addL [] ((([]++km x m5)++kr r m6)++kf (foO x r).1 (m7 0) (m7 1))) (sepL_app hk3).2 (by rw [addL_len]; exact Nat.le_of_ble_eq_true zk)).wk (fun B cs w h=>by rw [addL_app]; exact h)) rfl rfl (.cons ⟨_,rfl,rfl⟩ .nil) rfl (may_all hB) zd zk zk zk zk (fun a w hst=>?_)
   refine wpOps_nS ?_
   have hst:St B w0 115 [(113,_),(4,_)] [⟨2,28,ptrH,_⟩,⟨3,30,ptrH,_⟩,⟨5,28,ptrH,_⟩,⟨6,30,ptrH,_⟩,⟨7,26,ptrH,_⟩,⟨11,26,ptrH,_⟩,⟨13,26,ptrH,_⟩,⟨17,26,ptrH,_⟩,⟨19,59,ptrH,BkE (addL [] (((([]++km x m5)++kr r m6)++kf (foO x r).1 (m7 0) (m7 1))++kf (boO x r).1 (m11 0) (m11 1)))⟩] a w:=hst
   refine zt ?_
   have hst:=St.selL hst [8]
   refine go_first (m:=1) zk ?_
   refine op_ckS (A1:=JkA) (xs:=[]) [] [] 0 rfl hst (apartE_c (((([]++km x m5)++kr r m6)++kf (foO x r).1 (m7 0) (m7 1))++kf (boO x r).1 (m11 0) (m11 1)) (okK_len (okK_app (okK_app (okK_app (okK_app okK_nil o5) o6) o7) o11) (lnK_app (lnK_app (lnK_app (lnK_app lnK_nil (lnK_m hb.1)) (lnK_r hb.2)) (lnK_f (bd_fo x r))) (lnK_f (bd_bo x r)))) nq) rfl rfl .nil rfl (may_all hB) zd zk zk zk zk (fun a w hst=>?_)
   have hst:St B w0 115 [(114,Bo true)] [⟨19,_,ptrH,JkA⟩] a w:=hst
   refine go_restM (sp:=[.val 114 (Bo true),.val 4 _]) [.o 1] hst rfl zk (zv rfl rfl (r_assign (vq 0 rfl)) o0) zk zk (fun a w hst=>?_)
   have hst:St B w0 115 [(4,_)] [⟨19,59,ptrH,_⟩] a w:=hst
   refine thn_normal ?_
   refine wp_ret ?_
   refine ret_wk ?_ (ret_tmp rfl hst (zm 0 rfl))
   exact wk_id
end Go.Proofs.YthncfchnkjemiaaGreatDoor
