/- OrbitLeaves: for all matrices, rays, limits the law of chapter 13 on the trip behind which a ray is farther, held against the reference, answers true. No condition. -/
import Derived.Test.YtmghfjcjcfaagaaGreatRefM
import Derived.Test.YtmghfjcjcfaagaaGreatTwiC
import Derived.Test.YtmghfjcjcfaagaaGreatRdB
import Derived.Test.YtmghfjcjcfaagaaGreatTriA
import Derived.Test.YtmghfjcjcfaagaaGreatRows
import Derived.WalkKit
import Derived.ProofKit
import Derived.OpenShut
import Derived.ShutString
import Derived.ChangeOld
import Derived.Below
namespace Go.Proofs.YtmghfjcjcfaagaaGreat
open Go Go.RowKit
namespace LOrbitLeaves
theorem fld_28_0 : Fld Tryz.prog 28 0 0 4 := ⟨_, _, Tryz.underlying28, rfl, rfl, by kernel_rfl, by decide⟩
theorem fld_28_1 : Fld Tryz.prog 28 1 4 4 := ⟨_, _, Tryz.underlying28, rfl, rfl, by kernel_rfl, by decide⟩
theorem fld_28_2 : Fld Tryz.prog 28 2 8 4 := ⟨_, _, Tryz.underlying28, rfl, rfl, by kernel_rfl, by decide⟩
theorem fld_28_3 : Fld Tryz.prog 28 3 12 4 := ⟨_, _, Tryz.underlying28, rfl, rfl, by kernel_rfl, by decide⟩
theorem sl_69 : Sl Tryz.prog 69 3 1 := ⟨by kernel_rfl, by kernel_rfl⟩
theorem sl_71 : Sl Tryz.prog 71 26 4 := ⟨by kernel_rfl, by kernel_rfl⟩
theorem ty_26 : Ty Tryz.prog 26 4 true := ⟨by kernel_rfl, by kernel_rfl⟩
theorem ty_28 : Ty Tryz.prog 28 16 true := ⟨by kernel_rfl, by kernel_rfl⟩
theorem ty_30 : Ty Tryz.prog 30 8 true := ⟨by kernel_rfl, by kernel_rfl⟩
end LOrbitLeaves
open LOrbitLeaves
set_option linter.unusedVariables false
theorem byd_mr {x : RM} {r : RR} (hx : wdM x) (hr : wdR r) (h : bydF 0 [matCostF x, rayCostF r] = false) : (bdF x.a ∧ bdF x.b ∧ bdF x.c ∧ bdF x.d) ∧ (bdF r.y ∧ bdF r.u) := by
  obtain ⟨a, b, c, d, e, l, hs⟩ := mat_cost hx
  obtain ⟨a', b', e', l', hs'⟩ := ray_cost hr
  rw [e, e'] at h
  have := byd_0 (l := [a + b + c + d, a' + b']) (by simp; omega) h
  simp at this
  unfold bdF
  omega
theorem byd_f {x : RF} (hx : wdF x) (h : bydF 0 [fracCostF x] = false) : bdF x := by
  obtain ⟨c, e, l, hs⟩ := frac_cost hx
  rw [e] at h
  have := byd_0 (l := [c]) (by simp; omega) h
  simp at this
  unfold bdF
  omega

set_option maxRecDepth 100000 in
theorem beyond13_c (m : RM) (r : RR) : Cn Tryz.prog 7 [(RMA m).va, (RRA r).va] (Bo (bydF 0 [matCostF m, rayCostF r])) := by
  refine Cn.intro Tryz.func7 rfl (by kernel_rfl) nq (fun B w0 a hst => ?_)
  have hst : St B w0 11 [(0, (RMA m).va), (1, (RRA r).va)] [] a w0.w := hst
  refine wp_seq ?_
  refine gl (sts := []) (news := [⟨2, 28, ptrH, some 0, _, none⟩, ⟨3, 30, ptrH, some 1, _, none⟩]) (sp := [.alc 0, .alc 1, .val 4 _]) [.o 2] hst (oc (ob_box rfl rfl rfl (gq 0 rfl)) (oc (ob_box rfl rfl rfl (gq 1 rfl)) (oc (ob_v rfl rfl (r_assign has_bo)) o0))) (fun a w hst => ?_)
  have hst : St B w0 11 [(4, _)] [⟨2, 28, ptrH, _⟩, ⟨3, 30, ptrH, _⟩] a w := hst
  refine thn_normal ?_
  refine wp_seq ?_
  refine go_draw (anc := [[], [0], [], [0, 1, 2], [0, 1, 2, 3], [0, 1, 2, 3, 4], [0, 1, 2, 3, 4, 5]]) (sts := [none, none]) (news := []) (sp := [.val 5 _, .val 6 _, .val 7 _, .val 8 _, .val 9 _, .val 10 _, .val 4 _]) [.o 6] follows_mixed hst (oc (ob_v rfl rfl (r_load (lz0 0 rfl) ty_28)) (oc (ob_v rfl rfl (r_call (xs := [.tmp 5]) (matCost_c _) (.cons (vq 0 rfl) .nil))) (oc (ob_v rfl rfl (r_load (lz0 1 rfl) ty_30)) (oc (ob_v rfl rfl (r_call (xs := [.tmp 7]) (rayCost_c _) (.cons (vq 2 rfl) .nil))) (oc (ob_v rfl rfl (r_slice (D := []) (l := [_, _]) (xs := [.tmp 6, .tmp 8]) (nd_ok (by kernel_rfl)) sl_69 (by kernel_rfl) (n_ok (by kernel_rfl)) nq nq nq (.cons (vq 1 rfl) (.cons (vq 3 rfl) .nil)) rfl rfl)) (oc (ob_v rfl rfl (r_call (xs := [.tmp 9]) (beyond_c [_, _]) (.cons (vq 4 rfl) .nil))) (oc (ob_v rfl rfl (r_assign (vq 5 rfl))) o0))))))) (by kernel_rfl) (by kernel_rfl) (by kernel_rfl) (by kernel_rfl) (fun a w hst => ?_)
  have hst : St B w0 11 [(4, _)] [⟨2, 28, ptrH, _⟩, ⟨3, 30, ptrH, _⟩] a w := hst
  refine thn_normal ?_
  refine wp_ret ?_
  refine ret_wk ?_ (ret_tmp rfl hst (List.mem_of_getElem? (i := 0) rfl))
  exact wk_id

set_option maxRecDepth 100000 in
set_option maxHeartbeats 1000000 in
theorem leaves_w (m : RM) (hm0 : wdM m) (r : RR) (hr0 : wdR r) (l : RF) (hl0 : wdF l) : Cn Tryz.prog 3 [(RMA m).va, (RRA r).va, (RFA l).va] (Bo true) := by
  refine Cn.intro Tryz.func3 rfl (by kernel_rfl) nq (fun B w0 a hst => ?_)
  have hst : St B w0 78 [(0, (RMA m).va), (1, (RRA r).va), (2, (RFA l).va)] [] a w0.w := hst
  refine wp_seq ?_
  refine gl (sts := []) (news := [⟨3, 28, ptrH, some 0, _, none⟩, ⟨4, 30, ptrH, some 1, _, none⟩, ⟨5, 26, ptrH, some 2, _, none⟩]) (sp := [.alc 0, .alc 1, .alc 2, .val 6 _]) [.o 3] hst (oc (ob_box rfl rfl rfl (gq 0 rfl)) (oc (ob_box rfl rfl rfl (gq 1 rfl)) (oc (ob_box rfl rfl rfl (gq 2 rfl)) (oc (ob_v rfl rfl (r_assign has_bo)) o0)))) (fun a w hst => ?_)
  have hst : St B w0 78 [(6, _)] [⟨3, 28, ptrH, _⟩, ⟨4, 30, ptrH, _⟩, ⟨5, 26, ptrH, _⟩] a w := hst
  refine thn_normal ?_
  refine wp_seq ?_
  refine wp_seq ?_
  refine gl (sts := [none, none, none]) (news := []) (sp := [.val 14 _, .val 15 _, .val 16 _, .val 17 _, .val 18 (Wh (_ = false) _), .val 19 (Wh (_ = false) _), .val 20 (Wh (_ = false) _), .val 21 (Wh (_ = false) _), .val 22 _, .val 23 _, .adr 24 3 (.some 0) (_ = false), .val 25 (Wh (_ = false) _), .adr 26 3 (.some 4) (_ = false), .val 27 (Wh (_ = false) _), .adr 28 3 (.some 8) (_ = false), .val 29 (Wh (_ = false) _), .adr 30 3 (.some 12) (_ = false), .val 31 (Wh (_ = false) _), .val 32 (Wh (_ = false) _), .val 33 (Wh (_ = false) _), .val 34 _]) [.g 0, .o 20] hst (oc (ob_v rfl rfl (r_load (lz0 0 rfl) ty_28)) (oc (ob_v rfl rfl (r_load (lz0 1 rfl) ty_30)) (oc (ob_v rfl rfl (r_call (xs := [.tmp 14, .tmp 15]) (beyond13_c m r) (.cons (vq 0 rfl) (.cons (vq 1 rfl) .nil)))) (oc (ob_v rfl rfl (r_move (vq 2 rfl))) (oc (ob_gd rfl rfl rfl (vq 3 rfl) nq (fun hg => r_load (lz0 2 rfl) ty_26)) (oc (ob_gd rfl rfl rfl (vq 3 rfl) nq (fun hg => r_call (xs := [.tmp 18]) (fracCost_c _) (.cons (has_wh (vq 4 rfl) hg) .nil))) (oc (ob_gd rfl rfl rfl (vq 3 rfl) nq (fun hg => r_slice (D := []) (l := [_]) (xs := [.tmp 19]) (nd_ok (by kernel_rfl)) sl_69 (by kernel_rfl) (n_ok (by kernel_rfl)) nq nq nq (.cons (has_wh (vq 5 rfl) hg) .nil) rfl rfl)) (oc (ob_gd rfl rfl rfl (vq 3 rfl) nq (fun hg => r_call (xs := [.tmp 20]) (beyond_c [_]) (.cons (has_wh (vq 6 rfl) hg) .nil))) (oc (ob_v rfl rfl (r_or (vq 3 rfl) (vq 7 rfl))) (oc (ob_v rfl rfl (r_move (vq 8 rfl))) (oc (ob_ag rfl rfl rfl (vq 9 rfl) nq (fun hg => a_fld (lz0 0 rfl) fld_28_0)) (oc (ob_gd rfl rfl rfl (vq 9 rfl) nq (fun hg => r_loadf 10 rfl (by kernel_rfl) hg (lz0 0 rfl) (Sub.part 0 rfl rfl) ty_26)) (oc (ob_ag rfl rfl rfl (vq 9 rfl) nq (fun hg => a_fld (lz0 0 rfl) fld_28_1)) (oc (ob_gd rfl rfl rfl (vq 9 rfl) nq (fun hg => r_loadf 12 rfl (by kernel_rfl) hg (lz0 0 rfl) (Sub.part 1 rfl rfl) ty_26)) (oc (ob_ag rfl rfl rfl (vq 9 rfl) nq (fun hg => a_fld (lz0 0 rfl) fld_28_2)) (oc (ob_gd rfl rfl rfl (vq 9 rfl) nq (fun hg => r_loadf 14 rfl (by kernel_rfl) hg (lz0 0 rfl) (Sub.part 2 rfl rfl) ty_26)) (oc (ob_ag rfl rfl rfl (vq 9 rfl) nq (fun hg => a_fld (lz0 0 rfl) fld_28_3)) (oc (ob_gd rfl rfl rfl (vq 9 rfl) nq (fun hg => r_loadf 16 rfl (by kernel_rfl) hg (lz0 0 rfl) (Sub.part 3 rfl rfl) ty_26)) (oc (ob_gd rfl rfl rfl (vq 9 rfl) nq (fun hg => r_slice (D := [U32]) (l := [_, _, _, _]) (xs := [.tmp 25, .tmp 27, .tmp 29, .tmp 31]) (nd_ok (by kernel_rfl)) sl_71 (by kernel_rfl) (n_ok (by kernel_rfl)) nq nq nq (.cons (has_wh (vq 11 rfl) hg) (.cons (has_wh (vq 13 rfl) hg) (.cons (has_wh (vq 15 rfl) hg) (.cons (has_wh (vq 17 rfl) hg) .nil)))) rfl rfl)) (oc (ob_gd rfl rfl rfl (vq 9 rfl) nq (fun hg => r_call (xs := [.const (.int .i64 (4096)), .const (.int .i64 (20000)), .tmp 32]) (trips_c 4096 20000 [_, _, _, _]) (.cons has_num (.cons has_num (.cons (has_wh (vq 18 rfl) hg) .nil))))) (oc (ob_v rfl rfl (r_or (vq 9 rfl) (vq 19 rfl))) o0))))))))))))))))))))) (fun a w hst => ?_)
  have hst : St B w0 78 [(6, _), (34, _)] [⟨3, 28, ptrH, _⟩, ⟨4, 30, ptrH, _⟩, ⟨5, 26, ptrH, _⟩] a w := hst
  refine thn_normal ?_
  refine cond_of hst (List.mem_of_getElem? (i := 1) rfl) (fun hb0 => ?_) (fun hb0 => ?_)
  · refine wp_seq ?_
    refine gl (sts := [none, none, none]) (news := []) (sp := [.val 6 _]) [.o 0] hst (oc (ob_v rfl rfl (r_assign has_bo)) o0) (fun a w hst => ?_)
    have hst : St B w0 78 [(6, _)] [⟨3, 28, ptrH, _⟩, ⟨4, 30, ptrH, _⟩, ⟨5, 26, ptrH, _⟩] a w := hst
    refine thn_normal ?_
    refine wp_ret ?_
    refine thn_ret ?_
    refine ret_wk ?_ (ret_tmp rfl hst (List.mem_of_getElem? (i := 0) rfl))
    exact wk_id
  · rw [Bool.or_eq_false_iff, Bool.or_eq_false_iff] at hb0
    obtain ⟨hm, hr⟩ := byd_mr hm0 hr0 hb0.1.1
    have hl := byd_f hl0 hb0.1.2
    refine wp_skip ?_
    refine thn_normal ?_
    refine wp_seq ?_
    refine gl (sts := [none, none, none]) (news := [⟨7, 28, ptrH, some 2, _, some (3, _)⟩]) (sp := [.val 35 _, .val 36 _, .alc 3, .sto 3]) [.g 0] hst (oc (ob_v rfl rfl (r_load (lz0 0 rfl) ty_28)) (oc (ob_v rfl rfl (r_call (xs := [.tmp 35]) (twinMatrix_c m hm) (.cons (vq 0 rfl) .nil))) (oc (ob_alc rfl rfl rfl (Str.zero str_matrix)) (oc (ob_sto rfl rfl rfl (vq 1 rfl) ty_28 (Eq.trans (b := 16) rfl rfl)) o0)))) (fun a w hst => ?_)
    have hst : St B w0 78 [(6, _)] [⟨3, 28, ptrH, _⟩, ⟨4, 30, ptrH, _⟩, ⟨5, 26, ptrH, _⟩, ⟨7, 28, ptrH, _⟩] a w := hst
    refine thn_normal ?_
    refine wp_seq ?_
    refine gl (sts := [none, none, none, none]) (news := [⟨8, 30, ptrH, some 2, _, some (3, _)⟩]) (sp := [.val 37 _, .val 38 _, .alc 4, .sto 4]) [.g 0] hst (oc (ob_v rfl rfl (r_load (lz0 1 rfl) ty_30)) (oc (ob_v rfl rfl (r_call (xs := [.tmp 37]) (twinRay_c r hr) (.cons (vq 0 rfl) .nil))) (oc (ob_alc rfl rfl rfl (Str.zero str_ray)) (oc (ob_sto rfl rfl rfl (vq 1 rfl) ty_30 (Eq.trans (b := 8) rfl rfl)) o0)))) (fun a w hst => ?_)
    have hst : St B w0 78 [(6, _)] [⟨3, 28, ptrH, _⟩, ⟨4, 30, ptrH, _⟩, ⟨5, 26, ptrH, _⟩, ⟨7, 28, ptrH, _⟩, ⟨8, 30, ptrH, _⟩] a w := hst
    refine thn_normal ?_
    refine wp_seq ?_
    refine gl (sts := [none, none, none, none, none]) (news := [⟨9, 26, ptrH, some 2, _, some (3, _)⟩]) (sp := [.val 39 _, .val 40 _, .alc 5, .sto 5]) [.g 0] hst (oc (ob_v rfl rfl (r_load (lz0 2 rfl) ty_26)) (oc (ob_v rfl rfl (r_call (xs := [.tmp 39]) (twinFrac_c l hl) (.cons (vq 0 rfl) .nil))) (oc (ob_alc rfl rfl rfl (Str.zero str_frac)) (oc (ob_sto rfl rfl rfl (vq 1 rfl) ty_26 (Eq.trans (b := 4) rfl rfl)) o0)))) (fun a w hst => ?_)
    have hst : St B w0 78 [(6, _)] [⟨3, 28, ptrH, _⟩, ⟨4, 30, ptrH, _⟩, ⟨5, 26, ptrH, _⟩, ⟨7, 28, ptrH, _⟩, ⟨8, 30, ptrH, _⟩, ⟨9, 26, ptrH, _⟩] a w := hst
    refine thn_normal ?_
    refine wp_seq ?_
    refine gl (sts := [none, none, none, none, none, none]) (news := []) (sp := [.val 42 _, .val 43 _, .val 44 _, .val 45 _, .val 41 _, .val 46 _, .val 47 _, .val 10 _, .val 11 _]) [.g 0, .o 7, .o 8] hst (oc (ob_v rfl rfl (r_load (lz0 3 rfl) ty_28)) (oc (ob_v rfl rfl (r_load (lz0 4 rfl) ty_30)) (oc (ob_v rfl rfl (r_load (lz0 5 rfl) ty_26)) (oc (ob_v rfl rfl (r_call (xs := [.tmp 42, .tmp 43, .tmp 44]) ((leaves_c m r l).wk (.cons wkA_rmt.va (.cons wkA_rrt.va (.cons wkA_rft.va .nil)))) (.cons (vq 0 rfl) (.cons (vq 1 rfl) (.cons (vq 2 rfl) .nil))))) (oc (ob_v rfl rfl (r_move (vq 3 rfl))) (oc (ob_v rfl rfl (r_ex0 (vq 4 rfl))) (oc (ob_v rfl rfl (r_ex1 (vq 4 rfl))) (oc (ob_v rfl rfl (r_assign (vq 5 rfl))) (oc (ob_v rfl rfl (r_assign (vq 6 rfl))) o0))))))))) (fun a w hst => ?_)
    have hst : St B w0 78 [(6, _), (10, _), (11, _)] [⟨3, 28, ptrH, _⟩, ⟨4, 30, ptrH, _⟩, ⟨5, 26, ptrH, _⟩, ⟨7, 28, ptrH, _⟩, ⟨8, 30, ptrH, _⟩, ⟨9, 26, ptrH, _⟩] a w := hst
    refine thn_normal ?_
    refine wp_seq ?_
    refine gl (sts := [none, none, none, none, none, none]) (news := []) (sp := [.val 49 _, .val 50 _, .val 51 _, .val 52 _, .val 48 _, .val 53 _, .val 54 _, .val 12 _, .val 13 _]) [.g 0, .g 1, .g 2, .o 7, .o 8] hst (oc (ob_v rfl rfl (r_load (lz0 0 rfl) ty_28)) (oc (ob_v rfl rfl (r_load (lz0 1 rfl) ty_30)) (oc (ob_v rfl rfl (r_load (lz0 2 rfl) ty_26)) (oc (ob_v rfl rfl (r_call (xs := [.tmp 49, .tmp 50, .tmp 51]) (r13leaves_c m r l) (.cons (vq 0 rfl) (.cons (vq 1 rfl) (.cons (vq 2 rfl) .nil))))) (oc (ob_v rfl rfl (r_move (vq 3 rfl))) (oc (ob_v rfl rfl (r_ex0 (vq 4 rfl))) (oc (ob_v rfl rfl (r_ex1 (vq 4 rfl))) (oc (ob_v rfl rfl (r_assign (vq 5 rfl))) (oc (ob_v rfl rfl (r_assign (vq 6 rfl))) o0))))))))) (fun a w hst => ?_)
    have hst : St B w0 78 [(6, _), (10, _), (11, _), (12, _), (13, _)] [⟨3, 28, ptrH, _⟩, ⟨4, 30, ptrH, _⟩, ⟨5, 26, ptrH, _⟩, ⟨7, 28, ptrH, _⟩, ⟨8, 30, ptrH, _⟩, ⟨9, 26, ptrH, _⟩] a w := hst
    refine thn_normal ?_
    refine wp_seq ?_
    refine gl (sts := [none, none, none, none, none, none]) (news := []) (sp := ((.val 55 _ : Sp) :: (.val 56 _) :: (.val 57 _) :: (.val 58 _) :: (.val 59 (Wh (_ = true) _)) :: (.val 60 (Wh (_ = true) _)) :: (.val 61 (Wh (_ = true) _)) :: (.val 62 _) :: (.val 63 _) :: (.val 64 (Wh (_ = true) _)) :: (.val 65 (Wh (_ = true) _)) :: (.val 66 (Wh (_ = true) _)) :: (.val 67 _) :: (.val 68 _) :: (.val 69 (Wh (_ = true) _)) :: (.val 70 (Wh (_ = true) _)) :: (.val 71 (Wh (_ = true) _)) :: (.val 72 _) :: (.val 73 _) :: (.val 74 (Wh (_ = true) _)) :: (.val 75 (Wh (_ = true) _)) :: (.val 76 (Wh (_ = true) _)) :: (.val 77 _) :: (.val 6 _) :: [])) [.o 23] hst (oc (ob_v rfl rfl (r_move (gq 1 rfl))) (oc (ob_v rfl rfl (r_move (gq 3 rfl))) (oc (ob_v rfl rfl (r_eql (vq 0 rfl) (vq 1 rfl))) (oc (ob_v rfl rfl (r_move (vq 2 rfl))) (oc (ob_gd rfl rfl rfl (vq 3 rfl) nq (fun hg => r_move (gq 2 rfl))) (oc (ob_gd rfl rfl rfl (vq 3 rfl) nq (fun hg => r_move (gq 4 rfl))) (oc (ob_gd rfl rfl rfl (vq 3 rfl) nq (fun hg => r_eql (has_wh (vq 4 rfl) hg) (has_wh (vq 5 rfl) hg))) (oc (ob_v rfl rfl (r_and (vq 3 rfl) (vq 6 rfl))) (oc (ob_v rfl rfl (r_move (vq 7 rfl))) (oc (ob_gd rfl rfl rfl (vq 8 rfl) nq (fun hg => r_load (lz0 3 rfl) ty_28)) (oc (ob_gd rfl rfl rfl (vq 8 rfl) nq (fun hg => r_load (lz0 0 rfl) ty_28)) (oc (ob_gd rfl rfl rfl (vq 8 rfl) nq (fun hg => r_call (xs := [.tmp 64, .tmp 65]) (leftMatrix_c m m hm) (.cons (has_wh (vq 9 rfl) hg) (.cons (has_wh (vq 10 rfl) hg) .nil)))) (oc (ob_v rfl rfl (r_and (vq 8 rfl) (vq 11 rfl))) (oc (ob_v rfl rfl (r_move (vq 12 rfl))) (oc (ob_gd rfl rfl rfl (vq 13 rfl) nq (fun hg => r_load (lz0 4 rfl) ty_30)) (oc (ob_gd rfl rfl rfl (vq 13 rfl) nq (fun hg => r_load (lz0 1 rfl) ty_30)) (oc (ob_gd rfl rfl rfl (vq 13 rfl) nq (fun hg => r_call (xs := [.tmp 69, .tmp 70]) (leftRay_c r r hr) (.cons (has_wh (vq 14 rfl) hg) (.cons (has_wh (vq 15 rfl) hg) .nil)))) (oc (ob_v rfl rfl (r_and (vq 13 rfl) (vq 16 rfl))) (oc (ob_v rfl rfl (r_move (vq 17 rfl))) (oc (ob_gd rfl rfl rfl (vq 18 rfl) nq (fun hg => r_load (lz0 5 rfl) ty_26)) (oc (ob_gd rfl rfl rfl (vq 18 rfl) nq (fun hg => r_load (lz0 2 rfl) ty_26)) (oc (ob_gd rfl rfl rfl (vq 18 rfl) nq (fun hg => r_call (xs := [.tmp 74, .tmp 75]) (leftFrac_c l l hl) (.cons (has_wh (vq 19 rfl) hg) (.cons (has_wh (vq 20 rfl) hg) .nil)))) (oc (ob_v rfl rfl (r_and (vq 18 rfl) (vq 21 rfl))) (oc (ob_v rfl rfl (r_assign (vq 22 rfl))) o0)))))))))))))))))))))))) (fun a w hst => ?_)
    have hst : St B w0 78 [(6, _)] [⟨3, 28, ptrH, _⟩, ⟨4, 30, ptrH, _⟩, ⟨5, 26, ptrH, _⟩, ⟨7, 28, ptrH, _⟩, ⟨8, 30, ptrH, _⟩, ⟨9, 26, ptrH, _⟩] a w := hst
    refine thn_normal ?_
    refine wp_ret ?_
    refine ret_wk ?_ (ret_tmp rfl hst (List.mem_of_getElem? (i := 0) rfl))
    refine wk_eq (congrArg Bo ?_); simp

open Go.ChangeShapes Go.WideShapes Go.ChangeAt
open Go.ChangeMaps (open_string shut_string)
set_option linter.unusedVariables false
theorem own : ownKnob Tryz.prog.godebug = none := by kernel_rfl
theorem laidOut : laidOutB Tryz.prog = true := by kernel_rfl
set_option maxRecDepth 100000 in
theorem lifted (os : Os) (started : os.Started) (H : Type) (enc : TypeId × Value → H) :
    ReturnsInHanded {} Tryz.checked os 3 .any (Rows.orbitLeavesSpec.pre6 enc Tryz.prog Tryz.f3 Rows.orbitLeavesRow.domain false) (Rows.orbitLeavesSpec.post enc Tryz.prog Tryz.f3 false true false false) := by
  refine returnsInHanded_of_change_sized (C := Tryz.checked) own started (by kernel_rfl) Tryz.func3
    (ChangeSpec.witness6 (enc := enc) (C := Tryz.checked) false ⟨#[], #[.agg #[.bool false, .slice none 0 0, .bool false, .slice none 0 0, .bool false, .slice none 0 0, .bool false, .slice none 0 0, .bool false, .slice none 0 0, .bool false, .slice none 0 0, .bool false, .slice none 0 0, .bool false, .slice none 0 0], .agg #[.bool false, .slice none 0 0, .bool false, .slice none 0 0, .bool false, .slice none 0 0, .bool false, .slice none 0 0], .agg #[.bool false, .slice none 0 0, .bool false, .slice none 0 0]], []⟩ 8 (by kernel_rfl) (by kernel_rfl) (by kernel_rfl) (by kernel_rfl)) ?_
  intro W base args ds gs before hval0 hW hcnd hwt _
  have hval : ∀ (j : Nat) t v, Tryz.f3.params[j]? = some t → args[j]? = some v → Value.okWide Tryz.prog W .any base t v := hval0
  have hW' := hW
  obtain ⟨p, q, hA0, hV, rfl, hfz, hnd⟩ := hW
  have hA : DataW.TrodAll enc Tryz.prog W 0 (fun _ => true) true Tryz.f3.params.toList args.toList ds p := hA0
  rw [Tryz.params3] at hA hval hwt
  obtain ⟨v0, vs0, d0, ds0, p0, q0, hargs, rfl, rfl, h0, r0⟩ := trodAll_cons hA
  obtain ⟨v1, vs1, d1, ds1, p1, q1, rfl, rfl, rfl, h1, r1⟩ := trodAll_cons r0
  obtain ⟨v2, vs2, d2, ds2, p2, q2, rfl, rfl, rfl, h2, r2⟩ := trodAll_cons r1
  obtain ⟨rfl, rfl, rfl⟩ := trodAll_nil r2
  obtain rfl : args = #[v0, v1, v2] := by cases args; simp_all
  obtain ⟨rfl, rfl⟩ := trodVars_none hV
  have k0 := h0
  have lt0 : ∀ x ∈ p0, x.block < W.heap.size := by obtain ⟨m, hm⟩ := k0; exact DataW.trod_lt m _ _ _ hm
  have k1 := h1
  have lt1 : ∀ x ∈ p1, x.block < W.heap.size := by obtain ⟨m, hm⟩ := k1; exact DataW.trod_lt m _ _ _ hm
  have k2 := h2
  have lt2 : ∀ x ∈ p2, x.block < W.heap.size := by obtain ⟨m, hm⟩ := k2; exact DataW.trod_lt m _ _ _ hm
  obtain ⟨x0, a0, b0⟩ := arg_ofB (A := RMA) (bd := wdM) (fun _ => rfl) Tryz.underlying28 rb_rm (hval 0 28 v0 rfl rfl) h0 (wt_of hwt 0 rfl rfl)
  obtain ⟨x1, a1, b1⟩ := arg_ofB (A := RRA) (bd := wdR) (fun _ => rfl) Tryz.underlying30 rb_rr (hval 1 30 v1 rfl rfl) h1 (wt_of hwt 1 rfl rfl)
  obtain ⟨x2, a2, b2⟩ := arg_ofB (A := RFA) (bd := wdF) (fun _ => rfl) Tryz.underlying26 rb_rf (hval 2 26 v2 rfl rfl) h2 (wt_of hwt 2 rfl rfl)
  clear hA0 hval0
  refine ((leaves_w x0 b0 x1 b1 x2 b2).2 W.heap.size W [v0, v1, v2] (Nat.le_refl _) (.cons a0 (.cons a1 (.cons a2 .nil)))).mono fun e W' ⟨v, he, hv, bel⟩ => ?_
  have hv' := bo_val hv
  subst hv' he
  exact ⟨_, rfl, _, _, _, [], _, [], hW', trodAll_mk1 (shut_bool Tryz.underlying4 _), (trodAll_cons_mk (Below.trod laidOut (by kernel_rfl) (of_decide_eq_true (by kernel_rfl)) k0 bel lt0) (trodAll_cons_mk (Below.trod laidOut (by kernel_rfl) (of_decide_eq_true (by kernel_rfl)) k1 bel lt1) (trodAll_cons_mk (Below.trod laidOut (by kernel_rfl) (of_decide_eq_true (by kernel_rfl)) k2 bel lt2) trodAll_mk0))), rfl, bel.frame _, fun h => by cases h⟩
theorem over : Rows.orbitLeavesRow.holds Tryz.pinned (OpenSpec.ofChange Rows.orbitLeavesSpec) :=
  OpenClaim.holds_of_wide 3 Tryz.f3 rfl rfl rfl rfl rfl rfl rfl ⟨rfl, rfl, rfl, rfl, rfl⟩ rfl rfl rfl rfl rfl (by kernel_rfl) Tryz.func3 (by kernel_rfl)
    (of_decide_eq_true (by kernel_rfl)) (by unfold Func.isWrapper; rw [if_neg (of_decide_eq_false (by kernel_rfl))]; exact ⟨rfl, rfl⟩)
    (fun os started H enc _ => lifted os started H enc)
theorem provedOrbitLeaves : Rows.OrbitLeavesSaid := over
#print axioms provedOrbitLeaves

end Go.Proofs.YtmghfjcjcfaagaaGreat
