/- The reference of layer 9: cross, May, Check, MayRay, One. -/
import Derived.Test.YtmghfjcjcfaagaaGreatRefJ
import Derived.Test.YtmghfjcjcfaagaaGreatLeafX
namespace Go.Proofs.YtmghfjcjcfaagaaGreat
open Go Go.RowKit
namespace RefK
theorem fld_28_0 : Fld Tryz.prog 28 0 0 4 := ⟨_, _, Tryz.underlying28, rfl, rfl, by kernel_rfl, by decide⟩
theorem fld_28_1 : Fld Tryz.prog 28 1 4 4 := ⟨_, _, Tryz.underlying28, rfl, rfl, by kernel_rfl, by decide⟩
theorem fld_28_2 : Fld Tryz.prog 28 2 8 4 := ⟨_, _, Tryz.underlying28, rfl, rfl, by kernel_rfl, by decide⟩
theorem fld_28_3 : Fld Tryz.prog 28 3 12 4 := ⟨_, _, Tryz.underlying28, rfl, rfl, by kernel_rfl, by decide⟩
theorem fld_30_0 : Fld Tryz.prog 30 0 0 4 := ⟨_, _, Tryz.underlying30, rfl, rfl, by kernel_rfl, by decide⟩
theorem fld_30_1 : Fld Tryz.prog 30 1 4 4 := ⟨_, _, Tryz.underlying30, rfl, rfl, by kernel_rfl, by decide⟩
theorem sl_71 : Sl Tryz.prog 71 26 4 := ⟨by kernel_rfl, by kernel_rfl⟩
theorem ty_26 : Ty Tryz.prog 26 4 true := ⟨by kernel_rfl, by kernel_rfl⟩
theorem ty_28 : Ty Tryz.prog 28 16 true := ⟨by kernel_rfl, by kernel_rfl⟩
end RefK
open RefK
set_option linter.unusedVariables false
set_option maxRecDepth 100000 in
theorem r9cross_q {c d e f : Nat} {x y z u : Rat} (hk : c + d + e + f ≤ 900000000) : Cn Tryz.prog 122 [Qs c x, Qs d y, Qs e z, Qs f u] (Qs (c + f + (d + e) + 1) (x * u - y * z)) := by
  refine Cn.intro Tryz.func122 rfl (by kernel_rfl) nq (fun B w0 a hst => ?_)
  have hst : St B w0 16 [(0, Qs c x), (1, Qs d y), (2, Qs e z), (3, Qs f u)] [] a w0.w := hst
  refine wp_seq ?_
  refine gl (sts := []) (news := [⟨4, 26, ptrH, some 0, _, none⟩, ⟨5, 26, ptrH, some 1, _, none⟩, ⟨6, 26, ptrH, some 2, _, none⟩, ⟨7, 26, ptrH, some 3, _, none⟩, ⟨8, 26, ptrH, some 4, _, none⟩]) (sp := [.alc 0, .alc 1, .alc 2, .alc 3, .alc 4]) [] hst (oc (ob_box rfl rfl rfl (gq 0 rfl)) (oc (ob_box rfl rfl rfl (gq 1 rfl)) (oc (ob_box rfl rfl rfl (gq 2 rfl)) (oc (ob_box rfl rfl rfl (gq 3 rfl)) (oc (ob_alc rfl rfl rfl (Str.zero str_frac)) o0))))) (fun a w hst => ?_)
  have hst : St B w0 16 [] [⟨4, 26, ptrH, _⟩, ⟨5, 26, ptrH, _⟩, ⟨6, 26, ptrH, _⟩, ⟨7, 26, ptrH, _⟩, ⟨8, 26, ptrH, _⟩] a w := hst
  refine thn_normal ?_
  refine wp_seq ?_
  refine go_draw (anc := [[], [], [0, 1], [], [], [0, 1, 2, 3, 4], [0, 1, 2, 3, 4, 5], [0, 1, 2, 3, 4, 5, 6]]) (sts := [none, none, none, none, some (7, _)]) (news := []) (sp := [.val 9 _, .val 10 _, .val 11 _, .val 12 _, .val 13 _, .val 14 _, .val 15 _, .sto 4]) [] follows_mixed hst (oc (ob_v rfl rfl (r_load (lz0 0 rfl) ty_26)) (oc (ob_v rfl rfl (r_load (lz0 3 rfl) ty_26)) (oc (ob_v rfl rfl (r_call (xs := [.tmp 9, .tmp 10]) (r2times_q (by omega)) (.cons (vq 0 rfl) (.cons (vq 1 rfl) .nil)))) (oc (ob_v rfl rfl (r_load (lz0 1 rfl) ty_26)) (oc (ob_v rfl rfl (r_load (lz0 2 rfl) ty_26)) (oc (ob_v rfl rfl (r_call (xs := [.tmp 12, .tmp 13]) (r2times_q (by omega)) (.cons (vq 3 rfl) (.cons (vq 4 rfl) .nil)))) (oc (ob_v rfl rfl (r_call (xs := [.tmp 11, .tmp 14]) (r2minus_q (by omega)) (.cons (vq 2 rfl) (.cons (vq 5 rfl) .nil)))) (oc (ob_sto rfl rfl rfl (vq 6 rfl) ty_26 (Eq.trans (b := 4) rfl rfl)) o0)))))))) (by kernel_rfl) (by kernel_rfl) (by kernel_rfl) (by kernel_rfl) (fun a w hst => ?_)
  have hst : St B w0 16 [] [⟨4, 26, ptrH, _⟩, ⟨5, 26, ptrH, _⟩, ⟨6, 26, ptrH, _⟩, ⟨7, 26, ptrH, _⟩, ⟨8, 26, ptrH, _⟩] a w := hst
  refine thn_normal ?_
  refine wp_ret ?_
  refine ret_wk ?_ (ret_cell rfl hst (List.mem_of_getElem? (i := 4) rfl) ty_26)
  exact wk_id

theorem r9det_x {m : RM} (h : [m.a, m.b, m.c, m.d].all okX = true) : Cn Tryz.prog 122 [(RFA m.a).va, (RFA m.b).va, (RFA m.c).va, (RFA m.d).va] (Qs 8193 (toQ m.a * toQ m.d - toQ m.b * toQ m.c)) := by
  simp only [List.all_cons, List.all_nil, Bool.and_true, Bool.and_eq_true] at h
  exact (r9cross_q (c := 2048) (d := 2048) (e := 2048) (f := 2048) (by decide)).wk (.cons (qa_x h.1 (Nat.le_refl _)).va (.cons (qa_x h.2.1 (Nat.le_refl _)).va (.cons (qa_x h.2.2.1 (Nat.le_refl _)).va (.cons (qa_x h.2.2.2 (Nat.le_refl _)).va .nil))))
theorem r9may_e {m : RM} : Bo ([m.a, m.b, m.c, m.d].all okX && (cmQ (toQ m.a * toQ m.d - toQ m.b * toQ m.c) 1 == 0)) = Bo (okM m) := by rw [cm_eq]; rfl

set_option maxRecDepth 100000 in
theorem r9may_c (m : RM) : Cn Tryz.prog 60 [(RMA m).va] (Bo (okM m)) := by
  refine Cn.intro Tryz.func60 rfl (by kernel_rfl) nq (fun B w0 a hst => ?_)
  have hst : St B w0 26 [(0, (RMA m).va)] [] a w0.w := hst
  refine wp_seq ?_
  refine gl (sts := []) (news := [⟨1, 28, ptrH, some 0, _, none⟩]) (sp := [.alc 0, .val 2 _]) [.o 1] hst (oc (ob_box rfl rfl rfl (gq 0 rfl)) (oc (ob_v rfl rfl (r_assign has_bo)) o0)) (fun a w hst => ?_)
  have hst : St B w0 26 [(2, _)] [⟨1, 28, ptrH, _⟩] a w := hst
  refine thn_normal ?_
  refine wp_seq ?_
  refine gl (sts := [none]) (news := []) (sp := ((.adr 3 1 (.some 0) True : Sp) :: (.val 4 _) :: (.adr 5 1 (.some 4) True) :: (.val 6 _) :: (.adr 7 1 (.some 8) True) :: (.val 8 _) :: (.adr 9 1 (.some 12) True) :: (.val 10 _) :: (.val 11 _) :: (.val 12 _) :: (.val 13 _) :: (.adr 14 1 (.some 0) (_ = true)) :: (.val 15 (Wh (_ = true) _)) :: (.adr 16 1 (.some 4) (_ = true)) :: (.val 17 (Wh (_ = true) _)) :: (.adr 18 1 (.some 8) (_ = true)) :: (.val 19 (Wh (_ = true) _)) :: (.adr 20 1 (.some 12) (_ = true)) :: (.val 21 (Wh (_ = true) _)) :: (.val 22 (Wh (_ = true) _)) :: (.val 23 (Wh (_ = true) _)) :: (.val 24 (Wh (_ = true) _)) :: (.val 25 _) :: (.val 2 _) :: [])) [.o 23] hst (oc (ob_a rfl rfl (a_fld (lz0 0 rfl) fld_28_0)) (oc (ob_v rfl rfl (r_loadf 0 rfl (by kernel_rfl) trivial (lz0 0 rfl) (Sub.part 0 rfl rfl) ty_26)) (oc (ob_a rfl rfl (a_fld (lz0 0 rfl) fld_28_1)) (oc (ob_v rfl rfl (r_loadf 2 rfl (by kernel_rfl) trivial (lz0 0 rfl) (Sub.part 1 rfl rfl) ty_26)) (oc (ob_a rfl rfl (a_fld (lz0 0 rfl) fld_28_2)) (oc (ob_v rfl rfl (r_loadf 4 rfl (by kernel_rfl) trivial (lz0 0 rfl) (Sub.part 2 rfl rfl) ty_26)) (oc (ob_a rfl rfl (a_fld (lz0 0 rfl) fld_28_3)) (oc (ob_v rfl rfl (r_loadf 6 rfl (by kernel_rfl) trivial (lz0 0 rfl) (Sub.part 3 rfl rfl) ty_26)) (oc (ob_v rfl rfl (r_slice (D := [U32]) (l := [_, _, _, _]) (xs := [.tmp 4, .tmp 6, .tmp 8, .tmp 10]) (nd_ok (by kernel_rfl)) sl_71 (by kernel_rfl) (n_ok (by kernel_rfl)) nq nq nq (.cons (vq 1 rfl) (.cons (vq 3 rfl) (.cons (vq 5 rfl) (.cons (vq 7 rfl) .nil)))) rfl rfl)) (oc (ob_v rfl rfl (r_call (xs := [.tmp 11]) (r2checks_c [m.a, m.b, m.c, m.d] nq) (.cons (vq 8 rfl) .nil))) (oc (ob_v rfl rfl (r_move (vq 9 rfl))) (oc (ob_ag rfl rfl rfl (vq 10 rfl) nq (fun hg => a_fld (lz0 0 rfl) fld_28_0)) (oc (ob_gd rfl rfl rfl (vq 10 rfl) nq (fun hg => r_loadf 11 rfl (by kernel_rfl) hg (lz0 0 rfl) (Sub.part 0 rfl rfl) ty_26)) (oc (ob_ag rfl rfl rfl (vq 10 rfl) nq (fun hg => a_fld (lz0 0 rfl) fld_28_1)) (oc (ob_gd rfl rfl rfl (vq 10 rfl) nq (fun hg => r_loadf 13 rfl (by kernel_rfl) hg (lz0 0 rfl) (Sub.part 1 rfl rfl) ty_26)) (oc (ob_ag rfl rfl rfl (vq 10 rfl) nq (fun hg => a_fld (lz0 0 rfl) fld_28_2)) (oc (ob_gd rfl rfl rfl (vq 10 rfl) nq (fun hg => r_loadf 15 rfl (by kernel_rfl) hg (lz0 0 rfl) (Sub.part 2 rfl rfl) ty_26)) (oc (ob_ag rfl rfl rfl (vq 10 rfl) nq (fun hg => a_fld (lz0 0 rfl) fld_28_3)) (oc (ob_gd rfl rfl rfl (vq 10 rfl) nq (fun hg => r_loadf 17 rfl (by kernel_rfl) hg (lz0 0 rfl) (Sub.part 3 rfl rfl) ty_26)) (oc (ob_gd rfl rfl rfl (vq 10 rfl) nq (fun hg => r_call (xs := [.tmp 15, .tmp 17, .tmp 19, .tmp 21]) (r9det_x hg) (.cons (has_wh (vq 12 rfl) hg) (.cons (has_wh (vq 14 rfl) hg) (.cons (has_wh (vq 16 rfl) hg) (.cons (has_wh (vq 18 rfl) hg) .nil)))))) (oc (ob_gd rfl rfl rfl (vq 10 rfl) nq (fun hg => r_call (xs := []) r2one_q .nil)) (oc (ob_gd rfl rfl rfl (vq 10 rfl) nq (fun hg => r_call (xs := [.tmp 22, .tmp 23]) (r2same_q (by omega)) (.cons (has_wh (vq 19 rfl) hg) (.cons (has_wh (vq 20 rfl) hg) .nil)))) (oc (ob_v rfl rfl (r_and (vq 10 rfl) (vq 21 rfl))) (oc (ob_v rfl rfl (r_assign (vq 22 rfl))) o0)))))))))))))))))))))))) (fun a w hst => ?_)
  have hst : St B w0 26 [(2, _)] [⟨1, 28, ptrH, _⟩] a w := hst
  refine thn_normal ?_
  refine wp_ret ?_
  refine ret_wk ?_ (ret_tmp rfl hst (List.mem_of_getElem? (i := 0) rfl))
  exact wk_eq r9may_e

set_option maxRecDepth 100000 in
theorem r9check_c (m : RM) : Cn Tryz.prog 103 [(RMA m).va] (In (if okM m then 0 else 1)) := by
  refine Cn.intro Tryz.func103 rfl (by kernel_rfl) nq (fun B w0 a hst => ?_)
  have hst : St B w0 6 [(0, (RMA m).va)] [] a w0.w := hst
  refine wp_seq ?_
  refine gl (sts := []) (news := [⟨1, 28, ptrH, some 0, _, none⟩]) (sp := [.alc 0, .val 2 _]) [.o 1] hst (oc (ob_box rfl rfl rfl (gq 0 rfl)) (oc (ob_v rfl rfl (r_assign has_num)) o0)) (fun a w hst => ?_)
  have hst : St B w0 6 [(2, _)] [⟨1, 28, ptrH, _⟩] a w := hst
  refine thn_normal ?_
  refine wp_seq ?_
  refine wp_seq ?_
  refine gl (sts := [none]) (news := []) (sp := [.val 3 _, .val 4 _, .val 5 _]) [.g 0, .o 2] hst (oc (ob_v rfl rfl (r_load (lz0 0 rfl) ty_28)) (oc (ob_v rfl rfl (r_call (xs := [.tmp 3]) (r9may_c m) (.cons (vq 0 rfl) .nil))) (oc (ob_v rfl rfl (r_not (vq 1 rfl))) o0))) (fun a w hst => ?_)
  have hst : St B w0 6 [(2, _), (5, _)] [⟨1, 28, ptrH, _⟩] a w := hst
  refine thn_normal ?_
  refine cond_of hst (List.mem_of_getElem? (i := 1) rfl) (fun hb0 => ?_) (fun hb0 => ?_)
  · refine wp_seq ?_
    refine gl (sts := [none]) (news := []) (sp := [.val 2 _]) [.o 0] hst (oc (ob_v rfl rfl (r_assign has_num)) o0) (fun a w hst => ?_)
    have hst : St B w0 6 [(2, _)] [⟨1, 28, ptrH, _⟩] a w := hst
    refine thn_normal ?_
    refine wp_ret ?_
    refine thn_ret ?_
    refine ret_wk ?_ (ret_tmp rfl hst (List.mem_of_getElem? (i := 0) rfl))
    rw [if_neg (by intro e; rw [e] at hb0; exact absurd hb0 (by decide))]; exact wk_id
  · refine wp_skip ?_
    refine thn_normal ?_
    refine wp_seq ?_
    refine gl (sts := [none]) (news := []) (sp := [.val 2 _]) [.o 0] hst (oc (ob_v rfl rfl (r_assign has_num)) o0) (fun a w hst => ?_)
    have hst : St B w0 6 [(2, _)] [⟨1, 28, ptrH, _⟩] a w := hst
    refine thn_normal ?_
    refine wp_ret ?_
    refine ret_wk ?_ (ret_tmp rfl hst (List.mem_of_getElem? (i := 0) rfl))
    rw [if_pos (by simpa using hb0)]; exact wk_id

set_option maxRecDepth 100000 in
theorem r9mayRay_c (r : RR) : Cn Tryz.prog 104 [(RRA r).va] (Bo ([r.y, r.u].all okX)) := by
  refine Cn.intro Tryz.func104 rfl (by kernel_rfl) nq (fun B w0 a hst => ?_)
  have hst : St B w0 9 [(0, (RRA r).va)] [] a w0.w := hst
  refine wp_seq ?_
  refine gl (sts := []) (news := [⟨1, 30, ptrH, some 0, _, none⟩]) (sp := [.alc 0, .val 2 _]) [.o 1] hst (oc (ob_box rfl rfl rfl (gq 0 rfl)) (oc (ob_v rfl rfl (r_assign has_bo)) o0)) (fun a w hst => ?_)
  have hst : St B w0 9 [(2, _)] [⟨1, 30, ptrH, _⟩] a w := hst
  refine thn_normal ?_
  refine wp_seq ?_
  refine gl (sts := [none]) (news := []) (sp := [.adr 3 1 (.some 0) True, .val 4 _, .adr 5 1 (.some 4) True, .val 6 _, .val 7 _, .val 8 _, .val 2 _]) [.o 6] hst (oc (ob_a rfl rfl (a_fld (lz0 0 rfl) fld_30_0)) (oc (ob_v rfl rfl (r_loadf 0 rfl (by kernel_rfl) trivial (lz0 0 rfl) (Sub.part 0 rfl rfl) ty_26)) (oc (ob_a rfl rfl (a_fld (lz0 0 rfl) fld_30_1)) (oc (ob_v rfl rfl (r_loadf 2 rfl (by kernel_rfl) trivial (lz0 0 rfl) (Sub.part 1 rfl rfl) ty_26)) (oc (ob_v rfl rfl (r_slice (D := [U32]) (l := [_, _]) (xs := [.tmp 4, .tmp 6]) (nd_ok (by kernel_rfl)) sl_71 (by kernel_rfl) (n_ok (by kernel_rfl)) nq nq nq (.cons (vq 1 rfl) (.cons (vq 3 rfl) .nil)) rfl rfl)) (oc (ob_v rfl rfl (r_call (xs := [.tmp 7]) (r2checks_c [r.y, r.u] nq) (.cons (vq 4 rfl) .nil))) (oc (ob_v rfl rfl (r_assign (vq 5 rfl))) o0))))))) (fun a w hst => ?_)
  have hst : St B w0 9 [(2, _)] [⟨1, 30, ptrH, _⟩] a w := hst
  refine thn_normal ?_
  refine wp_ret ?_
  refine ret_wk ?_ (ret_tmp rfl hst (List.mem_of_getElem? (i := 0) rfl))
  exact wk_id

end Go.Proofs.YtmghfjcjcfaagaaGreat
