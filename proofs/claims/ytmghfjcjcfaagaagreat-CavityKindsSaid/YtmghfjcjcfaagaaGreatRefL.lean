/- The reference of layer 12: Kind; it is what the program answers. -/
import Derived.Test.YtmghfjcjcfaagaaGreatRefK
import Derived.Test.YtmghfjcjcfaagaaGreatCavA
namespace Go.Proofs.YtmghfjcjcfaagaaGreat
open Go Go.RowKit
namespace RefL
theorem fld_28_0 : Fld Tryz.prog 28 0 0 4 := ⟨_, _, Tryz.underlying28, rfl, rfl, by kernel_rfl, by decide⟩
theorem fld_28_1 : Fld Tryz.prog 28 1 4 4 := ⟨_, _, Tryz.underlying28, rfl, rfl, by kernel_rfl, by decide⟩
theorem fld_28_2 : Fld Tryz.prog 28 2 8 4 := ⟨_, _, Tryz.underlying28, rfl, rfl, by kernel_rfl, by decide⟩
theorem fld_28_3 : Fld Tryz.prog 28 3 12 4 := ⟨_, _, Tryz.underlying28, rfl, rfl, by kernel_rfl, by decide⟩
theorem ty_26 : Ty Tryz.prog 26 4 true := ⟨by kernel_rfl, by kernel_rfl⟩
theorem ty_28 : Ty Tryz.prog 28 16 true := ⟨by kernel_rfl, by kernel_rfl⟩
end RefL
open RefL
set_option linter.unusedVariables false
def alQ (m q : MQ) : Bool := (((cmQ m.a q.a == 0) && (cmQ m.b q.b == 0)) && (cmQ m.c q.c == 0)) && (cmQ m.d q.d == 0)
def rkQ (m : MQ) : Int := if (decide (cmQ (m.a + m.d) (Rat.divInt (-2) 1) > 0) && decide (cmQ (m.a + m.d) (Rat.divInt 2 1) < 0)) = true then 1 else if (alQ m ⟨1, 0, 0, 1⟩ || alQ m ⟨Rat.divInt (-1) 1, 0, 0, Rat.divInt (-1) 1⟩) = true then 2 else if ((cmQ (m.a + m.d) (Rat.divInt (-2) 1) == 0) || (cmQ (m.a + m.d) (Rat.divInt 2 1) == 0)) = true then 3 else 4
theorem nb {b : Bool} (h : b = false) : ¬ b = true := by rw [h]; decide
theorem rk_1 {m : MQ} (h1 : (decide (cmQ (m.a + m.d) (Rat.divInt (-2) 1) > 0) && decide (cmQ (m.a + m.d) (Rat.divInt 2 1) < 0)) = true) : rkQ m = 1 := by rw [rkQ, if_pos h1]
theorem rk_2 {m : MQ} (h1 : (decide (cmQ (m.a + m.d) (Rat.divInt (-2) 1) > 0) && decide (cmQ (m.a + m.d) (Rat.divInt 2 1) < 0)) = false) (h2 : (alQ m ⟨1, 0, 0, 1⟩ || alQ m ⟨Rat.divInt (-1) 1, 0, 0, Rat.divInt (-1) 1⟩) = true) : rkQ m = 2 := by rw [rkQ, if_neg (nb h1), if_pos h2]
theorem rk_3 {m : MQ} (h1 : (decide (cmQ (m.a + m.d) (Rat.divInt (-2) 1) > 0) && decide (cmQ (m.a + m.d) (Rat.divInt 2 1) < 0)) = false) (h2 : (alQ m ⟨1, 0, 0, 1⟩ || alQ m ⟨Rat.divInt (-1) 1, 0, 0, Rat.divInt (-1) 1⟩) = false) (h3 : ((cmQ (m.a + m.d) (Rat.divInt (-2) 1) == 0) || (cmQ (m.a + m.d) (Rat.divInt 2 1) == 0)) = true) : rkQ m = 3 := by rw [rkQ, if_neg (nb h1), if_neg (nb h2), if_pos h3]
theorem rk_4 {m : MQ} (h1 : (decide (cmQ (m.a + m.d) (Rat.divInt (-2) 1) > 0) && decide (cmQ (m.a + m.d) (Rat.divInt 2 1) < 0)) = false) (h2 : (alQ m ⟨1, 0, 0, 1⟩ || alQ m ⟨Rat.divInt (-1) 1, 0, 0, Rat.divInt (-1) 1⟩) = false) (h3 : ((cmQ (m.a + m.d) (Rat.divInt (-2) 1) == 0) || (cmQ (m.a + m.d) (Rat.divInt 2 1) == 0)) = false) : rkQ m = 4 := by rw [rkQ, if_neg (nb h1), if_neg (nb h2), if_neg (nb h3)]

set_option maxRecDepth 100000 in
theorem r12alike_q {c d : Nat} {m q : MQ} (hk : c + d ≤ 900000000) : Cn Tryz.prog 64 [(QMA c m).va, (QMA d q).va] (Bo (alQ m q)) := by
  refine Cn.intro Tryz.func64 rfl (by kernel_rfl) nq (fun B w0 a hst => ?_)
  have hst : St B w0 31 [(0, (QMA c m).va), (1, (QMA d q).va)] [] a w0.w := hst
  refine wp_seq ?_
  refine gl (sts := []) (news := [⟨2, 28, ptrH, some 0, _, none⟩, ⟨3, 28, ptrH, some 1, _, none⟩]) (sp := [.alc 0, .alc 1, .val 4 _]) [.o 2] hst (oc (ob_box rfl rfl rfl (gq 0 rfl)) (oc (ob_box rfl rfl rfl (gq 1 rfl)) (oc (ob_v rfl rfl (r_assign has_bo)) o0))) (fun a w hst => ?_)
  have hst : St B w0 31 [(4, _)] [⟨2, 28, ptrH, _⟩, ⟨3, 28, ptrH, _⟩] a w := hst
  refine thn_normal ?_
  refine wp_seq ?_
  refine gl (sts := [none, none]) (news := []) (sp := ((.adr 5 2 (.some 0) True : Sp) :: (.val 6 _) :: (.adr 7 3 (.some 0) True) :: (.val 8 _) :: (.val 9 _) :: (.val 10 _) :: (.adr 11 2 (.some 4) (_ = true)) :: (.val 12 (Wh (_ = true) _)) :: (.adr 13 3 (.some 4) (_ = true)) :: (.val 14 (Wh (_ = true) _)) :: (.val 15 (Wh (_ = true) _)) :: (.val 16 _) :: (.val 17 _) :: (.adr 18 2 (.some 8) (_ = true)) :: (.val 19 (Wh (_ = true) _)) :: (.adr 20 3 (.some 8) (_ = true)) :: (.val 21 (Wh (_ = true) _)) :: (.val 22 (Wh (_ = true) _)) :: (.val 23 _) :: (.val 24 _) :: (.adr 25 2 (.some 12) (_ = true)) :: (.val 26 (Wh (_ = true) _)) :: (.adr 27 3 (.some 12) (_ = true)) :: (.val 28 (Wh (_ = true) _)) :: (.val 29 (Wh (_ = true) _)) :: (.val 30 _) :: (.val 4 _) :: [])) [.o 26] hst (oc (ob_a rfl rfl (a_fld (lz0 0 rfl) fld_28_0)) (oc (ob_v rfl rfl (r_loadf 0 rfl (by kernel_rfl) trivial (lz0 0 rfl) (Sub.part 0 rfl rfl) ty_26)) (oc (ob_a rfl rfl (a_fld (lz0 1 rfl) fld_28_0)) (oc (ob_v rfl rfl (r_loadf 2 rfl (by kernel_rfl) trivial (lz0 1 rfl) (Sub.part 0 rfl rfl) ty_26)) (oc (ob_v rfl rfl (r_call (xs := [.tmp 6, .tmp 8]) (r2same_q (by omega)) (.cons (vq 1 rfl) (.cons (vq 3 rfl) .nil)))) (oc (ob_v rfl rfl (r_move (vq 4 rfl))) (oc (ob_ag rfl rfl rfl (vq 5 rfl) nq (fun hg => a_fld (lz0 0 rfl) fld_28_1)) (oc (ob_gd rfl rfl rfl (vq 5 rfl) nq (fun hg => r_loadf 6 rfl (by kernel_rfl) hg (lz0 0 rfl) (Sub.part 1 rfl rfl) ty_26)) (oc (ob_ag rfl rfl rfl (vq 5 rfl) nq (fun hg => a_fld (lz0 1 rfl) fld_28_1)) (oc (ob_gd rfl rfl rfl (vq 5 rfl) nq (fun hg => r_loadf 8 rfl (by kernel_rfl) hg (lz0 1 rfl) (Sub.part 1 rfl rfl) ty_26)) (oc (ob_gd rfl rfl rfl (vq 5 rfl) nq (fun hg => r_call (xs := [.tmp 12, .tmp 14]) (r2same_q (by omega)) (.cons (has_wh (vq 7 rfl) hg) (.cons (has_wh (vq 9 rfl) hg) .nil)))) (oc (ob_v rfl rfl (r_and (vq 5 rfl) (vq 10 rfl))) (oc (ob_v rfl rfl (r_move (vq 11 rfl))) (oc (ob_ag rfl rfl rfl (vq 12 rfl) nq (fun hg => a_fld (lz0 0 rfl) fld_28_2)) (oc (ob_gd rfl rfl rfl (vq 12 rfl) nq (fun hg => r_loadf 13 rfl (by kernel_rfl) hg (lz0 0 rfl) (Sub.part 2 rfl rfl) ty_26)) (oc (ob_ag rfl rfl rfl (vq 12 rfl) nq (fun hg => a_fld (lz0 1 rfl) fld_28_2)) (oc (ob_gd rfl rfl rfl (vq 12 rfl) nq (fun hg => r_loadf 15 rfl (by kernel_rfl) hg (lz0 1 rfl) (Sub.part 2 rfl rfl) ty_26)) (oc (ob_gd rfl rfl rfl (vq 12 rfl) nq (fun hg => r_call (xs := [.tmp 19, .tmp 21]) (r2same_q (by omega)) (.cons (has_wh (vq 14 rfl) hg) (.cons (has_wh (vq 16 rfl) hg) .nil)))) (oc (ob_v rfl rfl (r_and (vq 12 rfl) (vq 17 rfl))) (oc (ob_v rfl rfl (r_move (vq 18 rfl))) (oc (ob_ag rfl rfl rfl (vq 19 rfl) nq (fun hg => a_fld (lz0 0 rfl) fld_28_3)) (oc (ob_gd rfl rfl rfl (vq 19 rfl) nq (fun hg => r_loadf 20 rfl (by kernel_rfl) hg (lz0 0 rfl) (Sub.part 3 rfl rfl) ty_26)) (oc (ob_ag rfl rfl rfl (vq 19 rfl) nq (fun hg => a_fld (lz0 1 rfl) fld_28_3)) (oc (ob_gd rfl rfl rfl (vq 19 rfl) nq (fun hg => r_loadf 22 rfl (by kernel_rfl) hg (lz0 1 rfl) (Sub.part 3 rfl rfl) ty_26)) (oc (ob_gd rfl rfl rfl (vq 19 rfl) nq (fun hg => r_call (xs := [.tmp 26, .tmp 28]) (r2same_q (by omega)) (.cons (has_wh (vq 21 rfl) hg) (.cons (has_wh (vq 23 rfl) hg) .nil)))) (oc (ob_v rfl rfl (r_and (vq 19 rfl) (vq 24 rfl))) (oc (ob_v rfl rfl (r_assign (vq 25 rfl))) o0))))))))))))))))))))))))))) (fun a w hst => ?_)
  have hst : St B w0 31 [(4, _)] [⟨2, 28, ptrH, _⟩, ⟨3, 28, ptrH, _⟩] a w := hst
  refine thn_normal ?_
  refine wp_ret ?_
  refine ret_wk ?_ (ret_tmp rfl hst (List.mem_of_getElem? (i := 0) rfl))
  exact wk_id

set_option maxRecDepth 100000 in
theorem r12minus_q  : Cn Tryz.prog 66 [] ((QMA 2 ⟨Rat.divInt (-1) 1, 0, 0, Rat.divInt (-1) 1⟩).va) := by
  refine Cn.intro Tryz.func66 rfl (by kernel_rfl) nq (fun B w0 a hst => ?_)
  have hst : St B w0 6 [] [] a w0.w := hst
  refine wp_seq ?_
  refine gl (sts := []) (news := [⟨0, 28, ptrH, some 0, _, none⟩]) (sp := [.alc 0]) [] hst (oc (ob_alc rfl rfl rfl (Str.zero str_matrix)) o0) (fun a w hst => ?_)
  have hst : St B w0 6 [] [⟨0, 28, ptrH, _⟩] a w := hst
  refine thn_normal ?_
  refine wp_seq ?_
  refine gl (sts := [some (5, _)]) (news := []) (sp := [.val 1 _, .val 2 _, .val 3 _, .val 4 _, .val 5 _, .sto 0]) [] hst (oc (ob_v rfl rfl (r_call (xs := [.const (.int .i64 (-1)), .const (.int .i64 (1))]) (r2small_q (by decide) (by decide) (by decide) (by decide) (by decide)) (.cons has_num (.cons has_num .nil)))) (oc (ob_v rfl rfl (r_call (xs := []) r2nought_q .nil)) (oc (ob_v rfl rfl (r_call (xs := []) r2nought_q .nil)) (oc (ob_v rfl rfl (r_call (xs := [.const (.int .i64 (-1)), .const (.int .i64 (1))]) (r2small_q (by decide) (by decide) (by decide) (by decide) (by decide)) (.cons has_num (.cons has_num .nil)))) (oc (ob_v rfl rfl (r_build (xs := [(0, .tmp 1), (1, .tmp 2), (2, .tmp 3), (3, .tmp 4)]) (qs := [(0, _), (1, _), (2, _), (3, _)]) str_matrix (.cons ⟨rfl, (vq 0 rfl), rfl⟩ (.cons ⟨rfl, (vq 1 rfl), rfl⟩ (.cons ⟨rfl, (vq 2 rfl), rfl⟩ (.cons ⟨rfl, (vq 3 rfl), rfl⟩ .nil)))))) (oc (ob_sto rfl rfl rfl (vq 4 rfl) ty_28 (Eq.trans (b := 16) rfl rfl)) o0)))))) (fun a w hst => ?_)
  have hst : St B w0 6 [] [⟨0, 28, ptrH, _⟩] a w := hst
  refine thn_normal ?_
  refine wp_ret ?_
  refine ret_wk ?_ (ret_cell rfl hst (List.mem_of_getElem? (i := 0) rfl) ty_28)
  exact wk_id

set_option maxRecDepth 100000 in
theorem r12kind0_c (m : RM) : Cn Tryz.prog 21 [(RMA m).va] (KiR (if okM m then (rkQ (toM m), 0) else (0, 1))) := by
  refine Cn.intro Tryz.func21 rfl (by kernel_rfl) nq (fun B w0 a hst => ?_)
  have hst : St B w0 41 [(0, (RMA m).va)] [] a w0.w := hst
  refine wp_seq ?_
  refine gl (sts := []) (news := [⟨1, 28, ptrH, some 0, _, none⟩]) (sp := [.alc 0, .val 2 _, .val 3 _]) [.o 1, .o 2] hst (oc (ob_box rfl rfl rfl (gq 0 rfl)) (oc (ob_v rfl rfl (r_assign has_num)) (oc (ob_v rfl rfl (r_assign has_num)) o0))) (fun a w hst => ?_)
  have hst : St B w0 41 [(2, _), (3, _)] [⟨1, 28, ptrH, _⟩] a w := hst
  refine thn_normal ?_
  refine wp_seq ?_
  refine wp_seq ?_
  refine gl (sts := [none]) (news := []) (sp := [.val 7 _, .val 8 _, .val 9 _]) [.g 0, .g 1, .o 2] hst (oc (ob_v rfl rfl (r_load (lz0 0 rfl) ty_28)) (oc (ob_v rfl rfl (r_call (xs := [.tmp 7]) (r9may_c m) (.cons (vq 0 rfl) .nil))) (oc (ob_v rfl rfl (r_not (vq 1 rfl))) o0))) (fun a w hst => ?_)
  have hst : St B w0 41 [(2, _), (3, _), (9, _)] [⟨1, 28, ptrH, _⟩] a w := hst
  refine thn_normal ?_
  refine cond_of hst (List.mem_of_getElem? (i := 2) rfl) (fun hb0 => ?_) (fun hb0 => ?_)
  · rw [Bool.not_eq_true'] at hb0
    refine wp_seq ?_
    refine gl (sts := [none]) (news := []) (sp := [.val 2 _, .val 3 _]) [.o 0, .o 1] hst (oc (ob_v rfl rfl (r_assign has_num)) (oc (ob_v rfl rfl (r_assign has_num)) o0)) (fun a w hst => ?_)
    have hst : St B w0 41 [(2, _), (3, _)] [⟨1, 28, ptrH, _⟩] a w := hst
    refine thn_normal ?_
    refine wp_ret ?_
    refine thn_ret ?_
    refine ret_wk ?_ (ret_many (rs := [.tmp 2, .tmp 3]) rfl hst (.tmp (List.mem_of_getElem? (i := 0) rfl) (.tmp (List.mem_of_getElem? (i := 1) rfl) .nil)) (by decide))
    rw [if_neg (by rw [hb0]; decide)]; exact wk_id
  · rw [Bool.not_eq_false'] at hb0
    have hst := St.wkL hst 0 rfl (qm_x (okM_q hb0).1)
    rw [if_pos hb0]
    refine wp_skip ?_
    refine thn_normal ?_
    refine wp_seq ?_
    refine gl (sts := [none]) (news := [⟨4, 26, ptrH, some 5, _, some (6, _)⟩]) (sp := [.adr 10 1 (.some 0) True, .val 11 _, .adr 12 1 (.some 12) True, .val 13 _, .val 14 _, .alc 1, .sto 1]) [.g 0, .g 1] hst (oc (ob_a rfl rfl (a_fld (lz0 0 rfl) fld_28_0)) (oc (ob_v rfl rfl (r_loadf 0 rfl (by kernel_rfl) trivial (lz0 0 rfl) (Sub.part 0 rfl rfl) ty_26)) (oc (ob_a rfl rfl (a_fld (lz0 0 rfl) fld_28_3)) (oc (ob_v rfl rfl (r_loadf 2 rfl (by kernel_rfl) trivial (lz0 0 rfl) (Sub.part 3 rfl rfl) ty_26)) (oc (ob_v rfl rfl (r_call (xs := [.tmp 11, .tmp 13]) (r2plus_q (by omega)) (.cons (vq 1 rfl) (.cons (vq 3 rfl) .nil)))) (oc (ob_alc rfl rfl rfl (Str.zero str_frac)) (oc (ob_sto rfl rfl rfl (vq 4 rfl) ty_26 (Eq.trans (b := 4) rfl rfl)) o0))))))) (fun a w hst => ?_)
    have hst : St B w0 41 [(2, _), (3, _)] [⟨1, 28, ptrH, _⟩, ⟨4, 26, ptrH, _⟩] a w := hst
    refine thn_normal ?_
    refine wp_seq ?_
    refine go_draw (anc := [[], [], [0, 1], [0, 1, 2]]) (sts := [none, none]) (news := []) (sp := [.val 15 _, .val 16 _, .val 17 _, .val 5 _]) [.g 0, .g 1, .o 3] follows_mixed hst (oc (ob_v rfl rfl (r_load (lz0 1 rfl) ty_26)) (oc (ob_v rfl rfl (r_call (xs := [.const (.int .i64 (-2)), .const (.int .i64 (1))]) (r2small_q (by decide) (by decide) (by decide) (by decide) (by decide)) (.cons has_num (.cons has_num .nil)))) (oc (ob_v rfl rfl (r_call (xs := [.tmp 15, .tmp 16]) (r2cmp_q (by omega)) (.cons (vq 0 rfl) (.cons (vq 1 rfl) .nil)))) (oc (ob_v rfl rfl (r_assign (vq 2 rfl))) o0)))) (by kernel_rfl) (by kernel_rfl) (by kernel_rfl) (by kernel_rfl) (fun a w hst => ?_)
    have hst : St B w0 41 [(2, _), (3, _), (5, _)] [⟨1, 28, ptrH, _⟩, ⟨4, 26, ptrH, _⟩] a w := hst
    refine thn_normal ?_
    refine wp_seq ?_
    refine go_draw (anc := [[], [], [0, 1], [0, 1, 2]]) (sts := [none, none]) (news := []) (sp := [.val 18 _, .val 19 _, .val 20 _, .val 6 _]) [.g 0, .g 1, .g 2, .o 3] follows_mixed hst (oc (ob_v rfl rfl (r_load (lz0 1 rfl) ty_26)) (oc (ob_v rfl rfl (r_call (xs := [.const (.int .i64 (2)), .const (.int .i64 (1))]) (r2small_q (by decide) (by decide) (by decide) (by decide) (by decide)) (.cons has_num (.cons has_num .nil)))) (oc (ob_v rfl rfl (r_call (xs := [.tmp 18, .tmp 19]) (r2cmp_q (by omega)) (.cons (vq 0 rfl) (.cons (vq 1 rfl) .nil)))) (oc (ob_v rfl rfl (r_assign (vq 2 rfl))) o0)))) (by kernel_rfl) (by kernel_rfl) (by kernel_rfl) (by kernel_rfl) (fun a w hst => ?_)
    have hst : St B w0 41 [(2, _), (3, _), (5, _), (6, _)] [⟨1, 28, ptrH, _⟩, ⟨4, 26, ptrH, _⟩] a w := hst
    refine thn_normal ?_
    refine wp_seq ?_
    refine wp_seq ?_
    refine gl (sts := [none, none]) (news := []) (sp := [.val 21 _, .val 22 _, .val 23 _, .val 24 (Wh (_ = true) _), .val 25 (Wh (_ = true) _), .val 26 _]) [.g 0, .g 1, .g 2, .g 3, .o 5] hst (oc (ob_v rfl rfl (r_move (gq 2 rfl))) (oc (ob_v rfl rfl (r_gtr (vq 0 rfl) has_num)) (oc (ob_v rfl rfl (r_move (vq 1 rfl))) (oc (ob_gd rfl rfl rfl (vq 2 rfl) nq (fun hg => r_move (gq 3 rfl))) (oc (ob_gd rfl rfl rfl (vq 2 rfl) nq (fun hg => r_lss (has_wh (vq 3 rfl) hg) has_num)) (oc (ob_v rfl rfl (r_and (vq 2 rfl) (vq 4 rfl))) o0)))))) (fun a w hst => ?_)
    have hst : St B w0 41 [(2, _), (3, _), (5, _), (6, _), (26, _)] [⟨1, 28, ptrH, _⟩, ⟨4, 26, ptrH, _⟩] a w := hst
    refine thn_normal ?_
    refine cond_of hst (List.mem_of_getElem? (i := 4) rfl) (fun hb1 => ?_) (fun hb1 => ?_)
    · refine wp_seq ?_
      refine gl (sts := [none, none]) (news := []) (sp := [.val 2 _, .val 3 _]) [.g 2, .g 3, .o 0, .o 1] hst (oc (ob_v rfl rfl (r_assign has_num)) (oc (ob_v rfl rfl (r_assign has_num)) o0)) (fun a w hst => ?_)
      have hst : St B w0 41 [(5, _), (6, _), (2, _), (3, _)] [⟨1, 28, ptrH, _⟩, ⟨4, 26, ptrH, _⟩] a w := hst
      refine thn_normal ?_
      refine wp_ret ?_
      refine thn_ret ?_
      refine ret_wk ?_ (ret_many (rs := [.tmp 2, .tmp 3]) rfl hst (.tmp (List.mem_of_getElem? (i := 2) rfl) (.tmp (List.mem_of_getElem? (i := 3) rfl) .nil)) (by decide))
      rw [rk_1 (m := toM m) hb1]; exact wk_id
    · refine wp_skip ?_
      refine thn_normal ?_
      refine wp_seq ?_
      refine wp_seq ?_
      refine go_draw (anc := [[], [], [0, 1], [0, 1, 2], [0, 1, 2, 3], [0, 1, 2, 3], [0, 1, 2, 3, 4, 5], [0, 1, 2, 3, 4, 5, 6]]) (sts := [none, none]) (news := []) (sp := [.val 27 _, .val 28 _, .val 29 _, .val 30 _, .val 31 (Wh (_ = false) _), .val 32 (Wh (_ = false) _), .val 33 (Wh (_ = false) _), .val 34 _]) [.g 0, .g 1, .g 2, .g 3, .o 7] follows_mixed hst (oc (ob_v rfl rfl (r_load (lz0 0 rfl) ty_28)) (oc (ob_v rfl rfl (r_call (xs := []) r9one_q .nil)) (oc (ob_v rfl rfl (r_call (xs := [.tmp 27, .tmp 28]) (r12alike_q (m := ⟨_, _, _, _⟩) (q := ⟨_, _, _, _⟩) (by decide)) (.cons (vq 0 rfl) (.cons (vq 1 rfl) .nil)))) (oc (ob_v rfl rfl (r_move (vq 2 rfl))) (oc (ob_gd rfl rfl rfl (vq 3 rfl) nq (fun hg => r_load (lz0 0 rfl) ty_28)) (oc (ob_gd rfl rfl rfl (vq 3 rfl) nq (fun hg => r_call (xs := []) r12minus_q .nil)) (oc (ob_gd rfl rfl rfl (vq 3 rfl) nq (fun hg => r_call (xs := [.tmp 31, .tmp 32]) (r12alike_q (m := ⟨_, _, _, _⟩) (q := ⟨_, _, _, _⟩) (by decide)) (.cons (has_wh (vq 4 rfl) hg) (.cons (has_wh (vq 5 rfl) hg) .nil)))) (oc (ob_v rfl rfl (r_or (vq 3 rfl) (vq 6 rfl))) o0)))))))) (by kernel_rfl) (by kernel_rfl) (by kernel_rfl) (by kernel_rfl) (fun a w hst => ?_)
      have hst : St B w0 41 [(2, _), (3, _), (5, _), (6, _), (34, _)] [⟨1, 28, ptrH, _⟩, ⟨4, 26, ptrH, _⟩] a w := hst
      refine thn_normal ?_
      refine cond_of hst (List.mem_of_getElem? (i := 4) rfl) (fun hb2 => ?_) (fun hb2 => ?_)
      · refine wp_seq ?_
        refine gl (sts := [none, none]) (news := []) (sp := [.val 2 _, .val 3 _]) [.g 2, .g 3, .o 0, .o 1] hst (oc (ob_v rfl rfl (r_assign has_num)) (oc (ob_v rfl rfl (r_assign has_num)) o0)) (fun a w hst => ?_)
        have hst : St B w0 41 [(5, _), (6, _), (2, _), (3, _)] [⟨1, 28, ptrH, _⟩, ⟨4, 26, ptrH, _⟩] a w := hst
        refine thn_normal ?_
        refine wp_ret ?_
        refine thn_ret ?_
        refine ret_wk ?_ (ret_many (rs := [.tmp 2, .tmp 3]) rfl hst (.tmp (List.mem_of_getElem? (i := 2) rfl) (.tmp (List.mem_of_getElem? (i := 3) rfl) .nil)) (by decide))
        rw [rk_2 (m := toM m) hb1 hb2]; exact wk_id
      · refine wp_skip ?_
        refine thn_normal ?_
        refine wp_seq ?_
        refine wp_seq ?_
        refine gl (sts := [none, none]) (news := []) (sp := [.val 35 _, .val 36 _, .val 37 _, .val 38 (Wh (_ = false) _), .val 39 (Wh (_ = false) _), .val 40 _]) [.g 0, .g 1, .o 5] hst (oc (ob_v rfl rfl (r_move (gq 2 rfl))) (oc (ob_v rfl rfl (r_eql (vq 0 rfl) has_num)) (oc (ob_v rfl rfl (r_move (vq 1 rfl))) (oc (ob_gd rfl rfl rfl (vq 2 rfl) nq (fun hg => r_move (gq 3 rfl))) (oc (ob_gd rfl rfl rfl (vq 2 rfl) nq (fun hg => r_eql (has_wh (vq 3 rfl) hg) has_num)) (oc (ob_v rfl rfl (r_or (vq 2 rfl) (vq 4 rfl))) o0)))))) (fun a w hst => ?_)
        have hst : St B w0 41 [(2, _), (3, _), (40, _)] [⟨1, 28, ptrH, _⟩, ⟨4, 26, ptrH, _⟩] a w := hst
        refine thn_normal ?_
        refine cond_of hst (List.mem_of_getElem? (i := 2) rfl) (fun hb3 => ?_) (fun hb3 => ?_)
        · refine wp_seq ?_
          refine gl (sts := [none, none]) (news := []) (sp := [.val 2 _, .val 3 _]) [.o 0, .o 1] hst (oc (ob_v rfl rfl (r_assign has_num)) (oc (ob_v rfl rfl (r_assign has_num)) o0)) (fun a w hst => ?_)
          have hst : St B w0 41 [(2, _), (3, _)] [⟨1, 28, ptrH, _⟩, ⟨4, 26, ptrH, _⟩] a w := hst
          refine thn_normal ?_
          refine wp_ret ?_
          refine thn_ret ?_
          refine ret_wk ?_ (ret_many (rs := [.tmp 2, .tmp 3]) rfl hst (.tmp (List.mem_of_getElem? (i := 0) rfl) (.tmp (List.mem_of_getElem? (i := 1) rfl) .nil)) (by decide))
          rw [rk_3 (m := toM m) hb1 hb2 hb3]; exact wk_id
        · refine wp_skip ?_
          refine thn_normal ?_
          refine wp_seq ?_
          refine gl (sts := [none, none]) (news := []) (sp := [.val 2 _, .val 3 _]) [.o 0, .o 1] hst (oc (ob_v rfl rfl (r_assign has_num)) (oc (ob_v rfl rfl (r_assign has_num)) o0)) (fun a w hst => ?_)
          have hst : St B w0 41 [(2, _), (3, _)] [⟨1, 28, ptrH, _⟩, ⟨4, 26, ptrH, _⟩] a w := hst
          refine thn_normal ?_
          refine wp_ret ?_
          refine ret_wk ?_ (ret_many (rs := [.tmp 2, .tmp 3]) rfl hst (.tmp (List.mem_of_getElem? (i := 0) rfl) (.tmp (List.mem_of_getElem? (i := 1) rfl) .nil)) (by decide))
          rw [rk_4 (m := toM m) hb1 hb2 hb3]; exact wk_id

theorem di_m1 : Rat.divInt (-1) 1 = -1 := rfl
theorem cm_gt' {x y : Rat} : cmQ x y > 0 ↔ y < x := by
  unfold cmQ
  split
  · rename_i h; exact ⟨fun h' => by simp at h', fun h' => by grind⟩
  · split
    · rename_i h2; exact ⟨fun _ => h2, fun _ => by decide⟩
    · rename_i h1 h2; exact ⟨fun h' => by simp at h', fun h' => absurd h' h2⟩
theorem cm_lt' {x y : Rat} : cmQ x y < 0 ↔ x < y := by
  unfold cmQ
  split
  · rename_i h; exact ⟨fun _ => h, fun _ => by decide⟩
  · rename_i h
    split
    · exact ⟨fun h' => by simp at h', fun h' => absurd h' h⟩
    · exact ⟨fun h' => by simp at h', fun h' => absurd h' h⟩
theorem sq_lt4 {t : Rat} : t * t < 4 ↔ -2 < t ∧ t < 2 := by
  constructor
  · intro h
    refine ⟨?_, ?_⟩
    · apply Decidable.byContradiction
      intro hn
      have := Rat.mul_nonneg (show 0 ≤ -2 - t by grind) (show 0 ≤ 2 - t by grind)
      grind
    · apply Decidable.byContradiction
      intro hn
      have := Rat.mul_nonneg (show 0 ≤ t - 2 by grind) (show 0 ≤ t + 2 by grind)
      grind
  · rintro ⟨h1, h2⟩
    have := Rat.mul_pos (show 0 < 2 - t by grind) (show 0 < t + 2 by grind)
    grind
theorem sq_eq4 {t : Rat} : t * t = 4 ↔ t = -2 ∨ t = 2 := by
  constructor
  · intro h
    have : (t + 2) * (t - 2) = 0 := by grind
    rcases Rat.mul_eq_zero.1 this with h | h <;> grind
  · rintro (h | h) <;> grind
theorem rk_ki (m : MQ) : rkQ m = kiQ m := by
  have e2 : Rat.divInt 2 1 = 2 := rfl
  have em2 : Rat.divInt (-2) 1 = -2 := rfl
  have e4 : Rat.divInt 4 1 = 4 := rfl
  have ea : (alQ m ⟨1, 0, 0, 1⟩ || alQ m ⟨Rat.divInt (-1) 1, 0, 0, Rat.divInt (-1) 1⟩) = (oneQ m 1 || oneQ m (-1)) := by
    unfold alQ oneQ
    simp only [cm_eq, sgn0]
    rw [Bool.eq_iff_iff]
    simp only [Bool.or_eq_true, Bool.and_eq_true, decide_eq_true_eq]
    show _ ↔ _
    rw [show Rat.divInt (-1) 1 = -1 from rfl, show Rat.divInt 1 1 = 1 from rfl]
    constructor
    · rintro (⟨⟨⟨h1, h2⟩, h3⟩, h4⟩ | ⟨⟨⟨h1, h2⟩, h3⟩, h4⟩)
      · exact .inl ⟨⟨⟨h2, h3⟩, h1⟩, h4.trans h1.symm⟩
      · exact .inr ⟨⟨⟨h2, h3⟩, h1⟩, h4.trans h1.symm⟩
    · rintro (⟨⟨⟨h2, h3⟩, h1⟩, h4⟩ | ⟨⟨⟨h2, h3⟩, h1⟩, h4⟩)
      · exact .inl ⟨⟨⟨h1, h2⟩, h3⟩, h4.trans h1⟩
      · exact .inr ⟨⟨⟨h1, h2⟩, h3⟩, h4.trans h1⟩
  unfold rkQ kiQ trsQ
  rw [ea, e2, em2, e4]
  simp only [cm_eq, gt_iff_lt, Bool.and_eq_true, Bool.or_eq_true, decide_eq_true_eq, cm_lt', cm_gt', sq_lt4, sq_eq4]
  by_cases h1 : -2 < m.a + m.d ∧ m.a + m.d < 2
  · rw [if_pos h1, if_pos h1]
  · rw [if_neg h1, if_neg h1]
    cases oneQ m 1 <;> cases oneQ m (-1) <;> simp

end Go.Proofs.YtmghfjcjcfaagaaGreat
