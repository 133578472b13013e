/- Helpers of the laws of chapter 13: small, matrix, aray, alive, fits, few. -/
import Derived.Test.YtiflajpmipejnaaGreatOrbH
import Derived.Test.YtiflajpmipejnaaGreatOrbG
namespace Go.Proofs.YtiflajpmipejnaaGreat
open Go Go.RowKit
namespace OrbI
theorem fld_29_0 : Fld Tryz.prog 29 0 0 4 := ⟨_, _, Tryz.underlying29, rfl, rfl, by kernel_rfl, by decide⟩
theorem fld_29_1 : Fld Tryz.prog 29 1 4 4 := ⟨_, _, Tryz.underlying29, rfl, rfl, by kernel_rfl, by decide⟩
theorem sl_62 : Sl Tryz.prog 62 3 1 := ⟨by kernel_rfl, by kernel_rfl⟩
theorem ty_27 : Ty Tryz.prog 27 4 true := ⟨by kernel_rfl, by kernel_rfl⟩
theorem ty_29 : Ty Tryz.prog 29 8 true := ⟨by kernel_rfl, by kernel_rfl⟩
theorem ty_38 : Ty Tryz.prog 38 16 true := ⟨by kernel_rfl, by kernel_rfl⟩
end OrbI
open OrbI
set_option maxRecDepth 100000 in
theorem small13_c {p : Int} (hp : -9223372036854775808 ≤ p ∧ p < 9223372036854775808) : Cn Tryz.prog 59 [In p] ((RFA (rfOf (Rat.divInt p 1))).va) := by
  refine Cn.intro Tryz.func59 rfl (by kernel_rfl) nq (fun B w0 a hst => ?_)
  have hst : St B w0 14 [(0, In p)] [] a w0.w := hst
  refine wp_seq ?_
  refine gl (sts := []) (news := [⟨2, 27, ptrH, some 0, _, none⟩]) (sp := [.alc 0]) [.g 0] hst (oc (ob_alc rfl rfl rfl (Str.zero str_frac)) o0) (fun a w hst => ?_)
  have hst : St B w0 14 [(0, _)] [⟨2, 27, ptrH, _⟩] a w := hst
  refine thn_normal ?_
  refine wp_seq ?_
  refine gl (sts := [none]) (news := [⟨3, 27, ptrH, some 5, _, some (6, _)⟩]) (sp := [.val 6 _, .val 7 _, .val 5 _, .val 8 _, .val 9 _, .alc 1, .sto 1, .val 4 _]) [.o 7] hst (oc (ob_v rfl rfl (r_move (gq 0 rfl))) (oc (ob_v rfl rfl (r_call (xs := [.tmp 6, .const (.int .i64 (1))]) (ofQ_c hp.1 hp.2 (by decide) (by decide) (by decide)) (.cons (vq 0 rfl) (.cons has_num .nil)))) (oc (ob_v rfl rfl (r_move (vq 1 rfl))) (oc (ob_v rfl rfl (r_ex0 (vq 2 rfl))) (oc (ob_v rfl rfl (r_ex1 (vq 2 rfl))) (oc (ob_alc rfl rfl rfl (Str.zero str_frac)) (oc (ob_sto rfl rfl rfl (vq 3 rfl) ty_27 (Eq.trans (b := 4) rfl rfl)) (oc (ob_v rfl rfl (r_assign (vq 4 rfl))) o0)))))))) (fun a w hst => ?_)
  have hst : St B w0 14 [(4, _)] [⟨2, 27, ptrH, _⟩, ⟨3, 27, ptrH, _⟩] a w := hst
  refine thn_normal ?_
  refine wp_seq ?_
  refine wp_seq ?_
  refine gl (sts := [none, none]) (news := []) (sp := [.val 10 _, .val 11 _]) [.o 1] hst (oc (ob_v rfl rfl (r_move (gq 0 rfl))) (oc (ob_v rfl rfl (r_neq (vq 0 rfl) has_num)) o0)) (fun a w hst => ?_)
  have hst : St B w0 14 [(11, _)] [⟨2, 27, ptrH, _⟩, ⟨3, 27, ptrH, _⟩] a w := hst
  refine thn_normal ?_
  refine cond_of hst (List.mem_of_getElem? (i := 0) rfl) (fun hb0 => ?_) (fun hb0 => ?_)
  · simp at hb0
  · refine wp_skip ?_
    refine thn_normal ?_
    refine wp_seq ?_
    refine gl (sts := [some (1, _), none]) (news := []) (sp := [.val 13 _, .sto 0]) [] hst (oc (ob_v rfl rfl (r_load (lz0 1 rfl) ty_27)) (oc (ob_sto rfl rfl rfl (vq 0 rfl) ty_27 (Eq.trans (b := 4) rfl rfl)) o0)) (fun a w hst => ?_)
    have hst : St B w0 14 [] [⟨2, 27, ptrH, _⟩, ⟨3, 27, ptrH, _⟩] a w := hst
    refine thn_normal ?_
    refine wp_ret ?_
    refine ret_wk ?_ (ret_cell rfl hst (List.mem_of_getElem? (i := 0) rfl) ty_27)
    exact wk_id

set_option maxRecDepth 100000 in
theorem matrix13_c {x y z u : Int} (hx : -9223372036854775808 ≤ x ∧ x < 9223372036854775808) (hy : -9223372036854775808 ≤ y ∧ y < 9223372036854775808) (hz : -9223372036854775808 ≤ z ∧ z < 9223372036854775808) (hu : -9223372036854775808 ≤ u ∧ u < 9223372036854775808) : Cn Tryz.prog 56 [In x, In y, In z, In u] ((RMA ⟨rfOf (Rat.divInt x 1), rfOf (Rat.divInt y 1), rfOf (Rat.divInt z 1), rfOf (Rat.divInt u 1)⟩).va) := by
  refine Cn.intro Tryz.func56 rfl (by kernel_rfl) nq (fun B w0 a hst => ?_)
  have hst : St B w0 18 [(0, In x), (1, In y), (2, In z), (3, In u)] [] a w0.w := hst
  refine wp_seq ?_
  refine gl (sts := []) (news := [⟨8, 38, ptrH, some 0, _, none⟩]) (sp := [.alc 0]) [.g 0, .g 1, .g 2, .g 3] hst (oc (ob_alc rfl rfl rfl (Str.zero str_matrix)) o0) (fun a w hst => ?_)
  have hst : St B w0 18 [(0, _), (1, _), (2, _), (3, _)] [⟨8, 38, ptrH, _⟩] a w := hst
  refine thn_normal ?_
  refine wp_seq ?_
  refine gl (sts := [some (9, _)]) (news := []) (sp := [.val 9 _, .val 10 _, .val 11 _, .val 12 _, .val 13 _, .val 14 _, .val 15 _, .val 16 _, .val 17 _, .sto 0]) [] hst (oc (ob_v rfl rfl (r_move (gq 0 rfl))) (oc (ob_v rfl rfl (r_call (xs := [.tmp 9]) (small13_c hx) (.cons (vq 0 rfl) .nil))) (oc (ob_v rfl rfl (r_move (gq 1 rfl))) (oc (ob_v rfl rfl (r_call (xs := [.tmp 11]) (small13_c hy) (.cons (vq 2 rfl) .nil))) (oc (ob_v rfl rfl (r_move (gq 2 rfl))) (oc (ob_v rfl rfl (r_call (xs := [.tmp 13]) (small13_c hz) (.cons (vq 4 rfl) .nil))) (oc (ob_v rfl rfl (r_move (gq 3 rfl))) (oc (ob_v rfl rfl (r_call (xs := [.tmp 15]) (small13_c hu) (.cons (vq 6 rfl) .nil))) (oc (ob_v rfl rfl (r_build (xs := [(0, .tmp 10), (1, .tmp 12), (2, .tmp 14), (3, .tmp 16)]) (qs := [(0, _), (1, _), (2, _), (3, _)]) str_matrix (.cons ⟨rfl, (vq 1 rfl), rfl⟩ (.cons ⟨rfl, (vq 3 rfl), rfl⟩ (.cons ⟨rfl, (vq 5 rfl), rfl⟩ (.cons ⟨rfl, (vq 7 rfl), rfl⟩ .nil)))))) (oc (ob_sto rfl rfl rfl (vq 8 rfl) ty_38 (Eq.trans (b := 16) rfl rfl)) o0)))))))))) (fun a w hst => ?_)
  have hst : St B w0 18 [] [⟨8, 38, ptrH, _⟩] a w := hst
  refine thn_normal ?_
  refine wp_ret ?_
  refine ret_wk ?_ (ret_cell rfl hst (List.mem_of_getElem? (i := 0) rfl) ty_38)
  exact wk_id

set_option maxRecDepth 100000 in
theorem aray13_c {x y : Int} (hx : -9223372036854775808 ≤ x ∧ x < 9223372036854775808) (hy : -9223372036854775808 ≤ y ∧ y < 9223372036854775808) : Cn Tryz.prog 57 [In x, In y] ((RRA ⟨rfOf (Rat.divInt x 1), rfOf (Rat.divInt y 1)⟩).va) := by
  refine Cn.intro Tryz.func57 rfl (by kernel_rfl) nq (fun B w0 a hst => ?_)
  have hst : St B w0 10 [(0, In x), (1, In y)] [] a w0.w := hst
  refine wp_seq ?_
  refine gl (sts := []) (news := [⟨4, 29, ptrH, some 0, _, none⟩]) (sp := [.alc 0]) [.g 0, .g 1] hst (oc (ob_alc rfl rfl rfl (Str.zero str_ray)) o0) (fun a w hst => ?_)
  have hst : St B w0 10 [(0, _), (1, _)] [⟨4, 29, ptrH, _⟩] a w := hst
  refine thn_normal ?_
  refine wp_seq ?_
  refine gl (sts := [some (5, _)]) (news := []) (sp := [.val 5 _, .val 6 _, .val 7 _, .val 8 _, .val 9 _, .sto 0]) [] hst (oc (ob_v rfl rfl (r_move (gq 0 rfl))) (oc (ob_v rfl rfl (r_call (xs := [.tmp 5]) (small13_c hx) (.cons (vq 0 rfl) .nil))) (oc (ob_v rfl rfl (r_move (gq 1 rfl))) (oc (ob_v rfl rfl (r_call (xs := [.tmp 7]) (small13_c hy) (.cons (vq 2 rfl) .nil))) (oc (ob_v rfl rfl (r_build (xs := [(0, .tmp 6), (1, .tmp 8)]) (qs := [(0, _), (1, _)]) str_ray (.cons ⟨rfl, (vq 1 rfl), rfl⟩ (.cons ⟨rfl, (vq 3 rfl), rfl⟩ .nil)))) (oc (ob_sto rfl rfl rfl (vq 4 rfl) ty_29 (Eq.trans (b := 8) rfl rfl)) o0)))))) (fun a w hst => ?_)
  have hst : St B w0 10 [] [⟨4, 29, ptrH, _⟩] a w := hst
  refine thn_normal ?_
  refine wp_ret ?_
  refine ret_wk ?_ (ret_cell rfl hst (List.mem_of_getElem? (i := 0) rfl) ty_29)
  exact wk_id

set_option maxRecDepth 100000 in
set_option maxHeartbeats 4000000 in
theorem alive13_c  : Cn Tryz.prog 19 [] (Bo true) := by
  refine Cn.intro Tryz.func19 rfl (by kernel_rfl) nq (fun B w0 a hst => ?_)
  have hst : St B w0 66 [] [] a w0.w := hst
  refine wp_seq ?_
  refine gl (sts := []) (news := []) (sp := [.val 0 _]) [.o 0] hst (oc (ob_v rfl rfl (r_assign has_bo)) o0) (fun a w hst => ?_)
  have hst : St B w0 66 [(0, _)] [] a w := hst
  refine thn_normal ?_
  refine wp_seq ?_
  refine gl (sts := []) (news := [⟨1, 29, ptrH, some 6, _, some (7, _)⟩]) (sp := [.val 10 _, .val 11 _, .val 12 _, .val 9 _, .val 13 _, .val 14 _, .alc 0, .sto 0, .val 2 _]) [.g 0, .o 8] hst (oc (ob_v rfl rfl (r_call (xs := [.const (.int .i64 (2)), .const (.int .i64 (3)), .const (.int .i64 (1)), .const (.int .i64 (2))]) (matrix13_c (by decide) (by decide) (by decide) (by decide)) (.cons has_num (.cons has_num (.cons has_num (.cons has_num .nil)))))) (oc (ob_v rfl rfl (r_call (xs := [.const (.int .i64 (1)), .const (.int .i64 (0))]) (aray13_c (by decide) (by decide)) (.cons has_num (.cons has_num .nil)))) (oc (ob_v rfl rfl (r_call (xs := [.tmp 10, .tmp 11, .const (.int .i64 (2))]) (after_c ⟨_, _, _, _⟩ ⟨_, _⟩ _) (.cons (vq 0 rfl) (.cons (vq 1 rfl) (.cons has_num .nil))))) (oc (ob_v rfl rfl (r_move (vq 2 rfl))) (oc (ob_v rfl rfl (r_ex0 (vq 3 rfl))) (oc (ob_v rfl rfl (r_ex1 (vq 3 rfl))) (oc (ob_alc rfl rfl rfl (Str.zero str_ray)) (oc (ob_sto rfl rfl rfl (vq 4 rfl) ty_29 (Eq.trans (b := 8) rfl rfl)) (oc (ob_v rfl rfl (r_assign (vq 5 rfl))) o0))))))))) (fun a w hst => ?_)
  have hst : St B w0 66 [(0, _), (2, _)] [⟨1, 29, ptrH, _⟩] a w := hst
  refine thn_normal ?_
  refine wp_seq ?_
  refine gl (sts := [none]) (news := [⟨3, 27, ptrH, some 6, _, some (7, _)⟩]) (sp := [.val 16 _, .val 17 _, .val 18 _, .val 15 _, .val 19 _, .val 20 _, .alc 1, .sto 1, .val 4 _]) [.g 0, .g 1, .o 8] hst (oc (ob_v rfl rfl (r_call (xs := [.const (.int .i64 (0)), .const (.int .i64 (1)), .const (.int .i64 (-1)), .const (.int .i64 (0))]) (matrix13_c (by decide) (by decide) (by decide) (by decide)) (.cons has_num (.cons has_num (.cons has_num (.cons has_num .nil)))))) (oc (ob_v rfl rfl (r_call (xs := [.const (.int .i64 (3)), .const (.int .i64 (4))]) (aray13_c (by decide) (by decide)) (.cons has_num (.cons has_num .nil)))) (oc (ob_v rfl rfl (r_call (xs := [.tmp 16, .tmp 17]) (bound_c ⟨_, _, _, _⟩ ⟨_, _⟩) (.cons (vq 0 rfl) (.cons (vq 1 rfl) .nil)))) (oc (ob_v rfl rfl (r_move (vq 2 rfl))) (oc (ob_v rfl rfl (r_ex0 (vq 3 rfl))) (oc (ob_v rfl rfl (r_ex1 (vq 3 rfl))) (oc (ob_alc rfl rfl rfl (Str.zero str_frac)) (oc (ob_sto rfl rfl rfl (vq 4 rfl) ty_27 (Eq.trans (b := 4) rfl rfl)) (oc (ob_v rfl rfl (r_assign (vq 5 rfl))) o0))))))))) (fun a w hst => ?_)
  have hst : St B w0 66 [(0, _), (2, _), (4, _)] [⟨1, 29, ptrH, _⟩, ⟨3, 27, ptrH, _⟩] a w := hst
  refine thn_normal ?_
  refine wp_seq ?_
  refine gl (sts := [none, none]) (news := []) (sp := [.val 22 _, .val 23 _, .val 24 _, .val 25 _, .val 21 _, .val 26 _, .val 27 _, .val 5 _, .val 6 _]) [.g 0, .g 1, .g 2, .o 7, .o 8] hst (oc (ob_v rfl rfl (r_call (xs := [.const (.int .i64 (2)), .const (.int .i64 (3)), .const (.int .i64 (1)), .const (.int .i64 (2))]) (matrix13_c (by decide) (by decide) (by decide) (by decide)) (.cons has_num (.cons has_num (.cons has_num (.cons has_num .nil)))))) (oc (ob_v rfl rfl (r_call (xs := [.const (.int .i64 (1)), .const (.int .i64 (0))]) (aray13_c (by decide) (by decide)) (.cons has_num (.cons has_num .nil)))) (oc (ob_v rfl rfl (r_call (xs := [.const (.int .i64 (5))]) (small13_c (by decide)) (.cons has_num .nil))) (oc (ob_v rfl rfl (r_call (xs := [.tmp 22, .tmp 23, .tmp 24]) (leaves_c ⟨_, _, _, _⟩ ⟨_, _⟩ _) (.cons (vq 0 rfl) (.cons (vq 1 rfl) (.cons (vq 2 rfl) .nil))))) (oc (ob_v rfl rfl (r_move (vq 3 rfl))) (oc (ob_v rfl rfl (r_ex0 (vq 4 rfl))) (oc (ob_v rfl rfl (r_ex1 (vq 4 rfl))) (oc (ob_v rfl rfl (r_assign (vq 5 rfl))) (oc (ob_v rfl rfl (r_assign (vq 6 rfl))) o0))))))))) (fun a w hst => ?_)
  have hst : St B w0 66 [(0, _), (2, _), (4, _), (5, _), (6, _)] [⟨1, 29, ptrH, _⟩, ⟨3, 27, ptrH, _⟩] a w := hst
  refine thn_normal ?_
  refine wp_seq ?_
  refine gl (sts := [none, none]) (news := []) (sp := [.val 29 _, .val 30 _, .val 31 _, .val 28 _, .val 32 _, .val 33 _, .val 7 _, .val 8 _]) [.g 0, .g 1, .g 2, .g 3, .g 4, .o 6, .o 7] hst (oc (ob_v rfl rfl (r_call (xs := [.const (.int .i64 (1)), .const (.int .i64 (2)), .const (.int .i64 (0)), .const (.int .i64 (1))]) (matrix13_c (by decide) (by decide) (by decide) (by decide)) (.cons has_num (.cons has_num (.cons has_num (.cons has_num .nil)))))) (oc (ob_v rfl rfl (r_call (xs := [.const (.int .i64 (3)), .const (.int .i64 (1))]) (aray13_c (by decide) (by decide)) (.cons has_num (.cons has_num .nil)))) (oc (ob_v rfl rfl (r_call (xs := [.tmp 29, .tmp 30]) (stays_c ⟨_, _, _, _⟩ ⟨_, _⟩) (.cons (vq 0 rfl) (.cons (vq 1 rfl) .nil)))) (oc (ob_v rfl rfl (r_move (vq 2 rfl))) (oc (ob_v rfl rfl (r_ex0 (vq 3 rfl))) (oc (ob_v rfl rfl (r_ex1 (vq 3 rfl))) (oc (ob_v rfl rfl (r_assign (vq 4 rfl))) (oc (ob_v rfl rfl (r_assign (vq 5 rfl))) o0)))))))) (fun a w hst => ?_)
  have hst : St B w0 66 [(0, _), (2, _), (4, _), (5, _), (6, _), (7, _), (8, _)] [⟨1, 29, ptrH, _⟩, ⟨3, 27, ptrH, _⟩] a w := hst
  refine thn_normal ?_
  refine wp_seq ?_
  refine go_draw (anc := [[], [0], [0, 1], [0, 1, 2], [0, 1, 2, 3], [0, 1, 2, 3, 4], [0, 1, 2, 3, 4, 5], [0, 1, 2, 3, 4, 5, 6], [0, 1, 2, 3, 4, 5, 6, 7], [0, 1, 2, 3, 4, 5, 6, 7, 8], [0, 1, 2, 3, 4, 5, 6, 7, 8, 9], [0, 1, 2, 3, 4, 5, 6, 7, 8, 9, 10], [0, 1, 2, 3, 4, 5, 6, 7, 8, 9, 10, 11], [0, 1, 2, 3, 4, 5, 6, 7, 8, 9, 10, 11, 12], [0, 1, 2, 3, 4, 5, 6, 7, 8, 9, 10, 11, 12, 13], [0, 1, 2, 3, 4, 5, 6, 7, 8, 9, 10, 11, 12, 13, 14], [0, 1, 2, 3, 4, 5, 6, 7, 8, 9, 10, 11, 12, 13, 14, 15], [0, 1, 2, 3, 4, 5, 6, 7, 8, 9, 10, 11, 12, 13, 14, 15, 16], [0, 1, 2, 3, 4, 5, 6, 7, 8, 9, 10, 11, 12, 13, 14, 15, 16, 17], [0, 1, 2, 3, 4, 5, 6, 7, 8, 9, 10, 11, 12, 13, 14, 15, 16, 17, 18], [0, 1, 2, 3, 4, 5, 6, 7, 8, 9, 10, 11, 12, 13, 14, 15, 16, 17, 18, 19], [0, 1, 2, 3, 4, 5, 6, 7, 8, 9, 10, 11, 12, 13, 14, 15, 16, 17, 18, 19, 20], [0, 1, 2, 3, 4, 5, 6, 7, 8, 9, 10, 11, 12, 13, 14, 15, 16, 17, 18, 19, 20, 21], [0, 1, 2, 3, 4, 5, 6, 7, 8, 9, 10, 11, 12, 13, 14, 15, 16, 17, 18, 19, 20, 21, 22], [0, 1, 2, 3, 4, 5, 6, 7, 8, 9, 10, 11, 12, 13, 14, 15, 16, 17, 18, 19, 20, 21, 22], [0, 1, 2, 3, 4, 5, 6, 7, 8, 9, 10, 11, 12, 13, 14, 15, 16, 17, 18, 19, 20, 21, 22, 23, 24], [0, 1, 2, 3, 4, 5, 6, 7, 8, 9, 10, 11, 12, 13, 14, 15, 16, 17, 18, 19, 20, 21, 22, 23, 24, 25], [0, 1, 2, 3, 4, 5, 6, 7, 8, 9, 10, 11, 12, 13, 14, 15, 16, 17, 18, 19, 20, 21, 22, 23, 24, 25, 26], [0, 1, 2, 3, 4, 5, 6, 7, 8, 9, 10, 11, 12, 13, 14, 15, 16, 17, 18, 19, 20, 21, 22, 23, 24, 25, 26, 27], [0, 1, 2, 3, 4, 5, 6, 7, 8, 9, 10, 11, 12, 13, 14, 15, 16, 17, 18, 19, 20, 21, 22, 23, 24, 25, 26, 27], [0, 1, 2, 3, 4, 5, 6, 7, 8, 9, 10, 11, 12, 13, 14, 15, 16, 17, 18, 19, 20, 21, 22, 23, 24, 25, 26, 27, 28, 29], [0, 1, 2, 3, 4, 5, 6, 7, 8, 9, 10, 11, 12, 13, 14, 15, 16, 17, 18, 19, 20, 21, 22, 23, 24, 25, 26, 27, 28, 29, 30], [0, 1, 2, 3, 4, 5, 6, 7, 8, 9, 10, 11, 12, 13, 14, 15, 16, 17, 18, 19, 20, 21, 22, 23, 24, 25, 26, 27, 28, 29, 30, 31]]) (sts := [none, none]) (news := []) (sp := ((.val 34 _ : Sp) :: (.val 35 _) :: (.val 36 _) :: (.val 37 (Wh (_ = true) _)) :: (.val 38 (Wh (_ = true) _)) :: (.val 39 _) :: (.val 40 _) :: (.val 41 (Wh (_ = true) _)) :: (.val 42 (Wh (_ = true) _)) :: (.val 43 _) :: (.val 44 _) :: (.val 45 (Wh (_ = true) _)) :: (.val 46 (Wh (_ = true) _)) :: (.val 47 _) :: (.val 48 _) :: (.val 49 (Wh (_ = true) _)) :: (.val 50 (Wh (_ = true) _)) :: (.val 51 _) :: (.val 52 _) :: (.val 53 (Wh (_ = true) _)) :: (.val 54 (Wh (_ = true) _)) :: (.val 55 _) :: (.val 56 _) :: (.val 57 (Wh (_ = true) _)) :: (.val 58 (Wh (_ = true) _)) :: (.val 59 (Wh (_ = true) _)) :: (.val 60 _) :: (.val 61 _) :: (.val 62 (Wh (_ = true) _)) :: (.val 63 (Wh (_ = true) _)) :: (.val 64 (Wh (_ = true) _)) :: (.val 65 _) :: (.val 0 _) :: [])) [.o 32] follows_mixed hst (oc (ob_v rfl rfl (r_move (gq 1 rfl))) (oc (ob_v rfl rfl (r_eql (vq 0 rfl) has_num)) (oc (ob_v rfl rfl (r_move (vq 1 rfl))) (oc (ob_gd rfl rfl rfl (vq 2 rfl) nq (fun hg => r_move (gq 2 rfl))) (oc (ob_gd rfl rfl rfl (vq 2 rfl) nq (fun hg => r_eql (has_wh (vq 3 rfl) hg) has_num)) (oc (ob_v rfl rfl (r_and (vq 2 rfl) (vq 4 rfl))) (oc (ob_v rfl rfl (r_move (vq 5 rfl))) (oc (ob_gd rfl rfl rfl (vq 6 rfl) nq (fun hg => r_move (gq 4 rfl))) (oc (ob_gd rfl rfl rfl (vq 6 rfl) nq (fun hg => r_eql (has_wh (vq 7 rfl) hg) has_num)) (oc (ob_v rfl rfl (r_and (vq 6 rfl) (vq 8 rfl))) (oc (ob_v rfl rfl (r_move (vq 9 rfl))) (oc (ob_gd rfl rfl rfl (vq 10 rfl) nq (fun hg => r_move (gq 6 rfl))) (oc (ob_gd rfl rfl rfl (vq 10 rfl) nq (fun hg => r_eql (has_wh (vq 11 rfl) hg) has_num)) (oc (ob_v rfl rfl (r_and (vq 10 rfl) (vq 12 rfl))) (oc (ob_v rfl rfl (r_move (vq 13 rfl))) (oc (ob_gd rfl rfl rfl (vq 14 rfl) nq (fun hg => r_move (gq 5 rfl))) (oc (ob_gd rfl rfl rfl (vq 14 rfl) nq (fun hg => r_not (has_wh (vq 15 rfl) hg))) (oc (ob_v rfl rfl (r_and (vq 14 rfl) (vq 16 rfl))) (oc (ob_v rfl rfl (r_move (vq 17 rfl))) (oc (ob_gd rfl rfl rfl (vq 18 rfl) nq (fun hg => r_move (gq 3 rfl))) (oc (ob_gd rfl rfl rfl (vq 18 rfl) nq (fun hg => r_eql (has_wh (vq 19 rfl) hg) has_num)) (oc (ob_v rfl rfl (r_and (vq 18 rfl) (vq 20 rfl))) (oc (ob_v rfl rfl (r_move (vq 21 rfl))) (oc (ob_gd rfl rfl rfl (vq 22 rfl) nq (fun hg => r_load (lz0 1 rfl) ty_27)) (oc (ob_gd rfl rfl rfl (vq 22 rfl) nq (fun hg => r_call (xs := [.const (.int .i64 (25))]) (small13_c (by decide)) (.cons has_num .nil))) (oc (ob_gd rfl rfl rfl (vq 22 rfl) nq (fun hg => r_call (xs := [.tmp 57, .tmp 58]) (sameFrac_c _ _) (.cons (has_wh (vq 23 rfl) hg) (.cons (has_wh (vq 24 rfl) hg) .nil)))) (oc (ob_v rfl rfl (r_and (vq 22 rfl) (vq 25 rfl))) (oc (ob_v rfl rfl (r_move (vq 26 rfl))) (oc (ob_gd rfl rfl rfl (vq 27 rfl) nq (fun hg => r_load (lz0 0 rfl) ty_29)) (oc (ob_gd rfl rfl rfl (vq 27 rfl) nq (fun hg => r_call (xs := [.const (.int .i64 (7)), .const (.int .i64 (4))]) (aray13_c (by decide) (by decide)) (.cons has_num (.cons has_num .nil)))) (oc (ob_gd rfl rfl rfl (vq 27 rfl) nq (fun hg => r_call (xs := [.tmp 62, .tmp 63]) (sameRay_c _ _) (.cons (has_wh (vq 28 rfl) hg) (.cons (has_wh (vq 29 rfl) hg) .nil)))) (oc (ob_v rfl rfl (r_and (vq 27 rfl) (vq 30 rfl))) (oc (ob_v rfl rfl (r_assign (vq 31 rfl))) o0))))))))))))))))))))))))))))))))) (by kernel_rfl) (by kernel_rfl) (by kernel_rfl) (by kernel_rfl) (fun a w hst => ?_)
  have hst : St B w0 66 [(0, _)] [⟨1, 29, ptrH, _⟩, ⟨3, 27, ptrH, _⟩] a w := hst
  refine thn_normal ?_
  refine wp_ret ?_
  refine ret_wk ?_ (ret_tmp rfl hst (List.mem_of_getElem? (i := 0) rfl))
  exact wk_eq (congrArg Bo (by kernel_rfl))

set_option maxRecDepth 100000 in
theorem beyond13_c (m : RM) (r : RR) : Cn Tryz.prog 61 [(RMA m).va, (RRA r).va] (Bo (bydF 0 [matCostF m, rayCostF r])) := by
  refine Cn.intro Tryz.func61 rfl (by kernel_rfl) nq (fun B w0 a hst => ?_)
  have hst : St B w0 11 [(0, (RMA m).va), (1, (RRA r).va)] [] a w0.w := hst
  refine wp_seq ?_
  refine gl (sts := []) (news := [⟨2, 38, ptrH, some 0, _, none⟩, ⟨3, 29, ptrH, some 1, _, none⟩]) (sp := [.alc 0, .alc 1, .val 4 _]) [.o 2] hst (oc (ob_box rfl rfl rfl (gq 0 rfl)) (oc (ob_box rfl rfl rfl (gq 1 rfl)) (oc (ob_v rfl rfl (r_assign has_bo)) o0))) (fun a w hst => ?_)
  have hst : St B w0 11 [(4, _)] [⟨2, 38, ptrH, _⟩, ⟨3, 29, ptrH, _⟩] a w := hst
  refine thn_normal ?_
  refine wp_seq ?_
  refine go_draw (anc := [[], [0], [], [0, 1, 2], [0, 1, 2, 3], [0, 1, 2, 3, 4], [0, 1, 2, 3, 4, 5]]) (sts := [none, none]) (news := []) (sp := [.val 5 _, .val 6 _, .val 7 _, .val 8 _, .val 9 _, .val 10 _, .val 4 _]) [.o 6] follows_mixed hst (oc (ob_v rfl rfl (r_load (lz0 0 rfl) ty_38)) (oc (ob_v rfl rfl (r_call (xs := [.tmp 5]) (matCost_c _) (.cons (vq 0 rfl) .nil))) (oc (ob_v rfl rfl (r_load (lz0 1 rfl) ty_29)) (oc (ob_v rfl rfl (r_call (xs := [.tmp 7]) (rayCost_c _) (.cons (vq 2 rfl) .nil))) (oc (ob_v rfl rfl (r_slice (D := []) (l := [_, _]) (xs := [.tmp 6, .tmp 8]) (nd_ok (by kernel_rfl)) sl_62 (by kernel_rfl) (n_ok (by kernel_rfl)) nq nq nq (.cons (vq 1 rfl) (.cons (vq 3 rfl) .nil)) rfl rfl)) (oc (ob_v rfl rfl (r_call (xs := [.tmp 9]) (beyond_c [_, _]) (.cons (vq 4 rfl) .nil))) (oc (ob_v rfl rfl (r_assign (vq 5 rfl))) o0))))))) (by kernel_rfl) (by kernel_rfl) (by kernel_rfl) (by kernel_rfl) (fun a w hst => ?_)
  have hst : St B w0 11 [(4, _)] [⟨2, 38, ptrH, _⟩, ⟨3, 29, ptrH, _⟩] a w := hst
  refine thn_normal ?_
  refine wp_ret ?_
  refine ret_wk ?_ (ret_tmp rfl hst (List.mem_of_getElem? (i := 0) rfl))
  exact wk_id

def ftO (m : RM) (r : RR) : Bool := (((!bydF 0 [matCostF m, rayCostF r]) && ((if okM m then (0 : Int) else 1) == 0)) && ((if okX r.y then (0 : Int) else 1) == 0)) && ((if okX r.u then (0 : Int) else 1) == 0)
theorem ft_ok {m : RM} {r : RR} (h : ftO m r = true) : okM m = true ∧ [r.y, r.u].all okX = true := by
  unfold ftO at h
  simp only [Bool.and_eq_true] at h
  obtain ⟨⟨⟨_, h1⟩, h2⟩, h3⟩ := h
  have k : ∀ {c : Bool}, ((if c = true then (0 : Int) else 1) == 0) = true → c = true := fun {c} hc => by cases c with | true => rfl | false => simp at hc
  refine ⟨k h1, ?_⟩
  simp [k h2, k h3]
theorem fi_of {m : RM} {r : RR} (h : ftO m r = true) : fiO m r = true := by
  obtain ⟨h1, h2⟩ := ft_ok h
  rw [fiO, h1, h2]; rfl

set_option maxRecDepth 100000 in
theorem fits13_c (m : RM) (r : RR) : Cn Tryz.prog 20 [(RMA m).va, (RRA r).va] (Bo (ftO m r)) := by
  refine Cn.intro Tryz.func20 rfl (by kernel_rfl) nq (fun B w0 a hst => ?_)
  have hst : St B w0 26 [(0, (RMA m).va), (1, (RRA r).va)] [] a w0.w := hst
  refine wp_seq ?_
  refine gl (sts := []) (news := [⟨2, 38, ptrH, some 0, _, none⟩, ⟨3, 29, ptrH, some 1, _, none⟩]) (sp := [.alc 0, .alc 1, .val 4 _]) [.o 2] hst (oc (ob_box rfl rfl rfl (gq 0 rfl)) (oc (ob_box rfl rfl rfl (gq 1 rfl)) (oc (ob_v rfl rfl (r_assign has_bo)) o0))) (fun a w hst => ?_)
  have hst : St B w0 26 [(4, _)] [⟨2, 38, ptrH, _⟩, ⟨3, 29, ptrH, _⟩] a w := hst
  refine thn_normal ?_
  refine wp_seq ?_
  refine gl (sts := [none, none]) (news := []) (sp := [.val 5 _, .val 6 _, .val 7 _, .val 8 _, .val 9 _, .val 10 (Wh (_ = true) _), .val 11 (Wh (_ = true) _), .val 12 (Wh (_ = true) _), .val 13 _, .val 14 _, .adr 15 3 (.some 0) (_ = true), .val 16 (Wh (_ = true) _), .val 17 (Wh (_ = true) _), .val 18 (Wh (_ = true) _), .val 19 _, .val 20 _, .adr 21 3 (.some 4) (_ = true), .val 22 (Wh (_ = true) _), .val 23 (Wh (_ = true) _), .val 24 (Wh (_ = true) _), .val 25 _, .val 4 _]) [.o 21] hst (oc (ob_v rfl rfl (r_load (lz0 0 rfl) ty_38)) (oc (ob_v rfl rfl (r_load (lz0 1 rfl) ty_29)) (oc (ob_v rfl rfl (r_call (xs := [.tmp 5, .tmp 6]) (beyond13_c m r) (.cons (vq 0 rfl) (.cons (vq 1 rfl) .nil)))) (oc (ob_v rfl rfl (r_not (vq 2 rfl))) (oc (ob_v rfl rfl (r_move (vq 3 rfl))) (oc (ob_gd rfl rfl rfl (vq 4 rfl) nq (fun hg => r_load (lz0 0 rfl) ty_38)) (oc (ob_gd rfl rfl rfl (vq 4 rfl) nq (fun hg => r_call (xs := [.tmp 10]) (rayCheck_c m) (.cons (has_wh (vq 5 rfl) hg) .nil))) (oc (ob_gd rfl rfl rfl (vq 4 rfl) nq (fun hg => r_eql (has_wh (vq 6 rfl) hg) has_num)) (oc (ob_v rfl rfl (r_and (vq 4 rfl) (vq 7 rfl))) (oc (ob_v rfl rfl (r_move (vq 8 rfl))) (oc (ob_ag rfl rfl rfl (vq 9 rfl) nq (fun hg => a_fld (lz0 1 rfl) fld_29_0)) (oc (ob_gd rfl rfl rfl (vq 9 rfl) nq (fun hg => r_loadf 10 rfl (by kernel_rfl) hg (lz0 1 rfl) (Sub.part 0 rfl rfl) ty_27)) (oc (ob_gd rfl rfl rfl (vq 9 rfl) nq (fun hg => r_call (xs := [.tmp 16]) (fracCheck_c _) (.cons (has_wh (vq 11 rfl) hg) .nil))) (oc (ob_gd rfl rfl rfl (vq 9 rfl) nq (fun hg => r_eql (has_wh (vq 12 rfl) hg) has_num)) (oc (ob_v rfl rfl (r_and (vq 9 rfl) (vq 13 rfl))) (oc (ob_v rfl rfl (r_move (vq 14 rfl))) (oc (ob_ag rfl rfl rfl (vq 15 rfl) nq (fun hg => a_fld (lz0 1 rfl) fld_29_1)) (oc (ob_gd rfl rfl rfl (vq 15 rfl) nq (fun hg => r_loadf 16 rfl (by kernel_rfl) hg (lz0 1 rfl) (Sub.part 1 rfl rfl) ty_27)) (oc (ob_gd rfl rfl rfl (vq 15 rfl) nq (fun hg => r_call (xs := [.tmp 22]) (fracCheck_c _) (.cons (has_wh (vq 17 rfl) hg) .nil))) (oc (ob_gd rfl rfl rfl (vq 15 rfl) nq (fun hg => r_eql (has_wh (vq 18 rfl) hg) has_num)) (oc (ob_v rfl rfl (r_and (vq 15 rfl) (vq 19 rfl))) (oc (ob_v rfl rfl (r_assign (vq 20 rfl))) o0)))))))))))))))))))))) (fun a w hst => ?_)
  have hst : St B w0 26 [(4, _)] [⟨2, 38, ptrH, _⟩, ⟨3, 29, ptrH, _⟩] a w := hst
  refine thn_normal ?_
  refine wp_ret ?_
  refine ret_wk ?_ (ret_tmp rfl hst (List.mem_of_getElem? (i := 0) rfl))
  exact wk_id

set_option maxRecDepth 100000 in
theorem few13_c {x : Nat} : Cn Tryz.prog 21 [(NumA .u8 (x : Nat)).va] (In ((x % 48 : Nat) : Int)) := by
  refine Cn.intro Tryz.func21 rfl (by kernel_rfl) nq (fun B w0 a hst => ?_)
  have hst : St B w0 6 [(0, (NumA .u8 (x : Nat)).va)] [] a w0.w := hst
  refine wp_seq ?_
  refine gl (sts := []) (news := []) (sp := [.val 2 _]) [.g 0, .o 0] hst (oc (ob_v rfl rfl (r_assign has_num)) o0) (fun a w hst => ?_)
  have hst : St B w0 6 [(0, _), (2, _)] [] a w := hst
  refine thn_normal ?_
  refine wp_seq ?_
  refine gl (sts := []) (news := []) (sp := [.val 3 _, .val 4 _, .val 5 _, .val 2 _]) [.o 3] hst (oc (ob_v rfl rfl (r_move (gq 0 rfl))) (oc (ob_v rfl rfl (r_rem (vq 0 rfl) has_num (by decide) (nrem (y := 48)))) (oc (ob_v rfl rfl (r_convk .i64 (by kernel_rfl) (by kernel_rfl) (vq 1 rfl) (wi64 (by omega) (by omega)))) (oc (ob_v rfl rfl (r_assign (vq 2 rfl))) o0)))) (fun a w hst => ?_)
  have hst : St B w0 6 [(2, _)] [] a w := hst
  refine thn_normal ?_
  refine wp_ret ?_
  refine ret_wk ?_ (ret_tmp rfl hst (List.mem_of_getElem? (i := 0) rfl))
  exact wk_id

def frO (r : RR) (l : RF) : Bool := (((subF (rfOf (Rat.divInt 0 1)) r.y).2 == 0) && ((subF (rfOf (Rat.divInt 0 1)) r.u).2 == 0)) && (((decide (cmF r.y l > 0) || decide (cmF r.u l > 0)) || decide (cmF (subF (rfOf (Rat.divInt 0 1)) r.y).1 l > 0)) || decide (cmF (subF (rfOf (Rat.divInt 0 1)) r.u).1 l > 0))

end Go.Proofs.YtiflajpmipejnaaGreat
