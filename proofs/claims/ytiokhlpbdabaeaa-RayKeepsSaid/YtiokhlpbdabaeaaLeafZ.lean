/- Contracts of the helpers of chapter 11: small fractions, a lens, a space, the bench that lives. -/
import Derived.Test.YtiokhlpbdabaeaaLeafY
namespace Go.Proofs.Ytiokhlpbdabaeaa
open Go Go.RowKit
namespace LeafZ
theorem ty_26 : Ty Try.prog 26 4 true := ⟨by kernel_rfl, by kernel_rfl⟩
theorem ty_42 : Ty Try.prog 42 16 true := ⟨by kernel_rfl, by kernel_rfl⟩
end LeafZ
open LeafZ
set_option maxRecDepth 100000 in
theorem whole11_c {p q : Int} (hp : -9223372036854775808 ≤ p) (hp1 : p < 9223372036854775808) (hq0 : -9223372036854775808 ≤ q) (hq1 : q < 9223372036854775808) (hq : q ≠ 0) : Cn Try.prog 23 [In p, In q] ((RFA (rfOf (Rat.divInt p q))).va) := by
  refine Cn.intro Try.func23 rfl (by kernel_rfl) (Nat.le_of_ble_eq_true (by kernel_rfl)) (fun B w0 a hst => ?_)
  have hst : St B w0 14 [(0, In p), (1, In q)] [] a w0.w := hst
  refine wp_seq ?_
  refine go_lin (sts := []) (news := [⟨4, 26, ptrH, some 0, _, none⟩]) (sp := [.alc 0]) [.g 0, .g 1] hst (obs_cons (ob_alc rfl rfl rfl (Str.zero str_frac)) (obs_nil)) (by kernel_rfl) (by kernel_rfl) (by kernel_rfl) (fun a w hst => ?_)
  have hst : St B w0 14 [(0, _), (1, _)] [⟨4, 26, ptrH, _⟩] a w := hst
  refine thn_normal ?_
  refine wp_seq ?_
  refine go_lin (sts := [none]) (news := [⟨5, 26, ptrH, some 6, _, some (7, _)⟩]) (sp := [.val 8 _, .val 9 _, .val 10 _, .val 7 _, .val 11 _, .val 12 _, .alc 1, .sto 1, .val 6 _]) [] hst (obs_cons (ob_v rfl rfl (r_move (has_g 0 rfl (by kernel_rfl) (by kernel_rfl)))) (obs_cons (ob_v rfl rfl (r_move (has_g 1 rfl (by kernel_rfl) (by kernel_rfl)))) (obs_cons (ob_v rfl rfl (r_call (xs := [.tmp 8, .tmp 9]) (ofQ_c hp hp1 hq0 hq1 hq) (.cons (has_v 0 rfl (by kernel_rfl) (by kernel_rfl)) (.cons (has_v 1 rfl (by kernel_rfl) (by kernel_rfl)) .nil)))) (obs_cons (ob_v rfl rfl (r_move (has_v 2 rfl (by kernel_rfl) (by kernel_rfl)))) (obs_cons (ob_v rfl rfl (r_ex0 (has_v 3 rfl (by kernel_rfl) (by kernel_rfl)))) (obs_cons (ob_v rfl rfl (r_ex1 (has_v 3 rfl (by kernel_rfl) (by kernel_rfl)))) (obs_cons (ob_alc rfl rfl rfl (Str.zero str_frac)) (obs_cons (ob_sto rfl rfl rfl (has_v 4 rfl (by kernel_rfl) (by kernel_rfl)) ty_26 rfl) (obs_cons (ob_v rfl rfl (r_assign (has_v 5 rfl (by kernel_rfl) (by kernel_rfl)))) (obs_nil)))))))))) (by kernel_rfl) (by kernel_rfl) (by kernel_rfl) (fun a w hst => ?_)
  have hst : St B w0 14 [] [⟨4, 26, ptrH, _⟩, ⟨5, 26, ptrH, _⟩] a w := hst
  refine thn_normal ?_
  refine wp_seq ?_
  refine go_lin (sts := [some (1, _), none]) (news := []) (sp := [.val 13 _, .sto 0]) [] hst (obs_cons (ob_v rfl rfl (r_load (loc_at0 1 rfl (by kernel_rfl)) ty_26)) (obs_cons (ob_sto rfl rfl rfl (has_v 0 rfl (by kernel_rfl) (by kernel_rfl)) ty_26 rfl) (obs_nil))) (by kernel_rfl) (by kernel_rfl) (by kernel_rfl) (fun a w hst => ?_)
  have hst : St B w0 14 [] [⟨4, 26, ptrH, _⟩, ⟨5, 26, ptrH, _⟩] a w := hst
  refine thn_normal ?_
  refine wp_ret ?_
  refine ret_wk ?_ (ret_cell rfl hst (List.mem_of_getElem? (i := 0) rfl) ty_26)
  exact wk_id

set_option maxRecDepth 100000 in
theorem lens11_c (x y : RF) : Cn Try.prog 22 [(RFA x).va, (RFA y).va] ((RMA ⟨rfOf (Rat.divInt 1 1), rfOf (Rat.divInt 0 1), y, rfOf (Rat.divInt 1 1)⟩).va) := by
  refine Cn.intro Try.func22 rfl (by kernel_rfl) (Nat.le_of_ble_eq_true (by kernel_rfl)) (fun B w0 a hst => ?_)
  have hst : St B w0 10 [(0, (RFA x).va), (1, (RFA y).va)] [] a w0.w := hst
  refine wp_seq ?_
  refine go_lin (sts := []) (news := [⟨2, 26, ptrH, some 0, _, none⟩, ⟨3, 26, ptrH, some 1, _, none⟩, ⟨4, 42, ptrH, some 2, _, none⟩]) (sp := [.alc 0, .alc 1, .alc 2]) [] hst (obs_cons (ob_box rfl rfl rfl (has_g 0 rfl (by kernel_rfl) (by kernel_rfl))) (obs_cons (ob_box rfl rfl rfl (has_g 1 rfl (by kernel_rfl) (by kernel_rfl))) (obs_cons (ob_alc rfl rfl rfl (Str.zero str_matrix)) (obs_nil)))) (by kernel_rfl) (by kernel_rfl) (by kernel_rfl) (fun a w hst => ?_)
  have hst : St B w0 10 [] [⟨2, 26, ptrH, _⟩, ⟨3, 26, ptrH, _⟩, ⟨4, 42, ptrH, _⟩] a w := hst
  refine thn_normal ?_
  refine wp_seq ?_
  refine go_draw (anc := [[], [0], [], [0, 1], [0, 1, 2, 3], [0, 1, 2, 3, 4]]) (sts := [none, none, some (5, _)]) (news := []) (sp := [.val 5 _, .val 6 _, .val 7 _, .val 8 _, .val 9 _, .sto 2]) [] follows_mixed hst (obs_cons (ob_v rfl rfl (r_call (xs := [.const (.int .i64 (1)), .const (.int .i64 (1))]) (whole11_c (by decide) (by decide) (by decide) (by decide) (by decide)) (.cons has_num (.cons has_num .nil)))) (obs_cons (ob_v rfl rfl (r_call (xs := [.const (.int .i64 (0)), .const (.int .i64 (1))]) (whole11_c (by decide) (by decide) (by decide) (by decide) (by decide)) (.cons has_num (.cons has_num .nil)))) (obs_cons (ob_v rfl rfl (r_load (loc_at0 1 rfl (by kernel_rfl)) ty_26)) (obs_cons (ob_v rfl rfl (r_call (xs := [.const (.int .i64 (1)), .const (.int .i64 (1))]) (whole11_c (by decide) (by decide) (by decide) (by decide) (by decide)) (.cons has_num (.cons has_num .nil)))) (obs_cons (ob_v rfl rfl (r_build (xs := [(0, .tmp 5), (1, .tmp 6), (2, .tmp 7), (3, .tmp 8)]) (qs := [(0, _), (1, _), (2, _), (3, _)]) str_matrix (.cons ⟨rfl, (has_v 0 rfl (by kernel_rfl) (by kernel_rfl)), rfl⟩ (.cons ⟨rfl, (has_v 1 rfl (by kernel_rfl) (by kernel_rfl)), rfl⟩ (.cons ⟨rfl, (has_v 2 rfl (by kernel_rfl) (by kernel_rfl)), rfl⟩ (.cons ⟨rfl, (has_v 3 rfl (by kernel_rfl) (by kernel_rfl)), rfl⟩ .nil)))))) (obs_cons (ob_sto rfl rfl rfl (has_v 4 rfl (by kernel_rfl) (by kernel_rfl)) ty_42 rfl) (obs_nil))))))) (by kernel_rfl) (by kernel_rfl) (by kernel_rfl) (by kernel_rfl) (fun a w hst => ?_)
  have hst : St B w0 10 [] [⟨2, 26, ptrH, _⟩, ⟨3, 26, ptrH, _⟩, ⟨4, 42, ptrH, _⟩] a w := hst
  refine thn_normal ?_
  refine wp_ret ?_
  refine ret_wk ?_ (ret_cell rfl hst (List.mem_of_getElem? (i := 2) rfl) ty_42)
  exact wk_id

set_option maxRecDepth 100000 in
theorem space11_c (x : RF) : Cn Try.prog 24 [(RFA x).va] ((RMA ⟨rfOf (Rat.divInt 1 1), x, rfOf (Rat.divInt 0 1), rfOf (Rat.divInt 1 1)⟩).va) := by
  refine Cn.intro Try.func24 rfl (by kernel_rfl) (Nat.le_of_ble_eq_true (by kernel_rfl)) (fun B w0 a hst => ?_)
  have hst : St B w0 8 [(0, (RFA x).va)] [] a w0.w := hst
  refine wp_seq ?_
  refine go_lin (sts := []) (news := [⟨1, 26, ptrH, some 0, _, none⟩, ⟨2, 42, ptrH, some 1, _, none⟩]) (sp := [.alc 0, .alc 1]) [] hst (obs_cons (ob_box rfl rfl rfl (has_g 0 rfl (by kernel_rfl) (by kernel_rfl))) (obs_cons (ob_alc rfl rfl rfl (Str.zero str_matrix)) (obs_nil))) (by kernel_rfl) (by kernel_rfl) (by kernel_rfl) (fun a w hst => ?_)
  have hst : St B w0 8 [] [⟨1, 26, ptrH, _⟩, ⟨2, 42, ptrH, _⟩] a w := hst
  refine thn_normal ?_
  refine wp_seq ?_
  refine go_draw (anc := [[], [], [0], [0, 2], [0, 1, 2, 3], [0, 1, 2, 3, 4]]) (sts := [none, some (5, _)]) (news := []) (sp := [.val 3 _, .val 4 _, .val 5 _, .val 6 _, .val 7 _, .sto 1]) [] follows_mixed hst (obs_cons (ob_v rfl rfl (r_call (xs := [.const (.int .i64 (1)), .const (.int .i64 (1))]) (whole11_c (by decide) (by decide) (by decide) (by decide) (by decide)) (.cons has_num (.cons has_num .nil)))) (obs_cons (ob_v rfl rfl (r_load (loc_at0 0 rfl (by kernel_rfl)) ty_26)) (obs_cons (ob_v rfl rfl (r_call (xs := [.const (.int .i64 (0)), .const (.int .i64 (1))]) (whole11_c (by decide) (by decide) (by decide) (by decide) (by decide)) (.cons has_num (.cons has_num .nil)))) (obs_cons (ob_v rfl rfl (r_call (xs := [.const (.int .i64 (1)), .const (.int .i64 (1))]) (whole11_c (by decide) (by decide) (by decide) (by decide) (by decide)) (.cons has_num (.cons has_num .nil)))) (obs_cons (ob_v rfl rfl (r_build (xs := [(0, .tmp 3), (1, .tmp 4), (2, .tmp 5), (3, .tmp 6)]) (qs := [(0, _), (1, _), (2, _), (3, _)]) str_matrix (.cons ⟨rfl, (has_v 0 rfl (by kernel_rfl) (by kernel_rfl)), rfl⟩ (.cons ⟨rfl, (has_v 1 rfl (by kernel_rfl) (by kernel_rfl)), rfl⟩ (.cons ⟨rfl, (has_v 2 rfl (by kernel_rfl) (by kernel_rfl)), rfl⟩ (.cons ⟨rfl, (has_v 3 rfl (by kernel_rfl) (by kernel_rfl)), rfl⟩ .nil)))))) (obs_cons (ob_sto rfl rfl rfl (has_v 4 rfl (by kernel_rfl) (by kernel_rfl)) ty_42 rfl) (obs_nil))))))) (by kernel_rfl) (by kernel_rfl) (by kernel_rfl) (by kernel_rfl) (fun a w hst => ?_)
  have hst : St B w0 8 [] [⟨1, 26, ptrH, _⟩, ⟨2, 42, ptrH, _⟩] a w := hst
  refine thn_normal ?_
  refine wp_ret ?_
  refine ret_wk ?_ (ret_cell rfl hst (List.mem_of_getElem? (i := 1) rfl) ty_42)
  exact wk_id

set_option maxRecDepth 100000 in
theorem lives11_c  : Cn Try.prog 31 [] (Bo true) := by
  refine Cn.intro Try.func31 rfl (by kernel_rfl) (Nat.le_of_ble_eq_true (by kernel_rfl)) (fun B w0 a hst => ?_)
  have hst : St B w0 41 [] [] a w0.w := hst
  refine wp_seq ?_
  refine go_lin (sts := []) (news := []) (sp := [.val 0 _]) [.o 0] hst (obs_cons (ob_v rfl rfl (r_assign has_bo)) (obs_nil)) (by kernel_rfl) (by kernel_rfl) (by kernel_rfl) (fun a w hst => ?_)
  have hst : St B w0 41 [(0, _)] [] a w := hst
  refine thn_normal ?_
  refine wp_seq ?_
  refine go_lin (sts := []) (news := [⟨1, 42, ptrH, some 3, _, some (4, _)⟩]) (sp := [.val 8 _, .val 9 _, .val 10 _, .alc 0, .sto 0]) [.g 0] hst (obs_cons (ob_v rfl rfl (r_call (xs := [.const (.int .i64 (1)), .const (.int .i64 (1))]) (whole11_c (by decide) (by decide) (by decide) (by decide) (by decide)) (.cons has_num (.cons has_num .nil)))) (obs_cons (ob_v rfl rfl (r_call (xs := [.const (.int .i64 (-1)), .const (.int .i64 (1))]) (whole11_c (by decide) (by decide) (by decide) (by decide) (by decide)) (.cons has_num (.cons has_num .nil)))) (obs_cons (ob_v rfl rfl (r_call (xs := [.tmp 8, .tmp 9]) (lens11_c _ _) (.cons (has_v 0 rfl (by kernel_rfl) (by kernel_rfl)) (.cons (has_v 1 rfl (by kernel_rfl) (by kernel_rfl)) .nil)))) (obs_cons (ob_alc rfl rfl rfl (Str.zero str_matrix)) (obs_cons (ob_sto rfl rfl rfl (has_v 2 rfl (by kernel_rfl) (by kernel_rfl)) ty_42 rfl) (obs_nil)))))) (by kernel_rfl) (by kernel_rfl) (by kernel_rfl) (fun a w hst => ?_)
  have hst : St B w0 41 [(0, _)] [⟨1, 42, ptrH, _⟩] a w := hst
  refine thn_normal ?_
  refine wp_seq ?_
  refine go_draw (anc := [[], [], [0, 1], [0, 1, 2], [0, 1, 2, 3], [0, 1, 2, 3], [0, 1, 2, 3], [], [], [0, 1, 2, 3, 4, 7, 8], [0, 1, 2, 3, 4, 5, 7, 8, 9], [0, 1, 2, 3, 4, 5, 6, 7, 8, 9, 10]]) (sts := [none]) (news := [⟨2, 26, ptrH, some 7, _, some (9, _)⟩, ⟨3, 26, ptrH, some 8, _, some (10, _)⟩]) (sp := [.val 12 _, .val 13 _, .val 14 _, .val 11 _, .val 15 _, .val 16 _, .val 17 _, .alc 1, .alc 2, .sto 1, .sto 2, .val 4 _]) [.g 0, .o 11] follows_mixed hst (obs_cons (ob_v rfl rfl (r_load (loc_at0 0 rfl (by kernel_rfl)) ty_42)) (obs_cons (ob_v rfl rfl (r_call (xs := [.const (.int .i64 (2)), .const (.int .i64 (1))]) (whole11_c (by decide) (by decide) (by decide) (by decide) (by decide)) (.cons has_num (.cons has_num .nil)))) (obs_cons (ob_v rfl rfl (r_call (xs := [.tmp 12, .tmp 13]) (image_c ⟨_, _, _, _⟩ _) (.cons (has_v 0 rfl (by kernel_rfl) (by kernel_rfl)) (.cons (has_v 1 rfl (by kernel_rfl) (by kernel_rfl)) .nil)))) (obs_cons (ob_v rfl rfl (r_move (has_v 2 rfl (by kernel_rfl) (by kernel_rfl)))) (obs_cons (ob_v rfl rfl (r_ex0 (has_v 3 rfl (by kernel_rfl) (by kernel_rfl)))) (obs_cons (ob_v rfl rfl (r_ex1 (has_v 3 rfl (by kernel_rfl) (by kernel_rfl)))) (obs_cons (ob_v rfl rfl (r_ex2 (has_v 3 rfl (by kernel_rfl) (by kernel_rfl)))) (obs_cons (ob_alc rfl rfl rfl (Str.zero str_frac)) (obs_cons (ob_alc rfl rfl rfl (Str.zero str_frac)) (obs_cons (ob_sto rfl rfl rfl (has_v 4 rfl (by kernel_rfl) (by kernel_rfl)) ty_26 rfl) (obs_cons (ob_sto rfl rfl rfl (has_v 5 rfl (by kernel_rfl) (by kernel_rfl)) ty_26 rfl) (obs_cons (ob_v rfl rfl (r_assign (has_v 6 rfl (by kernel_rfl) (by kernel_rfl)))) (obs_nil))))))))))))) (by kernel_rfl) (by kernel_rfl) (by kernel_rfl) (by kernel_rfl) (fun a w hst => ?_)
  have hst : St B w0 41 [(0, _), (4, _)] [⟨1, 42, ptrH, _⟩, ⟨2, 26, ptrH, _⟩, ⟨3, 26, ptrH, _⟩] a w := hst
  refine thn_normal ?_
  refine wp_seq ?_
  refine go_draw (anc := [[], [], [0, 1], [0, 1, 2], [0, 1, 2, 3], [0, 1, 2, 3], [0, 1, 2, 3], [], [], [0, 1, 2, 3, 4, 7, 8], [0, 1, 2, 3, 4, 5, 7, 8, 9], [0, 1, 2, 3, 4, 5, 6, 7, 8, 9, 10]]) (sts := [none, none, none]) (news := [⟨5, 26, ptrH, some 7, _, some (9, _)⟩, ⟨6, 26, ptrH, some 8, _, some (10, _)⟩]) (sp := [.val 19 _, .val 20 _, .val 21 _, .val 18 _, .val 22 _, .val 23 _, .val 24 _, .alc 3, .alc 4, .sto 3, .sto 4, .val 7 _]) [.g 0, .g 1, .o 11] follows_mixed hst (obs_cons (ob_v rfl rfl (r_load (loc_at0 0 rfl (by kernel_rfl)) ty_42)) (obs_cons (ob_v rfl rfl (r_call (xs := [.const (.int .i64 (1)), .const (.int .i64 (1))]) (whole11_c (by decide) (by decide) (by decide) (by decide) (by decide)) (.cons has_num (.cons has_num .nil)))) (obs_cons (ob_v rfl rfl (r_call (xs := [.tmp 19, .tmp 20]) (image_c ⟨_, _, _, _⟩ _) (.cons (has_v 0 rfl (by kernel_rfl) (by kernel_rfl)) (.cons (has_v 1 rfl (by kernel_rfl) (by kernel_rfl)) .nil)))) (obs_cons (ob_v rfl rfl (r_move (has_v 2 rfl (by kernel_rfl) (by kernel_rfl)))) (obs_cons (ob_v rfl rfl (r_ex0 (has_v 3 rfl (by kernel_rfl) (by kernel_rfl)))) (obs_cons (ob_v rfl rfl (r_ex1 (has_v 3 rfl (by kernel_rfl) (by kernel_rfl)))) (obs_cons (ob_v rfl rfl (r_ex2 (has_v 3 rfl (by kernel_rfl) (by kernel_rfl)))) (obs_cons (ob_alc rfl rfl rfl (Str.zero str_frac)) (obs_cons (ob_alc rfl rfl rfl (Str.zero str_frac)) (obs_cons (ob_sto rfl rfl rfl (has_v 4 rfl (by kernel_rfl) (by kernel_rfl)) ty_26 rfl) (obs_cons (ob_sto rfl rfl rfl (has_v 5 rfl (by kernel_rfl) (by kernel_rfl)) ty_26 rfl) (obs_cons (ob_v rfl rfl (r_assign (has_v 6 rfl (by kernel_rfl) (by kernel_rfl)))) (obs_nil))))))))))))) (by kernel_rfl) (by kernel_rfl) (by kernel_rfl) (by kernel_rfl) (fun a w hst => ?_)
  have hst : St B w0 41 [(0, _), (4, _), (7, _)] [⟨1, 42, ptrH, _⟩, ⟨2, 26, ptrH, _⟩, ⟨3, 26, ptrH, _⟩, ⟨5, 26, ptrH, _⟩, ⟨6, 26, ptrH, _⟩] a w := hst
  refine thn_normal ?_
  refine wp_seq ?_
  refine go_draw (anc := [[], [0], [0, 1], [0, 1, 2], [0, 1, 2, 3], [0, 1, 2, 3, 4], [0, 1, 2, 3, 4, 5], [0, 1, 2, 3, 4, 5, 6], [0, 1, 2, 3, 4, 5, 6], [0, 1, 2, 3, 4, 5, 6, 7, 8], [0, 1, 2, 3, 4, 5, 6, 7, 8, 9], [0, 1, 2, 3, 4, 5, 6, 7, 8, 9, 10], [0, 1, 2, 3, 4, 5, 6, 7, 8, 9, 10, 11], [0, 1, 2, 3, 4, 5, 6, 7, 8, 9, 10, 11], [0, 1, 2, 3, 4, 5, 6, 7, 8, 9, 10, 11, 12, 13], [0, 1, 2, 3, 4, 5, 6, 7, 8, 9, 10, 11, 12, 13, 14], [0, 1, 2, 3, 4, 5, 6, 7, 8, 9, 10, 11, 12, 13, 14, 15]]) (sts := [none, none, none, none, none]) (news := []) (sp := [.val 25 _, .val 26 _, .val 27 _, .val 28 (Wh (_ = true) _), .val 29 (Wh (_ = true) _), .val 30 _, .val 31 _, .val 32 (Wh (_ = true) _), .val 33 (Wh (_ = true) _), .val 34 (Wh (_ = true) _), .val 35 _, .val 36 _, .val 37 (Wh (_ = true) _), .val 38 (Wh (_ = true) _), .val 39 (Wh (_ = true) _), .val 40 _, .val 0 _]) [.o 16] follows_mixed hst (obs_cons (ob_v rfl rfl (r_move (has_g 1 rfl (by kernel_rfl) (by kernel_rfl)))) (obs_cons (ob_v rfl rfl (r_eql (has_v 0 rfl (by kernel_rfl) (by kernel_rfl)) has_num)) (obs_cons (ob_v rfl rfl (r_move (has_v 1 rfl (by kernel_rfl) (by kernel_rfl)))) (obs_cons (ob_gd rfl rfl rfl (has_v 2 rfl (by kernel_rfl) (by kernel_rfl)) (Nat.le_of_ble_eq_true (by kernel_rfl)) (fun hg => r_move (has_g 2 rfl (by kernel_rfl) (by kernel_rfl)))) (obs_cons (ob_gd rfl rfl rfl (has_v 2 rfl (by kernel_rfl) (by kernel_rfl)) (Nat.le_of_ble_eq_true (by kernel_rfl)) (fun hg => r_eql (has_wh (has_v 3 rfl (by kernel_rfl) (by kernel_rfl)) hg) has_num)) (obs_cons (ob_v rfl rfl (r_and (has_v 2 rfl (by kernel_rfl) (by kernel_rfl)) (has_v 4 rfl (by kernel_rfl) (by kernel_rfl)))) (obs_cons (ob_v rfl rfl (r_move (has_v 5 rfl (by kernel_rfl) (by kernel_rfl)))) (obs_cons (ob_gd rfl rfl rfl (has_v 6 rfl (by kernel_rfl) (by kernel_rfl)) (Nat.le_of_ble_eq_true (by kernel_rfl)) (fun hg => r_load (loc_at0 1 rfl (by kernel_rfl)) ty_26)) (obs_cons (ob_gd rfl rfl rfl (has_v 6 rfl (by kernel_rfl) (by kernel_rfl)) (Nat.le_of_ble_eq_true (by kernel_rfl)) (fun hg => r_call (xs := [.const (.int .i64 (2)), .const (.int .i64 (1))]) (whole11_c (by decide) (by decide) (by decide) (by decide) (by decide)) (.cons has_num (.cons has_num .nil)))) (obs_cons (ob_gd rfl rfl rfl (has_v 6 rfl (by kernel_rfl) (by kernel_rfl)) (Nat.le_of_ble_eq_true (by kernel_rfl)) (fun hg => r_call (xs := [.tmp 32, .tmp 33]) (sameFrac_c _ _) (.cons (has_wh (has_v 7 rfl (by kernel_rfl) (by kernel_rfl)) hg) (.cons (has_wh (has_v 8 rfl (by kernel_rfl) (by kernel_rfl)) hg) .nil)))) (obs_cons (ob_v rfl rfl (r_and (has_v 6 rfl (by kernel_rfl) (by kernel_rfl)) (has_v 9 rfl (by kernel_rfl) (by kernel_rfl)))) (obs_cons (ob_v rfl rfl (r_move (has_v 10 rfl (by kernel_rfl) (by kernel_rfl)))) (obs_cons (ob_gd rfl rfl rfl (has_v 11 rfl (by kernel_rfl) (by kernel_rfl)) (Nat.le_of_ble_eq_true (by kernel_rfl)) (fun hg => r_load (loc_at0 2 rfl (by kernel_rfl)) ty_26)) (obs_cons (ob_gd rfl rfl rfl (has_v 11 rfl (by kernel_rfl) (by kernel_rfl)) (Nat.le_of_ble_eq_true (by kernel_rfl)) (fun hg => r_call (xs := [.const (.int .i64 (-1)), .const (.int .i64 (1))]) (whole11_c (by decide) (by decide) (by decide) (by decide) (by decide)) (.cons has_num (.cons has_num .nil)))) (obs_cons (ob_gd rfl rfl rfl (has_v 11 rfl (by kernel_rfl) (by kernel_rfl)) (Nat.le_of_ble_eq_true (by kernel_rfl)) (fun hg => r_call (xs := [.tmp 37, .tmp 38]) (sameFrac_c _ _) (.cons (has_wh (has_v 12 rfl (by kernel_rfl) (by kernel_rfl)) hg) (.cons (has_wh (has_v 13 rfl (by kernel_rfl) (by kernel_rfl)) hg) .nil)))) (obs_cons (ob_v rfl rfl (r_and (has_v 11 rfl (by kernel_rfl) (by kernel_rfl)) (has_v 14 rfl (by kernel_rfl) (by kernel_rfl)))) (obs_cons (ob_v rfl rfl (r_assign (has_v 15 rfl (by kernel_rfl) (by kernel_rfl)))) (obs_nil)))))))))))))))))) (by kernel_rfl) (by kernel_rfl) (by kernel_rfl) (by kernel_rfl) (fun a w hst => ?_)
  have hst : St B w0 41 [(0, _)] [⟨1, 42, ptrH, _⟩, ⟨2, 26, ptrH, _⟩, ⟨3, 26, ptrH, _⟩, ⟨5, 26, ptrH, _⟩, ⟨6, 26, ptrH, _⟩] a w := hst
  refine thn_normal ?_
  refine wp_ret ?_
  refine ret_wk ?_ (ret_tmp rfl hst (List.mem_of_getElem? (i := 0) rfl))
  exact wk_eq (congrArg Bo (by kernel_rfl))

end Go.Proofs.Ytiokhlpbdabaeaa
