/- BenchJoins: for all benches the law of chapter 10 on two benches, one behind the other, answers true. No condition. -/
import Derived.Test.YtgjolcbehcjhcaaBenE
import Derived.Test.YtgjolcbehcjhcaaCavB
import Derived.Test.YtgjolcbehcjhcaaRows
import Derived.WalkKit
import Derived.ProofKit
import Derived.OpenShut
import Derived.ShutString
import Derived.ChangeOld
import Derived.Below
namespace Go.Proofs.Ytgjolcbehcjhcaa
open Go Go.RowKit
namespace LBenchJoins
theorem ty_28 : Ty Try.prog 28 16 true := ⟨by kernel_rfl, by kernel_rfl⟩
end LBenchJoins
open LBenchJoins
theorem as_two (m : MQ) : (asM 0 m = (rm0, 4)) ∨ (asM 0 m = (rmOf m, 0) ∧ Ls m) := by
  cases h : [m.a, m.b, m.c, m.d].any longQ with
  | true => exact .inl (as_any h)
  | false =>
    refine .inr ⟨as_none h, ?_⟩
    simp only [List.any_cons, List.any_nil, Bool.or_false, Bool.or_eq_false_iff] at h
    exact h
theorem ben_two {xs : List RE} (h : chF xs = 0) : (benF xs = (rm0, 4)) ∨ (benF xs = (rmOf (prodQ xs), 0) ∧ Ls (prodQ xs) ∧ okM (rmOf (prodQ xs)) = true) := by
  have e : benF xs = asM 0 (prodQ xs) := by rw [benF, if_pos h]
  rw [e]
  rcases as_two (prodQ xs) with h1 | ⟨h1, h2⟩
  · exact .inl h1
  · exact .inr ⟨h1, h2, okM_of h2.1 h2.2.1 h2.2.2.1 h2.2.2.2 (prod_det (ch_ok h).2)⟩
theorem e04 {xs : List RE} (h : chF xs = 0) : (((benF xs).2 == 0) || ((benF xs).2 == 4)) = true := by
  rcases ben_two h with h1 | ⟨h1, _⟩ <;> rw [h1] <;> rfl
theorem ch_app {xs ys : List RE} (h1 : chF xs = 0) (h2 : chF ys = 0) (h3 : xs.length + ys.length ≤ 4096) : chF (xs ++ ys) = 0 := ch_mk (by rw [List.length_append]; omega) (by rw [List.all_append, (ch_ok h1).2, (ch_ok h2).2]; rfl)
theorem bj_ref {a b c : Bool} (h1 : a = true) (h2 : b = true) (h3 : c = true) : ((a && b) && c) = true := by subst h1 h2 h3; rfl
theorem bj_in {xs ys : List RE} (h : ((!true) || (!fiF xs ys)) = false) : chF xs = 0 ∧ chF ys = 0 ∧ xs.length + ys.length ≤ 4096 := fi_ok (by simpa using h)
theorem bj_ok {xs : List RE} (h : chF xs = 0) (h2 : (benF xs).2 = 0) : benF xs = (rmOf (prodQ xs), 0) ∧ Ls (prodQ xs) ∧ okM (rmOf (prodQ xs)) = true := by
  rcases ben_two h with h1 | h1
  · rw [h1] at h2; exact absurd h2 (by decide)
  · exact h1
theorem bj_end {m q : RM} (h : m = q) : (((((((0 : Int) == 0) && decide (m = q)) && (((0 : Int)) == 0)) && ((0 : Int) == 0)) && ((0 : Int) == 0))) = true := by
  subst h
  simp
theorem chk_l {M : MQ} (h : okM (rmOf M) = true) : Cn Try.prog 13 [(RMA (rmOf M)).va] (In 0) := (rayCheck_c (rmOf M)).post (congrArg In (by rw [h]; rfl))

set_option maxRecDepth 100000 in
set_option maxHeartbeats 4000000 in
theorem joins_w (xs ys : List RE) : Cn Try.prog 5 [(SlA 70 [U32] (xs.map REA)).va, (SlA 70 [U32] (ys.map REA)).va] (Bo true) := by
  refine Cn.intro Try.func5 rfl (by kernel_rfl) (Nat.le_of_ble_eq_true (by kernel_rfl)) (fun B w0 a hst => ?_)
  have hst : St B w0 99 [(0, (SlA 70 [U32] (xs.map REA)).va), (1, (SlA 70 [U32] (ys.map REA)).va)] [] a w0.w := hst
  refine wp_seq ?_
  refine go_lin (sts := []) (news := []) (sp := [.val 4 _]) [.g 0, .g 1, .o 0] hst (obs_cons (ob_v rfl rfl (r_assign has_bo)) (obs_nil)) (by kernel_rfl) (by kernel_rfl) (by kernel_rfl) (fun a w hst => ?_)
  have hst : St B w0 99 [(0, _), (1, _), (4, _)] [] a w := hst
  refine thn_normal ?_
  refine wp_seq ?_
  refine wp_seq ?_
  refine go_lin (sts := []) (news := []) (sp := [.val 13 _, .val 14 _, .val 15 _, .val 16 (Wh (_ = false) _), .val 17 (Wh (_ = false) _), .val 18 (Wh (_ = false) _), .val 19 (Wh (_ = false) _), .val 20 _]) [.g 0, .g 1, .g 2, .o 7] hst (obs_cons (ob_v rfl rfl (r_call (xs := []) alive10_c .nil)) (obs_cons (ob_v rfl rfl (r_not (has_v 0 rfl (by kernel_rfl) (by kernel_rfl)))) (obs_cons (ob_v rfl rfl (r_move (has_v 1 rfl (by kernel_rfl) (by kernel_rfl)))) (obs_cons (ob_gd rfl rfl rfl (has_v 2 rfl (by kernel_rfl) (by kernel_rfl)) (Nat.le_of_ble_eq_true (by kernel_rfl)) (fun hg => r_move (has_g 0 rfl (by kernel_rfl) (by kernel_rfl)))) (obs_cons (ob_gd rfl rfl rfl (has_v 2 rfl (by kernel_rfl) (by kernel_rfl)) (Nat.le_of_ble_eq_true (by kernel_rfl)) (fun hg => r_move (has_g 1 rfl (by kernel_rfl) (by kernel_rfl)))) (obs_cons (ob_gd rfl rfl rfl (has_v 2 rfl (by kernel_rfl) (by kernel_rfl)) (Nat.le_of_ble_eq_true (by kernel_rfl)) (fun hg => r_call (xs := [.tmp 16, .tmp 17]) (fits10_c _ _) (.cons (has_wh (has_v 3 rfl (by kernel_rfl) (by kernel_rfl)) hg) (.cons (has_wh (has_v 4 rfl (by kernel_rfl) (by kernel_rfl)) hg) .nil)))) (obs_cons (ob_gd rfl rfl rfl (has_v 2 rfl (by kernel_rfl) (by kernel_rfl)) (Nat.le_of_ble_eq_true (by kernel_rfl)) (fun hg => r_not (has_wh (has_v 5 rfl (by kernel_rfl) (by kernel_rfl)) hg))) (obs_cons (ob_v rfl rfl (r_or (has_v 2 rfl (by kernel_rfl) (by kernel_rfl)) (has_v 6 rfl (by kernel_rfl) (by kernel_rfl)))) (obs_nil))))))))) (by kernel_rfl) (by kernel_rfl) (by kernel_rfl) (fun a w hst => ?_)
  have hst : St B w0 99 [(0, _), (1, _), (4, _), (20, _)] [] a w := hst
  refine thn_normal ?_
  refine cond_of hst (List.mem_of_getElem? (i := 3) rfl) (fun hb0 => ?_) (fun hb0 => ?_)
  · refine wp_seq ?_
    refine go_lin (sts := []) (news := []) (sp := [.val 21 _, .val 4 _]) [.g 0, .g 1, .o 1] hst (obs_cons (ob_v rfl rfl (r_call (xs := []) alive10_c .nil)) (obs_cons (ob_v rfl rfl (r_assign (has_v 0 rfl (by kernel_rfl) (by kernel_rfl)))) (obs_nil))) (by kernel_rfl) (by kernel_rfl) (by kernel_rfl) (fun a w hst => ?_)
    have hst : St B w0 99 [(0, _), (1, _), (4, _)] [] a w := hst
    refine thn_normal ?_
    refine wp_ret ?_
    refine thn_ret ?_
    refine ret_wk ?_ (ret_tmp rfl hst (List.mem_of_getElem? (i := 2) rfl))
    exact wk_id
  · have hin := bj_in hb0
    refine wp_skip ?_
    refine thn_normal ?_
    refine wp_seq ?_
    refine go_lin (sts := []) (news := [⟨5, 28, ptrH, some 5, _, some (6, _)⟩]) (sp := [.val 23 _, .val 24 _, .val 22 _, .val 25 _, .val 26 _, .alc 0, .sto 0, .val 6 _]) [.g 0, .g 1, .g 2, .o 7] hst (obs_cons (ob_v rfl rfl (r_move (has_g 0 rfl (by kernel_rfl) (by kernel_rfl)))) (obs_cons (ob_v rfl rfl (r_call (xs := [.tmp 23]) (benMatrix_c _) (.cons (has_v 0 rfl (by kernel_rfl) (by kernel_rfl)) .nil))) (obs_cons (ob_v rfl rfl (r_move (has_v 1 rfl (by kernel_rfl) (by kernel_rfl)))) (obs_cons (ob_v rfl rfl (r_ex0 (has_v 2 rfl (by kernel_rfl) (by kernel_rfl)))) (obs_cons (ob_v rfl rfl (r_ex1 (has_v 2 rfl (by kernel_rfl) (by kernel_rfl)))) (obs_cons (ob_alc rfl rfl rfl (Str.zero str_matrix)) (obs_cons (ob_sto rfl rfl rfl (has_v 3 rfl (by kernel_rfl) (by kernel_rfl)) ty_28 (Eq.trans (b := 16) rfl rfl)) (obs_cons (ob_v rfl rfl (r_assign (has_v 4 rfl (by kernel_rfl) (by kernel_rfl)))) (obs_nil))))))))) (by kernel_rfl) (by kernel_rfl) (by kernel_rfl) (fun a w hst => ?_)
    have hst : St B w0 99 [(0, _), (1, _), (4, _), (6, _)] [⟨5, 28, ptrH, _⟩] a w := hst
    refine thn_normal ?_
    refine wp_seq ?_
    refine go_lin (sts := [none]) (news := [⟨7, 28, ptrH, some 5, _, some (6, _)⟩]) (sp := [.val 28 _, .val 29 _, .val 27 _, .val 30 _, .val 31 _, .alc 1, .sto 1, .val 8 _]) [.g 0, .g 1, .g 2, .g 3, .o 7] hst (obs_cons (ob_v rfl rfl (r_move (has_g 1 rfl (by kernel_rfl) (by kernel_rfl)))) (obs_cons (ob_v rfl rfl (r_call (xs := [.tmp 28]) (benMatrix_c _) (.cons (has_v 0 rfl (by kernel_rfl) (by kernel_rfl)) .nil))) (obs_cons (ob_v rfl rfl (r_move (has_v 1 rfl (by kernel_rfl) (by kernel_rfl)))) (obs_cons (ob_v rfl rfl (r_ex0 (has_v 2 rfl (by kernel_rfl) (by kernel_rfl)))) (obs_cons (ob_v rfl rfl (r_ex1 (has_v 2 rfl (by kernel_rfl) (by kernel_rfl)))) (obs_cons (ob_alc rfl rfl rfl (Str.zero str_matrix)) (obs_cons (ob_sto rfl rfl rfl (has_v 3 rfl (by kernel_rfl) (by kernel_rfl)) ty_28 (Eq.trans (b := 16) rfl rfl)) (obs_cons (ob_v rfl rfl (r_assign (has_v 4 rfl (by kernel_rfl) (by kernel_rfl)))) (obs_nil))))))))) (by kernel_rfl) (by kernel_rfl) (by kernel_rfl) (fun a w hst => ?_)
    have hst : St B w0 99 [(0, _), (1, _), (4, _), (6, _), (8, _)] [⟨5, 28, ptrH, _⟩, ⟨7, 28, ptrH, _⟩] a w := hst
    refine thn_normal ?_
    refine wp_seq ?_
    refine go_lin (sts := [none, none]) (news := [⟨9, 28, ptrH, some 7, _, some (8, _)⟩]) (sp := [.val 33 _, .val 34 _, .val 35 _, .val 36 _, .val 32 _, .val 37 _, .val 38 _, .alc 2, .sto 2, .val 10 _]) [.g 2, .g 3, .g 4, .o 9] hst (obs_cons (ob_v rfl rfl (r_move (has_g 0 rfl (by kernel_rfl) (by kernel_rfl)))) (obs_cons (ob_v rfl rfl (r_move (has_g 1 rfl (by kernel_rfl) (by kernel_rfl)))) (obs_cons (ob_v rfl rfl (r_call (xs := [.tmp 33, .tmp 34]) (both10_c _ _ hin.2.2) (.cons (has_v 0 rfl (by kernel_rfl) (by kernel_rfl)) (.cons (has_v 1 rfl (by kernel_rfl) (by kernel_rfl)) .nil)))) (obs_cons (ob_v rfl rfl (r_call (xs := [.tmp 35]) (benMatrix_c _) (.cons (has_v 2 rfl (by kernel_rfl) (by kernel_rfl)) .nil))) (obs_cons (ob_v rfl rfl (r_move (has_v 3 rfl (by kernel_rfl) (by kernel_rfl)))) (obs_cons (ob_v rfl rfl (r_ex0 (has_v 4 rfl (by kernel_rfl) (by kernel_rfl)))) (obs_cons (ob_v rfl rfl (r_ex1 (has_v 4 rfl (by kernel_rfl) (by kernel_rfl)))) (obs_cons (ob_alc rfl rfl rfl (Str.zero str_matrix)) (obs_cons (ob_sto rfl rfl rfl (has_v 5 rfl (by kernel_rfl) (by kernel_rfl)) ty_28 (Eq.trans (b := 16) rfl rfl)) (obs_cons (ob_v rfl rfl (r_assign (has_v 6 rfl (by kernel_rfl) (by kernel_rfl)))) (obs_nil))))))))))) (by kernel_rfl) (by kernel_rfl) (by kernel_rfl) (fun a w hst => ?_)
    have hst : St B w0 99 [(4, _), (6, _), (8, _), (10, _)] [⟨5, 28, ptrH, _⟩, ⟨7, 28, ptrH, _⟩, ⟨9, 28, ptrH, _⟩] a w := hst
    refine thn_normal ?_
    refine wp_seq ?_
    refine wp_seq ?_
    refine go_lin (sts := [none, none, none]) (news := []) (sp := [.val 39 _, .val 40 _, .val 41 _, .val 42 (Wh (_ = false) _), .val 43 (Wh (_ = false) _), .val 44 _, .val 45 _, .val 46 (Wh (_ = false) _), .val 47 (Wh (_ = false) _), .val 48 _]) [.g 0, .g 1, .g 2, .g 3, .o 9] hst (obs_cons (ob_v rfl rfl (r_move (has_g 1 rfl (by kernel_rfl) (by kernel_rfl)))) (obs_cons (ob_v rfl rfl (r_neq (has_v 0 rfl (by kernel_rfl) (by kernel_rfl)) has_num)) (obs_cons (ob_v rfl rfl (r_move (has_v 1 rfl (by kernel_rfl) (by kernel_rfl)))) (obs_cons (ob_gd rfl rfl rfl (has_v 2 rfl (by kernel_rfl) (by kernel_rfl)) (Nat.le_of_ble_eq_true (by kernel_rfl)) (fun hg => r_move (has_g 2 rfl (by kernel_rfl) (by kernel_rfl)))) (obs_cons (ob_gd rfl rfl rfl (has_v 2 rfl (by kernel_rfl) (by kernel_rfl)) (Nat.le_of_ble_eq_true (by kernel_rfl)) (fun hg => r_neq (has_wh (has_v 3 rfl (by kernel_rfl) (by kernel_rfl)) hg) has_num)) (obs_cons (ob_v rfl rfl (r_or (has_v 2 rfl (by kernel_rfl) (by kernel_rfl)) (has_v 4 rfl (by kernel_rfl) (by kernel_rfl)))) (obs_cons (ob_v rfl rfl (r_move (has_v 5 rfl (by kernel_rfl) (by kernel_rfl)))) (obs_cons (ob_gd rfl rfl rfl (has_v 6 rfl (by kernel_rfl) (by kernel_rfl)) (Nat.le_of_ble_eq_true (by kernel_rfl)) (fun hg => r_move (has_g 3 rfl (by kernel_rfl) (by kernel_rfl)))) (obs_cons (ob_gd rfl rfl rfl (has_v 6 rfl (by kernel_rfl) (by kernel_rfl)) (Nat.le_of_ble_eq_true (by kernel_rfl)) (fun hg => r_neq (has_wh (has_v 7 rfl (by kernel_rfl) (by kernel_rfl)) hg) has_num)) (obs_cons (ob_v rfl rfl (r_or (has_v 6 rfl (by kernel_rfl) (by kernel_rfl)) (has_v 8 rfl (by kernel_rfl) (by kernel_rfl)))) (obs_nil))))))))))) (by kernel_rfl) (by kernel_rfl) (by kernel_rfl) (fun a w hst => ?_)
    have hst : St B w0 99 [(4, _), (6, _), (8, _), (10, _), (48, _)] [⟨5, 28, ptrH, _⟩, ⟨7, 28, ptrH, _⟩, ⟨9, 28, ptrH, _⟩] a w := hst
    refine thn_normal ?_
    refine cond_of hst (List.mem_of_getElem? (i := 4) rfl) (fun hb1 => ?_) (fun hb1 => ?_)
    · have hr := bj_ref (e04 hin.1) (e04 hin.2.1) (e04 (ch_app hin.1 hin.2.1 hin.2.2))
      refine wp_seq ?_
      refine go_lin (sts := [none, none, none]) (news := []) (sp := [.val 49 _, .val 50 _, .val 51 _, .val 52 (Wh (_ = false) _), .val 53 (Wh (_ = false) _), .val 54 _, .val 55 _, .val 56 (Wh (_ = true) _), .val 57 (Wh (_ = true) _), .val 58 (Wh (_ = true) _), .val 59 (Wh ((_ = true) ∧ _ = false) _), .val 60 (Wh ((_ = true) ∧ _ = false) _), .val 61 (Wh (_ = true) _), .val 62 _, .val 63 _, .val 64 (Wh (_ = true) _), .val 65 (Wh (_ = true) _), .val 66 (Wh (_ = true) _), .val 67 (Wh ((_ = true) ∧ _ = false) _), .val 68 (Wh ((_ = true) ∧ _ = false) _), .val 69 (Wh (_ = true) _), .val 70 _, .val 4 _]) [.o 22] hst (obs_cons (ob_v rfl rfl (r_move (has_g 1 rfl (by kernel_rfl) (by kernel_rfl)))) (obs_cons (ob_v rfl rfl (r_eql (has_v 0 rfl (by kernel_rfl) (by kernel_rfl)) has_num)) (obs_cons (ob_v rfl rfl (r_move (has_v 1 rfl (by kernel_rfl) (by kernel_rfl)))) (obs_cons (ob_gd rfl rfl rfl (has_v 2 rfl (by kernel_rfl) (by kernel_rfl)) (Nat.le_of_ble_eq_true (by kernel_rfl)) (fun hg => r_move (has_g 1 rfl (by kernel_rfl) (by kernel_rfl)))) (obs_cons (ob_gd rfl rfl rfl (has_v 2 rfl (by kernel_rfl) (by kernel_rfl)) (Nat.le_of_ble_eq_true (by kernel_rfl)) (fun hg => r_eql (has_wh (has_v 3 rfl (by kernel_rfl) (by kernel_rfl)) hg) has_num)) (obs_cons (ob_v rfl rfl (r_or (has_v 2 rfl (by kernel_rfl) (by kernel_rfl)) (has_v 4 rfl (by kernel_rfl) (by kernel_rfl)))) (obs_cons (ob_v rfl rfl (r_move (has_v 5 rfl (by kernel_rfl) (by kernel_rfl)))) (obs_cons (ob_gd rfl rfl rfl (has_v 6 rfl (by kernel_rfl) (by kernel_rfl)) (Nat.le_of_ble_eq_true (by kernel_rfl)) (fun hg => r_move (has_g 2 rfl (by kernel_rfl) (by kernel_rfl)))) (obs_cons (ob_gd rfl rfl rfl (has_v 6 rfl (by kernel_rfl) (by kernel_rfl)) (Nat.le_of_ble_eq_true (by kernel_rfl)) (fun hg => r_eql (has_wh (has_v 7 rfl (by kernel_rfl) (by kernel_rfl)) hg) has_num)) (obs_cons (ob_gd rfl rfl rfl (has_v 6 rfl (by kernel_rfl) (by kernel_rfl)) (Nat.le_of_ble_eq_true (by kernel_rfl)) (fun hg => r_move (has_wh (has_v 8 rfl (by kernel_rfl) (by kernel_rfl)) hg))) (obs_cons (ob_gd2 rfl rfl rfl (has_v 9 rfl (by kernel_rfl) (by kernel_rfl)) (Nat.le_of_ble_eq_true (by kernel_rfl)) (fun hg => r_move (has_g 2 rfl (by kernel_rfl) (by kernel_rfl)))) (obs_cons (ob_gd2 rfl rfl rfl (has_v 9 rfl (by kernel_rfl) (by kernel_rfl)) (Nat.le_of_ble_eq_true (by kernel_rfl)) (fun hg => r_eql (has_wh (has_v 10 rfl (by kernel_rfl) (by kernel_rfl)) hg) has_num)) (obs_cons (ob_gd rfl rfl rfl (has_v 6 rfl (by kernel_rfl) (by kernel_rfl)) (Nat.le_of_ble_eq_true (by kernel_rfl)) (fun hg => r_or (has_wh (has_v 9 rfl (by kernel_rfl) (by kernel_rfl)) hg) (has_wh2 (has_v 11 rfl (by kernel_rfl) (by kernel_rfl)) hg))) (obs_cons (ob_v rfl rfl (r_and (has_v 6 rfl (by kernel_rfl) (by kernel_rfl)) (has_v 12 rfl (by kernel_rfl) (by kernel_rfl)))) (obs_cons (ob_v rfl rfl (r_move (has_v 13 rfl (by kernel_rfl) (by kernel_rfl)))) (obs_cons (ob_gd rfl rfl rfl (has_v 14 rfl (by kernel_rfl) (by kernel_rfl)) (Nat.le_of_ble_eq_true (by kernel_rfl)) (fun hg => r_move (has_g 3 rfl (by kernel_rfl) (by kernel_rfl)))) (obs_cons (ob_gd rfl rfl rfl (has_v 14 rfl (by kernel_rfl) (by kernel_rfl)) (Nat.le_of_ble_eq_true (by kernel_rfl)) (fun hg => r_eql (has_wh (has_v 15 rfl (by kernel_rfl) (by kernel_rfl)) hg) has_num)) (obs_cons (ob_gd rfl rfl rfl (has_v 14 rfl (by kernel_rfl) (by kernel_rfl)) (Nat.le_of_ble_eq_true (by kernel_rfl)) (fun hg => r_move (has_wh (has_v 16 rfl (by kernel_rfl) (by kernel_rfl)) hg))) (obs_cons (ob_gd2 rfl rfl rfl (has_v 17 rfl (by kernel_rfl) (by kernel_rfl)) (Nat.le_of_ble_eq_true (by kernel_rfl)) (fun hg => r_move (has_g 3 rfl (by kernel_rfl) (by kernel_rfl)))) (obs_cons (ob_gd2 rfl rfl rfl (has_v 17 rfl (by kernel_rfl) (by kernel_rfl)) (Nat.le_of_ble_eq_true (by kernel_rfl)) (fun hg => r_eql (has_wh (has_v 18 rfl (by kernel_rfl) (by kernel_rfl)) hg) has_num)) (obs_cons (ob_gd rfl rfl rfl (has_v 14 rfl (by kernel_rfl) (by kernel_rfl)) (Nat.le_of_ble_eq_true (by kernel_rfl)) (fun hg => r_or (has_wh (has_v 17 rfl (by kernel_rfl) (by kernel_rfl)) hg) (has_wh2 (has_v 19 rfl (by kernel_rfl) (by kernel_rfl)) hg))) (obs_cons (ob_v rfl rfl (r_and (has_v 14 rfl (by kernel_rfl) (by kernel_rfl)) (has_v 20 rfl (by kernel_rfl) (by kernel_rfl)))) (obs_cons (ob_v rfl rfl (r_assign (has_v 21 rfl (by kernel_rfl) (by kernel_rfl)))) (obs_nil)))))))))))))))))))))))) (by kernel_rfl) (by kernel_rfl) (by kernel_rfl) (fun a w hst => ?_)
      have hst : St B w0 99 [(4, _)] [⟨5, 28, ptrH, _⟩, ⟨7, 28, ptrH, _⟩, ⟨9, 28, ptrH, _⟩] a w := hst
      refine thn_normal ?_
      refine wp_ret ?_
      refine thn_ret ?_
      refine ret_wk ?_ (ret_tmp rfl hst (List.mem_of_getElem? (i := 0) rfl))
      exact wk_eq (congrArg Bo hr)
    · obtain ⟨⟨z1, z2⟩, z3⟩ : ((benF xs).2 = 0 ∧ (benF ys).2 = 0) ∧ (benF (xs ++ ys)).2 = 0 := by simpa using hb1
      obtain ⟨e1, l1, k1⟩ := bj_ok hin.1 z1
      obtain ⟨e2, l2, k2⟩ := bj_ok hin.2.1 z2
      obtain ⟨e3, l3, k3⟩ := bj_ok (ch_app hin.1 hin.2.1 hin.2.2) z3
      rw [prod_app] at l3 k3 e3
      have hst := St.cvA (A' := RMA (rmOf (prodQ xs))) hst 0 rfl (congrArg (fun r : RM × Int => RMA r.1) e1)
      have hst := St.cvA (A' := RMA (rmOf (prodQ ys))) hst 1 rfl (congrArg (fun r : RM × Int => RMA r.1) e2)
      have hst := St.cvA (A' := RMA (rmOf (mulQ (prodQ ys) (prodQ xs)))) hst 2 rfl (congrArg (fun r : RM × Int => RMA r.1) e3)
      refine wp_skip ?_
      refine thn_normal ?_
      refine wp_seq ?_
      refine go_lin (sts := [none, none, none]) (news := [⟨11, 28, ptrH, some 6, _, some (7, _)⟩]) (sp := [.val 72 _, .val 73 _, .val 74 _, .val 71 _, .val 75 _, .val 76 _, .alc 3, .sto 3, .val 12 _]) [.g 0, .o 8] hst (obs_cons (ob_v rfl rfl (r_load (loc_at0 1 rfl (by kernel_rfl)) ty_28)) (obs_cons (ob_v rfl rfl (r_load (loc_at0 0 rfl (by kernel_rfl)) ty_28)) (obs_cons (ob_v rfl rfl (r_call (xs := [.tmp 72, .tmp 73]) (mulM_l k2 k1 l3) (.cons (has_v 0 rfl (by kernel_rfl) (by kernel_rfl)) (.cons (has_v 1 rfl (by kernel_rfl) (by kernel_rfl)) .nil)))) (obs_cons (ob_v rfl rfl (r_move (has_v 2 rfl (by kernel_rfl) (by kernel_rfl)))) (obs_cons (ob_v rfl rfl (r_ex0 (has_v 3 rfl (by kernel_rfl) (by kernel_rfl)))) (obs_cons (ob_v rfl rfl (r_ex1 (has_v 3 rfl (by kernel_rfl) (by kernel_rfl)))) (obs_cons (ob_alc rfl rfl rfl (Str.zero str_matrix)) (obs_cons (ob_sto rfl rfl rfl (has_v 4 rfl (by kernel_rfl) (by kernel_rfl)) ty_28 (Eq.trans (b := 16) rfl rfl)) (obs_cons (ob_v rfl rfl (r_assign (has_v 5 rfl (by kernel_rfl) (by kernel_rfl)))) (obs_nil)))))))))) (by kernel_rfl) (by kernel_rfl) (by kernel_rfl) (fun a w hst => ?_)
      have hst : St B w0 99 [(4, _), (12, _)] [⟨5, 28, ptrH, _⟩, ⟨7, 28, ptrH, _⟩, ⟨9, 28, ptrH, _⟩, ⟨11, 28, ptrH, _⟩] a w := hst
      refine thn_normal ?_
      refine wp_seq ?_
      refine go_lin (sts := [none, none, none, none]) (news := []) (sp := [.val 77 _, .val 78 _, .val 79 _, .val 80 (Wh (_ = true) _), .val 81 (Wh (_ = true) _), .val 82 (Wh (_ = true) _), .val 83 _, .val 84 _, .val 85 (Wh (_ = true) _), .val 86 (Wh (_ = true) _), .val 87 (Wh (_ = true) _), .val 88 _, .val 89 _, .val 90 (Wh (_ = true) _), .val 91 (Wh (_ = true) _), .val 92 (Wh (_ = true) _), .val 93 _, .val 94 _, .val 95 (Wh (_ = true) _), .val 96 (Wh (_ = true) _), .val 97 (Wh (_ = true) _), .val 98 _, .val 4 _]) [.o 22] hst (obs_cons (ob_v rfl rfl (r_move (has_g 1 rfl (by kernel_rfl) (by kernel_rfl)))) (obs_cons (ob_v rfl rfl (r_eql (has_v 0 rfl (by kernel_rfl) (by kernel_rfl)) has_num)) (obs_cons (ob_v rfl rfl (r_move (has_v 1 rfl (by kernel_rfl) (by kernel_rfl)))) (obs_cons (ob_gd rfl rfl rfl (has_v 2 rfl (by kernel_rfl) (by kernel_rfl)) (Nat.le_of_ble_eq_true (by kernel_rfl)) (fun hg => r_load (loc_at0 3 rfl (by kernel_rfl)) ty_28)) (obs_cons (ob_gd rfl rfl rfl (has_v 2 rfl (by kernel_rfl) (by kernel_rfl)) (Nat.le_of_ble_eq_true (by kernel_rfl)) (fun hg => r_load (loc_at0 2 rfl (by kernel_rfl)) ty_28)) (obs_cons (ob_gd rfl rfl rfl (has_v 2 rfl (by kernel_rfl) (by kernel_rfl)) (Nat.le_of_ble_eq_true (by kernel_rfl)) (fun hg => r_call (xs := [.tmp 80, .tmp 81]) (sameMatrix_c _ _) (.cons (has_wh (has_v 3 rfl (by kernel_rfl) (by kernel_rfl)) hg) (.cons (has_wh (has_v 4 rfl (by kernel_rfl) (by kernel_rfl)) hg) .nil)))) (obs_cons (ob_v rfl rfl (r_and (has_v 2 rfl (by kernel_rfl) (by kernel_rfl)) (has_v 5 rfl (by kernel_rfl) (by kernel_rfl)))) (obs_cons (ob_v rfl rfl (r_move (has_v 6 rfl (by kernel_rfl) (by kernel_rfl)))) (obs_cons (ob_gd rfl rfl rfl (has_v 7 rfl (by kernel_rfl) (by kernel_rfl)) (Nat.le_of_ble_eq_true (by kernel_rfl)) (fun hg => r_load (loc_at0 0 rfl (by kernel_rfl)) ty_28)) (obs_cons (ob_gd rfl rfl rfl (has_v 7 rfl (by kernel_rfl) (by kernel_rfl)) (Nat.le_of_ble_eq_true (by kernel_rfl)) (fun hg => r_call (xs := [.tmp 85]) (chk_l k1) (.cons (has_wh (has_v 8 rfl (by kernel_rfl) (by kernel_rfl)) hg) .nil))) (obs_cons (ob_gd rfl rfl rfl (has_v 7 rfl (by kernel_rfl) (by kernel_rfl)) (Nat.le_of_ble_eq_true (by kernel_rfl)) (fun hg => r_eql (has_wh (has_v 9 rfl (by kernel_rfl) (by kernel_rfl)) hg) has_num)) (obs_cons (ob_v rfl rfl (r_and (has_v 7 rfl (by kernel_rfl) (by kernel_rfl)) (has_v 10 rfl (by kernel_rfl) (by kernel_rfl)))) (obs_cons (ob_v rfl rfl (r_move (has_v 11 rfl (by kernel_rfl) (by kernel_rfl)))) (obs_cons (ob_gd rfl rfl rfl (has_v 12 rfl (by kernel_rfl) (by kernel_rfl)) (Nat.le_of_ble_eq_true (by kernel_rfl)) (fun hg => r_load (loc_at0 1 rfl (by kernel_rfl)) ty_28)) (obs_cons (ob_gd rfl rfl rfl (has_v 12 rfl (by kernel_rfl) (by kernel_rfl)) (Nat.le_of_ble_eq_true (by kernel_rfl)) (fun hg => r_call (xs := [.tmp 90]) (chk_l k2) (.cons (has_wh (has_v 13 rfl (by kernel_rfl) (by kernel_rfl)) hg) .nil))) (obs_cons (ob_gd rfl rfl rfl (has_v 12 rfl (by kernel_rfl) (by kernel_rfl)) (Nat.le_of_ble_eq_true (by kernel_rfl)) (fun hg => r_eql (has_wh (has_v 14 rfl (by kernel_rfl) (by kernel_rfl)) hg) has_num)) (obs_cons (ob_v rfl rfl (r_and (has_v 12 rfl (by kernel_rfl) (by kernel_rfl)) (has_v 15 rfl (by kernel_rfl) (by kernel_rfl)))) (obs_cons (ob_v rfl rfl (r_move (has_v 16 rfl (by kernel_rfl) (by kernel_rfl)))) (obs_cons (ob_gd rfl rfl rfl (has_v 17 rfl (by kernel_rfl) (by kernel_rfl)) (Nat.le_of_ble_eq_true (by kernel_rfl)) (fun hg => r_load (loc_at0 2 rfl (by kernel_rfl)) ty_28)) (obs_cons (ob_gd rfl rfl rfl (has_v 17 rfl (by kernel_rfl) (by kernel_rfl)) (Nat.le_of_ble_eq_true (by kernel_rfl)) (fun hg => r_call (xs := [.tmp 95]) (chk_l k3) (.cons (has_wh (has_v 18 rfl (by kernel_rfl) (by kernel_rfl)) hg) .nil))) (obs_cons (ob_gd rfl rfl rfl (has_v 17 rfl (by kernel_rfl) (by kernel_rfl)) (Nat.le_of_ble_eq_true (by kernel_rfl)) (fun hg => r_eql (has_wh (has_v 19 rfl (by kernel_rfl) (by kernel_rfl)) hg) has_num)) (obs_cons (ob_v rfl rfl (r_and (has_v 17 rfl (by kernel_rfl) (by kernel_rfl)) (has_v 20 rfl (by kernel_rfl) (by kernel_rfl)))) (obs_cons (ob_v rfl rfl (r_assign (has_v 21 rfl (by kernel_rfl) (by kernel_rfl)))) (obs_nil)))))))))))))))))))))))) (by kernel_rfl) (by kernel_rfl) (by kernel_rfl) (fun a w hst => ?_)
      have hst : St B w0 99 [(4, _)] [⟨5, 28, ptrH, _⟩, ⟨7, 28, ptrH, _⟩, ⟨9, 28, ptrH, _⟩, ⟨11, 28, ptrH, _⟩] a w := hst
      refine thn_normal ?_
      refine wp_ret ?_
      refine ret_wk ?_ (ret_tmp rfl hst (List.mem_of_getElem? (i := 0) rfl))
      exact wk_eq (congrArg Bo (bj_end rfl))

open Go.ChangeShapes Go.WideShapes Go.ChangeAt
open Go.ChangeMaps (open_string shut_string)
set_option linter.unusedVariables false
theorem own : ownKnob Try.prog.godebug = none := by kernel_rfl
theorem laidOut : laidOutB Try.prog = true := by kernel_rfl
set_option maxRecDepth 100000 in
theorem lifted (os : Os) (started : os.Started) (H : Type) (enc : TypeId × Value → H) :
    ReturnsInHanded {} Try.checked os 5 .any (Rows.benchJoinsSpec.pre6 enc Try.prog Try.f5 Rows.benchJoinsRow.domain false) (Rows.benchJoinsSpec.post enc Try.prog Try.f5 false true false false) := by
  refine returnsInHanded_of_change (C := Try.checked) own started (by kernel_rfl) Try.func5
    (ChangeSpec.witness6 (enc := enc) (C := Try.checked) false ⟨#[], #[.slice none 0 0, .slice none 0 0], []⟩ 8 (by kernel_rfl) (by kernel_rfl) (by kernel_rfl) (by kernel_rfl)) ?_
  intro W base args ds gs before hval0 hW hcnd _
  have hval : ∀ (j : Nat) t v, Try.f5.params[j]? = some t → args[j]? = some v → Value.okWide Try.prog W .any base t v := hval0
  have hW' := hW
  obtain ⟨p, q, hA0, hV, rfl, hfz, hnd⟩ := hW
  have hA : DataW.TrodAll enc Try.prog W 0 (fun _ => true) true Try.f5.params.toList args.toList ds p := hA0
  rw [Try.params5] at hA hval
  obtain ⟨v0, vs0, d0, ds0, p0, q0, hargs, rfl, rfl, h0, r0⟩ := trodAll_cons hA
  obtain ⟨v1, vs1, d1, ds1, p1, q1, rfl, rfl, rfl, h1, r1⟩ := trodAll_cons r0
  obtain ⟨rfl, rfl, rfl⟩ := trodAll_nil r1
  obtain rfl : args = #[v0, v1] := by cases args; simp_all
  obtain ⟨rfl, rfl⟩ := trodVars_none hV
  have k0 := h0
  have lt0 : ∀ x ∈ p0, x.block < W.heap.size := by obtain ⟨m, hm⟩ := k0; exact DataW.trod_lt m _ _ _ hm
  have k1 := h1
  have lt1 : ∀ x ∈ p1, x.block < W.heap.size := by obtain ⟨m, hm⟩ := k1; exact DataW.trod_lt m _ _ _ hm
  obtain ⟨x0, a0⟩ := arg_sl (A := REA) (m := 9) (D := [175]) Try.underlying53 (by kernel_rfl) (by decide) (fun _ => nd_self (by kernel_rfl)) rd_re (hval 0 53 v0 rfl rfl) h0
  obtain ⟨x1, a1⟩ := arg_sl (A := REA) (m := 9) (D := [175]) Try.underlying53 (by kernel_rfl) (by decide) (fun _ => nd_self (by kernel_rfl)) rd_re (hval 1 53 v1 rfl rfl) h1
  clear hA0 hval0
  refine ((joins_w x0 x1).2 W.heap.size W [v0, v1] (Nat.le_refl _) (.cons a0 (.cons a1 .nil))).mono fun e W' ⟨v, he, hv, bel⟩ => ?_
  have hv' := bo_val hv
  subst hv' he
  exact ⟨_, rfl, _, _, _, [], _, [], hW', trodAll_mk1 (shut_bool Try.underlying4 _), (trodAll_cons_mk (Below.trod laidOut (by kernel_rfl) (of_decide_eq_true (by kernel_rfl)) k0 bel lt0) (trodAll_cons_mk (Below.trod laidOut (by kernel_rfl) (of_decide_eq_true (by kernel_rfl)) k1 bel lt1) trodAll_mk0)), rfl, bel.frame _, fun h => by cases h⟩
theorem over : Rows.benchJoinsRow.holds Try.pinned (OpenSpec.ofChange Rows.benchJoinsSpec) :=
  OpenClaim.holds_of_wide 5 Try.f5 rfl rfl rfl rfl rfl rfl rfl ⟨rfl, rfl, rfl, rfl, rfl⟩ rfl rfl rfl rfl rfl (by kernel_rfl) Try.func5 (by kernel_rfl)
    (of_decide_eq_true (by kernel_rfl)) (by unfold Func.isWrapper; rw [if_neg (of_decide_eq_false (by kernel_rfl))]; exact ⟨rfl, rfl⟩)
    (fun os started H enc _ => lifted os started H enc)
theorem provedBenchJoins : Rows.BenchJoinsSaid := over
#print axioms provedBenchJoins

end Go.Proofs.Ytgjolcbehcjhcaa
