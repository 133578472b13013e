/- ImageLens: for every matrix the law of chapter 11 that between its planes a bench is one lens answers true. No condition. -/
import Derived.Test.YtiokhlpbdabaeaaRayG
import Derived.Test.YtiokhlpbdabaeaaRows
import Derived.WalkKit
import Derived.ProofKit
import Derived.OpenShut
import Derived.ShutString
import Derived.ChangeOld
import Derived.Below
namespace Go.Proofs.Ytiokhlpbdabaeaa
open Go Go.RowKit
namespace LImageLens
theorem sl_91 : Sl Try.prog 91 3 1 := ⟨by kernel_rfl, by kernel_rfl⟩
theorem ty_26 : Ty Try.prog 26 4 true := ⟨by kernel_rfl, by kernel_rfl⟩
theorem ty_42 : Ty Try.prog 42 16 true := ⟨by kernel_rfl, by kernel_rfl⟩
end LImageLens
open LImageLens
theorem bo_and {c : Bool} (h : c = true) : Wk (Bo (c && true)) (Bo true) := by subst h; exact wk_id
theorem wi_ok {m : RM} {t s : RF} (h : (!(wiF m t s).2) = false) : (mulM m (spcM t)).2 = 0 ∧ (mulM (spcM s) (mulM m (spcM t)).1).2 = 0 ∧ (wiF m t s).1 = (mulM (spcM s) (mulM m (spcM t)).1).1 := by
  rw [Bool.not_eq_false'] at h
  unfold wiF at h ⊢
  cases h1 : (mulM m (spcM t)).2 != 0 with
  | true => rw [h1] at h; simp at h
  | false =>
    rw [h1, if_neg (by decide)] at h
    rw [if_neg (by decide)]
    exact ⟨by simpa using h1, by simpa using h, rfl⟩
theorem ansF_cases (q : Rat) : ((ansF q).2 = 0 ∧ (ansF q).1 = rfOf q ∧ longQ q = false) ∨ (ansF q).2 = 4 := by
  unfold ansF
  cases hl : longQ q with
  | true => exact .inr rfl
  | false => exact .inl ⟨rfl, rfl, rfl⟩
theorem twF_cases (x y : Rat) : ((twF x y).2.2 = 0 ∧ (twF x y) = (rfOf x, rfOf y, 0) ∧ longQ x = false ∧ longQ y = false) ∨ (twF x y).2.2 = 4 := by
  unfold twF
  cases hl : [x, y].any longQ with
  | true => exact .inr rfl
  | false =>
    have h := hl
    rw [two_long, Bool.or_eq_false_iff] at h
    exact .inl ⟨rfl, rfl, h.1, h.2⟩
theorem lens_no {m : RM} (h1 : (((plF m).2.2 != 0) || ((powF m).2 != 0)) = true) (h2 : (((((powF m).2 == 0) && ((plF m).2.2 != 3)) && ((plF m).2.2 != 4)) || (((powF m).2 == 0) && (((plF m).2.2 == 3) != (sgF (powF m).1 == 0)))) = true) : False := by
  unfold plF powF at h1 h2
  cases hm : okM m with
  | false => rw [hm] at h2; simp at h2
  | true =>
    rw [hm, if_pos rfl, if_pos rfl] at h1 h2
    rcases ansF_cases (-(toM m).c) with ⟨e1, e2, e3⟩ | e1
    · rw [e1] at h1
      by_cases hc : (toM m).c = 0
      · rw [e1, e2, if_pos hc, sgF_of e3, sgn0] at h2
        have : -(toM m).c = 0 := by grind
        rw [decide_eq_true this] at h2
        exact absurd h2 (by decide)
      · rw [if_neg hc] at h1
        rw [e1, e2, if_neg hc, sgF_of e3, sgn0, decide_eq_false (neg_nz hc)] at h2
        rcases twF_cases (((toM m).d - 1) / (toM m).c) ((1 - (toM m).a) / (toM m).c) with ⟨e4, _⟩ | e4
        · rw [e4] at h1
          exact absurd h1 (by decide)
        · rw [e4] at h2
          exact absurd h2 (by decide)
    · rw [e1] at h2
      simp at h2
theorem pl_ok {m : RM} (h1 : (((plF m).2.2 != 0) || ((powF m).2 != 0)) = false) : okM m = true ∧ (toM m).c ≠ 0 ∧ longQ (-(toM m).c) = false ∧ longQ (((toM m).d - 1) / (toM m).c) = false ∧ powF m = (rfOf (-(toM m).c), 0) ∧ plF m = (rfOf (((toM m).d - 1) / (toM m).c), rfOf ((1 - (toM m).a) / (toM m).c), 0) := by
  rw [Bool.or_eq_false_iff] at h1
  obtain ⟨h1, h2⟩ := h1
  unfold plF at h1 ⊢
  unfold powF at h2 ⊢
  cases hm : okM m with
  | false => rw [hm] at h1; simp at h1
  | true =>
    rw [hm, if_pos rfl] at h1 h2
    rw [if_pos rfl, if_pos rfl]
    by_cases hc : (toM m).c = 0
    · rw [if_pos hc] at h1; simp at h1
    · rw [if_neg hc] at h1 ⊢
      rcases ansF_cases (-(toM m).c) with ⟨e1, e2, e3⟩ | e1
      · rcases twF_cases (((toM m).d - 1) / (toM m).c) ((1 - (toM m).a) / (toM m).c) with ⟨_, e5, e6, e7⟩ | e4
        · exact ⟨rfl, hc, e3, e6, ansF_ok (longQ_false.1 e3), e5⟩
        · rw [e4] at h1; exact absurd h1 (by decide)
      · rw [e1] at h2; exact absurd h2 (by decide)
theorem lens_all {M : MQ} {fr bk : Rat} (hd : detM M = 1) (hc : M.c ≠ 0) (hf : fr = (M.d - 1) / M.c) (hb : bk = (1 - M.a) / M.c) : mulQ ⟨1, bk, 0, 1⟩ (mulQ M ⟨1, 0 - fr, 0, 1⟩) = ⟨1, 0, M.c, 1⟩ := by
  unfold detM at hd
  unfold mulQ
  simp only [MQ.mk.injEq]
  refine ⟨by grind, by grind, by grind, by grind⟩
theorem lens_end {m : RM} (h1 : (((plF m).2.2 != 0) || ((powF m).2 != 0)) = false)
    (h3 : (((!(wiF m (subF (rfOf (Rat.divInt 0 1)) (plF m).1).1 (plF m).2.1).2) || ((subF (rfOf (Rat.divInt 0 1)) (plF m).1).2 != 0)) || ((subF (rfOf (Rat.divInt 0 1)) (powF m).1).2 != 0)) = false) :
    decide ((wiF m (subF (rfOf (Rat.divInt 0 1)) (plF m).1).1 (plF m).2.1).1 = ⟨rfOf (Rat.divInt 1 1), rfOf (Rat.divInt 0 1), (subF (rfOf (Rat.divInt 0 1)) (powF m).1).1, rfOf (Rat.divInt 1 1)⟩) = true := by
  obtain ⟨hm, hc, hl, hl2, e1, e2⟩ := pl_ok h1
  rw [e1, e2, Bool.or_eq_false_iff, Bool.or_eq_false_iff] at h3
  rw [e1, e2]
  obtain ⟨⟨h3, h4⟩, h5⟩ := h3
  have s1 : subF (rfOf (Rat.divInt 0 1)) (rfOf (((toM m).d - 1) / (toM m).c)) = (rfOf (0 - ((toM m).d - 1) / (toM m).c), 0) := (sub_of long_zero hl2).trans (ansF_ok (longQ_false.1 (by rw [long_neg]; exact hl2)))
  have s2 : subF (rfOf (Rat.divInt 0 1)) (rfOf (-(toM m).c)) = (rfOf (0 - -(toM m).c), 0) := (sub_of long_zero hl).trans (ansF_ok (longQ_false.1 (by rw [long_neg]; exact hl)))
  simp only [s1] at h3
  simp only [s1, s2]
  obtain ⟨a1, a2, a3⟩ := wi_ok h3
  obtain ⟨_, _, b1, _⟩ := mul_ok a1
  obtain ⟨_, _, b2, _⟩ := mul_ok a2
  rw [a3, b2, b1, toM_of, spc_q, spc_q, toM_of, toM_of, lens_all (okM_q hm).2 hc rfl rfl]
  refine decide_eq_true ?_
  have e : 0 - -(toM m).c = (toM m).c := by grind
  rw [e]
  exact (lens_m rfl).symm

set_option maxRecDepth 100000 in
theorem imageLens_w (m : RM) : Cn Try.prog 12 [(RMA m).va] (Bo true) := by
  refine Cn.intro Try.func12 rfl (by kernel_rfl) (Nat.le_of_ble_eq_true (by kernel_rfl)) (fun B w0 a hst => ?_)
  have hst : St B w0 96 [(0, (RMA m).va)] [] a w0.w := hst
  refine wp_seq ?_
  refine go_lin (sts := []) (news := [⟨1, 42, ptrH, some 0, _, none⟩]) (sp := [.alc 0, .val 2 _]) [.o 1] hst (obs_cons (ob_box rfl rfl rfl (has_g 0 rfl (by kernel_rfl) (by kernel_rfl))) (obs_cons (ob_v rfl rfl (r_assign has_bo)) (obs_nil))) (by kernel_rfl) (by kernel_rfl) (by kernel_rfl) (fun a w hst => ?_)
  have hst : St B w0 96 [(2, _)] [⟨1, 42, ptrH, _⟩] a w := hst
  refine thn_normal ?_
  refine wp_seq ?_
  refine wp_seq ?_
  refine go_lin (sts := [none]) (news := []) (sp := [.val 14 _, .val 15 _, .val 16 _, .val 17 _]) [.g 0, .o 3] hst (obs_cons (ob_v rfl rfl (r_load (loc_at0 0 rfl (by kernel_rfl)) ty_42)) (obs_cons (ob_v rfl rfl (r_call (xs := [.tmp 14]) (matCost_c _) (.cons (has_v 0 rfl (by kernel_rfl) (by kernel_rfl)) .nil))) (obs_cons (ob_v rfl rfl (r_slice (D := []) (l := [_]) (xs := [.tmp 15]) (nd_ok (by kernel_rfl)) sl_91 (by kernel_rfl) (n_ok (by kernel_rfl)) (Nat.le_of_ble_eq_true (by kernel_rfl)) (Nat.le_of_ble_eq_true (by kernel_rfl)) (Nat.le_of_ble_eq_true (by kernel_rfl)) (.cons (has_v 1 rfl (by kernel_rfl) (by kernel_rfl)) .nil) rfl rfl)) (obs_cons (ob_v rfl rfl (r_call (xs := [.tmp 16]) (beyond_c [_]) (.cons (has_v 2 rfl (by kernel_rfl) (by kernel_rfl)) .nil))) (obs_nil))))) (by kernel_rfl) (by kernel_rfl) (by kernel_rfl) (fun a w hst => ?_)
  have hst : St B w0 96 [(2, _), (17, _)] [⟨1, 42, ptrH, _⟩] a w := hst
  refine thn_normal ?_
  refine cond_of hst (List.mem_of_getElem? (i := 1) rfl) (fun hb0 => ?_) (fun hb0 => ?_)
  · refine wp_seq ?_
    refine go_lin (sts := [none]) (news := []) (sp := [.val 2 _]) [.o 0] hst (obs_cons (ob_v rfl rfl (r_assign has_bo)) (obs_nil)) (by kernel_rfl) (by kernel_rfl) (by kernel_rfl) (fun a w hst => ?_)
    have hst : St B w0 96 [(2, _)] [⟨1, 42, ptrH, _⟩] a w := hst
    refine thn_normal ?_
    refine wp_ret ?_
    refine thn_ret ?_
    refine ret_wk ?_ (ret_tmp rfl hst (List.mem_of_getElem? (i := 0) rfl))
    exact wk_id
  · refine wp_skip ?_
    refine thn_normal ?_
    refine wp_seq ?_
    refine go_lin (sts := [none]) (news := [⟨3, 26, ptrH, some 6, _, some (8, _)⟩, ⟨4, 26, ptrH, some 7, _, some (9, _)⟩]) (sp := [.val 19 _, .val 20 _, .val 18 _, .val 21 _, .val 22 _, .val 23 _, .alc 1, .alc 2, .sto 1, .sto 2, .val 5 _]) [.g 0, .o 10] hst (obs_cons (ob_v rfl rfl (r_load (loc_at0 0 rfl (by kernel_rfl)) ty_42)) (obs_cons (ob_v rfl rfl (r_call (xs := [.tmp 19]) (planes_c m) (.cons (has_v 0 rfl (by kernel_rfl) (by kernel_rfl)) .nil))) (obs_cons (ob_v rfl rfl (r_move (has_v 1 rfl (by kernel_rfl) (by kernel_rfl)))) (obs_cons (ob_v rfl rfl (r_ex0 (has_v 2 rfl (by kernel_rfl) (by kernel_rfl)))) (obs_cons (ob_v rfl rfl (r_ex1 (has_v 2 rfl (by kernel_rfl) (by kernel_rfl)))) (obs_cons (ob_v rfl rfl (r_ex2 (has_v 2 rfl (by kernel_rfl) (by kernel_rfl)))) (obs_cons (ob_alc rfl rfl rfl (Str.zero str_frac)) (obs_cons (ob_alc rfl rfl rfl (Str.zero str_frac)) (obs_cons (ob_sto rfl rfl rfl (has_v 3 rfl (by kernel_rfl) (by kernel_rfl)) ty_26 rfl) (obs_cons (ob_sto rfl rfl rfl (has_v 4 rfl (by kernel_rfl) (by kernel_rfl)) ty_26 rfl) (obs_cons (ob_v rfl rfl (r_assign (has_v 5 rfl (by kernel_rfl) (by kernel_rfl)))) (obs_nil)))))))))))) (by kernel_rfl) (by kernel_rfl) (by kernel_rfl) (fun a w hst => ?_)
    have hst : St B w0 96 [(2, _), (5, _)] [⟨1, 42, ptrH, _⟩, ⟨3, 26, ptrH, _⟩, ⟨4, 26, ptrH, _⟩] a w := hst
    refine thn_normal ?_
    refine wp_seq ?_
    refine go_lin (sts := [none, none, none]) (news := [⟨6, 26, ptrH, some 5, _, some (6, _)⟩]) (sp := [.val 25 _, .val 26 _, .val 24 _, .val 27 _, .val 28 _, .alc 3, .sto 3, .val 7 _]) [.g 0, .g 1, .o 7] hst (obs_cons (ob_v rfl rfl (r_load (loc_at0 0 rfl (by kernel_rfl)) ty_42)) (obs_cons (ob_v rfl rfl (r_call (xs := [.tmp 25]) (power_c m) (.cons (has_v 0 rfl (by kernel_rfl) (by kernel_rfl)) .nil))) (obs_cons (ob_v rfl rfl (r_move (has_v 1 rfl (by kernel_rfl) (by kernel_rfl)))) (obs_cons (ob_v rfl rfl (r_ex0 (has_v 2 rfl (by kernel_rfl) (by kernel_rfl)))) (obs_cons (ob_v rfl rfl (r_ex1 (has_v 2 rfl (by kernel_rfl) (by kernel_rfl)))) (obs_cons (ob_alc rfl rfl rfl (Str.zero str_frac)) (obs_cons (ob_sto rfl rfl rfl (has_v 3 rfl (by kernel_rfl) (by kernel_rfl)) ty_26 rfl) (obs_cons (ob_v rfl rfl (r_assign (has_v 4 rfl (by kernel_rfl) (by kernel_rfl)))) (obs_nil))))))))) (by kernel_rfl) (by kernel_rfl) (by kernel_rfl) (fun a w hst => ?_)
    have hst : St B w0 96 [(2, _), (5, _), (7, _)] [⟨1, 42, ptrH, _⟩, ⟨3, 26, ptrH, _⟩, ⟨4, 26, ptrH, _⟩, ⟨6, 26, ptrH, _⟩] a w := hst
    refine thn_normal ?_
    refine wp_seq ?_
    refine wp_seq ?_
    refine go_lin (sts := [none, none, none, none]) (news := []) (sp := [.val 29 _, .val 30 _, .val 31 _, .val 32 (Wh (_ = false) _), .val 33 (Wh (_ = false) _), .val 34 _]) [.g 0, .g 1, .g 2, .o 5] hst (obs_cons (ob_v rfl rfl (r_move (has_g 1 rfl (by kernel_rfl) (by kernel_rfl)))) (obs_cons (ob_v rfl rfl (r_neq (has_v 0 rfl (by kernel_rfl) (by kernel_rfl)) has_num)) (obs_cons (ob_v rfl rfl (r_move (has_v 1 rfl (by kernel_rfl) (by kernel_rfl)))) (obs_cons (ob_gd rfl rfl rfl (has_v 2 rfl (by kernel_rfl) (by kernel_rfl)) (Nat.le_of_ble_eq_true (by kernel_rfl)) (fun hg => r_move (has_g 2 rfl (by kernel_rfl) (by kernel_rfl)))) (obs_cons (ob_gd rfl rfl rfl (has_v 2 rfl (by kernel_rfl) (by kernel_rfl)) (Nat.le_of_ble_eq_true (by kernel_rfl)) (fun hg => r_neq (has_wh (has_v 3 rfl (by kernel_rfl) (by kernel_rfl)) hg) has_num)) (obs_cons (ob_v rfl rfl (r_or (has_v 2 rfl (by kernel_rfl) (by kernel_rfl)) (has_v 4 rfl (by kernel_rfl) (by kernel_rfl)))) (obs_nil))))))) (by kernel_rfl) (by kernel_rfl) (by kernel_rfl) (fun a w hst => ?_)
    have hst : St B w0 96 [(2, _), (5, _), (7, _), (34, _)] [⟨1, 42, ptrH, _⟩, ⟨3, 26, ptrH, _⟩, ⟨4, 26, ptrH, _⟩, ⟨6, 26, ptrH, _⟩] a w := hst
    refine thn_normal ?_
    refine cond_of hst (List.mem_of_getElem? (i := 3) rfl) (fun hb1 => ?_) (fun hb1 => ?_)
    · refine wp_seq ?_
      refine wp_seq ?_
      refine go_lin (sts := [none, none, none, none]) (news := []) (sp := [.val 35 _, .val 36 _, .val 37 _, .val 38 (Wh (_ = true) _), .val 39 (Wh (_ = true) _), .val 40 _, .val 41 _, .val 42 (Wh (_ = true) _), .val 43 (Wh (_ = true) _), .val 44 _, .val 45 _, .val 46 (Wh (_ = false) _), .val 47 (Wh (_ = false) _), .val 48 (Wh (_ = false) _), .val 49 (Wh (_ = false ∧ _ = true) _), .val 50 (Wh (_ = false ∧ _ = true) _), .val 51 (Wh (_ = false ∧ _ = true) _), .val 52 (Wh (_ = false ∧ _ = true) _), .val 53 (Wh (_ = false ∧ _ = true) _), .val 54 (Wh (_ = false ∧ _ = true) _), .val 55 (Wh (_ = false) _), .val 56 _]) [.g 0, .o 21] hst (obs_cons (ob_v rfl rfl (r_move (has_g 2 rfl (by kernel_rfl) (by kernel_rfl)))) (obs_cons (ob_v rfl rfl (r_eql (has_v 0 rfl (by kernel_rfl) (by kernel_rfl)) has_num)) (obs_cons (ob_v rfl rfl (r_move (has_v 1 rfl (by kernel_rfl) (by kernel_rfl)))) (obs_cons (ob_gd rfl rfl rfl (has_v 2 rfl (by kernel_rfl) (by kernel_rfl)) (Nat.le_of_ble_eq_true (by kernel_rfl)) (fun hg => r_move (has_g 1 rfl (by kernel_rfl) (by kernel_rfl)))) (obs_cons (ob_gd rfl rfl rfl (has_v 2 rfl (by kernel_rfl) (by kernel_rfl)) (Nat.le_of_ble_eq_true (by kernel_rfl)) (fun hg => r_neq (has_wh (has_v 3 rfl (by kernel_rfl) (by kernel_rfl)) hg) has_num)) (obs_cons (ob_v rfl rfl (r_and (has_v 2 rfl (by kernel_rfl) (by kernel_rfl)) (has_v 4 rfl (by kernel_rfl) (by kernel_rfl)))) (obs_cons (ob_v rfl rfl (r_move (has_v 5 rfl (by kernel_rfl) (by kernel_rfl)))) (obs_cons (ob_gd rfl rfl rfl (has_v 6 rfl (by kernel_rfl) (by kernel_rfl)) (Nat.le_of_ble_eq_true (by kernel_rfl)) (fun hg => r_move (has_g 1 rfl (by kernel_rfl) (by kernel_rfl)))) (obs_cons (ob_gd rfl rfl rfl (has_v 6 rfl (by kernel_rfl) (by kernel_rfl)) (Nat.le_of_ble_eq_true (by kernel_rfl)) (fun hg => r_neq (has_wh (has_v 7 rfl (by kernel_rfl) (by kernel_rfl)) hg) has_num)) (obs_cons (ob_v rfl rfl (r_and (has_v 6 rfl (by kernel_rfl) (by kernel_rfl)) (has_v 8 rfl (by kernel_rfl) (by kernel_rfl)))) (obs_cons (ob_v rfl rfl (r_move (has_v 9 rfl (by kernel_rfl) (by kernel_rfl)))) (obs_cons (ob_gd rfl rfl rfl (has_v 10 rfl (by kernel_rfl) (by kernel_rfl)) (Nat.le_of_ble_eq_true (by kernel_rfl)) (fun hg => r_move (has_g 2 rfl (by kernel_rfl) (by kernel_rfl)))) (obs_cons (ob_gd rfl rfl rfl (has_v 10 rfl (by kernel_rfl) (by kernel_rfl)) (Nat.le_of_ble_eq_true (by kernel_rfl)) (fun hg => r_eql (has_wh (has_v 11 rfl (by kernel_rfl) (by kernel_rfl)) hg) has_num)) (obs_cons (ob_gd rfl rfl rfl (has_v 10 rfl (by kernel_rfl) (by kernel_rfl)) (Nat.le_of_ble_eq_true (by kernel_rfl)) (fun hg => r_move (has_wh (has_v 12 rfl (by kernel_rfl) (by kernel_rfl)) hg))) (obs_cons (ob_gd2 rfl rfl rfl (has_v 13 rfl (by kernel_rfl) (by kernel_rfl)) (Nat.le_of_ble_eq_true (by kernel_rfl)) (fun hg => r_move (has_g 1 rfl (by kernel_rfl) (by kernel_rfl)))) (obs_cons (ob_gd2 rfl rfl rfl (has_v 13 rfl (by kernel_rfl) (by kernel_rfl)) (Nat.le_of_ble_eq_true (by kernel_rfl)) (fun hg => r_eql (has_wh (has_v 14 rfl (by kernel_rfl) (by kernel_rfl)) hg) has_num)) (obs_cons (ob_gd2 rfl rfl rfl (has_v 13 rfl (by kernel_rfl) (by kernel_rfl)) (Nat.le_of_ble_eq_true (by kernel_rfl)) (fun hg => r_load (loc_at0 3 rfl (by kernel_rfl)) ty_26)) (obs_cons (ob_gd2 rfl rfl rfl (has_v 13 rfl (by kernel_rfl) (by kernel_rfl)) (Nat.le_of_ble_eq_true (by kernel_rfl)) (fun hg => r_call (xs := [.tmp 51]) (fracSign_c _) (.cons (has_wh (has_v 16 rfl (by kernel_rfl) (by kernel_rfl)) hg) .nil))) (obs_cons (ob_gd2 rfl rfl rfl (has_v 13 rfl (by kernel_rfl) (by kernel_rfl)) (Nat.le_of_ble_eq_true (by kernel_rfl)) (fun hg => r_eql (has_wh (has_v 17 rfl (by kernel_rfl) (by kernel_rfl)) hg) has_num)) (obs_cons (ob_gd2 rfl rfl rfl (has_v 13 rfl (by kernel_rfl) (by kernel_rfl)) (Nat.le_of_ble_eq_true (by kernel_rfl)) (fun hg => r_neqb (by kernel_rfl) (has_wh (has_v 15 rfl (by kernel_rfl) (by kernel_rfl)) hg) (has_wh (has_v 18 rfl (by kernel_rfl) (by kernel_rfl)) hg))) (obs_cons (ob_gd rfl rfl rfl (has_v 10 rfl (by kernel_rfl) (by kernel_rfl)) (Nat.le_of_ble_eq_true (by kernel_rfl)) (fun hg => r_and (has_wh (has_v 13 rfl (by kernel_rfl) (by kernel_rfl)) hg) (has_wh2 (has_v 19 rfl (by kernel_rfl) (by kernel_rfl)) hg))) (obs_cons (ob_v rfl rfl (r_or (has_v 10 rfl (by kernel_rfl) (by kernel_rfl)) (has_v 20 rfl (by kernel_rfl) (by kernel_rfl)))) (obs_nil))))))))))))))))))))))) (by kernel_rfl) (by kernel_rfl) (by kernel_rfl) (fun a w hst => ?_)
      have hst : St B w0 96 [(2, _), (56, _)] [⟨1, 42, ptrH, _⟩, ⟨3, 26, ptrH, _⟩, ⟨4, 26, ptrH, _⟩, ⟨6, 26, ptrH, _⟩] a w := hst
      refine thn_normal ?_
      refine cond_of hst (List.mem_of_getElem? (i := 1) rfl) (fun hb2 => ?_) (fun hb2 => ?_)
      · exact (lens_no hb1 hb2).elim
      · refine wp_skip ?_
        refine thn_normal ?_
        refine wp_seq ?_
        refine go_lin (sts := [none, none, none, none]) (news := []) (sp := [.val 57 _, .val 2 _]) [.o 1] hst (obs_cons (ob_v rfl rfl (r_call (xs := []) lives11_c .nil)) (obs_cons (ob_v rfl rfl (r_assign (has_v 0 rfl (by kernel_rfl) (by kernel_rfl)))) (obs_nil))) (by kernel_rfl) (by kernel_rfl) (by kernel_rfl) (fun a w hst => ?_)
        have hst : St B w0 96 [(2, _)] [⟨1, 42, ptrH, _⟩, ⟨3, 26, ptrH, _⟩, ⟨4, 26, ptrH, _⟩, ⟨6, 26, ptrH, _⟩] a w := hst
        refine thn_normal ?_
        refine wp_ret ?_
        refine thn_ret ?_
        refine ret_wk ?_ (ret_tmp rfl hst (List.mem_of_getElem? (i := 0) rfl))
        exact wk_id
    · refine wp_skip ?_
      refine thn_normal ?_
      refine wp_seq ?_
      refine go_draw (anc := [[], [], [0, 1], [0, 1, 2], [0, 1, 2, 3], [0, 1, 2, 3], [], [0, 1, 2, 3, 4, 6], [0, 1, 2, 3, 4, 5, 6, 7]]) (sts := [none, none, none, none]) (news := [⟨8, 26, ptrH, some 6, _, some (7, _)⟩]) (sp := [.val 59 _, .val 60 _, .val 61 _, .val 58 _, .val 62 _, .val 63 _, .alc 4, .sto 4, .val 9 _]) [.g 0, .o 8] follows_mixed hst (obs_cons (ob_v rfl rfl (r_call (xs := [.const (.int .i64 (0)), .const (.int .i64 (1))]) (whole11_c (by decide) (by decide) (by decide) (by decide) (by decide)) (.cons has_num (.cons has_num .nil)))) (obs_cons (ob_v rfl rfl (r_load (loc_at0 1 rfl (by kernel_rfl)) ty_26)) (obs_cons (ob_v rfl rfl (r_call (xs := [.tmp 59, .tmp 60]) (subF_c _ _) (.cons (has_v 0 rfl (by kernel_rfl) (by kernel_rfl)) (.cons (has_v 1 rfl (by kernel_rfl) (by kernel_rfl)) .nil)))) (obs_cons (ob_v rfl rfl (r_move (has_v 2 rfl (by kernel_rfl) (by kernel_rfl)))) (obs_cons (ob_v rfl rfl (r_ex0 (has_v 3 rfl (by kernel_rfl) (by kernel_rfl)))) (obs_cons (ob_v rfl rfl (r_ex1 (has_v 3 rfl (by kernel_rfl) (by kernel_rfl)))) (obs_cons (ob_alc rfl rfl rfl (Str.zero str_frac)) (obs_cons (ob_sto rfl rfl rfl (has_v 4 rfl (by kernel_rfl) (by kernel_rfl)) ty_26 rfl) (obs_cons (ob_v rfl rfl (r_assign (has_v 5 rfl (by kernel_rfl) (by kernel_rfl)))) (obs_nil)))))))))) (by kernel_rfl) (by kernel_rfl) (by kernel_rfl) (by kernel_rfl) (fun a w hst => ?_)
      have hst : St B w0 96 [(2, _), (9, _)] [⟨1, 42, ptrH, _⟩, ⟨3, 26, ptrH, _⟩, ⟨4, 26, ptrH, _⟩, ⟨6, 26, ptrH, _⟩, ⟨8, 26, ptrH, _⟩] a w := hst
      refine thn_normal ?_
      refine wp_seq ?_
      refine go_lin (sts := [none, none, none, none, none]) (news := [⟨10, 42, ptrH, some 7, _, some (8, _)⟩]) (sp := [.val 65 _, .val 66 _, .val 67 _, .val 68 _, .val 64 _, .val 69 _, .val 70 _, .alc 5, .sto 5, .val 11 _]) [.g 0, .g 1, .o 9] hst (obs_cons (ob_v rfl rfl (r_load (loc_at0 0 rfl (by kernel_rfl)) ty_42)) (obs_cons (ob_v rfl rfl (r_load (loc_at0 4 rfl (by kernel_rfl)) ty_26)) (obs_cons (ob_v rfl rfl (r_load (loc_at0 2 rfl (by kernel_rfl)) ty_26)) (obs_cons (ob_v rfl rfl (r_call (xs := [.tmp 65, .tmp 66, .tmp 67]) (within11_c m _ _) (.cons (has_v 0 rfl (by kernel_rfl) (by kernel_rfl)) (.cons (has_v 1 rfl (by kernel_rfl) (by kernel_rfl)) (.cons (has_v 2 rfl (by kernel_rfl) (by kernel_rfl)) .nil))))) (obs_cons (ob_v rfl rfl (r_move (has_v 3 rfl (by kernel_rfl) (by kernel_rfl)))) (obs_cons (ob_v rfl rfl (r_ex0 (has_v 4 rfl (by kernel_rfl) (by kernel_rfl)))) (obs_cons (ob_v rfl rfl (r_ex1 (has_v 4 rfl (by kernel_rfl) (by kernel_rfl)))) (obs_cons (ob_alc rfl rfl rfl (Str.zero str_matrix)) (obs_cons (ob_sto rfl rfl rfl (has_v 5 rfl (by kernel_rfl) (by kernel_rfl)) ty_42 rfl) (obs_cons (ob_v rfl rfl (r_assign (has_v 6 rfl (by kernel_rfl) (by kernel_rfl)))) (obs_nil))))))))))) (by kernel_rfl) (by kernel_rfl) (by kernel_rfl) (fun a w hst => ?_)
      have hst : St B w0 96 [(2, _), (9, _), (11, _)] [⟨1, 42, ptrH, _⟩, ⟨3, 26, ptrH, _⟩, ⟨4, 26, ptrH, _⟩, ⟨6, 26, ptrH, _⟩, ⟨8, 26, ptrH, _⟩, ⟨10, 42, ptrH, _⟩] a w := hst
      refine thn_normal ?_
      refine wp_seq ?_
      refine go_draw (anc := [[], [], [0, 1], [0, 1, 2], [0, 1, 2, 3], [0, 1, 2, 3], [], [0, 1, 2, 3, 4, 6], [0, 1, 2, 3, 4, 5, 6, 7]]) (sts := [none, none, none, none, none, none]) (news := [⟨12, 26, ptrH, some 6, _, some (7, _)⟩]) (sp := [.val 72 _, .val 73 _, .val 74 _, .val 71 _, .val 75 _, .val 76 _, .alc 6, .sto 6, .val 13 _]) [.g 0, .g 1, .g 2, .o 8] follows_mixed hst (obs_cons (ob_v rfl rfl (r_call (xs := [.const (.int .i64 (0)), .const (.int .i64 (1))]) (whole11_c (by decide) (by decide) (by decide) (by decide) (by decide)) (.cons has_num (.cons has_num .nil)))) (obs_cons (ob_v rfl rfl (r_load (loc_at0 3 rfl (by kernel_rfl)) ty_26)) (obs_cons (ob_v rfl rfl (r_call (xs := [.tmp 72, .tmp 73]) (subF_c _ _) (.cons (has_v 0 rfl (by kernel_rfl) (by kernel_rfl)) (.cons (has_v 1 rfl (by kernel_rfl) (by kernel_rfl)) .nil)))) (obs_cons (ob_v rfl rfl (r_move (has_v 2 rfl (by kernel_rfl) (by kernel_rfl)))) (obs_cons (ob_v rfl rfl (r_ex0 (has_v 3 rfl (by kernel_rfl) (by kernel_rfl)))) (obs_cons (ob_v rfl rfl (r_ex1 (has_v 3 rfl (by kernel_rfl) (by kernel_rfl)))) (obs_cons (ob_alc rfl rfl rfl (Str.zero str_frac)) (obs_cons (ob_sto rfl rfl rfl (has_v 4 rfl (by kernel_rfl) (by kernel_rfl)) ty_26 rfl) (obs_cons (ob_v rfl rfl (r_assign (has_v 5 rfl (by kernel_rfl) (by kernel_rfl)))) (obs_nil)))))))))) (by kernel_rfl) (by kernel_rfl) (by kernel_rfl) (by kernel_rfl) (fun a w hst => ?_)
      have hst : St B w0 96 [(2, _), (9, _), (11, _), (13, _)] [⟨1, 42, ptrH, _⟩, ⟨3, 26, ptrH, _⟩, ⟨4, 26, ptrH, _⟩, ⟨6, 26, ptrH, _⟩, ⟨8, 26, ptrH, _⟩, ⟨10, 42, ptrH, _⟩, ⟨12, 26, ptrH, _⟩] a w := hst
      refine thn_normal ?_
      refine wp_seq ?_
      refine wp_seq ?_
      refine go_lin (sts := [none, none, none, none, none, none, none]) (news := []) (sp := [.val 77 _, .val 78 _, .val 79 _, .val 80 (Wh (_ = false) _), .val 81 (Wh (_ = false) _), .val 82 _, .val 83 _, .val 84 (Wh (_ = false) _), .val 85 (Wh (_ = false) _), .val 86 _]) [.g 0, .o 9] hst (obs_cons (ob_v rfl rfl (r_move (has_g 2 rfl (by kernel_rfl) (by kernel_rfl)))) (obs_cons (ob_v rfl rfl (r_not (has_v 0 rfl (by kernel_rfl) (by kernel_rfl)))) (obs_cons (ob_v rfl rfl (r_move (has_v 1 rfl (by kernel_rfl) (by kernel_rfl)))) (obs_cons (ob_gd rfl rfl rfl (has_v 2 rfl (by kernel_rfl) (by kernel_rfl)) (Nat.le_of_ble_eq_true (by kernel_rfl)) (fun hg => r_move (has_g 1 rfl (by kernel_rfl) (by kernel_rfl)))) (obs_cons (ob_gd rfl rfl rfl (has_v 2 rfl (by kernel_rfl) (by kernel_rfl)) (Nat.le_of_ble_eq_true (by kernel_rfl)) (fun hg => r_neq (has_wh (has_v 3 rfl (by kernel_rfl) (by kernel_rfl)) hg) has_num)) (obs_cons (ob_v rfl rfl (r_or (has_v 2 rfl (by kernel_rfl) (by kernel_rfl)) (has_v 4 rfl (by kernel_rfl) (by kernel_rfl)))) (obs_cons (ob_v rfl rfl (r_move (has_v 5 rfl (by kernel_rfl) (by kernel_rfl)))) (obs_cons (ob_gd rfl rfl rfl (has_v 6 rfl (by kernel_rfl) (by kernel_rfl)) (Nat.le_of_ble_eq_true (by kernel_rfl)) (fun hg => r_move (has_g 3 rfl (by kernel_rfl) (by kernel_rfl)))) (obs_cons (ob_gd rfl rfl rfl (has_v 6 rfl (by kernel_rfl) (by kernel_rfl)) (Nat.le_of_ble_eq_true (by kernel_rfl)) (fun hg => r_neq (has_wh (has_v 7 rfl (by kernel_rfl) (by kernel_rfl)) hg) has_num)) (obs_cons (ob_v rfl rfl (r_or (has_v 6 rfl (by kernel_rfl) (by kernel_rfl)) (has_v 8 rfl (by kernel_rfl) (by kernel_rfl)))) (obs_nil))))))))))) (by kernel_rfl) (by kernel_rfl) (by kernel_rfl) (fun a w hst => ?_)
      have hst : St B w0 96 [(2, _), (86, _)] [⟨1, 42, ptrH, _⟩, ⟨3, 26, ptrH, _⟩, ⟨4, 26, ptrH, _⟩, ⟨6, 26, ptrH, _⟩, ⟨8, 26, ptrH, _⟩, ⟨10, 42, ptrH, _⟩, ⟨12, 26, ptrH, _⟩] a w := hst
      refine thn_normal ?_
      refine cond_of hst (List.mem_of_getElem? (i := 1) rfl) (fun hb3 => ?_) (fun hb3 => ?_)
      · refine wp_seq ?_
        refine go_lin (sts := [none, none, none, none, none, none, none]) (news := []) (sp := [.val 87 _, .val 2 _]) [.o 1] hst (obs_cons (ob_v rfl rfl (r_call (xs := []) lives11_c .nil)) (obs_cons (ob_v rfl rfl (r_assign (has_v 0 rfl (by kernel_rfl) (by kernel_rfl)))) (obs_nil))) (by kernel_rfl) (by kernel_rfl) (by kernel_rfl) (fun a w hst => ?_)
        have hst : St B w0 96 [(2, _)] [⟨1, 42, ptrH, _⟩, ⟨3, 26, ptrH, _⟩, ⟨4, 26, ptrH, _⟩, ⟨6, 26, ptrH, _⟩, ⟨8, 26, ptrH, _⟩, ⟨10, 42, ptrH, _⟩, ⟨12, 26, ptrH, _⟩] a w := hst
        refine thn_normal ?_
        refine wp_ret ?_
        refine thn_ret ?_
        refine ret_wk ?_ (ret_tmp rfl hst (List.mem_of_getElem? (i := 0) rfl))
        exact wk_id
      · refine wp_skip ?_
        refine thn_normal ?_
        refine wp_seq ?_
        refine go_draw (anc := [[], [], [], [1, 2], [0, 1, 2, 3], [0, 1, 2, 3, 4], [0, 1, 2, 3, 4, 5], [0, 1, 2, 3, 4, 5, 6], [0, 1, 2, 3, 4, 5, 6, 7]]) (sts := [none, none, none, none, none, none, none]) (news := []) (sp := [.val 88 _, .val 89 _, .val 90 _, .val 91 _, .val 92 _, .val 93 _, .val 94 (Wh (_ = true) _), .val 95 _, .val 2 _]) [.o 8] follows_mixed hst (obs_cons (ob_v rfl rfl (r_load (loc_at0 5 rfl (by kernel_rfl)) ty_42)) (obs_cons (ob_v rfl rfl (r_load (loc_at0 3 rfl (by kernel_rfl)) ty_26)) (obs_cons (ob_v rfl rfl (r_load (loc_at0 6 rfl (by kernel_rfl)) ty_26)) (obs_cons (ob_v rfl rfl (r_call (xs := [.tmp 89, .tmp 90]) (lens11_c _ _) (.cons (has_v 1 rfl (by kernel_rfl) (by kernel_rfl)) (.cons (has_v 2 rfl (by kernel_rfl) (by kernel_rfl)) .nil)))) (obs_cons (ob_v rfl rfl (r_call (xs := [.tmp 88, .tmp 91]) (sameMatrix_c _ _) (.cons (has_v 0 rfl (by kernel_rfl) (by kernel_rfl)) (.cons (has_v 3 rfl (by kernel_rfl) (by kernel_rfl)) .nil)))) (obs_cons (ob_v rfl rfl (r_move (has_v 4 rfl (by kernel_rfl) (by kernel_rfl)))) (obs_cons (ob_gd rfl rfl rfl (has_v 5 rfl (by kernel_rfl) (by kernel_rfl)) (Nat.le_of_ble_eq_true (by kernel_rfl)) (fun hg => r_call (xs := []) lives11_c .nil)) (obs_cons (ob_v rfl rfl (r_and (has_v 5 rfl (by kernel_rfl) (by kernel_rfl)) (has_v 6 rfl (by kernel_rfl) (by kernel_rfl)))) (obs_cons (ob_v rfl rfl (r_assign (has_v 7 rfl (by kernel_rfl) (by kernel_rfl)))) (obs_nil)))))))))) (by kernel_rfl) (by kernel_rfl) (by kernel_rfl) (by kernel_rfl) (fun a w hst => ?_)
        have hst : St B w0 96 [(2, _)] [⟨1, 42, ptrH, _⟩, ⟨3, 26, ptrH, _⟩, ⟨4, 26, ptrH, _⟩, ⟨6, 26, ptrH, _⟩, ⟨8, 26, ptrH, _⟩, ⟨10, 42, ptrH, _⟩, ⟨12, 26, ptrH, _⟩] a w := hst
        refine thn_normal ?_
        refine wp_ret ?_
        refine ret_wk ?_ (ret_tmp rfl hst (List.mem_of_getElem? (i := 0) rfl))
        exact bo_and (lens_end hb1 hb3)

open Go.ChangeShapes Go.WideShapes Go.ChangeAt
open Go.ChangeMaps (open_string shut_string)
set_option linter.unusedVariables false
theorem own : ownKnob Try.prog.godebug = none := by kernel_rfl
theorem laidOut : laidOutB Try.prog = true := by kernel_rfl
set_option maxRecDepth 100000 in
theorem lifted (os : Os) (started : os.Started) (H : Type) (enc : TypeId × Value → H) :
    ReturnsInHanded {} Try.checked os 12 .any (Rows.imageLensSpec.pre6 enc Try.prog Try.f12 Rows.imageLensRow.domain false) (Rows.imageLensSpec.post enc Try.prog Try.f12 false true false false) := by
  refine returnsInHanded_of_change (C := Try.checked) own started (by kernel_rfl) Try.func12
    (ChangeSpec.witness6 (enc := enc) (C := Try.checked) false ⟨#[], #[.agg #[.bool false, .slice none 0 0, .bool false, .slice none 0 0, .bool false, .slice none 0 0, .bool false, .slice none 0 0, .bool false, .slice none 0 0, .bool false, .slice none 0 0, .bool false, .slice none 0 0, .bool false, .slice none 0 0]], []⟩ 8 (by kernel_rfl) (by kernel_rfl) (by kernel_rfl) (by kernel_rfl)) ?_
  intro W base args ds gs before hval0 hW hcnd _
  have hval : ∀ (j : Nat) t v, Try.f12.params[j]? = some t → args[j]? = some v → Value.okWide Try.prog W .any base t v := hval0
  have hW' := hW
  obtain ⟨p, q, hA0, hV, rfl, hfz, hnd⟩ := hW
  have hA : DataW.TrodAll enc Try.prog W 0 (fun _ => true) true Try.f12.params.toList args.toList ds p := hA0
  rw [Try.params12] at hA hval
  obtain ⟨v0, vs0, d0, ds0, p0, q0, hargs, rfl, rfl, h0, r0⟩ := trodAll_cons hA
  obtain ⟨rfl, rfl, rfl⟩ := trodAll_nil r0
  obtain rfl : args = #[v0] := by cases args; simp_all
  obtain ⟨rfl, rfl⟩ := trodVars_none hV
  have k0 := h0
  have lt0 : ∀ x ∈ p0, x.block < W.heap.size := by obtain ⟨m, hm⟩ := k0; exact DataW.trod_lt m _ _ _ hm
  obtain ⟨x0, a0⟩ := arg_of (A := RMA) (fun _ => rfl) Try.underlying42 rd_rm (hval 0 42 v0 rfl rfl) h0
  clear hA0 hval0
  refine ((imageLens_w x0).2 W.heap.size W [v0] (Nat.le_refl _) (.cons a0 .nil)).mono fun e W' ⟨v, he, hv, bel⟩ => ?_
  have hv' := bo_val hv
  subst hv' he
  exact ⟨_, rfl, _, _, _, [], _, [], hW', trodAll_mk1 (shut_bool Try.underlying4 _), (trodAll_cons_mk (Below.trod laidOut (by kernel_rfl) (of_decide_eq_true (by kernel_rfl)) k0 bel lt0) trodAll_mk0), rfl, bel.frame _, fun h => by cases h⟩
theorem over : Rows.imageLensRow.holds Try.pinned (OpenSpec.ofChange Rows.imageLensSpec) :=
  OpenClaim.holds_of_wide 12 Try.f12 rfl rfl rfl rfl rfl rfl rfl ⟨rfl, rfl, rfl, rfl, rfl⟩ rfl rfl rfl rfl rfl (by kernel_rfl) Try.func12 (by kernel_rfl)
    (of_decide_eq_true (by kernel_rfl)) (by unfold Func.isWrapper; rw [if_neg (of_decide_eq_false (by kernel_rfl))]; exact ⟨rfl, rfl⟩)
    (fun os started H enc _ => lifted os started H enc)
theorem provedImageLens : Rows.ImageLensSaid := over
#print axioms provedImageLens

end Go.Proofs.Ytiokhlpbdabaeaa
