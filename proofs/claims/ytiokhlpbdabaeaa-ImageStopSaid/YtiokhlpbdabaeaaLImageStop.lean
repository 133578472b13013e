/- ImageStop: for every matrix and every opening the law of chapter 11 on the steepest ray answers true. No condition. -/
import Derived.Test.YtiokhlpbdabaeaaRayG
import Derived.Test.YtiokhlpbdabaeaaRows
import Derived.WalkKit
import Derived.ProofKit
import Derived.OpenShut
import Derived.ShutString
import Derived.ChangeOld
import Derived.Below
namespace Go.Proofs.Ytiokhlpbdabaeaa
open Go Go.RowKit
namespace LImageStop
theorem fld_80_0 : Fld Try.prog 80 0 0 4 := ⟨_, _, Try.underlying80, rfl, rfl, by kernel_rfl, by decide⟩
theorem sl_91 : Sl Try.prog 91 3 1 := ⟨by kernel_rfl, by kernel_rfl⟩
theorem ty_26 : Ty Try.prog 26 4 true := ⟨by kernel_rfl, by kernel_rfl⟩
theorem ty_42 : Ty Try.prog 42 16 true := ⟨by kernel_rfl, by kernel_rfl⟩
theorem ty_80 : Ty Try.prog 80 8 true := ⟨by kernel_rfl, by kernel_rfl⟩
end LImageStop
open LImageStop
theorem bo_and {c : Bool} (h : c = true) : Wk (Bo (c && true)) (Bo true) := by subst h; exact wk_id
theorem sh_err {m : RM} (h : ((shF m).2 != 0) = true) : (((shF m).2 == 1) && (!(shF m).1)) = true := by
  unfold shF at h ⊢
  cases hm : okM m with
  | true => rw [hm] at h; simp at h
  | false => rfl
theorem sh_ok {m : RM} (h : ((shF m).2 != 0) = false) : okM m = true ∧ (shF m).1 = decide ((toM m).b = 0) := by
  unfold shF at h ⊢
  cases hm : okM m with
  | true => exact ⟨rfl, rfl⟩
  | false => rw [hm] at h; simp at h
theorem twF_of {x y : Rat} (hx : longQ x = false) (hy : longQ y = false) : twF x y = (rfOf x, rfOf y, 0) := by
  unfold twF
  rw [two_long, hx, hy]
  rfl
theorem twF_cases (x y : Rat) : ((twF x y).2.2 = 0 ∧ (twF x y) = (rfOf x, rfOf y, 0) ∧ longQ x = false ∧ longQ y = false) ∨ (twF x y).2.2 = 4 := by
  unfold twF
  cases hl : [x, y].any longQ with
  | true => exact .inr rfl
  | false =>
    have h := hl
    rw [two_long, Bool.or_eq_false_iff] at h
    exact .inl ⟨rfl, rfl, h.1, h.2⟩
theorem okX_l {x : RF} (h : okX x = true) : longQ (toQ x) = false := longQ_false.2 (okX_q h).2
theorem okM_a {m : RM} (h : okM m = true) : longQ (toM m).a = false := by
  have h1 := (okM_q h).1
  simp only [List.all_cons, List.all_nil, Bool.and_true, Bool.and_eq_true] at h1
  exact okX_l h1.1
theorem stop_img {m : RM} (h1 : ((shF m).2 != 0) = false) (h2 : ((shF m).1 != (((imF m (rfOf (Rat.divInt 0 1))).2.2 == 0) && (sgF (imF m (rfOf (Rat.divInt 0 1))).1 == 0))) = true) : False := by
  obtain ⟨hm, hs⟩ := sh_ok h1
  have hd := (okM_q hm).2
  have ha := okM_a hm
  have hx : okX (rfOf 0) = true := by rw [okX_of, long_zero]; rfl
  have e1 : loQ (toM m) 0 = (toM m).d := by unfold loQ; grind
  have e2 : upQ (toM m) 0 = (toM m).b := by unfold upQ; grind
  have hi : imF m (rfOf 0) = if (toM m).d = 0 then (rf0, rf0, 3) else twF (-((toM m).b / (toM m).d)) (1 / (toM m).d) := by
    unfold imF
    rw [hm, hx, toQ_of, e1, e2]
    rfl
  rw [hs, zero_f, hi] at h2
  unfold detM at hd
  by_cases h0 : (toM m).d = 0
  · have hb : ¬ (toM m).b = 0 := fun e => by rw [h0, e] at hd; grind
    rw [if_pos h0, decide_eq_false hb] at h2
    exact absurd h2 (by decide)
  · rw [if_neg h0] at h2
    by_cases hb : (toM m).b = 0
    · have f1 : -((toM m).b / (toM m).d) = 0 := by rw [hb]; grind
      have f2 : 1 / (toM m).d = (toM m).a := by rw [hb] at hd; grind
      rw [decide_eq_true hb, f1, f2, twF_of long_zero ha, sgF_of long_zero] at h2
      exact absurd h2 (by simp)
    · rw [decide_eq_false hb] at h2
      rcases twF_cases (-((toM m).b / (toM m).d)) (1 / (toM m).d) with ⟨_, e4, e5, _⟩ | e4
      · have f1 : ¬ -((toM m).b / (toM m).d) = 0 := fun e => hb (by grind)
        rw [e4, sgF_of e5, sgn0, decide_eq_false f1] at h2
        exact absurd h2 (by simp)
      · rw [e4] at h2
        exact absurd h2 (by simp)
theorem ansF_cases (q : Rat) : ((ansF q).2 = 0 ∧ (ansF q).1 = rfOf q ∧ longQ q = false) ∨ (ansF q).2 = 4 := by
  unfold ansF
  cases hl : longQ q with
  | true => exact .inr rfl
  | false => exact .inl ⟨rfl, rfl, rfl⟩
theorem st_err {m : RM} {t : RF} (h1 : ((shF m).2 != 0) = false) : (((stF m t).2 != 3) || (shF m).1) = true := by
  obtain ⟨hm, hs⟩ := sh_ok h1
  rw [hs]
  unfold stF
  cases hx : (okM m && okX t) && !decide ((toQ t).num.sign < 0) with
  | false => rfl
  | true =>
    rw [if_pos rfl]
    by_cases hb : (toM m).b = 0
    · rw [decide_eq_true hb, Bool.or_true]
    · rw [if_neg hb]
      have hans : ∀ q, ((ansF q).2 != 3) = true := fun q => by
        rcases ansF_cases q with ⟨e, _⟩ | e <;> rw [e] <;> rfl
      by_cases hp : (toM m).b.num.sign = 1
      · rw [if_pos hp, hans]; rfl
      · rw [if_neg hp, hans]; rfl
theorem st_ok {m : RM} {t : RF} (h1 : ((shF m).2 != 0) = false) (h2 : ((stF m t).2 != 0) = false) : ∃ l u, okM m = true ∧ t = rfOf l ∧ longQ l = false ∧ 0 ≤ l ∧ (toM m).b ≠ 0 ∧ (shF m).1 = false ∧ (stF m t).1 = rfOf u ∧ longQ u = false ∧ ((0 < (toM m).b ∧ u = l / (toM m).b) ∨ ((toM m).b < 0 ∧ u = l / -(toM m).b)) := by
  obtain ⟨hm, hs⟩ := sh_ok h1
  unfold stF at h2 ⊢
  cases hx : (okM m && okX t) && !decide ((toQ t).num.sign < 0) with
  | false => rw [hx] at h2; simp at h2
  | true =>
    rw [hx, if_pos rfl] at h2
    rw [if_pos rfl]
    rw [Bool.and_eq_true, Bool.not_eq_true', decide_eq_false_iff_not] at hx
    obtain ⟨hx1, hx2⟩ := hx
    obtain ⟨l, rfl, hl⟩ := ok_rf (and_mx hx1).2
    rw [toQ_of] at h2 hx2 ⊢
    have hl0 : 0 ≤ l := Rat.num_nonneg.1 (by
      rcases Int.lt_or_le l.num 0 with h | h
      · exact absurd (by rw [Int.sign_eq_neg_one_of_neg h]; decide) hx2
      · exact h)
    by_cases hb : (toM m).b = 0
    · rw [if_pos hb] at h2; simp at h2
    · rw [if_neg hb] at h2 ⊢
      rw [decide_eq_false hb] at hs
      by_cases hp : (toM m).b.num.sign = 1
      · rw [if_pos hp] at h2 ⊢
        have hb0 : 0 < (toM m).b := by
          refine Rat.lt_iff_le_and_ne.2 ⟨Rat.num_nonneg.1 (Int.le_of_lt (Int.sign_eq_one_iff_pos.1 hp)), fun e => hb e.symm⟩
        rcases ansF_cases (l / (toM m).b) with ⟨_, e2, e3⟩ | e1
        · exact ⟨l, _, hm, rfl, hl, hl0, hb, hs, e2, e3, .inl ⟨hb0, rfl⟩⟩
        · rw [e1] at h2; exact absurd h2 (by decide)
      · rw [if_neg hp] at h2 ⊢
        have hb0 : (toM m).b < 0 := by
          rcases Rat.le_total (a := 0) (b := (toM m).b) with h | h
          · exfalso
            have h4 := Rat.num_nonneg.2 h
            rcases Int.lt_or_le 0 (toM m).b.num with h5 | h5
            · exact hp (Int.sign_eq_one_of_pos h5)
            · have h6 : (toM m).b.num = 0 := by omega
              exact hb (Rat.num_eq_zero.1 h6)
          · exact Rat.lt_iff_le_and_ne.2 ⟨h, hb⟩
        rcases ansF_cases (l / -(toM m).b) with ⟨_, e2, e3⟩ | e1
        · exact ⟨l, _, hm, rfl, hl, hl0, hb, hs, e2, e3, .inr ⟨hb0, rfl⟩⟩
        · rw [e1] at h2; exact absurd h2 (by decide)
theorem go_ok {m : RM} {u : Rat} (h : ((goF m ⟨rfOf (Rat.divInt 0 1), rfOf u⟩).2 != 0) = false) : (goF m ⟨rfOf (Rat.divInt 0 1), rfOf u⟩).2 = 0 ∧ ∃ y, y = (toM m).b * u ∧ longQ y = false ∧ (goF m ⟨rfOf (Rat.divInt 0 1), rfOf u⟩).1.y = rfOf y := by
  have e0 : (goF m ⟨rfOf (Rat.divInt 0 1), rfOf u⟩).2 = 0 := by simpa using h
  refine ⟨e0, ?_⟩
  unfold goF asY at e0 ⊢
  have ey : goQ (toM m) (toY ⟨rfOf (Rat.divInt 0 1), rfOf u⟩) = ⟨(toM m).b * u, (toM m).d * u⟩ := by
    have e1 : toY ⟨rfOf (Rat.divInt 0 1), rfOf u⟩ = ⟨0, u⟩ := by show (⟨toQ (rfOf 0), toQ (rfOf u)⟩ : YQ) = _; rw [toQ_of, toQ_of]
    rw [e1]
    unfold goQ
    simp only [YQ.mk.injEq]
    exact ⟨by grind, by grind⟩
  rw [ey] at e0 ⊢
  by_cases hk : kR (kM 0 m) ⟨rfOf (Rat.divInt 0 1), rfOf u⟩ = 0
  · rw [if_pos hk] at e0 ⊢
    cases hl : [(toM m).b * u, (toM m).d * u].any longQ with
    | true => simp only [hl] at e0; simp at e0
    | false =>
      have hl2 := hl
      rw [two_long, Bool.or_eq_false_iff] at hl2
      exact ⟨_, rfl, hl2.1, rfl⟩
  · rw [if_neg hk] at e0; exact absurd e0 hk
theorem sgn_lt {x : Rat} : x.num.sign < 0 ↔ x < 0 := by
  constructor
  · intro h
    rcases Rat.le_total (a := 0) (b := x) with h1 | h1
    · exfalso
      have h2 := Rat.num_nonneg.2 h1
      have h3 : 0 ≤ x.num.sign := Int.sign_nonneg_iff.2 h2
      omega
    · refine Rat.lt_iff_le_and_ne.2 ⟨h1, fun e => ?_⟩
      rw [e] at h
      exact absurd h (by decide)
  · intro h
    have h1 : x.num < 0 := by
      rcases Int.lt_or_le x.num 0 with h2 | h2
      · exact h2
      · exact absurd (Rat.num_nonneg.1 h2) (Rat.not_le.2 h)
    rw [Int.sign_eq_neg_one_of_neg h1]
    decide
theorem stop_neg {m : RM} {t : RF} (h1 : ((shF m).2 != 0) = false) (h2 : ((stF m t).2 != 0) = false) (h3 : ((goF m ⟨rfOf (Rat.divInt 0 1), (stF m t).1⟩).2 != 0) = false) (h4 : decide (sgF (goF m ⟨rfOf (Rat.divInt 0 1), (stF m t).1⟩).1.y < 0) = true) :
    (((!(shF m).1) && ((subF (rfOf (Rat.divInt 0 1)) (goF m ⟨rfOf (Rat.divInt 0 1), (stF m t).1⟩).1.y).2 == 0)) && decide ((subF (rfOf (Rat.divInt 0 1)) (goF m ⟨rfOf (Rat.divInt 0 1), (stF m t).1⟩).1.y).1 = t)) = true := by
  obtain ⟨l, u, hm, rfl, hl, hl0, hb, hs, eu, _, hc⟩ := st_ok h1 h2
  rw [eu] at h3 h4 ⊢
  obtain ⟨_, y, ey, hy, e⟩ := go_ok h3
  rw [e, sgF_of hy, decide_eq_true_eq, sgn_lt] at h4
  have hsub : subF (rfOf (Rat.divInt 0 1)) (rfOf y) = (rfOf (0 - y), 0) := (sub_of long_zero hy).trans (ansF_ok (longQ_false.1 (by rw [long_neg]; exact hy)))
  have hv : 0 - y = l := by
    rcases hc with ⟨c1, c2⟩ | ⟨c1, c2⟩
    · exfalso
      have : y = l := by rw [ey, c2]; grind
      grind
    · rw [ey, c2]; grind
  rw [e, hsub, hs, hv, decide_eq_true rfl]
  rfl
theorem stop_pos {m : RM} {t : RF} (h1 : ((shF m).2 != 0) = false) (h2 : ((stF m t).2 != 0) = false) (h3 : ((goF m ⟨rfOf (Rat.divInt 0 1), (stF m t).1⟩).2 != 0) = false) (h4 : decide (sgF (goF m ⟨rfOf (Rat.divInt 0 1), (stF m t).1⟩).1.y < 0) = false) :
    (((!(shF m).1) && ((goF m ⟨rfOf (Rat.divInt 0 1), (stF m t).1⟩).2 == 0)) && decide ((goF m ⟨rfOf (Rat.divInt 0 1), (stF m t).1⟩).1.y = t)) = true := by
  obtain ⟨l, u, hm, rfl, hl, hl0, hb, hs, eu, _, hc⟩ := st_ok h1 h2
  rw [eu] at h3 h4 ⊢
  obtain ⟨e0, y, ey, hy, e⟩ := go_ok h3
  rw [e, sgF_of hy, decide_eq_false_iff_not, sgn_lt] at h4
  have hv : y = l := by
    rcases hc with ⟨c1, c2⟩ | ⟨c1, c2⟩
    · rw [ey, c2]; grind
    · have h5 : y = -l := by rw [ey, c2]; grind
      grind
  rw [e, hv, e0, hs, decide_eq_true rfl]
  rfl

set_option maxRecDepth 100000 in
theorem imageStop_w (m : RM) (t : RF) : Cn Try.prog 11 [(RMA m).va, (RFA t).va] (Bo true) := by
  refine Cn.intro Try.func11 rfl (by kernel_rfl) (Nat.le_of_ble_eq_true (by kernel_rfl)) (fun B w0 a hst => ?_)
  have hst : St B w0 105 [(0, (RMA m).va), (1, (RFA t).va)] [] a w0.w := hst
  refine wp_seq ?_
  refine go_lin (sts := []) (news := [⟨2, 42, ptrH, some 0, _, none⟩, ⟨3, 26, ptrH, some 1, _, none⟩]) (sp := [.alc 0, .alc 1, .val 4 _]) [.o 2] hst (obs_cons (ob_box rfl rfl rfl (has_g 0 rfl (by kernel_rfl) (by kernel_rfl))) (obs_cons (ob_box rfl rfl rfl (has_g 1 rfl (by kernel_rfl) (by kernel_rfl))) (obs_cons (ob_v rfl rfl (r_assign has_bo)) (obs_nil)))) (by kernel_rfl) (by kernel_rfl) (by kernel_rfl) (fun a w hst => ?_)
  have hst : St B w0 105 [(4, _)] [⟨2, 42, ptrH, _⟩, ⟨3, 26, ptrH, _⟩] a w := hst
  refine thn_normal ?_
  refine wp_seq ?_
  refine wp_seq ?_
  refine go_draw (anc := [[], [0], [], [0, 1, 2], [0, 1, 2, 3], [0, 1, 2, 3, 4]]) (sts := [none, none]) (news := []) (sp := [.val 15 _, .val 16 _, .val 17 _, .val 18 _, .val 19 _, .val 20 _]) [.g 0, .o 5] follows_mixed hst (obs_cons (ob_v rfl rfl (r_load (loc_at0 0 rfl (by kernel_rfl)) ty_42)) (obs_cons (ob_v rfl rfl (r_call (xs := [.tmp 15]) (matCost_c _) (.cons (has_v 0 rfl (by kernel_rfl) (by kernel_rfl)) .nil))) (obs_cons (ob_v rfl rfl (r_load (loc_at0 1 rfl (by kernel_rfl)) ty_26)) (obs_cons (ob_v rfl rfl (r_call (xs := [.tmp 17]) (fracCost_c _) (.cons (has_v 2 rfl (by kernel_rfl) (by kernel_rfl)) .nil))) (obs_cons (ob_v rfl rfl (r_slice (D := []) (l := [_, _]) (xs := [.tmp 16, .tmp 18]) (nd_ok (by kernel_rfl)) sl_91 (by kernel_rfl) (n_ok (by kernel_rfl)) (Nat.le_of_ble_eq_true (by kernel_rfl)) (Nat.le_of_ble_eq_true (by kernel_rfl)) (Nat.le_of_ble_eq_true (by kernel_rfl)) (.cons (has_v 1 rfl (by kernel_rfl) (by kernel_rfl)) (.cons (has_v 3 rfl (by kernel_rfl) (by kernel_rfl)) .nil)) rfl rfl)) (obs_cons (ob_v rfl rfl (r_call (xs := [.tmp 19]) (beyond_c [_, _]) (.cons (has_v 4 rfl (by kernel_rfl) (by kernel_rfl)) .nil))) (obs_nil))))))) (by kernel_rfl) (by kernel_rfl) (by kernel_rfl) (by kernel_rfl) (fun a w hst => ?_)
  have hst : St B w0 105 [(4, _), (20, _)] [⟨2, 42, ptrH, _⟩, ⟨3, 26, ptrH, _⟩] a w := hst
  refine thn_normal ?_
  refine cond_of hst (List.mem_of_getElem? (i := 1) rfl) (fun hb0 => ?_) (fun hb0 => ?_)
  · refine wp_seq ?_
    refine go_lin (sts := [none, none]) (news := []) (sp := [.val 4 _]) [.o 0] hst (obs_cons (ob_v rfl rfl (r_assign has_bo)) (obs_nil)) (by kernel_rfl) (by kernel_rfl) (by kernel_rfl) (fun a w hst => ?_)
    have hst : St B w0 105 [(4, _)] [⟨2, 42, ptrH, _⟩, ⟨3, 26, ptrH, _⟩] a w := hst
    refine thn_normal ?_
    refine wp_ret ?_
    refine thn_ret ?_
    refine ret_wk ?_ (ret_tmp rfl hst (List.mem_of_getElem? (i := 0) rfl))
    exact wk_id
  · refine wp_skip ?_
    refine thn_normal ?_
    refine wp_seq ?_
    refine go_lin (sts := [none, none]) (news := []) (sp := [.val 22 _, .val 23 _, .val 21 _, .val 24 _, .val 25 _, .val 5 _, .val 6 _]) [.g 0, .o 5, .o 6] hst (obs_cons (ob_v rfl rfl (r_load (loc_at0 0 rfl (by kernel_rfl)) ty_42)) (obs_cons (ob_v rfl rfl (r_call (xs := [.tmp 22]) (sharp_c m) (.cons (has_v 0 rfl (by kernel_rfl) (by kernel_rfl)) .nil))) (obs_cons (ob_v rfl rfl (r_move (has_v 1 rfl (by kernel_rfl) (by kernel_rfl)))) (obs_cons (ob_v rfl rfl (r_ex0 (has_v 2 rfl (by kernel_rfl) (by kernel_rfl)))) (obs_cons (ob_v rfl rfl (r_ex1 (has_v 2 rfl (by kernel_rfl) (by kernel_rfl)))) (obs_cons (ob_v rfl rfl (r_assign (has_v 3 rfl (by kernel_rfl) (by kernel_rfl)))) (obs_cons (ob_v rfl rfl (r_assign (has_v 4 rfl (by kernel_rfl) (by kernel_rfl)))) (obs_nil)))))))) (by kernel_rfl) (by kernel_rfl) (by kernel_rfl) (fun a w hst => ?_)
    have hst : St B w0 105 [(4, _), (5, _), (6, _)] [⟨2, 42, ptrH, _⟩, ⟨3, 26, ptrH, _⟩] a w := hst
    refine thn_normal ?_
    refine wp_seq ?_
    refine wp_seq ?_
    refine go_lin (sts := [none, none]) (news := []) (sp := [.val 26 _, .val 27 _]) [.g 0, .g 1, .g 2, .o 1] hst (obs_cons (ob_v rfl rfl (r_move (has_g 2 rfl (by kernel_rfl) (by kernel_rfl)))) (obs_cons (ob_v rfl rfl (r_neq (has_v 0 rfl (by kernel_rfl) (by kernel_rfl)) has_num)) (obs_nil))) (by kernel_rfl) (by kernel_rfl) (by kernel_rfl) (fun a w hst => ?_)
    have hst : St B w0 105 [(4, _), (5, _), (6, _), (27, _)] [⟨2, 42, ptrH, _⟩, ⟨3, 26, ptrH, _⟩] a w := hst
    refine thn_normal ?_
    refine cond_of hst (List.mem_of_getElem? (i := 3) rfl) (fun hb1 => ?_) (fun hb1 => ?_)
    · refine wp_seq ?_
      refine go_lin (sts := [none, none]) (news := []) (sp := [.val 28 _, .val 29 _, .val 30 _, .val 31 (Wh (_ = true) _), .val 32 (Wh (_ = true) _), .val 33 _, .val 34 _, .val 35 (Wh (_ = true) _), .val 36 _, .val 4 _]) [.g 1, .o 9] hst (obs_cons (ob_v rfl rfl (r_move (has_g 2 rfl (by kernel_rfl) (by kernel_rfl)))) (obs_cons (ob_v rfl rfl (r_eql (has_v 0 rfl (by kernel_rfl) (by kernel_rfl)) has_num)) (obs_cons (ob_v rfl rfl (r_move (has_v 1 rfl (by kernel_rfl) (by kernel_rfl)))) (obs_cons (ob_gd rfl rfl rfl (has_v 2 rfl (by kernel_rfl) (by kernel_rfl)) (Nat.le_of_ble_eq_true (by kernel_rfl)) (fun hg => r_move (has_g 1 rfl (by kernel_rfl) (by kernel_rfl)))) (obs_cons (ob_gd rfl rfl rfl (has_v 2 rfl (by kernel_rfl) (by kernel_rfl)) (Nat.le_of_ble_eq_true (by kernel_rfl)) (fun hg => r_not (has_wh (has_v 3 rfl (by kernel_rfl) (by kernel_rfl)) hg))) (obs_cons (ob_v rfl rfl (r_and (has_v 2 rfl (by kernel_rfl) (by kernel_rfl)) (has_v 4 rfl (by kernel_rfl) (by kernel_rfl)))) (obs_cons (ob_v rfl rfl (r_move (has_v 5 rfl (by kernel_rfl) (by kernel_rfl)))) (obs_cons (ob_gd rfl rfl rfl (has_v 6 rfl (by kernel_rfl) (by kernel_rfl)) (Nat.le_of_ble_eq_true (by kernel_rfl)) (fun hg => r_call (xs := []) lives11_c .nil)) (obs_cons (ob_v rfl rfl (r_and (has_v 6 rfl (by kernel_rfl) (by kernel_rfl)) (has_v 7 rfl (by kernel_rfl) (by kernel_rfl)))) (obs_cons (ob_v rfl rfl (r_assign (has_v 8 rfl (by kernel_rfl) (by kernel_rfl)))) (obs_nil))))))))))) (by kernel_rfl) (by kernel_rfl) (by kernel_rfl) (fun a w hst => ?_)
      have hst : St B w0 105 [(5, _), (4, _)] [⟨2, 42, ptrH, _⟩, ⟨3, 26, ptrH, _⟩] a w := hst
      refine thn_normal ?_
      refine wp_ret ?_
      refine thn_ret ?_
      refine ret_wk ?_ (ret_tmp rfl hst (List.mem_of_getElem? (i := 1) rfl))
      exact bo_and (sh_err hb1)
    · refine wp_skip ?_
      refine thn_normal ?_
      refine wp_seq ?_
      refine go_draw (anc := [[], [], [0, 1], [0, 1, 2], [0, 1, 2, 3], [0, 1, 2, 3], [0, 1, 2, 3], [], [], [0, 1, 2, 3, 4, 7, 8], [0, 1, 2, 3, 4, 5, 7, 8, 9], [0, 1, 2, 3, 4, 5, 6, 7, 8, 9, 10]]) (sts := [none, none]) (news := [⟨7, 26, ptrH, some 7, _, some (9, _)⟩, ⟨8, 26, ptrH, some 8, _, some (10, _)⟩]) (sp := [.val 38 _, .val 39 _, .val 40 _, .val 37 _, .val 41 _, .val 42 _, .val 43 _, .alc 2, .alc 3, .sto 2, .sto 3, .val 9 _]) [.g 0, .g 1, .o 11] follows_mixed hst (obs_cons (ob_v rfl rfl (r_load (loc_at0 0 rfl (by kernel_rfl)) ty_42)) (obs_cons (ob_v rfl rfl (r_call (xs := [.const (.int .i64 (0)), .const (.int .i64 (1))]) (whole11_c (by decide) (by decide) (by decide) (by decide) (by decide)) (.cons has_num (.cons has_num .nil)))) (obs_cons (ob_v rfl rfl (r_call (xs := [.tmp 38, .tmp 39]) (image_c m _) (.cons (has_v 0 rfl (by kernel_rfl) (by kernel_rfl)) (.cons (has_v 1 rfl (by kernel_rfl) (by kernel_rfl)) .nil)))) (obs_cons (ob_v rfl rfl (r_move (has_v 2 rfl (by kernel_rfl) (by kernel_rfl)))) (obs_cons (ob_v rfl rfl (r_ex0 (has_v 3 rfl (by kernel_rfl) (by kernel_rfl)))) (obs_cons (ob_v rfl rfl (r_ex1 (has_v 3 rfl (by kernel_rfl) (by kernel_rfl)))) (obs_cons (ob_v rfl rfl (r_ex2 (has_v 3 rfl (by kernel_rfl) (by kernel_rfl)))) (obs_cons (ob_alc rfl rfl rfl (Str.zero str_frac)) (obs_cons (ob_alc rfl rfl rfl (Str.zero str_frac)) (obs_cons (ob_sto rfl rfl rfl (has_v 4 rfl (by kernel_rfl) (by kernel_rfl)) ty_26 rfl) (obs_cons (ob_sto rfl rfl rfl (has_v 5 rfl (by kernel_rfl) (by kernel_rfl)) ty_26 rfl) (obs_cons (ob_v rfl rfl (r_assign (has_v 6 rfl (by kernel_rfl) (by kernel_rfl)))) (obs_nil))))))))))))) (by kernel_rfl) (by kernel_rfl) (by kernel_rfl) (by kernel_rfl) (fun a w hst => ?_)
      have hst : St B w0 105 [(4, _), (5, _), (9, _)] [⟨2, 42, ptrH, _⟩, ⟨3, 26, ptrH, _⟩, ⟨7, 26, ptrH, _⟩, ⟨8, 26, ptrH, _⟩] a w := hst
      refine thn_normal ?_
      refine wp_seq ?_
      refine wp_seq ?_
      refine go_lin (sts := [none, none, none, none]) (news := []) (sp := [.val 44 _, .val 45 _, .val 46 _, .val 47 _, .val 48 (Wh (_ = true) _), .val 49 (Wh (_ = true) _), .val 50 (Wh (_ = true) _), .val 51 _, .val 52 _]) [.g 0, .g 1, .o 8] hst (obs_cons (ob_v rfl rfl (r_move (has_g 1 rfl (by kernel_rfl) (by kernel_rfl)))) (obs_cons (ob_v rfl rfl (r_move (has_g 2 rfl (by kernel_rfl) (by kernel_rfl)))) (obs_cons (ob_v rfl rfl (r_eql (has_v 1 rfl (by kernel_rfl) (by kernel_rfl)) has_num)) (obs_cons (ob_v rfl rfl (r_move (has_v 2 rfl (by kernel_rfl) (by kernel_rfl)))) (obs_cons (ob_gd rfl rfl rfl (has_v 3 rfl (by kernel_rfl) (by kernel_rfl)) (Nat.le_of_ble_eq_true (by kernel_rfl)) (fun hg => r_load (loc_at0 2 rfl (by kernel_rfl)) ty_26)) (obs_cons (ob_gd rfl rfl rfl (has_v 3 rfl (by kernel_rfl) (by kernel_rfl)) (Nat.le_of_ble_eq_true (by kernel_rfl)) (fun hg => r_call (xs := [.tmp 48]) (fracSign_c _) (.cons (has_wh (has_v 4 rfl (by kernel_rfl) (by kernel_rfl)) hg) .nil))) (obs_cons (ob_gd rfl rfl rfl (has_v 3 rfl (by kernel_rfl) (by kernel_rfl)) (Nat.le_of_ble_eq_true (by kernel_rfl)) (fun hg => r_eql (has_wh (has_v 5 rfl (by kernel_rfl) (by kernel_rfl)) hg) has_num)) (obs_cons (ob_v rfl rfl (r_and (has_v 3 rfl (by kernel_rfl) (by kernel_rfl)) (has_v 6 rfl (by kernel_rfl) (by kernel_rfl)))) (obs_cons (ob_v rfl rfl (r_neqb (by kernel_rfl) (has_v 0 rfl (by kernel_rfl) (by kernel_rfl)) (has_v 7 rfl (by kernel_rfl) (by kernel_rfl)))) (obs_nil)))))))))) (by kernel_rfl) (by kernel_rfl) (by kernel_rfl) (fun a w hst => ?_)
      have hst : St B w0 105 [(4, _), (5, _), (52, _)] [⟨2, 42, ptrH, _⟩, ⟨3, 26, ptrH, _⟩, ⟨7, 26, ptrH, _⟩, ⟨8, 26, ptrH, _⟩] a w := hst
      refine thn_normal ?_
      refine cond_of hst (List.mem_of_getElem? (i := 2) rfl) (fun hb2 => ?_) (fun hb2 => ?_)
      · exact (stop_img hb1 hb2).elim
      · refine wp_skip ?_
        refine thn_normal ?_
        refine wp_seq ?_
        refine go_lin (sts := [none, none, none, none]) (news := [⟨10, 26, ptrH, some 6, _, some (7, _)⟩]) (sp := [.val 54 _, .val 55 _, .val 56 _, .val 53 _, .val 57 _, .val 58 _, .alc 4, .sto 4, .val 11 _]) [.g 0, .g 1, .o 8] hst (obs_cons (ob_v rfl rfl (r_load (loc_at0 0 rfl (by kernel_rfl)) ty_42)) (obs_cons (ob_v rfl rfl (r_load (loc_at0 1 rfl (by kernel_rfl)) ty_26)) (obs_cons (ob_v rfl rfl (r_call (xs := [.tmp 54, .tmp 55]) (stop_c m t) (.cons (has_v 0 rfl (by kernel_rfl) (by kernel_rfl)) (.cons (has_v 1 rfl (by kernel_rfl) (by kernel_rfl)) .nil)))) (obs_cons (ob_v rfl rfl (r_move (has_v 2 rfl (by kernel_rfl) (by kernel_rfl)))) (obs_cons (ob_v rfl rfl (r_ex0 (has_v 3 rfl (by kernel_rfl) (by kernel_rfl)))) (obs_cons (ob_v rfl rfl (r_ex1 (has_v 3 rfl (by kernel_rfl) (by kernel_rfl)))) (obs_cons (ob_alc rfl rfl rfl (Str.zero str_frac)) (obs_cons (ob_sto rfl rfl rfl (has_v 4 rfl (by kernel_rfl) (by kernel_rfl)) ty_26 rfl) (obs_cons (ob_v rfl rfl (r_assign (has_v 5 rfl (by kernel_rfl) (by kernel_rfl)))) (obs_nil)))))))))) (by kernel_rfl) (by kernel_rfl) (by kernel_rfl) (fun a w hst => ?_)
        have hst : St B w0 105 [(4, _), (5, _), (11, _)] [⟨2, 42, ptrH, _⟩, ⟨3, 26, ptrH, _⟩, ⟨7, 26, ptrH, _⟩, ⟨8, 26, ptrH, _⟩, ⟨10, 26, ptrH, _⟩] a w := hst
        refine thn_normal ?_
        refine wp_seq ?_
        refine wp_seq ?_
        refine go_lin (sts := [none, none, none, none, none]) (news := []) (sp := [.val 59 _, .val 60 _]) [.g 0, .g 1, .g 2, .o 1] hst (obs_cons (ob_v rfl rfl (r_move (has_g 2 rfl (by kernel_rfl) (by kernel_rfl)))) (obs_cons (ob_v rfl rfl (r_neq (has_v 0 rfl (by kernel_rfl) (by kernel_rfl)) has_num)) (obs_nil))) (by kernel_rfl) (by kernel_rfl) (by kernel_rfl) (fun a w hst => ?_)
        have hst : St B w0 105 [(4, _), (5, _), (11, _), (60, _)] [⟨2, 42, ptrH, _⟩, ⟨3, 26, ptrH, _⟩, ⟨7, 26, ptrH, _⟩, ⟨8, 26, ptrH, _⟩, ⟨10, 26, ptrH, _⟩] a w := hst
        refine thn_normal ?_
        refine cond_of hst (List.mem_of_getElem? (i := 3) rfl) (fun hb3 => ?_) (fun hb3 => ?_)
        · refine wp_seq ?_
          refine go_lin (sts := [none, none, none, none, none]) (news := []) (sp := [.val 61 _, .val 62 _, .val 63 _, .val 64 (Wh (_ = false) _), .val 65 _, .val 66 _, .val 67 (Wh (_ = true) _), .val 68 _, .val 4 _]) [.g 1, .o 8] hst (obs_cons (ob_v rfl rfl (r_move (has_g 2 rfl (by kernel_rfl) (by kernel_rfl)))) (obs_cons (ob_v rfl rfl (r_neq (has_v 0 rfl (by kernel_rfl) (by kernel_rfl)) has_num)) (obs_cons (ob_v rfl rfl (r_move (has_v 1 rfl (by kernel_rfl) (by kernel_rfl)))) (obs_cons (ob_gd rfl rfl rfl (has_v 2 rfl (by kernel_rfl) (by kernel_rfl)) (Nat.le_of_ble_eq_true (by kernel_rfl)) (fun hg => r_move (has_g 1 rfl (by kernel_rfl) (by kernel_rfl)))) (obs_cons (ob_v rfl rfl (r_or (has_v 2 rfl (by kernel_rfl) (by kernel_rfl)) (has_v 3 rfl (by kernel_rfl) (by kernel_rfl)))) (obs_cons (ob_v rfl rfl (r_move (has_v 4 rfl (by kernel_rfl) (by kernel_rfl)))) (obs_cons (ob_gd rfl rfl rfl (has_v 5 rfl (by kernel_rfl) (by kernel_rfl)) (Nat.le_of_ble_eq_true (by kernel_rfl)) (fun hg => r_call (xs := []) lives11_c .nil)) (obs_cons (ob_v rfl rfl (r_and (has_v 5 rfl (by kernel_rfl) (by kernel_rfl)) (has_v 6 rfl (by kernel_rfl) (by kernel_rfl)))) (obs_cons (ob_v rfl rfl (r_assign (has_v 7 rfl (by kernel_rfl) (by kernel_rfl)))) (obs_nil)))))))))) (by kernel_rfl) (by kernel_rfl) (by kernel_rfl) (fun a w hst => ?_)
          have hst : St B w0 105 [(5, _), (4, _)] [⟨2, 42, ptrH, _⟩, ⟨3, 26, ptrH, _⟩, ⟨7, 26, ptrH, _⟩, ⟨8, 26, ptrH, _⟩, ⟨10, 26, ptrH, _⟩] a w := hst
          refine thn_normal ?_
          refine wp_ret ?_
          refine thn_ret ?_
          refine ret_wk ?_ (ret_tmp rfl hst (List.mem_of_getElem? (i := 1) rfl))
          exact bo_and (st_err hb1)
        · refine wp_skip ?_
          refine thn_normal ?_
          refine wp_seq ?_
          refine go_draw (anc := [[], [], [], [1, 2], [0, 1, 2, 3], [0, 1, 2, 3, 4], [0, 1, 2, 3, 4, 5], [0, 1, 2, 3, 4, 5], [], [0, 1, 2, 3, 4, 5, 6, 8], [0, 1, 2, 3, 4, 5, 6, 7, 8, 9]]) (sts := [none, none, none, none, none]) (news := [⟨12, 80, ptrH, some 8, _, some (9, _)⟩]) (sp := [.val 70 _, .val 71 _, .val 72 _, .val 73 _, .val 74 _, .val 69 _, .val 75 _, .val 76 _, .alc 5, .sto 5, .val 13 _]) [.g 0, .g 1, .o 10] follows_mixed hst (obs_cons (ob_v rfl rfl (r_load (loc_at0 0 rfl (by kernel_rfl)) ty_42)) (obs_cons (ob_v rfl rfl (r_call (xs := [.const (.int .i64 (0)), .const (.int .i64 (1))]) (whole11_c (by decide) (by decide) (by decide) (by decide) (by decide)) (.cons has_num (.cons has_num .nil)))) (obs_cons (ob_v rfl rfl (r_load (loc_at0 4 rfl (by kernel_rfl)) ty_26)) (obs_cons (ob_v rfl rfl (r_build (xs := [(0, .tmp 71), (1, .tmp 72)]) (qs := [(0, _), (1, _)]) str_ray (.cons ⟨rfl, (has_v 1 rfl (by kernel_rfl) (by kernel_rfl)), rfl⟩ (.cons ⟨rfl, (has_v 2 rfl (by kernel_rfl) (by kernel_rfl)), rfl⟩ .nil)))) (obs_cons (ob_v rfl rfl (r_call (xs := [.tmp 70, .tmp 73]) (through_c m ⟨_, _⟩) (.cons (has_v 0 rfl (by kernel_rfl) (by kernel_rfl)) (.cons (has_v 3 rfl (by kernel_rfl) (by kernel_rfl)) .nil)))) (obs_cons (ob_v rfl rfl (r_move (has_v 4 rfl (by kernel_rfl) (by kernel_rfl)))) (obs_cons (ob_v rfl rfl (r_ex0 (has_v 5 rfl (by kernel_rfl) (by kernel_rfl)))) (obs_cons (ob_v rfl rfl (r_ex1 (has_v 5 rfl (by kernel_rfl) (by kernel_rfl)))) (obs_cons (ob_alc rfl rfl rfl (Str.zero str_ray)) (obs_cons (ob_sto rfl rfl rfl (has_v 6 rfl (by kernel_rfl) (by kernel_rfl)) ty_80 rfl) (obs_cons (ob_v rfl rfl (r_assign (has_v 7 rfl (by kernel_rfl) (by kernel_rfl)))) (obs_nil)))))))))))) (by kernel_rfl) (by kernel_rfl) (by kernel_rfl) (by kernel_rfl) (fun a w hst => ?_)
          have hst : St B w0 105 [(4, _), (5, _), (13, _)] [⟨2, 42, ptrH, _⟩, ⟨3, 26, ptrH, _⟩, ⟨7, 26, ptrH, _⟩, ⟨8, 26, ptrH, _⟩, ⟨10, 26, ptrH, _⟩, ⟨12, 80, ptrH, _⟩] a w := hst
          refine thn_normal ?_
          refine wp_seq ?_
          refine wp_seq ?_
          refine go_lin (sts := [none, none, none, none, none, none]) (news := []) (sp := [.val 77 _, .val 78 _]) [.g 0, .g 1, .g 2, .o 1] hst (obs_cons (ob_v rfl rfl (r_move (has_g 2 rfl (by kernel_rfl) (by kernel_rfl)))) (obs_cons (ob_v rfl rfl (r_neq (has_v 0 rfl (by kernel_rfl) (by kernel_rfl)) has_num)) (obs_nil))) (by kernel_rfl) (by kernel_rfl) (by kernel_rfl) (fun a w hst => ?_)
          have hst : St B w0 105 [(4, _), (5, _), (13, _), (78, _)] [⟨2, 42, ptrH, _⟩, ⟨3, 26, ptrH, _⟩, ⟨7, 26, ptrH, _⟩, ⟨8, 26, ptrH, _⟩, ⟨10, 26, ptrH, _⟩, ⟨12, 80, ptrH, _⟩] a w := hst
          refine thn_normal ?_
          refine cond_of hst (List.mem_of_getElem? (i := 3) rfl) (fun hb4 => ?_) (fun hb4 => ?_)
          · refine wp_seq ?_
            refine go_lin (sts := [none, none, none, none, none, none]) (news := []) (sp := [.val 79 _, .val 4 _]) [.g 1, .g 2, .o 1] hst (obs_cons (ob_v rfl rfl (r_call (xs := []) lives11_c .nil)) (obs_cons (ob_v rfl rfl (r_assign (has_v 0 rfl (by kernel_rfl) (by kernel_rfl)))) (obs_nil))) (by kernel_rfl) (by kernel_rfl) (by kernel_rfl) (fun a w hst => ?_)
            have hst : St B w0 105 [(5, _), (13, _), (4, _)] [⟨2, 42, ptrH, _⟩, ⟨3, 26, ptrH, _⟩, ⟨7, 26, ptrH, _⟩, ⟨8, 26, ptrH, _⟩, ⟨10, 26, ptrH, _⟩, ⟨12, 80, ptrH, _⟩] a w := hst
            refine thn_normal ?_
            refine wp_ret ?_
            refine thn_ret ?_
            refine ret_wk ?_ (ret_tmp rfl hst (List.mem_of_getElem? (i := 2) rfl))
            exact wk_id
          · refine wp_skip ?_
            refine thn_normal ?_
            refine wp_seq ?_
            refine go_lin (sts := [none, none, none, none, none, none]) (news := [⟨14, 26, ptrH, some 2, _, some (3, _)⟩]) (sp := [.adr 80 12 (.some 0) True, .val 81 _, .alc 6, .sto 6]) [.g 0, .g 1, .g 2] hst (obs_cons (ob_a rfl rfl (a_fld (loc_at0 5 rfl (by kernel_rfl)) fld_80_0)) (obs_cons (ob_v rfl rfl (r_loadf 0 rfl (by kernel_rfl) trivial (loc_at0 5 rfl (by kernel_rfl)) (Sub.part 0 rfl rfl) ty_26)) (obs_cons (ob_alc rfl rfl rfl (Str.zero str_frac)) (obs_cons (ob_sto rfl rfl rfl (has_v 1 rfl (by kernel_rfl) (by kernel_rfl)) ty_26 rfl) (obs_nil))))) (by kernel_rfl) (by kernel_rfl) (by kernel_rfl) (fun a w hst => ?_)
            have hst : St B w0 105 [(4, _), (5, _), (13, _)] [⟨2, 42, ptrH, _⟩, ⟨3, 26, ptrH, _⟩, ⟨7, 26, ptrH, _⟩, ⟨8, 26, ptrH, _⟩, ⟨10, 26, ptrH, _⟩, ⟨12, 80, ptrH, _⟩, ⟨14, 26, ptrH, _⟩] a w := hst
            refine thn_normal ?_
            refine wp_seq ?_
            refine wp_seq ?_
            refine go_lin (sts := [none, none, none, none, none, none, none]) (news := []) (sp := [.val 82 _, .val 83 _, .val 84 _]) [.g 0, .g 1, .g 2, .o 2] hst (obs_cons (ob_v rfl rfl (r_load (loc_at0 6 rfl (by kernel_rfl)) ty_26)) (obs_cons (ob_v rfl rfl (r_call (xs := [.tmp 82]) (fracSign_c _) (.cons (has_v 0 rfl (by kernel_rfl) (by kernel_rfl)) .nil))) (obs_cons (ob_v rfl rfl (r_lss (has_v 1 rfl (by kernel_rfl) (by kernel_rfl)) has_num)) (obs_nil)))) (by kernel_rfl) (by kernel_rfl) (by kernel_rfl) (fun a w hst => ?_)
            have hst : St B w0 105 [(4, _), (5, _), (13, _), (84, _)] [⟨2, 42, ptrH, _⟩, ⟨3, 26, ptrH, _⟩, ⟨7, 26, ptrH, _⟩, ⟨8, 26, ptrH, _⟩, ⟨10, 26, ptrH, _⟩, ⟨12, 80, ptrH, _⟩, ⟨14, 26, ptrH, _⟩] a w := hst
            refine thn_normal ?_
            refine cond_of hst (List.mem_of_getElem? (i := 3) rfl) (fun hb5 => ?_) (fun hb5 => ?_)
            · refine go_draw (anc := [[], [], [0, 1], [0, 1, 2], [0, 1, 2, 3], [0, 1, 2, 3], [0, 1, 2, 3, 4], [0, 1, 2, 3, 4, 5, 6]]) (sts := [none, none, none, none, none, none, some (6, _)]) (news := []) (sp := [.val 86 _, .val 87 _, .val 88 _, .val 85 _, .val 89 _, .val 90 _, .sto 6, .val 13 _]) [.g 0, .g 1, .o 7] follows_mixed hst (obs_cons (ob_v rfl rfl (r_call (xs := [.const (.int .i64 (0)), .const (.int .i64 (1))]) (whole11_c (by decide) (by decide) (by decide) (by decide) (by decide)) (.cons has_num (.cons has_num .nil)))) (obs_cons (ob_v rfl rfl (r_load (loc_at0 6 rfl (by kernel_rfl)) ty_26)) (obs_cons (ob_v rfl rfl (r_call (xs := [.tmp 86, .tmp 87]) (subF_c _ _) (.cons (has_v 0 rfl (by kernel_rfl) (by kernel_rfl)) (.cons (has_v 1 rfl (by kernel_rfl) (by kernel_rfl)) .nil)))) (obs_cons (ob_v rfl rfl (r_move (has_v 2 rfl (by kernel_rfl) (by kernel_rfl)))) (obs_cons (ob_v rfl rfl (r_ex0 (has_v 3 rfl (by kernel_rfl) (by kernel_rfl)))) (obs_cons (ob_v rfl rfl (r_ex1 (has_v 3 rfl (by kernel_rfl) (by kernel_rfl)))) (obs_cons (ob_sto rfl rfl rfl (has_v 4 rfl (by kernel_rfl) (by kernel_rfl)) ty_26 rfl) (obs_cons (ob_v rfl rfl (r_assign (has_v 5 rfl (by kernel_rfl) (by kernel_rfl)))) (obs_nil))))))))) (by kernel_rfl) (by kernel_rfl) (by kernel_rfl) (by kernel_rfl) (fun a w hst => ?_)
              have hst : St B w0 105 [(4, _), (5, _), (13, _)] [⟨2, 42, ptrH, _⟩, ⟨3, 26, ptrH, _⟩, ⟨7, 26, ptrH, _⟩, ⟨8, 26, ptrH, _⟩, ⟨10, 26, ptrH, _⟩, ⟨12, 80, ptrH, _⟩, ⟨14, 26, ptrH, _⟩] a w := hst
              refine thn_normal ?_
              refine wp_seq ?_
              refine go_lin (sts := [none, none, none, none, none, none, none]) (news := []) (sp := [.val 91 _, .val 92 _, .val 93 _, .val 94 (Wh (_ = true) _), .val 95 (Wh (_ = true) _), .val 96 _, .val 97 _, .val 98 (Wh (_ = true) _), .val 99 (Wh (_ = true) _), .val 100 (Wh (_ = true) _), .val 101 _, .val 102 _, .val 103 (Wh (_ = true) _), .val 104 _, .val 4 _]) [.o 14] hst (obs_cons (ob_v rfl rfl (r_move (has_g 1 rfl (by kernel_rfl) (by kernel_rfl)))) (obs_cons (ob_v rfl rfl (r_not (has_v 0 rfl (by kernel_rfl) (by kernel_rfl)))) (obs_cons (ob_v rfl rfl (r_move (has_v 1 rfl (by kernel_rfl) (by kernel_rfl)))) (obs_cons (ob_gd rfl rfl rfl (has_v 2 rfl (by kernel_rfl) (by kernel_rfl)) (Nat.le_of_ble_eq_true (by kernel_rfl)) (fun hg => r_move (has_g 2 rfl (by kernel_rfl) (by kernel_rfl)))) (obs_cons (ob_gd rfl rfl rfl (has_v 2 rfl (by kernel_rfl) (by kernel_rfl)) (Nat.le_of_ble_eq_true (by kernel_rfl)) (fun hg => r_eql (has_wh (has_v 3 rfl (by kernel_rfl) (by kernel_rfl)) hg) has_num)) (obs_cons (ob_v rfl rfl (r_and (has_v 2 rfl (by kernel_rfl) (by kernel_rfl)) (has_v 4 rfl (by kernel_rfl) (by kernel_rfl)))) (obs_cons (ob_v rfl rfl (r_move (has_v 5 rfl (by kernel_rfl) (by kernel_rfl)))) (obs_cons (ob_gd rfl rfl rfl (has_v 6 rfl (by kernel_rfl) (by kernel_rfl)) (Nat.le_of_ble_eq_true (by kernel_rfl)) (fun hg => r_load (loc_at0 6 rfl (by kernel_rfl)) ty_26)) (obs_cons (ob_gd rfl rfl rfl (has_v 6 rfl (by kernel_rfl) (by kernel_rfl)) (Nat.le_of_ble_eq_true (by kernel_rfl)) (fun hg => r_load (loc_at0 1 rfl (by kernel_rfl)) ty_26)) (obs_cons (ob_gd rfl rfl rfl (has_v 6 rfl (by kernel_rfl) (by kernel_rfl)) (Nat.le_of_ble_eq_true (by kernel_rfl)) (fun hg => r_call (xs := [.tmp 98, .tmp 99]) (sameFrac_c _ _) (.cons (has_wh (has_v 7 rfl (by kernel_rfl) (by kernel_rfl)) hg) (.cons (has_wh (has_v 8 rfl (by kernel_rfl) (by kernel_rfl)) hg) .nil)))) (obs_cons (ob_v rfl rfl (r_and (has_v 6 rfl (by kernel_rfl) (by kernel_rfl)) (has_v 9 rfl (by kernel_rfl) (by kernel_rfl)))) (obs_cons (ob_v rfl rfl (r_move (has_v 10 rfl (by kernel_rfl) (by kernel_rfl)))) (obs_cons (ob_gd rfl rfl rfl (has_v 11 rfl (by kernel_rfl) (by kernel_rfl)) (Nat.le_of_ble_eq_true (by kernel_rfl)) (fun hg => r_call (xs := []) lives11_c .nil)) (obs_cons (ob_v rfl rfl (r_and (has_v 11 rfl (by kernel_rfl) (by kernel_rfl)) (has_v 12 rfl (by kernel_rfl) (by kernel_rfl)))) (obs_cons (ob_v rfl rfl (r_assign (has_v 13 rfl (by kernel_rfl) (by kernel_rfl)))) (obs_nil)))))))))))))))) (by kernel_rfl) (by kernel_rfl) (by kernel_rfl) (fun a w hst => ?_)
              have hst : St B w0 105 [(4, _)] [⟨2, 42, ptrH, _⟩, ⟨3, 26, ptrH, _⟩, ⟨7, 26, ptrH, _⟩, ⟨8, 26, ptrH, _⟩, ⟨10, 26, ptrH, _⟩, ⟨12, 80, ptrH, _⟩, ⟨14, 26, ptrH, _⟩] a w := hst
              refine thn_normal ?_
              refine wp_ret ?_
              refine ret_wk ?_ (ret_tmp rfl hst (List.mem_of_getElem? (i := 0) rfl))
              exact bo_and (stop_neg hb1 hb3 hb4 hb5)
            · refine wp_skip ?_
              refine thn_normal ?_
              refine wp_seq ?_
              refine go_lin (sts := [none, none, none, none, none, none, none]) (news := []) (sp := [.val 91 _, .val 92 _, .val 93 _, .val 94 (Wh (_ = true) _), .val 95 (Wh (_ = true) _), .val 96 _, .val 97 _, .val 98 (Wh (_ = true) _), .val 99 (Wh (_ = true) _), .val 100 (Wh (_ = true) _), .val 101 _, .val 102 _, .val 103 (Wh (_ = true) _), .val 104 _, .val 4 _]) [.o 14] hst (obs_cons (ob_v rfl rfl (r_move (has_g 1 rfl (by kernel_rfl) (by kernel_rfl)))) (obs_cons (ob_v rfl rfl (r_not (has_v 0 rfl (by kernel_rfl) (by kernel_rfl)))) (obs_cons (ob_v rfl rfl (r_move (has_v 1 rfl (by kernel_rfl) (by kernel_rfl)))) (obs_cons (ob_gd rfl rfl rfl (has_v 2 rfl (by kernel_rfl) (by kernel_rfl)) (Nat.le_of_ble_eq_true (by kernel_rfl)) (fun hg => r_move (has_g 2 rfl (by kernel_rfl) (by kernel_rfl)))) (obs_cons (ob_gd rfl rfl rfl (has_v 2 rfl (by kernel_rfl) (by kernel_rfl)) (Nat.le_of_ble_eq_true (by kernel_rfl)) (fun hg => r_eql (has_wh (has_v 3 rfl (by kernel_rfl) (by kernel_rfl)) hg) has_num)) (obs_cons (ob_v rfl rfl (r_and (has_v 2 rfl (by kernel_rfl) (by kernel_rfl)) (has_v 4 rfl (by kernel_rfl) (by kernel_rfl)))) (obs_cons (ob_v rfl rfl (r_move (has_v 5 rfl (by kernel_rfl) (by kernel_rfl)))) (obs_cons (ob_gd rfl rfl rfl (has_v 6 rfl (by kernel_rfl) (by kernel_rfl)) (Nat.le_of_ble_eq_true (by kernel_rfl)) (fun hg => r_load (loc_at0 6 rfl (by kernel_rfl)) ty_26)) (obs_cons (ob_gd rfl rfl rfl (has_v 6 rfl (by kernel_rfl) (by kernel_rfl)) (Nat.le_of_ble_eq_true (by kernel_rfl)) (fun hg => r_load (loc_at0 1 rfl (by kernel_rfl)) ty_26)) (obs_cons (ob_gd rfl rfl rfl (has_v 6 rfl (by kernel_rfl) (by kernel_rfl)) (Nat.le_of_ble_eq_true (by kernel_rfl)) (fun hg => r_call (xs := [.tmp 98, .tmp 99]) (sameFrac_c _ _) (.cons (has_wh (has_v 7 rfl (by kernel_rfl) (by kernel_rfl)) hg) (.cons (has_wh (has_v 8 rfl (by kernel_rfl) (by kernel_rfl)) hg) .nil)))) (obs_cons (ob_v rfl rfl (r_and (has_v 6 rfl (by kernel_rfl) (by kernel_rfl)) (has_v 9 rfl (by kernel_rfl) (by kernel_rfl)))) (obs_cons (ob_v rfl rfl (r_move (has_v 10 rfl (by kernel_rfl) (by kernel_rfl)))) (obs_cons (ob_gd rfl rfl rfl (has_v 11 rfl (by kernel_rfl) (by kernel_rfl)) (Nat.le_of_ble_eq_true (by kernel_rfl)) (fun hg => r_call (xs := []) lives11_c .nil)) (obs_cons (ob_v rfl rfl (r_and (has_v 11 rfl (by kernel_rfl) (by kernel_rfl)) (has_v 12 rfl (by kernel_rfl) (by kernel_rfl)))) (obs_cons (ob_v rfl rfl (r_assign (has_v 13 rfl (by kernel_rfl) (by kernel_rfl)))) (obs_nil)))))))))))))))) (by kernel_rfl) (by kernel_rfl) (by kernel_rfl) (fun a w hst => ?_)
              have hst : St B w0 105 [(4, _)] [⟨2, 42, ptrH, _⟩, ⟨3, 26, ptrH, _⟩, ⟨7, 26, ptrH, _⟩, ⟨8, 26, ptrH, _⟩, ⟨10, 26, ptrH, _⟩, ⟨12, 80, ptrH, _⟩, ⟨14, 26, ptrH, _⟩] a w := hst
              refine thn_normal ?_
              refine wp_ret ?_
              refine ret_wk ?_ (ret_tmp rfl hst (List.mem_of_getElem? (i := 0) rfl))
              exact bo_and (stop_pos hb1 hb3 hb4 hb5)

open Go.ChangeShapes Go.WideShapes Go.ChangeAt
open Go.ChangeMaps (open_string shut_string)
set_option linter.unusedVariables false
theorem own : ownKnob Try.prog.godebug = none := by kernel_rfl
theorem laidOut : laidOutB Try.prog = true := by kernel_rfl
set_option maxRecDepth 100000 in
theorem lifted (os : Os) (started : os.Started) (H : Type) (enc : TypeId × Value → H) :
    ReturnsInHanded {} Try.checked os 11 .any (Rows.imageStopSpec.pre6 enc Try.prog Try.f11 Rows.imageStopRow.domain false) (Rows.imageStopSpec.post enc Try.prog Try.f11 false true false false) := by
  refine returnsInHanded_of_change (C := Try.checked) own started (by kernel_rfl) Try.func11
    (ChangeSpec.witness6 (enc := enc) (C := Try.checked) false ⟨#[], #[.agg #[.bool false, .slice none 0 0, .bool false, .slice none 0 0, .bool false, .slice none 0 0, .bool false, .slice none 0 0, .bool false, .slice none 0 0, .bool false, .slice none 0 0, .bool false, .slice none 0 0, .bool false, .slice none 0 0], .agg #[.bool false, .slice none 0 0, .bool false, .slice none 0 0]], []⟩ 8 (by kernel_rfl) (by kernel_rfl) (by kernel_rfl) (by kernel_rfl)) ?_
  intro W base args ds gs before hval0 hW hcnd _
  have hval : ∀ (j : Nat) t v, Try.f11.params[j]? = some t → args[j]? = some v → Value.okWide Try.prog W .any base t v := hval0
  have hW' := hW
  obtain ⟨p, q, hA0, hV, rfl, hfz, hnd⟩ := hW
  have hA : DataW.TrodAll enc Try.prog W 0 (fun _ => true) true Try.f11.params.toList args.toList ds p := hA0
  rw [Try.params11] at hA hval
  obtain ⟨v0, vs0, d0, ds0, p0, q0, hargs, rfl, rfl, h0, r0⟩ := trodAll_cons hA
  obtain ⟨v1, vs1, d1, ds1, p1, q1, rfl, rfl, rfl, h1, r1⟩ := trodAll_cons r0
  obtain ⟨rfl, rfl, rfl⟩ := trodAll_nil r1
  obtain rfl : args = #[v0, v1] := by cases args; simp_all
  obtain ⟨rfl, rfl⟩ := trodVars_none hV
  have k0 := h0
  have lt0 : ∀ x ∈ p0, x.block < W.heap.size := by obtain ⟨m, hm⟩ := k0; exact DataW.trod_lt m _ _ _ hm
  have k1 := h1
  have lt1 : ∀ x ∈ p1, x.block < W.heap.size := by obtain ⟨m, hm⟩ := k1; exact DataW.trod_lt m _ _ _ hm
  obtain ⟨x0, a0⟩ := arg_of (A := RMA) (fun _ => rfl) Try.underlying42 rd_rm (hval 0 42 v0 rfl rfl) h0
  obtain ⟨x1, a1⟩ := arg_of (A := RFA) (fun _ => rfl) Try.underlying26 rd_rf (hval 1 26 v1 rfl rfl) h1
  clear hA0 hval0
  refine ((imageStop_w x0 x1).2 W.heap.size W [v0, v1] (Nat.le_refl _) (.cons a0 (.cons a1 .nil))).mono fun e W' ⟨v, he, hv, bel⟩ => ?_
  have hv' := bo_val hv
  subst hv' he
  exact ⟨_, rfl, _, _, _, [], _, [], hW', trodAll_mk1 (shut_bool Try.underlying4 _), (trodAll_cons_mk (Below.trod laidOut (by kernel_rfl) (of_decide_eq_true (by kernel_rfl)) k0 bel lt0) (trodAll_cons_mk (Below.trod laidOut (by kernel_rfl) (of_decide_eq_true (by kernel_rfl)) k1 bel lt1) trodAll_mk0)), rfl, bel.frame _, fun h => by cases h⟩
theorem over : Rows.imageStopRow.holds Try.pinned (OpenSpec.ofChange Rows.imageStopSpec) :=
  OpenClaim.holds_of_wide 11 Try.f11 rfl rfl rfl rfl rfl rfl rfl ⟨rfl, rfl, rfl, rfl, rfl⟩ rfl rfl rfl rfl rfl (by kernel_rfl) Try.func11 (by kernel_rfl)
    (of_decide_eq_true (by kernel_rfl)) (by unfold Func.isWrapper; rw [if_neg (of_decide_eq_false (by kernel_rfl))]; exact ⟨rfl, rfl⟩)
    (fun os started H enc _ => lifted os started H enc)
theorem provedImageStop : Rows.ImageStopSaid := over
#print axioms provedImageStop

end Go.Proofs.Ytiokhlpbdabaeaa
