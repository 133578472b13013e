/- MatchWays: for every p, q, m the law of chapter 20 on the overlap, either way round and through a bench, answers true. No condition. -/
import Derived.Test.YtiokhlpbdabaeaaLeafW
import Derived.Test.YtiokhlpbdabaeaaRows
import Derived.WalkKit
import Derived.ProofKit
import Derived.OpenShut
import Derived.ShutString
import Derived.ChangeOld
import Derived.Below
namespace Go.Proofs.Ytiokhlpbdabaeaa
open Go Go.RowKit
namespace LMatchWays
theorem sl_91 : Sl Try.prog 91 3 1 := ⟨by kernel_rfl, by kernel_rfl⟩
theorem ty_26 : Ty Try.prog 26 4 true := ⟨by kernel_rfl, by kernel_rfl⟩
theorem ty_28 : Ty Try.prog 28 8 true := ⟨by kernel_rfl, by kernel_rfl⟩
theorem ty_42 : Ty Try.prog 42 16 true := ⟨by kernel_rfl, by kernel_rfl⟩
end LMatchWays
open LMatchWays
/-! two beams through one bench -/
theorem cx1 (a b c d pr pi qr qi : Rat) :
    ((a * pr + b) * (c * pr + d) + a * pi * (c * pi)) * ((c * qr + d) * (c * qr + d) + c * qi * (c * qi)) - ((a * qr + b) * (c * qr + d) + a * qi * (c * qi)) * ((c * pr + d) * (c * pr + d) + c * pi * (c * pi)) =
    (a * d - b * c) * ((pr - qr) * ((c * pr + d) * (c * qr + d) + c * pi * (c * qi)) - (pi + qi) * ((c * pr + d) * (c * qi) - c * pi * (c * qr + d))) := by grind
theorem cx2 (c d pr pi qr qi : Rat) :
    pi * ((c * qr + d) * (c * qr + d) + c * qi * (c * qi)) + qi * ((c * pr + d) * (c * pr + d) + c * pi * (c * pi)) =
    (pr - qr) * ((c * pr + d) * (c * qi) - c * pi * (c * qr + d)) + (pi + qi) * ((c * pr + d) * (c * qr + d) + c * pi * (c * qi)) := by grind
theorem cx3 (X Y A B : Rat) : (X * A - Y * B) * (X * A - Y * B) + (X * B + Y * A) * (X * B + Y * A) = (X * X + Y * Y) * (A * A + B * B) := by grind
theorem cx4 (u v s w : Rat) : (u * s + v * w) * (u * s + v * w) + (u * w - v * s) * (u * w - v * s) = (u * u + v * v) * (s * s + w * w) := by grind
theorem cxf (R S N M pi qi E : Rat) (hN : N ≠ 0) (hM : M ≠ 0) (hE : E ≠ 0) (h : (R * M - S * N) * (R * M - S * N) + (pi * M + qi * N) * (pi * M + qi * N) = N * M * E) :
    4 * (pi / N * (qi / M)) / ((R / N - S / M) * (R / N - S / M) + (pi / N + qi / M) * (pi / N + qi / M)) = 4 * (pi * qi) / E := by
  have e : (R / N - S / M) * (R / N - S / M) + (pi / N + qi / M) * (pi / N + qi / M) = E / (N * M) := by grind
  rw [e]
  grind
theorem alk_inv {m : MQ} {p q : GQ} (hd : detM m = 1) (hp : 0 < p.im) (hq : 0 < q.im) : alkQ (behQ m p) (behQ m q) = alkQ p q := by
  have hN := norm_line hd hp
  have hM := norm_line hd hq
  have hE : sqQ (p.re - q.re) (p.im + q.im) ≠ 0 := sq_ne (add_pos hp hq)
  unfold alkQ behQ sqQ normQ lineQ at *
  unfold detM at hd
  apply cxf _ _ _ _ _ _ _ hN hM hE
  rw [cx1, cx2, hd, Rat.one_mul, cx3, cx4, Rat.mul_comm]
theorem norm_gt {z : GQ} (h : normQ z ≠ 0) : 0 < normQ z := by
  have h1 := sq_nn z.re
  have h2 := sq_nn z.im
  have h3 : 0 ≤ normQ z := Rat.add_nonneg h1 h2
  exact Rat.lt_iff_le_and_ne.2 ⟨h3, fun e => h e.symm⟩
theorem div_pos {x y : Rat} (h : 0 < x) (h' : 0 < y) : 0 < x / y := Rat.mul_pos h (Rat.inv_pos.2 h')
theorem beh_pos {m : MQ} {p : GQ} (hd : detM m = 1) (hp : 0 < p.im) : 0 < (behQ m p).im := div_pos hp (norm_gt (norm_line hd hp))
/-! how great an overlap may be -/
theorem alk_den {p q : GQ} (hp : 0 < p.im) (hq : 0 < q.im) : 0 < sqQ (p.re - q.re) (p.im + q.im) := norm_gt (z := ⟨p.re - q.re, p.im + q.im⟩) (sq_ne (add_pos hp hq))
theorem alk_mul {p q : GQ} (hp : 0 < p.im) (hq : 0 < q.im) : alkQ p q * sqQ (p.re - q.re) (p.im + q.im) = 4 * (p.im * q.im) := Rat.div_mul_cancel (ne_of_pos (alk_den hp hq))
theorem alk_sq (p q : GQ) : sqQ (p.re - q.re) (p.im + q.im) = 4 * (p.im * q.im) + ((p.re - q.re) * (p.re - q.re) + (p.im - q.im) * (p.im - q.im)) := by unfold sqQ; grind
theorem alk_pos {p q : GQ} (hp : 0 < p.im) (hq : 0 < q.im) : 0 < alkQ p q := div_pos (Rat.mul_pos (by decide) (Rat.mul_pos hp hq)) (alk_den hp hq)
theorem alk_le {p q : GQ} (hp : 0 < p.im) (hq : 0 < q.im) : ¬ 1 < alkQ p q := by
  intro h
  have h1 := Rat.mul_lt_mul_of_pos_right h (alk_den hp hq)
  rw [alk_mul hp hq, Rat.one_mul, alk_sq] at h1
  have h2 := sq_nn (p.re - q.re)
  have h3 := sq_nn (p.im - q.im)
  grind
theorem alk_one {p q : GQ} (hp : 0 < p.im) (hq : 0 < q.im) : alkQ p q = 1 ↔ p = q := by
  constructor
  · intro h
    have h1 := alk_mul hp hq
    rw [h, Rat.one_mul, alk_sq] at h1
    obtain ⟨h2, h3⟩ := sum_sq (x := p.re - q.re) (y := p.im - q.im) (by grind)
    cases p; cases q
    simp only [GQ.mk.injEq] at *
    exact ⟨by grind, by grind⟩
  · rintro rfl
    have h1 := alk_mul hp hp
    rw [alk_sq] at h1
    have h2 : (4 * (p.im * p.im)) ≠ 0 := ne_of_pos (Rat.mul_pos (by decide) (Rat.mul_pos hp hp))
    grind
/-! the law's ways -/
theorem ways_no {x y : RG} (h : (((ovF x y).2 != (ovF y x).2) || (!decide ((ovF x y).1 = (ovF y x).1))) = true) : False := by
  rw [ov_symm] at h
  simp at h
theorem ways_err {x y : RG} (h : ((ovF x y).2 != 0) = true) : (((ovF x y).2 == 1) || ((ovF x y).2 == 4)) = true := by
  cases hb : okB x && okB y with
  | false => rw [ovF_no hb]; rfl
  | true =>
    rw [Bool.and_eq_true] at hb
    obtain ⟨p, rfl, hp⟩ := okB_ex hb.1
    obtain ⟨q, rfl, hq⟩ := okB_ex hb.2
    rw [ovF_ok hp hq] at h ⊢
    rcases ansF_2 (alkQ p q) with h1 | ⟨h1, _⟩
    · exact h1
    · rw [h1] at h; exact absurd h (by decide)
theorem ways_ok {x y : RG} (h : ((ovF x y).2 != 0) = false) : ∃ p q, x = rgOf p ∧ y = rgOf q ∧ OkG p ∧ OkG q ∧ (ovF x y).1 = rfOf (alkQ p q) ∧ longQ (alkQ p q) = false := by
  cases hb : okB x && okB y with
  | false => rw [ovF_no hb] at h; exact absurd h (by decide)
  | true =>
    rw [Bool.and_eq_true] at hb
    obtain ⟨p, rfl, hp⟩ := okB_ex hb.1
    obtain ⟨q, rfl, hq⟩ := okB_ex hb.2
    rw [ovF_ok hp hq] at h ⊢
    rcases ansF_2 (alkQ p q) with h1 | ⟨_, h2, h3⟩
    · simp only [bne_eq_false_iff_eq] at h; rw [h] at h1; exact absurd h1 (by decide)
    · exact ⟨p, q, rfl, rfl, hp, hq, h2, h3⟩
theorem ways_c {x y : RG} (h : ((ovF x y).2 != 0) = false) (h2 : ((decide (sgF (ovF x y).1 ≤ 0) || decide (cmF (ovF x y).1 (rfOf (Rat.divInt 1 1)) > 0)) || ((cmF (ovF x y).1 (rfOf (Rat.divInt 1 1)) == 0) != decide (x = y))) = true) : False := by
  obtain ⟨p, q, rfl, rfl, hp, hq, e, hl⟩ := ways_ok h
  rw [e, one_f, cmF_of hl long_one, sgF_of hl, cm_eq, rg_dec] at h2
  have a1 := alk_pos hp.pos hq.pos
  have a2 := alk_le hp.pos hq.pos
  have a3 := alk_one hp.pos hq.pos
  have b1 : ¬ (alkQ p q).num.sign ≤ 0 := fun hh => sgn_le.1 hh a1
  have b2 : ¬ cmQ (alkQ p q) 1 > 0 := by
    unfold cmQ
    by_cases hlt : alkQ p q < 1
    · rw [if_pos hlt]; decide
    · rw [if_neg hlt, if_neg a2]; decide
  rw [decide_eq_false b1, decide_eq_false b2] at h2
  by_cases h3 : p = q
  · simp [h3] at h2
    subst h3
    exact h2 (a3.2 rfl)
  · simp [h3] at h2
    exact h3 (a3.1 h2)
theorem thr_ok {m : RM} {x : RG} (h : ((thrF m x).2 != 0) = false) : ∃ p, x = rgOf p ∧ OkG p ∧ detM (toM m) = 1 ∧ OkG (behQ (toM m) p) ∧ (thrF m x).1 = rgOf (behQ (toM m) p) := by
  unfold thrF at h ⊢
  cases hm : okM m with
  | false => rw [hm] at h; simp at h
  | true =>
    rw [if_pos rfl]
    rw [hm, if_pos rfl] at h
    cases hx : bmC x != 0 with
    | true => rw [hx, if_pos rfl] at h; rw [hx] at h; simp at h
    | false =>
      rw [if_neg (by decide)]
      rw [hx, if_neg (by decide)] at h
      obtain ⟨p, rfl, hp⟩ := okB_ex (okB_of hx)
      rw [toG_of] at h ⊢
      have hd := (okM_q hm).2
      unfold ansG at h ⊢
      cases hl : longG (behQ (toM m) p) with
      | true => rw [hl] at h; simp at h
      | false =>
        rw [if_neg (by decide)]
        unfold longG at hl
        simp only [List.any_cons, List.any_nil, Bool.or_false, Bool.or_eq_false_iff] at hl
        exact ⟨p, rfl, hp, hd, ⟨hl.1, hl.2, beh_pos hd hp.pos⟩, rfl⟩
theorem ways_end {m : RM} {x y : RG} (h : ((ovF x y).2 != 0) = false) (h2 : (((thrF m x).2 != 0) || ((thrF m y).2 != 0)) = false) :
    (((ovF (thrF m x).1 (thrF m y).1).2 == 0) && decide ((ovF (thrF m x).1 (thrF m y).1).1 = (ovF x y).1)) = true := by
  obtain ⟨p, q, rfl, rfl, hp, hq, e, hl⟩ := ways_ok h
  rw [Bool.or_eq_false_iff] at h2
  obtain ⟨p', e1, _, hd, hp', f1⟩ := thr_ok h2.1
  obtain ⟨q', e2, _, _, hq', f2⟩ := thr_ok h2.2
  obtain rfl := rgOf_inj e1
  obtain rfl := rgOf_inj e2
  rw [f1, f2, ovF_ok hp' hq', alk_inv hd hp.pos hq.pos, e]
  rw [ansF_ok (longQ_false.1 hl)]
  simp

set_option maxRecDepth 100000 in
theorem matchWays_w (x y : RG) (m : RM) : Cn Try.prog 8 [(RGA x).va, (RGA y).va, (RMA m).va] (Bo true) := by
  refine Cn.intro Try.func8 rfl (by kernel_rfl) (Nat.le_of_ble_eq_true (by kernel_rfl)) (fun B w0 a hst => ?_)
  have hst : St B w0 108 [(0, (RGA x).va), (1, (RGA y).va), (2, (RMA m).va)] [] a w0.w := hst
  refine wp_seq ?_
  refine go_lin (sts := []) (news := [⟨3, 28, ptrH, some 0, _, none⟩, ⟨4, 28, ptrH, some 1, _, none⟩, ⟨5, 42, ptrH, some 2, _, none⟩]) (sp := [.alc 0, .alc 1, .alc 2, .val 6 _]) [.o 3] hst (obs_cons (ob_box rfl rfl rfl (has_g 0 rfl (by kernel_rfl) (by kernel_rfl))) (obs_cons (ob_box rfl rfl rfl (has_g 1 rfl (by kernel_rfl) (by kernel_rfl))) (obs_cons (ob_box rfl rfl rfl (has_g 2 rfl (by kernel_rfl) (by kernel_rfl))) (obs_cons (ob_v rfl rfl (r_assign has_bo)) (obs_nil))))) (by kernel_rfl) (by kernel_rfl) (by kernel_rfl) (fun a w hst => ?_)
  have hst : St B w0 108 [(6, _)] [⟨3, 28, ptrH, _⟩, ⟨4, 28, ptrH, _⟩, ⟨5, 42, ptrH, _⟩] a w := hst
  refine thn_normal ?_
  refine wp_seq ?_
  refine wp_seq ?_
  refine go_draw (anc := [[], [0], [], [0, 1, 2], [], [0, 1, 2, 3, 4], [0, 1, 2, 3, 4, 5], [0, 1, 2, 3, 4, 5, 6]]) (sts := [none, none, none]) (news := []) (sp := [.val 15 _, .val 16 _, .val 17 _, .val 18 _, .val 19 _, .val 20 _, .val 21 _, .val 22 _]) [.g 0, .o 7] follows_mixed hst (obs_cons (ob_v rfl rfl (r_load (loc_at0 0 rfl (by kernel_rfl)) ty_28)) (obs_cons (ob_v rfl rfl (r_call (xs := [.tmp 15]) (gaussCost_c _) (.cons (has_v 0 rfl (by kernel_rfl) (by kernel_rfl)) .nil))) (obs_cons (ob_v rfl rfl (r_load (loc_at0 1 rfl (by kernel_rfl)) ty_28)) (obs_cons (ob_v rfl rfl (r_call (xs := [.tmp 17]) (gaussCost_c _) (.cons (has_v 2 rfl (by kernel_rfl) (by kernel_rfl)) .nil))) (obs_cons (ob_v rfl rfl (r_load (loc_at0 2 rfl (by kernel_rfl)) ty_42)) (obs_cons (ob_v rfl rfl (r_call (xs := [.tmp 19]) (matCost_c _) (.cons (has_v 4 rfl (by kernel_rfl) (by kernel_rfl)) .nil))) (obs_cons (ob_v rfl rfl (r_slice (D := []) (l := [_, _, _]) (xs := [.tmp 16, .tmp 18, .tmp 20]) (nd_ok (by kernel_rfl)) sl_91 (by kernel_rfl) (n_ok (by kernel_rfl)) (Nat.le_of_ble_eq_true (by kernel_rfl)) (Nat.le_of_ble_eq_true (by kernel_rfl)) (Nat.le_of_ble_eq_true (by kernel_rfl)) (.cons (has_v 1 rfl (by kernel_rfl) (by kernel_rfl)) (.cons (has_v 3 rfl (by kernel_rfl) (by kernel_rfl)) (.cons (has_v 5 rfl (by kernel_rfl) (by kernel_rfl)) .nil))) rfl rfl)) (obs_cons (ob_v rfl rfl (r_call (xs := [.tmp 21]) (beyond_c [_, _, _]) (.cons (has_v 6 rfl (by kernel_rfl) (by kernel_rfl)) .nil))) (obs_nil))))))))) (by kernel_rfl) (by kernel_rfl) (by kernel_rfl) (by kernel_rfl) (fun a w hst => ?_)
  have hst : St B w0 108 [(6, _), (22, _)] [⟨3, 28, ptrH, _⟩, ⟨4, 28, ptrH, _⟩, ⟨5, 42, ptrH, _⟩] a w := hst
  refine thn_normal ?_
  refine cond_of hst (List.mem_of_getElem? (i := 1) rfl) (fun hb0 => ?_) (fun hb0 => ?_)
  · refine wp_seq ?_
    refine go_lin (sts := [none, none, none]) (news := []) (sp := [.val 6 _]) [.o 0] hst (obs_cons (ob_v rfl rfl (r_assign has_bo)) (obs_nil)) (by kernel_rfl) (by kernel_rfl) (by kernel_rfl) (fun a w hst => ?_)
    have hst : St B w0 108 [(6, _)] [⟨3, 28, ptrH, _⟩, ⟨4, 28, ptrH, _⟩, ⟨5, 42, ptrH, _⟩] a w := hst
    refine thn_normal ?_
    refine wp_ret ?_
    refine thn_ret ?_
    refine ret_wk ?_ (ret_tmp rfl hst (List.mem_of_getElem? (i := 0) rfl))
    exact wk_id
  · refine wp_skip ?_
    refine thn_normal ?_
    refine wp_seq ?_
    refine go_lin (sts := [none, none, none]) (news := [⟨7, 26, ptrH, some 6, _, some (7, _)⟩]) (sp := [.val 24 _, .val 25 _, .val 26 _, .val 23 _, .val 27 _, .val 28 _, .alc 3, .sto 3, .val 8 _]) [.g 0, .o 8] hst (obs_cons (ob_v rfl rfl (r_load (loc_at0 0 rfl (by kernel_rfl)) ty_28)) (obs_cons (ob_v rfl rfl (r_load (loc_at0 1 rfl (by kernel_rfl)) ty_28)) (obs_cons (ob_v rfl rfl (r_call (xs := [.tmp 24, .tmp 25]) (overlap_c _ _) (.cons (has_v 0 rfl (by kernel_rfl) (by kernel_rfl)) (.cons (has_v 1 rfl (by kernel_rfl) (by kernel_rfl)) .nil)))) (obs_cons (ob_v rfl rfl (r_move (has_v 2 rfl (by kernel_rfl) (by kernel_rfl)))) (obs_cons (ob_v rfl rfl (r_ex0 (has_v 3 rfl (by kernel_rfl) (by kernel_rfl)))) (obs_cons (ob_v rfl rfl (r_ex1 (has_v 3 rfl (by kernel_rfl) (by kernel_rfl)))) (obs_cons (ob_alc rfl rfl rfl (Str.zero str_frac)) (obs_cons (ob_sto rfl rfl rfl (has_v 4 rfl (by kernel_rfl) (by kernel_rfl)) ty_26 rfl) (obs_cons (ob_v rfl rfl (r_assign (has_v 5 rfl (by kernel_rfl) (by kernel_rfl)))) (obs_nil)))))))))) (by kernel_rfl) (by kernel_rfl) (by kernel_rfl) (fun a w hst => ?_)
    have hst : St B w0 108 [(6, _), (8, _)] [⟨3, 28, ptrH, _⟩, ⟨4, 28, ptrH, _⟩, ⟨5, 42, ptrH, _⟩, ⟨7, 26, ptrH, _⟩] a w := hst
    refine thn_normal ?_
    refine wp_seq ?_
    refine go_lin (sts := [none, none, none, none]) (news := [⟨9, 26, ptrH, some 6, _, some (7, _)⟩]) (sp := [.val 30 _, .val 31 _, .val 32 _, .val 29 _, .val 33 _, .val 34 _, .alc 4, .sto 4, .val 10 _]) [.g 0, .g 1, .o 8] hst (obs_cons (ob_v rfl rfl (r_load (loc_at0 1 rfl (by kernel_rfl)) ty_28)) (obs_cons (ob_v rfl rfl (r_load (loc_at0 0 rfl (by kernel_rfl)) ty_28)) (obs_cons (ob_v rfl rfl (r_call (xs := [.tmp 30, .tmp 31]) (overlap_c _ _) (.cons (has_v 0 rfl (by kernel_rfl) (by kernel_rfl)) (.cons (has_v 1 rfl (by kernel_rfl) (by kernel_rfl)) .nil)))) (obs_cons (ob_v rfl rfl (r_move (has_v 2 rfl (by kernel_rfl) (by kernel_rfl)))) (obs_cons (ob_v rfl rfl (r_ex0 (has_v 3 rfl (by kernel_rfl) (by kernel_rfl)))) (obs_cons (ob_v rfl rfl (r_ex1 (has_v 3 rfl (by kernel_rfl) (by kernel_rfl)))) (obs_cons (ob_alc rfl rfl rfl (Str.zero str_frac)) (obs_cons (ob_sto rfl rfl rfl (has_v 4 rfl (by kernel_rfl) (by kernel_rfl)) ty_26 rfl) (obs_cons (ob_v rfl rfl (r_assign (has_v 5 rfl (by kernel_rfl) (by kernel_rfl)))) (obs_nil)))))))))) (by kernel_rfl) (by kernel_rfl) (by kernel_rfl) (fun a w hst => ?_)
    have hst : St B w0 108 [(6, _), (8, _), (10, _)] [⟨3, 28, ptrH, _⟩, ⟨4, 28, ptrH, _⟩, ⟨5, 42, ptrH, _⟩, ⟨7, 26, ptrH, _⟩, ⟨9, 26, ptrH, _⟩] a w := hst
    refine thn_normal ?_
    refine wp_seq ?_
    refine wp_seq ?_
    refine go_lin (sts := [none, none, none, none, none]) (news := []) (sp := [.val 35 _, .val 36 _, .val 37 _, .val 38 _, .val 39 (Wh (_ = false) _), .val 40 (Wh (_ = false) _), .val 41 (Wh (_ = false) _), .val 42 (Wh (_ = false) _), .val 43 _]) [.g 0, .g 1, .g 2, .o 8] hst (obs_cons (ob_v rfl rfl (r_move (has_g 1 rfl (by kernel_rfl) (by kernel_rfl)))) (obs_cons (ob_v rfl rfl (r_move (has_g 2 rfl (by kernel_rfl) (by kernel_rfl)))) (obs_cons (ob_v rfl rfl (r_neq (has_v 0 rfl (by kernel_rfl) (by kernel_rfl)) (has_v 1 rfl (by kernel_rfl) (by kernel_rfl)))) (obs_cons (ob_v rfl rfl (r_move (has_v 2 rfl (by kernel_rfl) (by kernel_rfl)))) (obs_cons (ob_gd rfl rfl rfl (has_v 3 rfl (by kernel_rfl) (by kernel_rfl)) (Nat.le_of_ble_eq_true (by kernel_rfl)) (fun hg => r_load (loc_at0 3 rfl (by kernel_rfl)) ty_26)) (obs_cons (ob_gd rfl rfl rfl (has_v 3 rfl (by kernel_rfl) (by kernel_rfl)) (Nat.le_of_ble_eq_true (by kernel_rfl)) (fun hg => r_load (loc_at0 4 rfl (by kernel_rfl)) ty_26)) (obs_cons (ob_gd rfl rfl rfl (has_v 3 rfl (by kernel_rfl) (by kernel_rfl)) (Nat.le_of_ble_eq_true (by kernel_rfl)) (fun hg => r_call (xs := [.tmp 39, .tmp 40]) (sameFrac_c _ _) (.cons (has_wh (has_v 4 rfl (by kernel_rfl) (by kernel_rfl)) hg) (.cons (has_wh (has_v 5 rfl (by kernel_rfl) (by kernel_rfl)) hg) .nil)))) (obs_cons (ob_gd rfl rfl rfl (has_v 3 rfl (by kernel_rfl) (by kernel_rfl)) (Nat.le_of_ble_eq_true (by kernel_rfl)) (fun hg => r_not (has_wh (has_v 6 rfl (by kernel_rfl) (by kernel_rfl)) hg))) (obs_cons (ob_v rfl rfl (r_or (has_v 3 rfl (by kernel_rfl) (by kernel_rfl)) (has_v 7 rfl (by kernel_rfl) (by kernel_rfl)))) (obs_nil)))))))))) (by kernel_rfl) (by kernel_rfl) (by kernel_rfl) (fun a w hst => ?_)
    have hst : St B w0 108 [(6, _), (8, _), (10, _), (43, _)] [⟨3, 28, ptrH, _⟩, ⟨4, 28, ptrH, _⟩, ⟨5, 42, ptrH, _⟩, ⟨7, 26, ptrH, _⟩, ⟨9, 26, ptrH, _⟩] a w := hst
    refine thn_normal ?_
    refine cond_of hst (List.mem_of_getElem? (i := 3) rfl) (fun hb1 => ?_) (fun hb1 => ?_)
    · exact (ways_no hb1).elim
    · refine wp_skip ?_
      refine thn_normal ?_
      refine wp_seq ?_
      refine wp_seq ?_
      refine go_lin (sts := [none, none, none, none, none]) (news := []) (sp := [.val 44 _, .val 45 _]) [.g 0, .g 1, .g 2, .o 1] hst (obs_cons (ob_v rfl rfl (r_move (has_g 1 rfl (by kernel_rfl) (by kernel_rfl)))) (obs_cons (ob_v rfl rfl (r_neq (has_v 0 rfl (by kernel_rfl) (by kernel_rfl)) has_num)) (obs_nil))) (by kernel_rfl) (by kernel_rfl) (by kernel_rfl) (fun a w hst => ?_)
      have hst : St B w0 108 [(6, _), (8, _), (10, _), (45, _)] [⟨3, 28, ptrH, _⟩, ⟨4, 28, ptrH, _⟩, ⟨5, 42, ptrH, _⟩, ⟨7, 26, ptrH, _⟩, ⟨9, 26, ptrH, _⟩] a w := hst
      refine thn_normal ?_
      refine cond_of hst (List.mem_of_getElem? (i := 3) rfl) (fun hb2 => ?_) (fun hb2 => ?_)
      · refine wp_seq ?_
        refine go_lin (sts := [none, none, none, none, none]) (news := []) (sp := [.val 46 _, .val 47 _, .val 48 _, .val 49 (Wh (_ = false) _), .val 50 (Wh (_ = false) _), .val 51 _, .val 52 _, .val 53 (Wh (_ = true) _), .val 54 _, .val 6 _]) [.g 1, .g 2, .o 9] hst (obs_cons (ob_v rfl rfl (r_move (has_g 1 rfl (by kernel_rfl) (by kernel_rfl)))) (obs_cons (ob_v rfl rfl (r_eql (has_v 0 rfl (by kernel_rfl) (by kernel_rfl)) has_num)) (obs_cons (ob_v rfl rfl (r_move (has_v 1 rfl (by kernel_rfl) (by kernel_rfl)))) (obs_cons (ob_gd rfl rfl rfl (has_v 2 rfl (by kernel_rfl) (by kernel_rfl)) (Nat.le_of_ble_eq_true (by kernel_rfl)) (fun hg => r_move (has_g 1 rfl (by kernel_rfl) (by kernel_rfl)))) (obs_cons (ob_gd rfl rfl rfl (has_v 2 rfl (by kernel_rfl) (by kernel_rfl)) (Nat.le_of_ble_eq_true (by kernel_rfl)) (fun hg => r_eql (has_wh (has_v 3 rfl (by kernel_rfl) (by kernel_rfl)) hg) has_num)) (obs_cons (ob_v rfl rfl (r_or (has_v 2 rfl (by kernel_rfl) (by kernel_rfl)) (has_v 4 rfl (by kernel_rfl) (by kernel_rfl)))) (obs_cons (ob_v rfl rfl (r_move (has_v 5 rfl (by kernel_rfl) (by kernel_rfl)))) (obs_cons (ob_gd rfl rfl rfl (has_v 6 rfl (by kernel_rfl) (by kernel_rfl)) (Nat.le_of_ble_eq_true (by kernel_rfl)) (fun hg => r_call (xs := []) lives20_c .nil)) (obs_cons (ob_v rfl rfl (r_and (has_v 6 rfl (by kernel_rfl) (by kernel_rfl)) (has_v 7 rfl (by kernel_rfl) (by kernel_rfl)))) (obs_cons (ob_v rfl rfl (r_assign (has_v 8 rfl (by kernel_rfl) (by kernel_rfl)))) (obs_nil))))))))))) (by kernel_rfl) (by kernel_rfl) (by kernel_rfl) (fun a w hst => ?_)
        have hst : St B w0 108 [(8, _), (10, _), (6, _)] [⟨3, 28, ptrH, _⟩, ⟨4, 28, ptrH, _⟩, ⟨5, 42, ptrH, _⟩, ⟨7, 26, ptrH, _⟩, ⟨9, 26, ptrH, _⟩] a w := hst
        refine thn_normal ?_
        refine wp_ret ?_
        refine thn_ret ?_
        refine ret_wk ?_ (ret_tmp rfl hst (List.mem_of_getElem? (i := 2) rfl))
        rw [ways_err hb2]; exact wk_id
      · refine wp_skip ?_
        refine thn_normal ?_
        refine wp_seq ?_
        refine go_draw (anc := [[], [], [0, 1], [0, 1, 2]]) (sts := [none, none, none, none, none]) (news := []) (sp := [.val 55 _, .val 56 _, .val 57 _, .val 11 _]) [.g 0, .g 1, .g 2, .o 3] follows_mixed hst (obs_cons (ob_v rfl rfl (r_load (loc_at0 3 rfl (by kernel_rfl)) ty_26)) (obs_cons (ob_v rfl rfl (r_call (xs := [.const (.int .i64 (1)), .const (.int .i64 (1))]) (whole20_c (by decide) (by decide) (by decide) (by decide) (by decide)) (.cons has_num (.cons has_num .nil)))) (obs_cons (ob_v rfl rfl (r_call (xs := [.tmp 55, .tmp 56]) (fracCmp_c _ _) (.cons (has_v 0 rfl (by kernel_rfl) (by kernel_rfl)) (.cons (has_v 1 rfl (by kernel_rfl) (by kernel_rfl)) .nil)))) (obs_cons (ob_v rfl rfl (r_assign (has_v 2 rfl (by kernel_rfl) (by kernel_rfl)))) (obs_nil))))) (by kernel_rfl) (by kernel_rfl) (by kernel_rfl) (by kernel_rfl) (fun a w hst => ?_)
        have hst : St B w0 108 [(6, _), (8, _), (10, _), (11, _)] [⟨3, 28, ptrH, _⟩, ⟨4, 28, ptrH, _⟩, ⟨5, 42, ptrH, _⟩, ⟨7, 26, ptrH, _⟩, ⟨9, 26, ptrH, _⟩] a w := hst
        refine thn_normal ?_
        refine wp_seq ?_
        refine wp_seq ?_
        refine go_lin (sts := [none, none, none, none, none]) (news := []) (sp := [.val 58 _, .val 59 _, .val 60 _, .val 61 _, .val 62 (Wh (_ = false) _), .val 63 (Wh (_ = false) _), .val 64 _, .val 65 _, .val 66 (Wh (_ = false) _), .val 67 (Wh (_ = false) _), .val 68 (Wh (_ = false) _), .val 69 (Wh (_ = false) _), .val 70 (Wh (_ = false) _), .val 71 (Wh (_ = false) _), .val 72 _]) [.g 0, .g 1, .g 2, .o 14] hst (obs_cons (ob_v rfl rfl (r_load (loc_at0 3 rfl (by kernel_rfl)) ty_26)) (obs_cons (ob_v rfl rfl (r_call (xs := [.tmp 58]) (fracSign_c _) (.cons (has_v 0 rfl (by kernel_rfl) (by kernel_rfl)) .nil))) (obs_cons (ob_v rfl rfl (r_leq (has_v 1 rfl (by kernel_rfl) (by kernel_rfl)) has_num)) (obs_cons (ob_v rfl rfl (r_move (has_v 2 rfl (by kernel_rfl) (by kernel_rfl)))) (obs_cons (ob_gd rfl rfl rfl (has_v 3 rfl (by kernel_rfl) (by kernel_rfl)) (Nat.le_of_ble_eq_true (by kernel_rfl)) (fun hg => r_move (has_g 3 rfl (by kernel_rfl) (by kernel_rfl)))) (obs_cons (ob_gd rfl rfl rfl (has_v 3 rfl (by kernel_rfl) (by kernel_rfl)) (Nat.le_of_ble_eq_true (by kernel_rfl)) (fun hg => r_gtr (has_wh (has_v 4 rfl (by kernel_rfl) (by kernel_rfl)) hg) has_num)) (obs_cons (ob_v rfl rfl (r_or (has_v 3 rfl (by kernel_rfl) (by kernel_rfl)) (has_v 5 rfl (by kernel_rfl) (by kernel_rfl)))) (obs_cons (ob_v rfl rfl (r_move (has_v 6 rfl (by kernel_rfl) (by kernel_rfl)))) (obs_cons (ob_gd rfl rfl rfl (has_v 7 rfl (by kernel_rfl) (by kernel_rfl)) (Nat.le_of_ble_eq_true (by kernel_rfl)) (fun hg => r_move (has_g 3 rfl (by kernel_rfl) (by kernel_rfl)))) (obs_cons (ob_gd rfl rfl rfl (has_v 7 rfl (by kernel_rfl) (by kernel_rfl)) (Nat.le_of_ble_eq_true (by kernel_rfl)) (fun hg => r_eql (has_wh (has_v 8 rfl (by kernel_rfl) (by kernel_rfl)) hg) has_num)) (obs_cons (ob_gd rfl rfl rfl (has_v 7 rfl (by kernel_rfl) (by kernel_rfl)) (Nat.le_of_ble_eq_true (by kernel_rfl)) (fun hg => r_load (loc_at0 0 rfl (by kernel_rfl)) ty_28)) (obs_cons (ob_gd rfl rfl rfl (has_v 7 rfl (by kernel_rfl) (by kernel_rfl)) (Nat.le_of_ble_eq_true (by kernel_rfl)) (fun hg => r_load (loc_at0 1 rfl (by kernel_rfl)) ty_28)) (obs_cons (ob_gd rfl rfl rfl (has_v 7 rfl (by kernel_rfl) (by kernel_rfl)) (Nat.le_of_ble_eq_true (by kernel_rfl)) (fun hg => r_call (xs := [.tmp 68, .tmp 69]) (sameGauss_c _ _) (.cons (has_wh (has_v 10 rfl (by kernel_rfl) (by kernel_rfl)) hg) (.cons (has_wh (has_v 11 rfl (by kernel_rfl) (by kernel_rfl)) hg) .nil)))) (obs_cons (ob_gd rfl rfl rfl (has_v 7 rfl (by kernel_rfl) (by kernel_rfl)) (Nat.le_of_ble_eq_true (by kernel_rfl)) (fun hg => r_neqb (by kernel_rfl) (has_wh (has_v 9 rfl (by kernel_rfl) (by kernel_rfl)) hg) (has_wh (has_v 12 rfl (by kernel_rfl) (by kernel_rfl)) hg))) (obs_cons (ob_v rfl rfl (r_or (has_v 7 rfl (by kernel_rfl) (by kernel_rfl)) (has_v 13 rfl (by kernel_rfl) (by kernel_rfl)))) (obs_nil)))))))))))))))) (by kernel_rfl) (by kernel_rfl) (by kernel_rfl) (fun a w hst => ?_)
        have hst : St B w0 108 [(6, _), (8, _), (10, _), (72, _)] [⟨3, 28, ptrH, _⟩, ⟨4, 28, ptrH, _⟩, ⟨5, 42, ptrH, _⟩, ⟨7, 26, ptrH, _⟩, ⟨9, 26, ptrH, _⟩] a w := hst
        refine thn_normal ?_
        refine cond_of hst (List.mem_of_getElem? (i := 3) rfl) (fun hb3 => ?_) (fun hb3 => ?_)
        · exact (ways_c hb2 hb3).elim
        · refine wp_skip ?_
          refine thn_normal ?_
          refine wp_seq ?_
          refine go_lin (sts := [none, none, none, none, none]) (news := [⟨12, 28, ptrH, some 6, _, some (7, _)⟩]) (sp := [.val 74 _, .val 75 _, .val 76 _, .val 73 _, .val 77 _, .val 78 _, .alc 5, .sto 5, .val 8 _]) [.g 0, .g 2, .o 8] hst (obs_cons (ob_v rfl rfl (r_load (loc_at0 2 rfl (by kernel_rfl)) ty_42)) (obs_cons (ob_v rfl rfl (r_load (loc_at0 0 rfl (by kernel_rfl)) ty_28)) (obs_cons (ob_v rfl rfl (r_call (xs := [.tmp 74, .tmp 75]) (bmThrough_c m _) (.cons (has_v 0 rfl (by kernel_rfl) (by kernel_rfl)) (.cons (has_v 1 rfl (by kernel_rfl) (by kernel_rfl)) .nil)))) (obs_cons (ob_v rfl rfl (r_move (has_v 2 rfl (by kernel_rfl) (by kernel_rfl)))) (obs_cons (ob_v rfl rfl (r_ex0 (has_v 3 rfl (by kernel_rfl) (by kernel_rfl)))) (obs_cons (ob_v rfl rfl (r_ex1 (has_v 3 rfl (by kernel_rfl) (by kernel_rfl)))) (obs_cons (ob_alc rfl rfl rfl (Str.zero str_gauss)) (obs_cons (ob_sto rfl rfl rfl (has_v 4 rfl (by kernel_rfl) (by kernel_rfl)) ty_28 rfl) (obs_cons (ob_v rfl rfl (r_assign (has_v 5 rfl (by kernel_rfl) (by kernel_rfl)))) (obs_nil)))))))))) (by kernel_rfl) (by kernel_rfl) (by kernel_rfl) (fun a w hst => ?_)
          have hst : St B w0 108 [(6, _), (10, _), (8, _)] [⟨3, 28, ptrH, _⟩, ⟨4, 28, ptrH, _⟩, ⟨5, 42, ptrH, _⟩, ⟨7, 26, ptrH, _⟩, ⟨9, 26, ptrH, _⟩, ⟨12, 28, ptrH, _⟩] a w := hst
          refine thn_normal ?_
          refine wp_seq ?_
          refine go_lin (sts := [none, none, none, none, none, none]) (news := [⟨13, 28, ptrH, some 6, _, some (7, _)⟩]) (sp := [.val 80 _, .val 81 _, .val 82 _, .val 79 _, .val 83 _, .val 84 _, .alc 6, .sto 6, .val 10 _]) [.g 0, .g 2, .o 8] hst (obs_cons (ob_v rfl rfl (r_load (loc_at0 2 rfl (by kernel_rfl)) ty_42)) (obs_cons (ob_v rfl rfl (r_load (loc_at0 1 rfl (by kernel_rfl)) ty_28)) (obs_cons (ob_v rfl rfl (r_call (xs := [.tmp 80, .tmp 81]) (bmThrough_c m _) (.cons (has_v 0 rfl (by kernel_rfl) (by kernel_rfl)) (.cons (has_v 1 rfl (by kernel_rfl) (by kernel_rfl)) .nil)))) (obs_cons (ob_v rfl rfl (r_move (has_v 2 rfl (by kernel_rfl) (by kernel_rfl)))) (obs_cons (ob_v rfl rfl (r_ex0 (has_v 3 rfl (by kernel_rfl) (by kernel_rfl)))) (obs_cons (ob_v rfl rfl (r_ex1 (has_v 3 rfl (by kernel_rfl) (by kernel_rfl)))) (obs_cons (ob_alc rfl rfl rfl (Str.zero str_gauss)) (obs_cons (ob_sto rfl rfl rfl (has_v 4 rfl (by kernel_rfl) (by kernel_rfl)) ty_28 rfl) (obs_cons (ob_v rfl rfl (r_assign (has_v 5 rfl (by kernel_rfl) (by kernel_rfl)))) (obs_nil)))))))))) (by kernel_rfl) (by kernel_rfl) (by kernel_rfl) (fun a w hst => ?_)
          have hst : St B w0 108 [(6, _), (8, _), (10, _)] [⟨3, 28, ptrH, _⟩, ⟨4, 28, ptrH, _⟩, ⟨5, 42, ptrH, _⟩, ⟨7, 26, ptrH, _⟩, ⟨9, 26, ptrH, _⟩, ⟨12, 28, ptrH, _⟩, ⟨13, 28, ptrH, _⟩] a w := hst
          refine thn_normal ?_
          refine wp_seq ?_
          refine wp_seq ?_
          refine go_lin (sts := [none, none, none, none, none, none, none]) (news := []) (sp := [.val 85 _, .val 86 _, .val 87 _, .val 88 (Wh (_ = false) _), .val 89 (Wh (_ = false) _), .val 90 _]) [.g 0, .g 1, .o 5] hst (obs_cons (ob_v rfl rfl (r_move (has_g 1 rfl (by kernel_rfl) (by kernel_rfl)))) (obs_cons (ob_v rfl rfl (r_neq (has_v 0 rfl (by kernel_rfl) (by kernel_rfl)) has_num)) (obs_cons (ob_v rfl rfl (r_move (has_v 1 rfl (by kernel_rfl) (by kernel_rfl)))) (obs_cons (ob_gd rfl rfl rfl (has_v 2 rfl (by kernel_rfl) (by kernel_rfl)) (Nat.le_of_ble_eq_true (by kernel_rfl)) (fun hg => r_move (has_g 2 rfl (by kernel_rfl) (by kernel_rfl)))) (obs_cons (ob_gd rfl rfl rfl (has_v 2 rfl (by kernel_rfl) (by kernel_rfl)) (Nat.le_of_ble_eq_true (by kernel_rfl)) (fun hg => r_neq (has_wh (has_v 3 rfl (by kernel_rfl) (by kernel_rfl)) hg) has_num)) (obs_cons (ob_v rfl rfl (r_or (has_v 2 rfl (by kernel_rfl) (by kernel_rfl)) (has_v 4 rfl (by kernel_rfl) (by kernel_rfl)))) (obs_nil))))))) (by kernel_rfl) (by kernel_rfl) (by kernel_rfl) (fun a w hst => ?_)
          have hst : St B w0 108 [(6, _), (8, _), (90, _)] [⟨3, 28, ptrH, _⟩, ⟨4, 28, ptrH, _⟩, ⟨5, 42, ptrH, _⟩, ⟨7, 26, ptrH, _⟩, ⟨9, 26, ptrH, _⟩, ⟨12, 28, ptrH, _⟩, ⟨13, 28, ptrH, _⟩] a w := hst
          refine thn_normal ?_
          refine cond_of hst (List.mem_of_getElem? (i := 2) rfl) (fun hb4 => ?_) (fun hb4 => ?_)
          · refine wp_seq ?_
            refine go_lin (sts := [none, none, none, none, none, none, none]) (news := []) (sp := [.val 91 _, .val 6 _]) [.g 1, .o 1] hst (obs_cons (ob_v rfl rfl (r_call (xs := []) lives20_c .nil)) (obs_cons (ob_v rfl rfl (r_assign (has_v 0 rfl (by kernel_rfl) (by kernel_rfl)))) (obs_nil))) (by kernel_rfl) (by kernel_rfl) (by kernel_rfl) (fun a w hst => ?_)
            have hst : St B w0 108 [(8, _), (6, _)] [⟨3, 28, ptrH, _⟩, ⟨4, 28, ptrH, _⟩, ⟨5, 42, ptrH, _⟩, ⟨7, 26, ptrH, _⟩, ⟨9, 26, ptrH, _⟩, ⟨12, 28, ptrH, _⟩, ⟨13, 28, ptrH, _⟩] a w := hst
            refine thn_normal ?_
            refine wp_ret ?_
            refine thn_ret ?_
            refine ret_wk ?_ (ret_tmp rfl hst (List.mem_of_getElem? (i := 1) rfl))
            exact wk_id
          · refine wp_skip ?_
            refine thn_normal ?_
            refine wp_seq ?_
            refine go_lin (sts := [none, none, none, none, none, none, none]) (news := [⟨14, 26, ptrH, some 6, _, some (7, _)⟩]) (sp := [.val 93 _, .val 94 _, .val 95 _, .val 92 _, .val 96 _, .val 97 _, .alc 7, .sto 7, .val 8 _]) [.g 0, .o 8] hst (obs_cons (ob_v rfl rfl (r_load (loc_at0 5 rfl (by kernel_rfl)) ty_28)) (obs_cons (ob_v rfl rfl (r_load (loc_at0 6 rfl (by kernel_rfl)) ty_28)) (obs_cons (ob_v rfl rfl (r_call (xs := [.tmp 93, .tmp 94]) (overlap_c _ _) (.cons (has_v 0 rfl (by kernel_rfl) (by kernel_rfl)) (.cons (has_v 1 rfl (by kernel_rfl) (by kernel_rfl)) .nil)))) (obs_cons (ob_v rfl rfl (r_move (has_v 2 rfl (by kernel_rfl) (by kernel_rfl)))) (obs_cons (ob_v rfl rfl (r_ex0 (has_v 3 rfl (by kernel_rfl) (by kernel_rfl)))) (obs_cons (ob_v rfl rfl (r_ex1 (has_v 3 rfl (by kernel_rfl) (by kernel_rfl)))) (obs_cons (ob_alc rfl rfl rfl (Str.zero str_frac)) (obs_cons (ob_sto rfl rfl rfl (has_v 4 rfl (by kernel_rfl) (by kernel_rfl)) ty_26 rfl) (obs_cons (ob_v rfl rfl (r_assign (has_v 5 rfl (by kernel_rfl) (by kernel_rfl)))) (obs_nil)))))))))) (by kernel_rfl) (by kernel_rfl) (by kernel_rfl) (fun a w hst => ?_)
            have hst : St B w0 108 [(6, _), (8, _)] [⟨3, 28, ptrH, _⟩, ⟨4, 28, ptrH, _⟩, ⟨5, 42, ptrH, _⟩, ⟨7, 26, ptrH, _⟩, ⟨9, 26, ptrH, _⟩, ⟨12, 28, ptrH, _⟩, ⟨13, 28, ptrH, _⟩, ⟨14, 26, ptrH, _⟩] a w := hst
            refine thn_normal ?_
            refine wp_seq ?_
            refine go_lin (sts := [none, none, none, none, none, none, none, none]) (news := []) (sp := [.val 98 _, .val 99 _, .val 100 _, .val 101 (Wh (_ = true) _), .val 102 (Wh (_ = true) _), .val 103 (Wh (_ = true) _), .val 104 _, .val 105 _, .val 106 (Wh (_ = true) _), .val 107 _, .val 6 _]) [.o 10] hst (obs_cons (ob_v rfl rfl (r_move (has_g 1 rfl (by kernel_rfl) (by kernel_rfl)))) (obs_cons (ob_v rfl rfl (r_eql (has_v 0 rfl (by kernel_rfl) (by kernel_rfl)) has_num)) (obs_cons (ob_v rfl rfl (r_move (has_v 1 rfl (by kernel_rfl) (by kernel_rfl)))) (obs_cons (ob_gd rfl rfl rfl (has_v 2 rfl (by kernel_rfl) (by kernel_rfl)) (Nat.le_of_ble_eq_true (by kernel_rfl)) (fun hg => r_load (loc_at0 7 rfl (by kernel_rfl)) ty_26)) (obs_cons (ob_gd rfl rfl rfl (has_v 2 rfl (by kernel_rfl) (by kernel_rfl)) (Nat.le_of_ble_eq_true (by kernel_rfl)) (fun hg => r_load (loc_at0 3 rfl (by kernel_rfl)) ty_26)) (obs_cons (ob_gd rfl rfl rfl (has_v 2 rfl (by kernel_rfl) (by kernel_rfl)) (Nat.le_of_ble_eq_true (by kernel_rfl)) (fun hg => r_call (xs := [.tmp 101, .tmp 102]) (sameFrac_c _ _) (.cons (has_wh (has_v 3 rfl (by kernel_rfl) (by kernel_rfl)) hg) (.cons (has_wh (has_v 4 rfl (by kernel_rfl) (by kernel_rfl)) hg) .nil)))) (obs_cons (ob_v rfl rfl (r_and (has_v 2 rfl (by kernel_rfl) (by kernel_rfl)) (has_v 5 rfl (by kernel_rfl) (by kernel_rfl)))) (obs_cons (ob_v rfl rfl (r_move (has_v 6 rfl (by kernel_rfl) (by kernel_rfl)))) (obs_cons (ob_gd rfl rfl rfl (has_v 7 rfl (by kernel_rfl) (by kernel_rfl)) (Nat.le_of_ble_eq_true (by kernel_rfl)) (fun hg => r_call (xs := []) lives20_c .nil)) (obs_cons (ob_v rfl rfl (r_and (has_v 7 rfl (by kernel_rfl) (by kernel_rfl)) (has_v 8 rfl (by kernel_rfl) (by kernel_rfl)))) (obs_cons (ob_v rfl rfl (r_assign (has_v 9 rfl (by kernel_rfl) (by kernel_rfl)))) (obs_nil)))))))))))) (by kernel_rfl) (by kernel_rfl) (by kernel_rfl) (fun a w hst => ?_)
            have hst : St B w0 108 [(6, _)] [⟨3, 28, ptrH, _⟩, ⟨4, 28, ptrH, _⟩, ⟨5, 42, ptrH, _⟩, ⟨7, 26, ptrH, _⟩, ⟨9, 26, ptrH, _⟩, ⟨12, 28, ptrH, _⟩, ⟨13, 28, ptrH, _⟩, ⟨14, 26, ptrH, _⟩] a w := hst
            refine thn_normal ?_
            refine wp_ret ?_
            refine ret_wk ?_ (ret_tmp rfl hst (List.mem_of_getElem? (i := 0) rfl))
            rw [ways_end hb2 hb4]; exact wk_id

open Go.ChangeShapes Go.WideShapes Go.ChangeAt
open Go.ChangeMaps (open_string shut_string)
set_option linter.unusedVariables false
theorem own : ownKnob Try.prog.godebug = none := by kernel_rfl
theorem laidOut : laidOutB Try.prog = true := by kernel_rfl
set_option maxRecDepth 100000 in
theorem lifted (os : Os) (started : os.Started) (H : Type) (enc : TypeId × Value → H) :
    ReturnsInHanded {} Try.checked os 8 .any (Rows.matchWaysSpec.pre6 enc Try.prog Try.f8 Rows.matchWaysRow.domain false) (Rows.matchWaysSpec.post enc Try.prog Try.f8 false true false false) := by
  refine returnsInHanded_of_change (C := Try.checked) own started (by kernel_rfl) Try.func8
    (ChangeSpec.witness6 (enc := enc) (C := Try.checked) false ⟨#[], #[.agg #[.bool false, .slice none 0 0, .bool false, .slice none 0 0, .bool false, .slice none 0 0, .bool false, .slice none 0 0], .agg #[.bool false, .slice none 0 0, .bool false, .slice none 0 0, .bool false, .slice none 0 0, .bool false, .slice none 0 0], .agg #[.bool false, .slice none 0 0, .bool false, .slice none 0 0, .bool false, .slice none 0 0, .bool false, .slice none 0 0, .bool false, .slice none 0 0, .bool false, .slice none 0 0, .bool false, .slice none 0 0, .bool false, .slice none 0 0]], []⟩ 8 (by kernel_rfl) (by kernel_rfl) (by kernel_rfl) (by kernel_rfl)) ?_
  intro W base args ds gs before hval0 hW hcnd _
  have hval : ∀ (j : Nat) t v, Try.f8.params[j]? = some t → args[j]? = some v → Value.okWide Try.prog W .any base t v := hval0
  have hW' := hW
  obtain ⟨p, q, hA0, hV, rfl, hfz, hnd⟩ := hW
  have hA : DataW.TrodAll enc Try.prog W 0 (fun _ => true) true Try.f8.params.toList args.toList ds p := hA0
  rw [Try.params8] at hA hval
  obtain ⟨v0, vs0, d0, ds0, p0, q0, hargs, rfl, rfl, h0, r0⟩ := trodAll_cons hA
  obtain ⟨v1, vs1, d1, ds1, p1, q1, rfl, rfl, rfl, h1, r1⟩ := trodAll_cons r0
  obtain ⟨v2, vs2, d2, ds2, p2, q2, rfl, rfl, rfl, h2, r2⟩ := trodAll_cons r1
  obtain ⟨rfl, rfl, rfl⟩ := trodAll_nil r2
  obtain rfl : args = #[v0, v1, v2] := by cases args; simp_all
  obtain ⟨rfl, rfl⟩ := trodVars_none hV
  have k0 := h0
  have lt0 : ∀ x ∈ p0, x.block < W.heap.size := by obtain ⟨m, hm⟩ := k0; exact DataW.trod_lt m _ _ _ hm
  have k1 := h1
  have lt1 : ∀ x ∈ p1, x.block < W.heap.size := by obtain ⟨m, hm⟩ := k1; exact DataW.trod_lt m _ _ _ hm
  have k2 := h2
  have lt2 : ∀ x ∈ p2, x.block < W.heap.size := by obtain ⟨m, hm⟩ := k2; exact DataW.trod_lt m _ _ _ hm
  obtain ⟨x0, a0⟩ := arg_of (A := RGA) (fun _ => rfl) Try.underlying28 rd_rg (hval 0 28 v0 rfl rfl) h0
  obtain ⟨x1, a1⟩ := arg_of (A := RGA) (fun _ => rfl) Try.underlying28 rd_rg (hval 1 28 v1 rfl rfl) h1
  obtain ⟨x2, a2⟩ := arg_of (A := RMA) (fun _ => rfl) Try.underlying42 rd_rm (hval 2 42 v2 rfl rfl) h2
  clear hA0 hval0
  refine ((matchWays_w x0 x1 x2).2 W.heap.size W [v0, v1, v2] (Nat.le_refl _) (.cons a0 (.cons a1 (.cons a2 .nil)))).mono fun e W' ⟨v, he, hv, bel⟩ => ?_
  have hv' := bo_val hv
  subst hv' he
  exact ⟨_, rfl, _, _, _, [], _, [], hW', trodAll_mk1 (shut_bool Try.underlying4 _), (trodAll_cons_mk (Below.trod laidOut (by kernel_rfl) (of_decide_eq_true (by kernel_rfl)) k0 bel lt0) (trodAll_cons_mk (Below.trod laidOut (by kernel_rfl) (of_decide_eq_true (by kernel_rfl)) k1 bel lt1) (trodAll_cons_mk (Below.trod laidOut (by kernel_rfl) (of_decide_eq_true (by kernel_rfl)) k2 bel lt2) trodAll_mk0))), rfl, bel.frame _, fun h => by cases h⟩
theorem over : Rows.matchWaysRow.holds Try.pinned (OpenSpec.ofChange Rows.matchWaysSpec) :=
  OpenClaim.holds_of_wide 8 Try.f8 rfl rfl rfl rfl rfl rfl rfl ⟨rfl, rfl, rfl, rfl, rfl⟩ rfl rfl rfl rfl rfl (by kernel_rfl) Try.func8 (by kernel_rfl)
    (of_decide_eq_true (by kernel_rfl)) (by unfold Func.isWrapper; rw [if_neg (of_decide_eq_false (by kernel_rfl))]; exact ⟨rfl, rfl⟩)
    (fun os started H enc _ => lifted os started H enc)
theorem provedMatchWays : Rows.MatchWaysSaid := over
#print axioms provedMatchWays

end Go.Proofs.Ytiokhlpbdabaeaa
