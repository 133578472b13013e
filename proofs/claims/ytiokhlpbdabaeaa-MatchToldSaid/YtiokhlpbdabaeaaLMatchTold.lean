/- MatchTold: for every p, q the law of chapter 20 on what Lens and Space tell answers true. No condition. -/
import Derived.Test.YtiokhlpbdabaeaaLeafX
import Derived.Test.YtiokhlpbdabaeaaRows
import Derived.WalkKit
import Derived.ProofKit
import Derived.OpenShut
import Derived.ShutString
import Derived.ChangeOld
import Derived.Below
namespace Go.Proofs.Ytiokhlpbdabaeaa
open Go Go.RowKit
namespace LMatchTold
theorem sl_91 : Sl Try.prog 91 3 1 := ⟨by kernel_rfl, by kernel_rfl⟩
theorem ty_26 : Ty Try.prog 26 4 true := ⟨by kernel_rfl, by kernel_rfl⟩
theorem ty_28 : Ty Try.prog 28 8 true := ⟨by kernel_rfl, by kernel_rfl⟩
end LMatchTold
open LMatchTold
theorem fd_2 {t : Rat} (h : (fdF t).2.1 = true) : longQ t = false ∧ fdF t = (rfOf t, true, 0) := by
  unfold fdF at h ⊢
  cases hl : longQ t with
  | true => rw [hl] at h; simp at h
  | false => exact ⟨rfl, rfl⟩
theorem ln_ok {x y : RG} (h : (lnF x y).2.1 = true) : ∃ p q c, x = rgOf p ∧ y = rgOf q ∧ OkG p ∧ OkG q ∧ p.im / sqQ p.re p.im = q.im / sqQ q.re q.im ∧ c = p.re / sqQ p.re p.im - q.re / sqQ q.re q.im ∧ longQ c = false ∧ lnF x y = (rfOf c, true, 0) := by
  cases hb : okB x && okB y with
  | false => unfold lnF at h; rw [hb] at h; simp at h
  | true =>
    have hb' := hb
    rw [Bool.and_eq_true] at hb'
    obtain ⟨p, rfl, hp⟩ := okB_ex hb'.1
    obtain ⟨q, rfl, hq⟩ := okB_ex hb'.2
    unfold lnF at h ⊢
    rw [hb, if_pos rfl, toG_of, toG_of] at h ⊢
    by_cases he : p.im / sqQ p.re p.im = q.im / sqQ q.re q.im
    · rw [if_pos he] at h ⊢
      obtain ⟨h1, h2⟩ := fd_2 h
      exact ⟨p, q, _, rfl, rfl, hp, hq, he, rfl, h1, h2⟩
    · rw [if_neg he] at h; simp at h
theorem sp_ok {x y : RG} (h : (spF x y).2.1 = true) : ∃ p q t, x = rgOf p ∧ y = rgOf q ∧ OkG p ∧ OkG q ∧ p.im = q.im ∧ t = q.re - p.re ∧ ¬ t.num.sign < 0 ∧ longQ t = false ∧ spF x y = (rfOf t, true, 0) := by
  cases hb : okB x && okB y with
  | false => unfold spF at h; rw [hb] at h; simp at h
  | true =>
    have hb' := hb
    rw [Bool.and_eq_true] at hb'
    obtain ⟨p, rfl, hp⟩ := okB_ex hb'.1
    obtain ⟨q, rfl, hq⟩ := okB_ex hb'.2
    unfold spF at h ⊢
    rw [hb, if_pos rfl, toG_of, toG_of] at h ⊢
    by_cases he : p.im = q.im ∧ ¬ (q.re - p.re).num.sign < 0
    · rw [if_pos he] at h ⊢
      obtain ⟨h1, h2⟩ := fd_2 h
      exact ⟨p, q, _, rfl, rfl, hp, hq, he.1, rfl, he.2, h1, h2⟩
    · rw [if_neg he] at h; simp at h
theorem told_e {x y : RG} (h : (((lnF x y).2.1 && ((lnF x y).2.2 != 0)) || ((spF x y).2.1 && ((spF x y).2.2 != 0))) = true) : False := by
  rw [Bool.or_eq_true, Bool.and_eq_true, Bool.and_eq_true] at h
  rcases h with ⟨h, h1⟩ | ⟨h, h1⟩
  · obtain ⟨p, q, c, _, _, _, _, _, _, _, e⟩ := ln_ok h
    rw [e] at h1; simp at h1
  · obtain ⟨p, q, c, _, _, _, _, _, _, _, _, e⟩ := sp_ok h
    rw [e] at h1; simp at h1
theorem told_x {a b : Int} {u v : RG} (ha : a = 0) (hb : b = 0) (h : u = v) (h2 : (((a != 0) || (b != 0)) || (!decide (u = v))) = true) : False := by
  rw [ha, hb, decide_eq_true h] at h2
  exact absurd h2 (by decide)
theorem told_y {a b : Int} {u v : RG} (ha : a = 0) (hb : ¬ b < 0) (h : u = v) (h2 : (((a != 0) || decide (b < 0)) || (!decide (u = v))) = true) : False := by
  rw [ha, decide_eq_false hb, decide_eq_true h] at h2
  exact absurd h2 (by decide)
theorem told_l {x y : RG} (h : (lnF x y).2.1 = true) (h2 : ((((subF (rfOf (Rat.divInt 0 1)) (lnF x y).1).2 != 0) || ((thrF ⟨rfOf (Rat.divInt 1 1), rfOf (Rat.divInt 0 1), (subF (rfOf (Rat.divInt 0 1)) (lnF x y).1).1, rfOf (Rat.divInt 1 1)⟩ x).2 != 0)) || (!decide ((thrF ⟨rfOf (Rat.divInt 1 1), rfOf (Rat.divInt 0 1), (subF (rfOf (Rat.divInt 0 1)) (lnF x y).1).1, rfOf (Rat.divInt 1 1)⟩ x).1 = y))) = true) : False := by
  obtain ⟨p, q, c, rfl, rfl, hp, hq, he, hc, hl, e⟩ := ln_ok h
  have e1 : subF (rfOf (Rat.divInt 0 1)) (lnF (rgOf p) (rgOf q)).1 = (rfOf (0 - c), 0) := by
    rw [e]
    exact (sub_of long_zero hl).trans (ansF_ok (longQ_false.1 (by rw [long_neg]; exact hl)))
  have hm : okM (rmOf ⟨1, 0, 0 - c, 1⟩) = true := okM_of long_one long_zero (by rw [long_neg]; exact hl) long_one (by unfold detM; grind)
  have hN : sqQ p.re p.im ≠ 0 := sq_ne hp.pos
  have hM : sqQ q.re q.im ≠ 0 := sq_ne hq.pos
  have ha := lens_alg (N := sqQ p.re p.im) (M := sqQ q.re q.im) rfl rfl hN hM he hc
  have hb : behQ ⟨1, 0, 0 - c, 1⟩ p = q := by
    have h1 : behQ ⟨1, 0, 0 - c, 1⟩ p = ⟨q.re, q.im⟩ := GQ.mk.injEq _ _ _ _ ▸ ha
    exact h1
  have ht : thrF ⟨rfOf (Rat.divInt 1 1), rfOf (Rat.divInt 0 1), (subF (rfOf (Rat.divInt 0 1)) (lnF (rgOf p) (rgOf q)).1).1, rfOf (Rat.divInt 1 1)⟩ (rgOf p) = (rgOf q, 0) := by
    rw [lens_m (congrArg Prod.fst e1)]
    exact thr_mk hm hp hq hb
  exact told_x (congrArg Prod.snd e1) (congrArg Prod.snd ht) (congrArg Prod.fst ht) h2
theorem told_s {x y : RG} (h : (spF x y).2.1 = true) (h2 : ((((thrF ⟨rfOf (Rat.divInt 1 1), (spF x y).1, rfOf (Rat.divInt 0 1), rfOf (Rat.divInt 1 1)⟩ x).2 != 0) || decide (sgF (spF x y).1 < 0)) || (!decide ((thrF ⟨rfOf (Rat.divInt 1 1), (spF x y).1, rfOf (Rat.divInt 0 1), rfOf (Rat.divInt 1 1)⟩ x).1 = y))) = true) : False := by
  obtain ⟨p, q, t, rfl, rfl, hp, hq, he, hc, hs, hl, e⟩ := sp_ok h
  have hm : okM (rmOf ⟨1, t, 0, 1⟩) = true := okM_of long_one hl long_zero long_one (by unfold detM; grind)
  have hb : behQ ⟨1, t, 0, 1⟩ p = q := by
    cases q
    unfold behQ lineQ normQ
    simp only [GQ.mk.injEq] at *
    exact ⟨by grind, by grind⟩
  have ht : thrF ⟨rfOf (Rat.divInt 1 1), (spF (rgOf p) (rgOf q)).1, rfOf (Rat.divInt 0 1), rfOf (Rat.divInt 1 1)⟩ (rgOf p) = (rgOf q, 0) := by
    rw [space_m (congrArg Prod.fst e)]
    exact thr_mk hm hp hq hb
  have hg : ¬ sgF (spF (rgOf p) (rgOf q)).1 < 0 := by
    rw [e]
    show ¬ sgF (rfOf t) < 0
    rw [sgF_of hl]
    exact hs
  exact told_y (congrArg Prod.snd ht) hg (congrArg Prod.fst ht) h2

set_option maxRecDepth 100000 in
theorem matchTold_w (x y : RG) : Cn Try.prog 13 [(RGA x).va, (RGA y).va] (Bo true) := by
  refine Cn.intro Try.func13 rfl (by kernel_rfl) (Nat.le_of_ble_eq_true (by kernel_rfl)) (fun B w0 a hst => ?_)
  have hst : St B w0 103 [(0, (RGA x).va), (1, (RGA y).va)] [] a w0.w := hst
  refine wp_seq ?_
  refine go_lin (sts := []) (news := [⟨2, 28, ptrH, some 0, _, none⟩, ⟨3, 28, ptrH, some 1, _, none⟩]) (sp := [.alc 0, .alc 1, .val 4 _]) [.o 2] hst (obs_cons (ob_box rfl rfl rfl (has_g 0 rfl (by kernel_rfl) (by kernel_rfl))) (obs_cons (ob_box rfl rfl rfl (has_g 1 rfl (by kernel_rfl) (by kernel_rfl))) (obs_cons (ob_v rfl rfl (r_assign has_bo)) (obs_nil)))) (by kernel_rfl) (by kernel_rfl) (by kernel_rfl) (fun a w hst => ?_)
  have hst : St B w0 103 [(4, _)] [⟨2, 28, ptrH, _⟩, ⟨3, 28, ptrH, _⟩] a w := hst
  refine thn_normal ?_
  refine wp_seq ?_
  refine wp_seq ?_
  refine go_draw (anc := [[], [0], [], [0, 1, 2], [0, 1, 2, 3], [0, 1, 2, 3, 4]]) (sts := [none, none]) (news := []) (sp := [.val 17 _, .val 18 _, .val 19 _, .val 20 _, .val 21 _, .val 22 _]) [.g 0, .o 5] follows_mixed hst (obs_cons (ob_v rfl rfl (r_load (loc_at0 0 rfl (by kernel_rfl)) ty_28)) (obs_cons (ob_v rfl rfl (r_call (xs := [.tmp 17]) (gaussCost_c _) (.cons (has_v 0 rfl (by kernel_rfl) (by kernel_rfl)) .nil))) (obs_cons (ob_v rfl rfl (r_load (loc_at0 1 rfl (by kernel_rfl)) ty_28)) (obs_cons (ob_v rfl rfl (r_call (xs := [.tmp 19]) (gaussCost_c _) (.cons (has_v 2 rfl (by kernel_rfl) (by kernel_rfl)) .nil))) (obs_cons (ob_v rfl rfl (r_slice (D := []) (l := [_, _]) (xs := [.tmp 18, .tmp 20]) (nd_ok (by kernel_rfl)) sl_91 (by kernel_rfl) (n_ok (by kernel_rfl)) (Nat.le_of_ble_eq_true (by kernel_rfl)) (Nat.le_of_ble_eq_true (by kernel_rfl)) (Nat.le_of_ble_eq_true (by kernel_rfl)) (.cons (has_v 1 rfl (by kernel_rfl) (by kernel_rfl)) (.cons (has_v 3 rfl (by kernel_rfl) (by kernel_rfl)) .nil)) rfl rfl)) (obs_cons (ob_v rfl rfl (r_call (xs := [.tmp 21]) (beyond_c [_, _]) (.cons (has_v 4 rfl (by kernel_rfl) (by kernel_rfl)) .nil))) (obs_nil))))))) (by kernel_rfl) (by kernel_rfl) (by kernel_rfl) (by kernel_rfl) (fun a w hst => ?_)
  have hst : St B w0 103 [(4, _), (22, _)] [⟨2, 28, ptrH, _⟩, ⟨3, 28, ptrH, _⟩] a w := hst
  refine thn_normal ?_
  refine cond_of hst (List.mem_of_getElem? (i := 1) rfl) (fun hb0 => ?_) (fun hb0 => ?_)
  · refine wp_seq ?_
    refine go_lin (sts := [none, none]) (news := []) (sp := [.val 4 _]) [.o 0] hst (obs_cons (ob_v rfl rfl (r_assign has_bo)) (obs_nil)) (by kernel_rfl) (by kernel_rfl) (by kernel_rfl) (fun a w hst => ?_)
    have hst : St B w0 103 [(4, _)] [⟨2, 28, ptrH, _⟩, ⟨3, 28, ptrH, _⟩] a w := hst
    refine thn_normal ?_
    refine wp_ret ?_
    refine thn_ret ?_
    refine ret_wk ?_ (ret_tmp rfl hst (List.mem_of_getElem? (i := 0) rfl))
    exact wk_id
  · refine wp_skip ?_
    refine thn_normal ?_
    refine wp_seq ?_
    refine go_lin (sts := [none, none]) (news := [⟨5, 26, ptrH, some 7, _, some (8, _)⟩]) (sp := [.val 24 _, .val 25 _, .val 26 _, .val 23 _, .val 27 _, .val 28 _, .val 29 _, .alc 2, .sto 2, .val 6 _, .val 7 _]) [.g 0, .o 9, .o 10] hst (obs_cons (ob_v rfl rfl (r_load (loc_at0 0 rfl (by kernel_rfl)) ty_28)) (obs_cons (ob_v rfl rfl (r_load (loc_at0 1 rfl (by kernel_rfl)) ty_28)) (obs_cons (ob_v rfl rfl (r_call (xs := [.tmp 24, .tmp 25]) (lens_c _ _) (.cons (has_v 0 rfl (by kernel_rfl) (by kernel_rfl)) (.cons (has_v 1 rfl (by kernel_rfl) (by kernel_rfl)) .nil)))) (obs_cons (ob_v rfl rfl (r_move (has_v 2 rfl (by kernel_rfl) (by kernel_rfl)))) (obs_cons (ob_v rfl rfl (r_ex0 (has_v 3 rfl (by kernel_rfl) (by kernel_rfl)))) (obs_cons (ob_v rfl rfl (r_ex1 (has_v 3 rfl (by kernel_rfl) (by kernel_rfl)))) (obs_cons (ob_v rfl rfl (r_ex2 (has_v 3 rfl (by kernel_rfl) (by kernel_rfl)))) (obs_cons (ob_alc rfl rfl rfl (Str.zero str_frac)) (obs_cons (ob_sto rfl rfl rfl (has_v 4 rfl (by kernel_rfl) (by kernel_rfl)) ty_26 rfl) (obs_cons (ob_v rfl rfl (r_assign (has_v 5 rfl (by kernel_rfl) (by kernel_rfl)))) (obs_cons (ob_v rfl rfl (r_assign (has_v 6 rfl (by kernel_rfl) (by kernel_rfl)))) (obs_nil)))))))))))) (by kernel_rfl) (by kernel_rfl) (by kernel_rfl) (fun a w hst => ?_)
    have hst : St B w0 103 [(4, _), (6, _), (7, _)] [⟨2, 28, ptrH, _⟩, ⟨3, 28, ptrH, _⟩, ⟨5, 26, ptrH, _⟩] a w := hst
    refine thn_normal ?_
    refine wp_seq ?_
    refine go_lin (sts := [none, none, none]) (news := [⟨8, 26, ptrH, some 7, _, some (8, _)⟩]) (sp := [.val 31 _, .val 32 _, .val 33 _, .val 30 _, .val 34 _, .val 35 _, .val 36 _, .alc 3, .sto 3, .val 9 _, .val 10 _]) [.g 0, .g 1, .g 2, .o 9, .o 10] hst (obs_cons (ob_v rfl rfl (r_load (loc_at0 0 rfl (by kernel_rfl)) ty_28)) (obs_cons (ob_v rfl rfl (r_load (loc_at0 1 rfl (by kernel_rfl)) ty_28)) (obs_cons (ob_v rfl rfl (r_call (xs := [.tmp 31, .tmp 32]) (space_c _ _) (.cons (has_v 0 rfl (by kernel_rfl) (by kernel_rfl)) (.cons (has_v 1 rfl (by kernel_rfl) (by kernel_rfl)) .nil)))) (obs_cons (ob_v rfl rfl (r_move (has_v 2 rfl (by kernel_rfl) (by kernel_rfl)))) (obs_cons (ob_v rfl rfl (r_ex0 (has_v 3 rfl (by kernel_rfl) (by kernel_rfl)))) (obs_cons (ob_v rfl rfl (r_ex1 (has_v 3 rfl (by kernel_rfl) (by kernel_rfl)))) (obs_cons (ob_v rfl rfl (r_ex2 (has_v 3 rfl (by kernel_rfl) (by kernel_rfl)))) (obs_cons (ob_alc rfl rfl rfl (Str.zero str_frac)) (obs_cons (ob_sto rfl rfl rfl (has_v 4 rfl (by kernel_rfl) (by kernel_rfl)) ty_26 rfl) (obs_cons (ob_v rfl rfl (r_assign (has_v 5 rfl (by kernel_rfl) (by kernel_rfl)))) (obs_cons (ob_v rfl rfl (r_assign (has_v 6 rfl (by kernel_rfl) (by kernel_rfl)))) (obs_nil)))))))))))) (by kernel_rfl) (by kernel_rfl) (by kernel_rfl) (fun a w hst => ?_)
    have hst : St B w0 103 [(4, _), (6, _), (7, _), (9, _), (10, _)] [⟨2, 28, ptrH, _⟩, ⟨3, 28, ptrH, _⟩, ⟨5, 26, ptrH, _⟩, ⟨8, 26, ptrH, _⟩] a w := hst
    refine thn_normal ?_
    refine wp_seq ?_
    refine wp_seq ?_
    refine go_lin (sts := [none, none, none, none]) (news := []) (sp := [.val 37 _, .val 38 _, .val 39 (Wh (_ = true) _), .val 40 (Wh (_ = true) _), .val 41 _, .val 42 _, .val 43 (Wh (_ = false) _), .val 44 (Wh (_ = false) _), .val 45 (Wh (_ = false ∧ _ = true) _), .val 46 (Wh (_ = false ∧ _ = true) _), .val 47 (Wh (_ = false) _), .val 48 _]) [.g 0, .g 1, .g 3, .o 11] hst (obs_cons (ob_v rfl rfl (r_move (has_g 1 rfl (by kernel_rfl) (by kernel_rfl)))) (obs_cons (ob_v rfl rfl (r_move (has_v 0 rfl (by kernel_rfl) (by kernel_rfl)))) (obs_cons (ob_gd rfl rfl rfl (has_v 1 rfl (by kernel_rfl) (by kernel_rfl)) (Nat.le_of_ble_eq_true (by kernel_rfl)) (fun hg => r_move (has_g 2 rfl (by kernel_rfl) (by kernel_rfl)))) (obs_cons (ob_gd rfl rfl rfl (has_v 1 rfl (by kernel_rfl) (by kernel_rfl)) (Nat.le_of_ble_eq_true (by kernel_rfl)) (fun hg => r_neq (has_wh (has_v 2 rfl (by kernel_rfl) (by kernel_rfl)) hg) has_num)) (obs_cons (ob_v rfl rfl (r_and (has_v 1 rfl (by kernel_rfl) (by kernel_rfl)) (has_v 3 rfl (by kernel_rfl) (by kernel_rfl)))) (obs_cons (ob_v rfl rfl (r_move (has_v 4 rfl (by kernel_rfl) (by kernel_rfl)))) (obs_cons (ob_gd rfl rfl rfl (has_v 5 rfl (by kernel_rfl) (by kernel_rfl)) (Nat.le_of_ble_eq_true (by kernel_rfl)) (fun hg => r_move (has_g 3 rfl (by kernel_rfl) (by kernel_rfl)))) (obs_cons (ob_gd rfl rfl rfl (has_v 5 rfl (by kernel_rfl) (by kernel_rfl)) (Nat.le_of_ble_eq_true (by kernel_rfl)) (fun hg => r_move (has_wh (has_v 6 rfl (by kernel_rfl) (by kernel_rfl)) hg))) (obs_cons (ob_gd2 rfl rfl rfl (has_v 7 rfl (by kernel_rfl) (by kernel_rfl)) (Nat.le_of_ble_eq_true (by kernel_rfl)) (fun hg => r_move (has_g 4 rfl (by kernel_rfl) (by kernel_rfl)))) (obs_cons (ob_gd2 rfl rfl rfl (has_v 7 rfl (by kernel_rfl) (by kernel_rfl)) (Nat.le_of_ble_eq_true (by kernel_rfl)) (fun hg => r_neq (has_wh (has_v 8 rfl (by kernel_rfl) (by kernel_rfl)) hg) has_num)) (obs_cons (ob_gd rfl rfl rfl (has_v 5 rfl (by kernel_rfl) (by kernel_rfl)) (Nat.le_of_ble_eq_true (by kernel_rfl)) (fun hg => r_and (has_wh (has_v 7 rfl (by kernel_rfl) (by kernel_rfl)) hg) (has_wh2 (has_v 9 rfl (by kernel_rfl) (by kernel_rfl)) hg))) (obs_cons (ob_v rfl rfl (r_or (has_v 5 rfl (by kernel_rfl) (by kernel_rfl)) (has_v 10 rfl (by kernel_rfl) (by kernel_rfl)))) (obs_nil))))))))))))) (by kernel_rfl) (by kernel_rfl) (by kernel_rfl) (fun a w hst => ?_)
    have hst : St B w0 103 [(4, _), (6, _), (9, _), (48, _)] [⟨2, 28, ptrH, _⟩, ⟨3, 28, ptrH, _⟩, ⟨5, 26, ptrH, _⟩, ⟨8, 26, ptrH, _⟩] a w := hst
    refine thn_normal ?_
    refine cond_of hst (List.mem_of_getElem? (i := 3) rfl) (fun hb1 => ?_) (fun hb1 => ?_)
    · exact (told_e hb1).elim
    · refine wp_skip ?_
      refine thn_normal ?_
      refine wp_seq ?_
      refine wp_seq ?_
      refine go_lin (sts := [none, none, none, none]) (news := []) (sp := [.val 49 _]) [.g 0, .g 2, .o 0] hst (obs_cons (ob_v rfl rfl (r_move (has_g 1 rfl (by kernel_rfl) (by kernel_rfl)))) (obs_nil)) (by kernel_rfl) (by kernel_rfl) (by kernel_rfl) (fun a w hst => ?_)
      have hst : St B w0 103 [(4, _), (9, _), (49, _)] [⟨2, 28, ptrH, _⟩, ⟨3, 28, ptrH, _⟩, ⟨5, 26, ptrH, _⟩, ⟨8, 26, ptrH, _⟩] a w := hst
      refine thn_normal ?_
      refine cond_join (fun a w =>  St B w0 103 [(9, Bo (spF x y).2.1)] [⟨2, 28, ptrH, RGA x⟩, ⟨3, 28, ptrH, RGA y⟩, ⟨5, 26, ptrH, RFA (lnF x y).1⟩, ⟨8, 26, ptrH, RFA (spF x y).1⟩] a w) hst (List.mem_of_getElem? (i := 2) rfl) (fun hb2 => ?_) (fun hb2 => ?_) (fun a w hst => ?_)
      · refine wp_seq ?_
        refine go_draw (anc := [[], [], [0, 1], [0, 1, 2], [0, 1, 2, 3], [0, 1, 2, 3], [], [0, 1, 2, 3, 4, 6], [0, 1, 2, 3, 4, 5, 6, 7]]) (sts := [none, none, none, none]) (news := [⟨11, 26, ptrH, some 6, _, some (7, _)⟩]) (sp := [.val 51 _, .val 52 _, .val 53 _, .val 50 _, .val 54 _, .val 55 _, .alc 4, .sto 4, .val 12 _]) [.g 0, .g 1, .o 8] follows_mixed hst (obs_cons (ob_v rfl rfl (r_call (xs := [.const (.int .i64 (0)), .const (.int .i64 (1))]) (whole20_c (by decide) (by decide) (by decide) (by decide) (by decide)) (.cons has_num (.cons has_num .nil)))) (obs_cons (ob_v rfl rfl (r_load (loc_at0 2 rfl (by kernel_rfl)) ty_26)) (obs_cons (ob_v rfl rfl (r_call (xs := [.tmp 51, .tmp 52]) (subF_c _ _) (.cons (has_v 0 rfl (by kernel_rfl) (by kernel_rfl)) (.cons (has_v 1 rfl (by kernel_rfl) (by kernel_rfl)) .nil)))) (obs_cons (ob_v rfl rfl (r_move (has_v 2 rfl (by kernel_rfl) (by kernel_rfl)))) (obs_cons (ob_v rfl rfl (r_ex0 (has_v 3 rfl (by kernel_rfl) (by kernel_rfl)))) (obs_cons (ob_v rfl rfl (r_ex1 (has_v 3 rfl (by kernel_rfl) (by kernel_rfl)))) (obs_cons (ob_alc rfl rfl rfl (Str.zero str_frac)) (obs_cons (ob_sto rfl rfl rfl (has_v 4 rfl (by kernel_rfl) (by kernel_rfl)) ty_26 rfl) (obs_cons (ob_v rfl rfl (r_assign (has_v 5 rfl (by kernel_rfl) (by kernel_rfl)))) (obs_nil)))))))))) (by kernel_rfl) (by kernel_rfl) (by kernel_rfl) (by kernel_rfl) (fun a w hst => ?_)
        have hst : St B w0 103 [(4, _), (9, _), (12, _)] [⟨2, 28, ptrH, _⟩, ⟨3, 28, ptrH, _⟩, ⟨5, 26, ptrH, _⟩, ⟨8, 26, ptrH, _⟩, ⟨11, 26, ptrH, _⟩] a w := hst
        refine thn_normal ?_
        refine wp_seq ?_
        refine go_draw (anc := [[], [0], [], [0, 1], [0, 1, 2, 3], [], [0, 1, 2, 3, 4, 5], [0, 1, 2, 3, 4, 5, 6], [0, 1, 2, 3, 4, 5, 6, 7], [0, 1, 2, 3, 4, 5, 6, 7], [], [0, 1, 2, 3, 4, 5, 6, 7, 8, 10], [0, 1, 2, 3, 4, 5, 6, 7, 8, 9, 10, 11]]) (sts := [none, none, none, none, none]) (news := [⟨13, 28, ptrH, some 10, _, some (11, _)⟩]) (sp := [.val 57 _, .val 58 _, .val 59 _, .val 60 _, .val 61 _, .val 62 _, .val 63 _, .val 56 _, .val 64 _, .val 65 _, .alc 5, .sto 5, .val 14 _]) [.g 0, .g 1, .g 2, .o 12] follows_mixed hst (obs_cons (ob_v rfl rfl (r_call (xs := [.const (.int .i64 (1)), .const (.int .i64 (1))]) (whole20_c (by decide) (by decide) (by decide) (by decide) (by decide)) (.cons has_num (.cons has_num .nil)))) (obs_cons (ob_v rfl rfl (r_call (xs := [.const (.int .i64 (0)), .const (.int .i64 (1))]) (whole20_c (by decide) (by decide) (by decide) (by decide) (by decide)) (.cons has_num (.cons has_num .nil)))) (obs_cons (ob_v rfl rfl (r_load (loc_at0 4 rfl (by kernel_rfl)) ty_26)) (obs_cons (ob_v rfl rfl (r_call (xs := [.const (.int .i64 (1)), .const (.int .i64 (1))]) (whole20_c (by decide) (by decide) (by decide) (by decide) (by decide)) (.cons has_num (.cons has_num .nil)))) (obs_cons (ob_v rfl rfl (r_build (xs := [(0, .tmp 57), (1, .tmp 58), (2, .tmp 59), (3, .tmp 60)]) (qs := [(0, _), (1, _), (2, _), (3, _)]) str_matrix (.cons ⟨rfl, (has_v 0 rfl (by kernel_rfl) (by kernel_rfl)), rfl⟩ (.cons ⟨rfl, (has_v 1 rfl (by kernel_rfl) (by kernel_rfl)), rfl⟩ (.cons ⟨rfl, (has_v 2 rfl (by kernel_rfl) (by kernel_rfl)), rfl⟩ (.cons ⟨rfl, (has_v 3 rfl (by kernel_rfl) (by kernel_rfl)), rfl⟩ .nil)))))) (obs_cons (ob_v rfl rfl (r_load (loc_at0 0 rfl (by kernel_rfl)) ty_28)) (obs_cons (ob_v rfl rfl (r_call (xs := [.tmp 61, .tmp 62]) (bmThrough_c ⟨_, _, _, _⟩ _) (.cons (has_v 4 rfl (by kernel_rfl) (by kernel_rfl)) (.cons (has_v 5 rfl (by kernel_rfl) (by kernel_rfl)) .nil)))) (obs_cons (ob_v rfl rfl (r_move (has_v 6 rfl (by kernel_rfl) (by kernel_rfl)))) (obs_cons (ob_v rfl rfl (r_ex0 (has_v 7 rfl (by kernel_rfl) (by kernel_rfl)))) (obs_cons (ob_v rfl rfl (r_ex1 (has_v 7 rfl (by kernel_rfl) (by kernel_rfl)))) (obs_cons (ob_alc rfl rfl rfl (Str.zero str_gauss)) (obs_cons (ob_sto rfl rfl rfl (has_v 8 rfl (by kernel_rfl) (by kernel_rfl)) ty_28 rfl) (obs_cons (ob_v rfl rfl (r_assign (has_v 9 rfl (by kernel_rfl) (by kernel_rfl)))) (obs_nil)))))))))))))) (by kernel_rfl) (by kernel_rfl) (by kernel_rfl) (by kernel_rfl) (fun a w hst => ?_)
        have hst : St B w0 103 [(4, _), (9, _), (12, _), (14, _)] [⟨2, 28, ptrH, _⟩, ⟨3, 28, ptrH, _⟩, ⟨5, 26, ptrH, _⟩, ⟨8, 26, ptrH, _⟩, ⟨11, 26, ptrH, _⟩, ⟨13, 28, ptrH, _⟩] a w := hst
        refine thn_normal ?_
        refine wp_seq ?_
        refine go_lin (sts := [none, none, none, none, none, none]) (news := []) (sp := [.val 66 _, .val 67 _, .val 68 _, .val 69 (Wh (_ = false) _), .val 70 (Wh (_ = false) _), .val 71 _, .val 72 _, .val 73 (Wh (_ = false) _), .val 74 (Wh (_ = false) _), .val 75 (Wh (_ = false) _), .val 76 (Wh (_ = false) _), .val 77 _]) [.g 0, .g 1, .o 11] hst (obs_cons (ob_v rfl rfl (r_move (has_g 2 rfl (by kernel_rfl) (by kernel_rfl)))) (obs_cons (ob_v rfl rfl (r_neq (has_v 0 rfl (by kernel_rfl) (by kernel_rfl)) has_num)) (obs_cons (ob_v rfl rfl (r_move (has_v 1 rfl (by kernel_rfl) (by kernel_rfl)))) (obs_cons (ob_gd rfl rfl rfl (has_v 2 rfl (by kernel_rfl) (by kernel_rfl)) (Nat.le_of_ble_eq_true (by kernel_rfl)) (fun hg => r_move (has_g 3 rfl (by kernel_rfl) (by kernel_rfl)))) (obs_cons (ob_gd rfl rfl rfl (has_v 2 rfl (by kernel_rfl) (by kernel_rfl)) (Nat.le_of_ble_eq_true (by kernel_rfl)) (fun hg => r_neq (has_wh (has_v 3 rfl (by kernel_rfl) (by kernel_rfl)) hg) has_num)) (obs_cons (ob_v rfl rfl (r_or (has_v 2 rfl (by kernel_rfl) (by kernel_rfl)) (has_v 4 rfl (by kernel_rfl) (by kernel_rfl)))) (obs_cons (ob_v rfl rfl (r_move (has_v 5 rfl (by kernel_rfl) (by kernel_rfl)))) (obs_cons (ob_gd rfl rfl rfl (has_v 6 rfl (by kernel_rfl) (by kernel_rfl)) (Nat.le_of_ble_eq_true (by kernel_rfl)) (fun hg => r_load (loc_at0 5 rfl (by kernel_rfl)) ty_28)) (obs_cons (ob_gd rfl rfl rfl (has_v 6 rfl (by kernel_rfl) (by kernel_rfl)) (Nat.le_of_ble_eq_true (by kernel_rfl)) (fun hg => r_load (loc_at0 1 rfl (by kernel_rfl)) ty_28)) (obs_cons (ob_gd rfl rfl rfl (has_v 6 rfl (by kernel_rfl) (by kernel_rfl)) (Nat.le_of_ble_eq_true (by kernel_rfl)) (fun hg => r_call (xs := [.tmp 73, .tmp 74]) (sameGauss_c _ _) (.cons (has_wh (has_v 7 rfl (by kernel_rfl) (by kernel_rfl)) hg) (.cons (has_wh (has_v 8 rfl (by kernel_rfl) (by kernel_rfl)) hg) .nil)))) (obs_cons (ob_gd rfl rfl rfl (has_v 6 rfl (by kernel_rfl) (by kernel_rfl)) (Nat.le_of_ble_eq_true (by kernel_rfl)) (fun hg => r_not (has_wh (has_v 9 rfl (by kernel_rfl) (by kernel_rfl)) hg))) (obs_cons (ob_v rfl rfl (r_or (has_v 6 rfl (by kernel_rfl) (by kernel_rfl)) (has_v 10 rfl (by kernel_rfl) (by kernel_rfl)))) (obs_nil))))))))))))) (by kernel_rfl) (by kernel_rfl) (by kernel_rfl) (fun a w hst => ?_)
        have hst : St B w0 103 [(4, _), (9, _), (77, _)] [⟨2, 28, ptrH, _⟩, ⟨3, 28, ptrH, _⟩, ⟨5, 26, ptrH, _⟩, ⟨8, 26, ptrH, _⟩, ⟨11, 26, ptrH, _⟩, ⟨13, 28, ptrH, _⟩] a w := hst
        refine thn_normal ?_
        refine cond_of hst (List.mem_of_getElem? (i := 2) rfl) (fun hb3 => ?_) (fun hb3 => ?_)
        · exact (told_l hb2 hb3).elim
        · refine wp_skip ?_
          refine thn_normal ?_
          have hst := St.sel hst [1]
          have hst := St.selL hst [0, 1, 2, 3]
          exact hst
      · refine wp_skip ?_
        refine thn_normal ?_
        have hst := St.sel hst [1]
        exact hst
      refine thn_normal ?_
      refine wp_seq ?_
      refine wp_seq ?_
      refine go_lin (sts := [none, none, none, none]) (news := []) (sp := [.val 78 _]) [.o 0] hst (obs_cons (ob_v rfl rfl (r_move (has_g 0 rfl (by kernel_rfl) (by kernel_rfl)))) (obs_nil)) (by kernel_rfl) (by kernel_rfl) (by kernel_rfl) (fun a w hst => ?_)
      have hst : St B w0 103 [(78, _)] [⟨2, 28, ptrH, _⟩, ⟨3, 28, ptrH, _⟩, ⟨5, 26, ptrH, _⟩, ⟨8, 26, ptrH, _⟩] a w := hst
      refine thn_normal ?_
      refine cond_of hst (List.mem_of_getElem? (i := 0) rfl) (fun hb4 => ?_) (fun hb4 => ?_)
      · refine wp_seq ?_
        refine go_draw (anc := [[], [], [0], [0, 2], [0, 1, 2, 3], [], [0, 1, 2, 3, 4, 5], [0, 1, 2, 3, 4, 5, 6], [0, 1, 2, 3, 4, 5, 6, 7], [0, 1, 2, 3, 4, 5, 6, 7], [], [0, 1, 2, 3, 4, 5, 6, 7, 8, 10], [0, 1, 2, 3, 4, 5, 6, 7, 8, 9, 10, 11]]) (sts := [none, none, none, none]) (news := [⟨15, 28, ptrH, some 10, _, some (11, _)⟩]) (sp := [.val 80 _, .val 81 _, .val 82 _, .val 83 _, .val 84 _, .val 85 _, .val 86 _, .val 79 _, .val 87 _, .val 88 _, .alc 4, .sto 4, .val 16 _]) [.o 12] follows_mixed hst (obs_cons (ob_v rfl rfl (r_call (xs := [.const (.int .i64 (1)), .const (.int .i64 (1))]) (whole20_c (by decide) (by decide) (by decide) (by decide) (by decide)) (.cons has_num (.cons has_num .nil)))) (obs_cons (ob_v rfl rfl (r_load (loc_at0 3 rfl (by kernel_rfl)) ty_26)) (obs_cons (ob_v rfl rfl (r_call (xs := [.const (.int .i64 (0)), .const (.int .i64 (1))]) (whole20_c (by decide) (by decide) (by decide) (by decide) (by decide)) (.cons has_num (.cons has_num .nil)))) (obs_cons (ob_v rfl rfl (r_call (xs := [.const (.int .i64 (1)), .const (.int .i64 (1))]) (whole20_c (by decide) (by decide) (by decide) (by decide) (by decide)) (.cons has_num (.cons has_num .nil)))) (obs_cons (ob_v rfl rfl (r_build (xs := [(0, .tmp 80), (1, .tmp 81), (2, .tmp 82), (3, .tmp 83)]) (qs := [(0, _), (1, _), (2, _), (3, _)]) str_matrix (.cons ⟨rfl, (has_v 0 rfl (by kernel_rfl) (by kernel_rfl)), rfl⟩ (.cons ⟨rfl, (has_v 1 rfl (by kernel_rfl) (by kernel_rfl)), rfl⟩ (.cons ⟨rfl, (has_v 2 rfl (by kernel_rfl) (by kernel_rfl)), rfl⟩ (.cons ⟨rfl, (has_v 3 rfl (by kernel_rfl) (by kernel_rfl)), rfl⟩ .nil)))))) (obs_cons (ob_v rfl rfl (r_load (loc_at0 0 rfl (by kernel_rfl)) ty_28)) (obs_cons (ob_v rfl rfl (r_call (xs := [.tmp 84, .tmp 85]) (bmThrough_c ⟨_, _, _, _⟩ _) (.cons (has_v 4 rfl (by kernel_rfl) (by kernel_rfl)) (.cons (has_v 5 rfl (by kernel_rfl) (by kernel_rfl)) .nil)))) (obs_cons (ob_v rfl rfl (r_move (has_v 6 rfl (by kernel_rfl) (by kernel_rfl)))) (obs_cons (ob_v rfl rfl (r_ex0 (has_v 7 rfl (by kernel_rfl) (by kernel_rfl)))) (obs_cons (ob_v rfl rfl (r_ex1 (has_v 7 rfl (by kernel_rfl) (by kernel_rfl)))) (obs_cons (ob_alc rfl rfl rfl (Str.zero str_gauss)) (obs_cons (ob_sto rfl rfl rfl (has_v 8 rfl (by kernel_rfl) (by kernel_rfl)) ty_28 rfl) (obs_cons (ob_v rfl rfl (r_assign (has_v 9 rfl (by kernel_rfl) (by kernel_rfl)))) (obs_nil)))))))))))))) (by kernel_rfl) (by kernel_rfl) (by kernel_rfl) (by kernel_rfl) (fun a w hst => ?_)
        have hst : St B w0 103 [(16, _)] [⟨2, 28, ptrH, _⟩, ⟨3, 28, ptrH, _⟩, ⟨5, 26, ptrH, _⟩, ⟨8, 26, ptrH, _⟩, ⟨15, 28, ptrH, _⟩] a w := hst
        refine thn_normal ?_
        refine wp_seq ?_
        refine go_lin (sts := [none, none, none, none, none]) (news := []) (sp := [.val 89 _, .val 90 _, .val 91 _, .val 92 (Wh (_ = false) _), .val 93 (Wh (_ = false) _), .val 94 (Wh (_ = false) _), .val 95 _, .val 96 _, .val 97 (Wh (_ = false) _), .val 98 (Wh (_ = false) _), .val 99 (Wh (_ = false) _), .val 100 (Wh (_ = false) _), .val 101 _]) [.o 12] hst (obs_cons (ob_v rfl rfl (r_move (has_g 0 rfl (by kernel_rfl) (by kernel_rfl)))) (obs_cons (ob_v rfl rfl (r_neq (has_v 0 rfl (by kernel_rfl) (by kernel_rfl)) has_num)) (obs_cons (ob_v rfl rfl (r_move (has_v 1 rfl (by kernel_rfl) (by kernel_rfl)))) (obs_cons (ob_gd rfl rfl rfl (has_v 2 rfl (by kernel_rfl) (by kernel_rfl)) (Nat.le_of_ble_eq_true (by kernel_rfl)) (fun hg => r_load (loc_at0 3 rfl (by kernel_rfl)) ty_26)) (obs_cons (ob_gd rfl rfl rfl (has_v 2 rfl (by kernel_rfl) (by kernel_rfl)) (Nat.le_of_ble_eq_true (by kernel_rfl)) (fun hg => r_call (xs := [.tmp 92]) (fracSign_c _) (.cons (has_wh (has_v 3 rfl (by kernel_rfl) (by kernel_rfl)) hg) .nil))) (obs_cons (ob_gd rfl rfl rfl (has_v 2 rfl (by kernel_rfl) (by kernel_rfl)) (Nat.le_of_ble_eq_true (by kernel_rfl)) (fun hg => r_lss (has_wh (has_v 4 rfl (by kernel_rfl) (by kernel_rfl)) hg) has_num)) (obs_cons (ob_v rfl rfl (r_or (has_v 2 rfl (by kernel_rfl) (by kernel_rfl)) (has_v 5 rfl (by kernel_rfl) (by kernel_rfl)))) (obs_cons (ob_v rfl rfl (r_move (has_v 6 rfl (by kernel_rfl) (by kernel_rfl)))) (obs_cons (ob_gd rfl rfl rfl (has_v 7 rfl (by kernel_rfl) (by kernel_rfl)) (Nat.le_of_ble_eq_true (by kernel_rfl)) (fun hg => r_load (loc_at0 4 rfl (by kernel_rfl)) ty_28)) (obs_cons (ob_gd rfl rfl rfl (has_v 7 rfl (by kernel_rfl) (by kernel_rfl)) (Nat.le_of_ble_eq_true (by kernel_rfl)) (fun hg => r_load (loc_at0 1 rfl (by kernel_rfl)) ty_28)) (obs_cons (ob_gd rfl rfl rfl (has_v 7 rfl (by kernel_rfl) (by kernel_rfl)) (Nat.le_of_ble_eq_true (by kernel_rfl)) (fun hg => r_call (xs := [.tmp 97, .tmp 98]) (sameGauss_c _ _) (.cons (has_wh (has_v 8 rfl (by kernel_rfl) (by kernel_rfl)) hg) (.cons (has_wh (has_v 9 rfl (by kernel_rfl) (by kernel_rfl)) hg) .nil)))) (obs_cons (ob_gd rfl rfl rfl (has_v 7 rfl (by kernel_rfl) (by kernel_rfl)) (Nat.le_of_ble_eq_true (by kernel_rfl)) (fun hg => r_not (has_wh (has_v 10 rfl (by kernel_rfl) (by kernel_rfl)) hg))) (obs_cons (ob_v rfl rfl (r_or (has_v 7 rfl (by kernel_rfl) (by kernel_rfl)) (has_v 11 rfl (by kernel_rfl) (by kernel_rfl)))) (obs_nil)))))))))))))) (by kernel_rfl) (by kernel_rfl) (by kernel_rfl) (fun a w hst => ?_)
        have hst : St B w0 103 [(101, _)] [⟨2, 28, ptrH, _⟩, ⟨3, 28, ptrH, _⟩, ⟨5, 26, ptrH, _⟩, ⟨8, 26, ptrH, _⟩, ⟨15, 28, ptrH, _⟩] a w := hst
        refine thn_normal ?_
        refine cond_of hst (List.mem_of_getElem? (i := 0) rfl) (fun hb5 => ?_) (fun hb5 => ?_)
        · exact (told_s hb4 hb5).elim
        · refine wp_skip ?_
          refine thn_normal ?_
          refine wp_seq ?_
          refine go_lin (sts := [none, none, none, none, none]) (news := []) (sp := [.val 102 _, .val 4 _]) [.o 1] hst (obs_cons (ob_v rfl rfl (r_call (xs := []) lives20_c .nil)) (obs_cons (ob_v rfl rfl (r_assign (has_v 0 rfl (by kernel_rfl) (by kernel_rfl)))) (obs_nil))) (by kernel_rfl) (by kernel_rfl) (by kernel_rfl) (fun a w hst => ?_)
          have hst : St B w0 103 [(4, _)] [⟨2, 28, ptrH, _⟩, ⟨3, 28, ptrH, _⟩, ⟨5, 26, ptrH, _⟩, ⟨8, 26, ptrH, _⟩, ⟨15, 28, ptrH, _⟩] a w := hst
          refine thn_normal ?_
          refine wp_ret ?_
          refine ret_wk ?_ (ret_tmp rfl hst (List.mem_of_getElem? (i := 0) rfl))
          exact wk_id
      · refine wp_skip ?_
        refine thn_normal ?_
        refine wp_seq ?_
        refine go_lin (sts := [none, none, none, none]) (news := []) (sp := [.val 102 _, .val 4 _]) [.o 1] hst (obs_cons (ob_v rfl rfl (r_call (xs := []) lives20_c .nil)) (obs_cons (ob_v rfl rfl (r_assign (has_v 0 rfl (by kernel_rfl) (by kernel_rfl)))) (obs_nil))) (by kernel_rfl) (by kernel_rfl) (by kernel_rfl) (fun a w hst => ?_)
        have hst : St B w0 103 [(4, _)] [⟨2, 28, ptrH, _⟩, ⟨3, 28, ptrH, _⟩, ⟨5, 26, ptrH, _⟩, ⟨8, 26, ptrH, _⟩] a w := hst
        refine thn_normal ?_
        refine wp_ret ?_
        refine ret_wk ?_ (ret_tmp rfl hst (List.mem_of_getElem? (i := 0) rfl))
        exact wk_id

open Go.ChangeShapes Go.WideShapes Go.ChangeAt
open Go.ChangeMaps (open_string shut_string)
set_option linter.unusedVariables false
theorem own : ownKnob Try.prog.godebug = none := by kernel_rfl
theorem laidOut : laidOutB Try.prog = true := by kernel_rfl
set_option maxRecDepth 100000 in
theorem lifted (os : Os) (started : os.Started) (H : Type) (enc : TypeId × Value → H) :
    ReturnsInHanded {} Try.checked os 13 .any (Rows.matchToldSpec.pre6 enc Try.prog Try.f13 Rows.matchToldRow.domain false) (Rows.matchToldSpec.post enc Try.prog Try.f13 false true false false) := by
  refine returnsInHanded_of_change (C := Try.checked) own started (by kernel_rfl) Try.func13
    (ChangeSpec.witness6 (enc := enc) (C := Try.checked) false ⟨#[], #[.agg #[.bool false, .slice none 0 0, .bool false, .slice none 0 0, .bool false, .slice none 0 0, .bool false, .slice none 0 0], .agg #[.bool false, .slice none 0 0, .bool false, .slice none 0 0, .bool false, .slice none 0 0, .bool false, .slice none 0 0]], []⟩ 8 (by kernel_rfl) (by kernel_rfl) (by kernel_rfl) (by kernel_rfl)) ?_
  intro W base args ds gs before hval0 hW hcnd _
  have hval : ∀ (j : Nat) t v, Try.f13.params[j]? = some t → args[j]? = some v → Value.okWide Try.prog W .any base t v := hval0
  have hW' := hW
  obtain ⟨p, q, hA0, hV, rfl, hfz, hnd⟩ := hW
  have hA : DataW.TrodAll enc Try.prog W 0 (fun _ => true) true Try.f13.params.toList args.toList ds p := hA0
  rw [Try.params13] at hA hval
  obtain ⟨v0, vs0, d0, ds0, p0, q0, hargs, rfl, rfl, h0, r0⟩ := trodAll_cons hA
  obtain ⟨v1, vs1, d1, ds1, p1, q1, rfl, rfl, rfl, h1, r1⟩ := trodAll_cons r0
  obtain ⟨rfl, rfl, rfl⟩ := trodAll_nil r1
  obtain rfl : args = #[v0, v1] := by cases args; simp_all
  obtain ⟨rfl, rfl⟩ := trodVars_none hV
  have k0 := h0
  have lt0 : ∀ x ∈ p0, x.block < W.heap.size := by obtain ⟨m, hm⟩ := k0; exact DataW.trod_lt m _ _ _ hm
  have k1 := h1
  have lt1 : ∀ x ∈ p1, x.block < W.heap.size := by obtain ⟨m, hm⟩ := k1; exact DataW.trod_lt m _ _ _ hm
  obtain ⟨x0, a0⟩ := arg_of (A := RGA) (fun _ => rfl) Try.underlying28 rd_rg (hval 0 28 v0 rfl rfl) h0
  obtain ⟨x1, a1⟩ := arg_of (A := RGA) (fun _ => rfl) Try.underlying28 rd_rg (hval 1 28 v1 rfl rfl) h1
  clear hA0 hval0
  refine ((matchTold_w x0 x1).2 W.heap.size W [v0, v1] (Nat.le_refl _) (.cons a0 (.cons a1 .nil))).mono fun e W' ⟨v, he, hv, bel⟩ => ?_
  have hv' := bo_val hv
  subst hv' he
  exact ⟨_, rfl, _, _, _, [], _, [], hW', trodAll_mk1 (shut_bool Try.underlying4 _), (trodAll_cons_mk (Below.trod laidOut (by kernel_rfl) (of_decide_eq_true (by kernel_rfl)) k0 bel lt0) (trodAll_cons_mk (Below.trod laidOut (by kernel_rfl) (of_decide_eq_true (by kernel_rfl)) k1 bel lt1) trodAll_mk0)), rfl, bel.frame _, fun h => by cases h⟩
theorem over : Rows.matchToldRow.holds Try.pinned (OpenSpec.ofChange Rows.matchToldSpec) :=
  OpenClaim.holds_of_wide 13 Try.f13 rfl rfl rfl rfl rfl rfl rfl ⟨rfl, rfl, rfl, rfl, rfl⟩ rfl rfl rfl rfl rfl (by kernel_rfl) Try.func13 (by kernel_rfl)
    (of_decide_eq_true (by kernel_rfl)) (by unfold Func.isWrapper; rw [if_neg (of_decide_eq_false (by kernel_rfl))]; exact ⟨rfl, rfl⟩)
    (fun os started H enc _ => lifted os started H enc)
theorem provedMatchTold : Rows.MatchToldSaid := over
#print axioms provedMatchTold

end Go.Proofs.Ytiokhlpbdabaeaa
