/- MatchMakes: for every p, power, length the law of chapter 20 on what a lens and a space have made answers true. No condition. -/
import Derived.Test.YtiokhlpbdabaeaaLeafX
import Derived.Test.YtiokhlpbdabaeaaRows
import Derived.WalkKit
import Derived.ProofKit
import Derived.OpenShut
import Derived.ShutString
import Derived.ChangeOld
import Derived.Below
namespace Go.Proofs.Ytiokhlpbdabaeaa
open Go Go.RowKit
namespace LMatchMakes
theorem sl_91 : Sl Try.prog 91 3 1 := ⟨by kernel_rfl, by kernel_rfl⟩
theorem ty_26 : Ty Try.prog 26 4 true := ⟨by kernel_rfl, by kernel_rfl⟩
theorem ty_28 : Ty Try.prog 28 8 true := ⟨by kernel_rfl, by kernel_rfl⟩
end LMatchMakes
open LMatchMakes
theorem bo_and {c : Bool} (h : c = true) : Wk (Bo (c && true)) (Bo true) := by subst h; exact wk_id
abbrev mnF (u : RF) : RF × Int := subF (rfOf (Rat.divInt 0 1)) u
abbrev lnM (u : RF) : RM := ⟨rfOf (Rat.divInt 1 1), rfOf (Rat.divInt 0 1), (mnF u).1, rfOf (Rat.divInt 1 1)⟩
abbrev spM (t : RF) : RM := ⟨rfOf (Rat.divInt 1 1), t, rfOf (Rat.divInt 0 1), rfOf (Rat.divInt 1 1)⟩
theorem beam_of {x : RG} {c : Bool} (h : (c || (bmC x != 0)) = false) : ∃ p, x = rgOf p ∧ OkG p := by
  rw [Bool.or_eq_false_iff] at h
  exact okB_ex (okB_of h.2)
theorem thr_of {m : MQ} {p : GQ} (h : ((thrF (rmOf m) (rgOf p)).2 == 0) = true) : OkG (behQ m p) ∧ detM m = 1 ∧ (thrF (rmOf m) (rgOf p)).1 = rgOf (behQ m p) := by
  obtain ⟨p', e, _, h1, h2, h3⟩ := thr_ok (m := rmOf m) (x := rgOf p) (by simp only [beq_iff_eq] at h; rw [h]; rfl)
  obtain rfl := rgOf_inj e
  rw [toM_of] at h1 h2 h3
  exact ⟨h2, h1, h3⟩
theorem ln_of {p q : GQ} (hp : OkG p) (hq : OkG q) (h : p.im / sqQ p.re p.im = q.im / sqQ q.re q.im) : lnF (rgOf p) (rgOf q) = fdF (p.re / sqQ p.re p.im - q.re / sqQ q.re q.im) := by
  unfold lnF
  rw [okB_of_ok hp, okB_of_ok hq, toG_of, toG_of, if_pos h]
  rfl
theorem makes_x {a : Bool} {b : Int} {u v : RF} (ha : a = true) (hb : b = 0) (h : u = v) (h2 : (((!a) || (b != 0)) || (!decide (u = v))) = true) : False := by
  rw [ha, hb, decide_eq_true h] at h2
  exact absurd h2 (by decide)
theorem makes_l {x : RG} {u : RF} {c : Bool} (h0 : (c || (bmC x != 0)) = false) (h1 : ((mnF u).2 == 0) = true) (h2 : ((thrF (lnM u) x).2 == 0) = true)
    (h3 : (((!(lnF x (thrF (lnM u) x).1).2.1) || ((lnF x (thrF (lnM u) x).1).2.2 != 0)) || (!decide ((lnF x (thrF (lnM u) x).1).1 = u))) = true) : False := by
  obtain ⟨p, rfl, hp⟩ := beam_of h0
  obtain ⟨r, rfl, hr, hs, e⟩ := sub_ex (r := Rat.divInt 0 1) long_zero h1
  have hm : lnM (rfOf r) = rmOf ⟨1, 0, 0 - r, 1⟩ := lens_m (congrArg Prod.fst e)
  rw [hm] at h2 h3
  obtain ⟨hq, hd, e2⟩ := thr_of h2
  rw [e2] at h3
  have hN : sqQ p.re p.im ≠ 0 := sq_ne hp.pos
  have hD := norm_line (m := ⟨1, 0, 0 - r, 1⟩) hd hp.pos
  obtain ⟨a1, a2, a3⟩ := made_alg (r := r) (N := sqQ p.re p.im) (D := normQ (lineQ (0 - r) 1 p)) rfl rfl hN hD
  have hsq : sqQ (behQ ⟨1, 0, 0 - r, 1⟩ p).re (behQ ⟨1, 0, 0 - r, 1⟩ p).im = sqQ p.re p.im / normQ (lineQ (0 - r) 1 p) := a1
  have hl := ln_of hp hq (by rw [hsq]; exact a2.symm)
  rw [hsq] at hl
  have hc : p.re / sqQ p.re p.im - (behQ ⟨1, 0, 0 - r, 1⟩ p).re / (sqQ p.re p.im / normQ (lineQ (0 - r) 1 p)) = r := a3
  rw [hc] at hl
  have hf : fdF r = (rfOf r, true, 0) := by unfold fdF; rw [hr]; rfl
  rw [hf] at hl
  exact makes_x (congrArg (fun t => t.2.1) hl) (congrArg (fun t => t.2.2) hl) (congrArg Prod.fst hl) h3
theorem len_of {t : RF} (h : ((if okX t then (0 : Int) else 1) != 0) = false) : ∃ l, t = rfOf l ∧ longQ l = false := by
  cases ht : okX t with
  | false => rw [ht] at h; simp at h
  | true => exact ok_rf ht
theorem sp_beh (p : GQ) (l : Rat) : behQ ⟨1, l, 0, 1⟩ p = ⟨p.re + l, p.im⟩ := by
  unfold behQ lineQ normQ
  simp only [GQ.mk.injEq]
  exact ⟨by grind, by grind⟩
theorem makes_m {x : RG} {t : RF} {c : Bool} (h0 : (c || (bmC x != 0)) = false) (h1 : ((if okX t then (0 : Int) else 1) != 0) = false) (h2 : ((thrF (spM t) x).2 != 0) = false) :
    ∃ l, t = rfOf l ∧ longQ l = false ∧ spF x (thrF (spM t) x).1 = if ¬ l.num.sign < 0 then (rfOf l, true, 0) else (rf0, false, 0) := by
  obtain ⟨p, rfl, hp⟩ := beam_of h0
  obtain ⟨l, rfl, hl⟩ := len_of h1
  have hm : spM (rfOf l) = rmOf ⟨1, l, 0, 1⟩ := space_m rfl
  rw [hm] at h2 ⊢
  obtain ⟨hq, hd, e2⟩ := thr_of (m := ⟨1, l, 0, 1⟩) (p := p) (by simp only [bne_eq_false_iff_eq] at h2; rw [h2]; rfl)
  refine ⟨l, rfl, hl, ?_⟩
  rw [e2]
  rw [sp_beh] at hq ⊢
  unfold spF
  rw [okB_of_ok hp, okB_of_ok hq, toG_of, toG_of]
  have e : p.re + l - p.re = l := by grind
  have hf : fdF l = (rfOf l, true, 0) := by unfold fdF; rw [hl]; rfl
  simp only [e, hf, true_and, Bool.and_true, if_true]
theorem makes_n {x : RG} {t : RF} {c : Bool} (h0 : (c || (bmC x != 0)) = false) (h1 : ((if okX t then (0 : Int) else 1) != 0) = false) (h2 : ((thrF (spM t) x).2 != 0) = false) (h3 : decide (sgF t < 0) = true) :
    (((!(spF x (thrF (spM t) x).1).2.1) && ((spF x (thrF (spM t) x).1).2.2 == 0)) && decide ((spF x (thrF (spM t) x).1).1 = rf0)) = true := by
  obtain ⟨l, rfl, hl, e⟩ := makes_m h0 h1 h2
  rw [sgF_of hl] at h3
  have h4 := of_decide_eq_true h3
  rw [if_neg (fun hh => hh h4)] at e
  have a1 : (spF x (thrF (spM (rfOf l)) x).1).2.1 = false := congrArg (fun t => t.2.1) e
  have a2 : (spF x (thrF (spM (rfOf l)) x).1).2.2 = 0 := congrArg (fun t => t.2.2) e
  have a3 : (spF x (thrF (spM (rfOf l)) x).1).1 = rf0 := congrArg Prod.fst e
  rw [a1, a2, decide_eq_true a3]
  rfl
theorem makes_p {x : RG} {t : RF} {c : Bool} (h0 : (c || (bmC x != 0)) = false) (h1 : ((if okX t then (0 : Int) else 1) != 0) = false) (h2 : ((thrF (spM t) x).2 != 0) = false) (h3 : decide (sgF t < 0) = false) :
    (((spF x (thrF (spM t) x).1).2.1 && ((spF x (thrF (spM t) x).1).2.2 == 0)) && decide ((spF x (thrF (spM t) x).1).1 = t)) = true := by
  obtain ⟨l, rfl, hl, e⟩ := makes_m h0 h1 h2
  rw [sgF_of hl] at h3
  have h4 := of_decide_eq_false h3
  rw [if_pos h4] at e
  have a1 : (spF x (thrF (spM (rfOf l)) x).1).2.1 = true := congrArg (fun t => t.2.1) e
  have a2 : (spF x (thrF (spM (rfOf l)) x).1).2.2 = 0 := congrArg (fun t => t.2.2) e
  have a3 : (spF x (thrF (spM (rfOf l)) x).1).1 = rfOf l := congrArg Prod.fst e
  rw [a1, a2, decide_eq_true a3]
  rfl

set_option maxRecDepth 100000 in
theorem matchMakes_w (x : RG) (u t : RF) : Cn Try.prog 14 [(RGA x).va, (RFA u).va, (RFA t).va] (Bo true) := by
  refine Cn.intro Try.func14 rfl (by kernel_rfl) (Nat.le_of_ble_eq_true (by kernel_rfl)) (fun B w0 a hst => ?_)
  have hst : St B w0 126 [(0, (RGA x).va), (1, (RFA u).va), (2, (RFA t).va)] [] a w0.w := hst
  refine wp_seq ?_
  refine go_lin (sts := []) (news := [⟨3, 28, ptrH, some 0, _, none⟩, ⟨4, 26, ptrH, some 1, _, none⟩, ⟨5, 26, ptrH, some 2, _, none⟩]) (sp := [.alc 0, .alc 1, .alc 2, .val 6 _]) [.o 3] hst (obs_cons (ob_box rfl rfl rfl (has_g 0 rfl (by kernel_rfl) (by kernel_rfl))) (obs_cons (ob_box rfl rfl rfl (has_g 1 rfl (by kernel_rfl) (by kernel_rfl))) (obs_cons (ob_box rfl rfl rfl (has_g 2 rfl (by kernel_rfl) (by kernel_rfl))) (obs_cons (ob_v rfl rfl (r_assign has_bo)) (obs_nil))))) (by kernel_rfl) (by kernel_rfl) (by kernel_rfl) (fun a w hst => ?_)
  have hst : St B w0 126 [(6, _)] [⟨3, 28, ptrH, _⟩, ⟨4, 26, ptrH, _⟩, ⟨5, 26, ptrH, _⟩] a w := hst
  refine thn_normal ?_
  refine wp_seq ?_
  refine wp_seq ?_
  refine go_draw (anc := [[], [0], [], [0, 1, 2], [], [0, 1, 2, 3, 4], [0, 1, 2, 3, 4, 5], [0, 1, 2, 3, 4, 5, 6], [0, 1, 2, 3, 4, 5, 6, 7], [0, 1, 2, 3, 4, 5, 6, 7, 8], [0, 1, 2, 3, 4, 5, 6, 7, 8, 9], [0, 1, 2, 3, 4, 5, 6, 7, 8, 9, 10], [0, 1, 2, 3, 4, 5, 6, 7, 8, 9, 10, 11]]) (sts := [none, none, none]) (news := []) (sp := [.val 19 _, .val 20 _, .val 21 _, .val 22 _, .val 23 _, .val 24 _, .val 25 _, .val 26 _, .val 27 _, .val 28 (Wh (_ = false) _), .val 29 (Wh (_ = false) _), .val 30 (Wh (_ = false) _), .val 31 _]) [.g 0, .o 12] follows_mixed hst (obs_cons (ob_v rfl rfl (r_load (loc_at0 0 rfl (by kernel_rfl)) ty_28)) (obs_cons (ob_v rfl rfl (r_call (xs := [.tmp 19]) (gaussCost_c _) (.cons (has_v 0 rfl (by kernel_rfl) (by kernel_rfl)) .nil))) (obs_cons (ob_v rfl rfl (r_load (loc_at0 1 rfl (by kernel_rfl)) ty_26)) (obs_cons (ob_v rfl rfl (r_call (xs := [.tmp 21]) (fracCost_c _) (.cons (has_v 2 rfl (by kernel_rfl) (by kernel_rfl)) .nil))) (obs_cons (ob_v rfl rfl (r_load (loc_at0 2 rfl (by kernel_rfl)) ty_26)) (obs_cons (ob_v rfl rfl (r_call (xs := [.tmp 23]) (fracCost_c _) (.cons (has_v 4 rfl (by kernel_rfl) (by kernel_rfl)) .nil))) (obs_cons (ob_v rfl rfl (r_slice (D := []) (l := [_, _, _]) (xs := [.tmp 20, .tmp 22, .tmp 24]) (nd_ok (by kernel_rfl)) sl_91 (by kernel_rfl) (n_ok (by kernel_rfl)) (Nat.le_of_ble_eq_true (by kernel_rfl)) (Nat.le_of_ble_eq_true (by kernel_rfl)) (Nat.le_of_ble_eq_true (by kernel_rfl)) (.cons (has_v 1 rfl (by kernel_rfl) (by kernel_rfl)) (.cons (has_v 3 rfl (by kernel_rfl) (by kernel_rfl)) (.cons (has_v 5 rfl (by kernel_rfl) (by kernel_rfl)) .nil))) rfl rfl)) (obs_cons (ob_v rfl rfl (r_call (xs := [.tmp 25]) (beyond_c [_, _, _]) (.cons (has_v 6 rfl (by kernel_rfl) (by kernel_rfl)) .nil))) (obs_cons (ob_v rfl rfl (r_move (has_v 7 rfl (by kernel_rfl) (by kernel_rfl)))) (obs_cons (ob_gd rfl rfl rfl (has_v 8 rfl (by kernel_rfl) (by kernel_rfl)) (Nat.le_of_ble_eq_true (by kernel_rfl)) (fun hg => r_load (loc_at0 0 rfl (by kernel_rfl)) ty_28)) (obs_cons (ob_gd rfl rfl rfl (has_v 8 rfl (by kernel_rfl) (by kernel_rfl)) (Nat.le_of_ble_eq_true (by kernel_rfl)) (fun hg => r_call (xs := [.tmp 28]) (bmCheck_c _) (.cons (has_wh (has_v 9 rfl (by kernel_rfl) (by kernel_rfl)) hg) .nil))) (obs_cons (ob_gd rfl rfl rfl (has_v 8 rfl (by kernel_rfl) (by kernel_rfl)) (Nat.le_of_ble_eq_true (by kernel_rfl)) (fun hg => r_neq (has_wh (has_v 10 rfl (by kernel_rfl) (by kernel_rfl)) hg) has_num)) (obs_cons (ob_v rfl rfl (r_or (has_v 8 rfl (by kernel_rfl) (by kernel_rfl)) (has_v 11 rfl (by kernel_rfl) (by kernel_rfl)))) (obs_nil)))))))))))))) (by kernel_rfl) (by kernel_rfl) (by kernel_rfl) (by kernel_rfl) (fun a w hst => ?_)
  have hst : St B w0 126 [(6, _), (31, _)] [⟨3, 28, ptrH, _⟩, ⟨4, 26, ptrH, _⟩, ⟨5, 26, ptrH, _⟩] a w := hst
  refine thn_normal ?_
  refine cond_of hst (List.mem_of_getElem? (i := 1) rfl) (fun hb0 => ?_) (fun hb0 => ?_)
  · refine wp_seq ?_
    refine go_lin (sts := [none, none, none]) (news := []) (sp := [.val 32 _, .val 6 _]) [.o 1] hst (obs_cons (ob_v rfl rfl (r_call (xs := []) lives20_c .nil)) (obs_cons (ob_v rfl rfl (r_assign (has_v 0 rfl (by kernel_rfl) (by kernel_rfl)))) (obs_nil))) (by kernel_rfl) (by kernel_rfl) (by kernel_rfl) (fun a w hst => ?_)
    have hst : St B w0 126 [(6, _)] [⟨3, 28, ptrH, _⟩, ⟨4, 26, ptrH, _⟩, ⟨5, 26, ptrH, _⟩] a w := hst
    refine thn_normal ?_
    refine wp_ret ?_
    refine thn_ret ?_
    refine ret_wk ?_ (ret_tmp rfl hst (List.mem_of_getElem? (i := 0) rfl))
    exact wk_id
  · refine wp_skip ?_
    refine thn_normal ?_
    refine wp_seq ?_
    refine go_draw (anc := [[], [], [0, 1], [0, 1, 2], [0, 1, 2, 3], [0, 1, 2, 3], [], [0, 1, 2, 3, 4, 6], [0, 1, 2, 3, 4, 5, 6, 7]]) (sts := [none, none, none]) (news := [⟨7, 26, ptrH, some 6, _, some (7, _)⟩]) (sp := [.val 34 _, .val 35 _, .val 36 _, .val 33 _, .val 37 _, .val 38 _, .alc 3, .sto 3, .val 8 _]) [.g 0, .o 8] follows_mixed hst (obs_cons (ob_v rfl rfl (r_call (xs := [.const (.int .i64 (0)), .const (.int .i64 (1))]) (whole20_c (by decide) (by decide) (by decide) (by decide) (by decide)) (.cons has_num (.cons has_num .nil)))) (obs_cons (ob_v rfl rfl (r_load (loc_at0 1 rfl (by kernel_rfl)) ty_26)) (obs_cons (ob_v rfl rfl (r_call (xs := [.tmp 34, .tmp 35]) (subF_c _ _) (.cons (has_v 0 rfl (by kernel_rfl) (by kernel_rfl)) (.cons (has_v 1 rfl (by kernel_rfl) (by kernel_rfl)) .nil)))) (obs_cons (ob_v rfl rfl (r_move (has_v 2 rfl (by kernel_rfl) (by kernel_rfl)))) (obs_cons (ob_v rfl rfl (r_ex0 (has_v 3 rfl (by kernel_rfl) (by kernel_rfl)))) (obs_cons (ob_v rfl rfl (r_ex1 (has_v 3 rfl (by kernel_rfl) (by kernel_rfl)))) (obs_cons (ob_alc rfl rfl rfl (Str.zero str_frac)) (obs_cons (ob_sto rfl rfl rfl (has_v 4 rfl (by kernel_rfl) (by kernel_rfl)) ty_26 rfl) (obs_cons (ob_v rfl rfl (r_assign (has_v 5 rfl (by kernel_rfl) (by kernel_rfl)))) (obs_nil)))))))))) (by kernel_rfl) (by kernel_rfl) (by kernel_rfl) (by kernel_rfl) (fun a w hst => ?_)
    have hst : St B w0 126 [(6, _), (8, _)] [⟨3, 28, ptrH, _⟩, ⟨4, 26, ptrH, _⟩, ⟨5, 26, ptrH, _⟩, ⟨7, 26, ptrH, _⟩] a w := hst
    refine thn_normal ?_
    refine wp_seq ?_
    refine wp_seq ?_
    refine go_lin (sts := [none, none, none, none]) (news := []) (sp := [.val 39 _, .val 40 _]) [.g 0, .o 1] hst (obs_cons (ob_v rfl rfl (r_move (has_g 1 rfl (by kernel_rfl) (by kernel_rfl)))) (obs_cons (ob_v rfl rfl (r_eql (has_v 0 rfl (by kernel_rfl) (by kernel_rfl)) has_num)) (obs_nil))) (by kernel_rfl) (by kernel_rfl) (by kernel_rfl) (fun a w hst => ?_)
    have hst : St B w0 126 [(6, _), (40, _)] [⟨3, 28, ptrH, _⟩, ⟨4, 26, ptrH, _⟩, ⟨5, 26, ptrH, _⟩, ⟨7, 26, ptrH, _⟩] a w := hst
    refine thn_normal ?_
    refine cond_join (fun a w =>  St B w0 126 [] [⟨3, 28, ptrH, RGA x⟩, ⟨4, 26, ptrH, RFA u⟩, ⟨5, 26, ptrH, RFA t⟩, ⟨7, 26, ptrH, RFA (mnF u).1⟩] a w) hst (List.mem_of_getElem? (i := 1) rfl) (fun hb1 => ?_) (fun hb1 => ?_) (fun a w hst => ?_)
    · refine wp_seq ?_
      refine go_draw (anc := [[], [0], [], [0, 1], [0, 1, 2, 3], [], [0, 1, 2, 3, 4, 5], [0, 1, 2, 3, 4, 5, 6], [0, 1, 2, 3, 4, 5, 6, 7], [0, 1, 2, 3, 4, 5, 6, 7], [], [0, 1, 2, 3, 4, 5, 6, 7, 8, 10], [0, 1, 2, 3, 4, 5, 6, 7, 8, 9, 10, 11]]) (sts := [none, none, none, none]) (news := [⟨9, 28, ptrH, some 10, _, some (11, _)⟩]) (sp := [.val 42 _, .val 43 _, .val 44 _, .val 45 _, .val 46 _, .val 47 _, .val 48 _, .val 41 _, .val 49 _, .val 50 _, .alc 4, .sto 4, .val 10 _]) [.g 0, .o 12] follows_mixed hst (obs_cons (ob_v rfl rfl (r_call (xs := [.const (.int .i64 (1)), .const (.int .i64 (1))]) (whole20_c (by decide) (by decide) (by decide) (by decide) (by decide)) (.cons has_num (.cons has_num .nil)))) (obs_cons (ob_v rfl rfl (r_call (xs := [.const (.int .i64 (0)), .const (.int .i64 (1))]) (whole20_c (by decide) (by decide) (by decide) (by decide) (by decide)) (.cons has_num (.cons has_num .nil)))) (obs_cons (ob_v rfl rfl (r_load (loc_at0 3 rfl (by kernel_rfl)) ty_26)) (obs_cons (ob_v rfl rfl (r_call (xs := [.const (.int .i64 (1)), .const (.int .i64 (1))]) (whole20_c (by decide) (by decide) (by decide) (by decide) (by decide)) (.cons has_num (.cons has_num .nil)))) (obs_cons (ob_v rfl rfl (r_build (xs := [(0, .tmp 42), (1, .tmp 43), (2, .tmp 44), (3, .tmp 45)]) (qs := [(0, _), (1, _), (2, _), (3, _)]) str_matrix (.cons ⟨rfl, (has_v 0 rfl (by kernel_rfl) (by kernel_rfl)), rfl⟩ (.cons ⟨rfl, (has_v 1 rfl (by kernel_rfl) (by kernel_rfl)), rfl⟩ (.cons ⟨rfl, (has_v 2 rfl (by kernel_rfl) (by kernel_rfl)), rfl⟩ (.cons ⟨rfl, (has_v 3 rfl (by kernel_rfl) (by kernel_rfl)), rfl⟩ .nil)))))) (obs_cons (ob_v rfl rfl (r_load (loc_at0 0 rfl (by kernel_rfl)) ty_28)) (obs_cons (ob_v rfl rfl (r_call (xs := [.tmp 46, .tmp 47]) (bmThrough_c ⟨_, _, _, _⟩ _) (.cons (has_v 4 rfl (by kernel_rfl) (by kernel_rfl)) (.cons (has_v 5 rfl (by kernel_rfl) (by kernel_rfl)) .nil)))) (obs_cons (ob_v rfl rfl (r_move (has_v 6 rfl (by kernel_rfl) (by kernel_rfl)))) (obs_cons (ob_v rfl rfl (r_ex0 (has_v 7 rfl (by kernel_rfl) (by kernel_rfl)))) (obs_cons (ob_v rfl rfl (r_ex1 (has_v 7 rfl (by kernel_rfl) (by kernel_rfl)))) (obs_cons (ob_alc rfl rfl rfl (Str.zero str_gauss)) (obs_cons (ob_sto rfl rfl rfl (has_v 8 rfl (by kernel_rfl) (by kernel_rfl)) ty_28 rfl) (obs_cons (ob_v rfl rfl (r_assign (has_v 9 rfl (by kernel_rfl) (by kernel_rfl)))) (obs_nil)))))))))))))) (by kernel_rfl) (by kernel_rfl) (by kernel_rfl) (by kernel_rfl) (fun a w hst => ?_)
      have hst : St B w0 126 [(6, _), (10, _)] [⟨3, 28, ptrH, _⟩, ⟨4, 26, ptrH, _⟩, ⟨5, 26, ptrH, _⟩, ⟨7, 26, ptrH, _⟩, ⟨9, 28, ptrH, _⟩] a w := hst
      refine thn_normal ?_
      refine wp_seq ?_
      refine go_lin (sts := [none, none, none, none, none]) (news := []) (sp := [.val 51 _, .val 52 _]) [.g 0, .o 1] hst (obs_cons (ob_v rfl rfl (r_move (has_g 1 rfl (by kernel_rfl) (by kernel_rfl)))) (obs_cons (ob_v rfl rfl (r_eql (has_v 0 rfl (by kernel_rfl) (by kernel_rfl)) has_num)) (obs_nil))) (by kernel_rfl) (by kernel_rfl) (by kernel_rfl) (fun a w hst => ?_)
      have hst : St B w0 126 [(6, _), (52, _)] [⟨3, 28, ptrH, _⟩, ⟨4, 26, ptrH, _⟩, ⟨5, 26, ptrH, _⟩, ⟨7, 26, ptrH, _⟩, ⟨9, 28, ptrH, _⟩] a w := hst
      refine thn_normal ?_
      refine cond_join (fun a w =>  St B w0 126 [] [⟨3, 28, ptrH, RGA x⟩, ⟨4, 26, ptrH, RFA u⟩, ⟨5, 26, ptrH, RFA t⟩, ⟨7, 26, ptrH, RFA (mnF u).1⟩, ⟨9, 28, ptrH, RGA (thrF (lnM u) x).1⟩] a w) hst (List.mem_of_getElem? (i := 1) rfl) (fun hb2 => ?_) (fun hb2 => ?_) (fun a w hst => ?_)
      · refine wp_seq ?_
        refine go_lin (sts := [none, none, none, none, none]) (news := [⟨11, 26, ptrH, some 7, _, some (8, _)⟩]) (sp := [.val 54 _, .val 55 _, .val 56 _, .val 53 _, .val 57 _, .val 58 _, .val 59 _, .alc 5, .sto 5, .val 12 _, .val 13 _]) [.g 0, .o 9, .o 10] hst (obs_cons (ob_v rfl rfl (r_load (loc_at0 0 rfl (by kernel_rfl)) ty_28)) (obs_cons (ob_v rfl rfl (r_load (loc_at0 4 rfl (by kernel_rfl)) ty_28)) (obs_cons (ob_v rfl rfl (r_call (xs := [.tmp 54, .tmp 55]) (lens_c _ _) (.cons (has_v 0 rfl (by kernel_rfl) (by kernel_rfl)) (.cons (has_v 1 rfl (by kernel_rfl) (by kernel_rfl)) .nil)))) (obs_cons (ob_v rfl rfl (r_move (has_v 2 rfl (by kernel_rfl) (by kernel_rfl)))) (obs_cons (ob_v rfl rfl (r_ex0 (has_v 3 rfl (by kernel_rfl) (by kernel_rfl)))) (obs_cons (ob_v rfl rfl (r_ex1 (has_v 3 rfl (by kernel_rfl) (by kernel_rfl)))) (obs_cons (ob_v rfl rfl (r_ex2 (has_v 3 rfl (by kernel_rfl) (by kernel_rfl)))) (obs_cons (ob_alc rfl rfl rfl (Str.zero str_frac)) (obs_cons (ob_sto rfl rfl rfl (has_v 4 rfl (by kernel_rfl) (by kernel_rfl)) ty_26 rfl) (obs_cons (ob_v rfl rfl (r_assign (has_v 5 rfl (by kernel_rfl) (by kernel_rfl)))) (obs_cons (ob_v rfl rfl (r_assign (has_v 6 rfl (by kernel_rfl) (by kernel_rfl)))) (obs_nil)))))))))))) (by kernel_rfl) (by kernel_rfl) (by kernel_rfl) (fun a w hst => ?_)
        have hst : St B w0 126 [(6, _), (12, _), (13, _)] [⟨3, 28, ptrH, _⟩, ⟨4, 26, ptrH, _⟩, ⟨5, 26, ptrH, _⟩, ⟨7, 26, ptrH, _⟩, ⟨9, 28, ptrH, _⟩, ⟨11, 26, ptrH, _⟩] a w := hst
        refine thn_normal ?_
        refine wp_seq ?_
        refine go_lin (sts := [none, none, none, none, none, none]) (news := []) (sp := [.val 60 _, .val 61 _, .val 62 _, .val 63 (Wh (_ = false) _), .val 64 (Wh (_ = false) _), .val 65 _, .val 66 _, .val 67 (Wh (_ = false) _), .val 68 (Wh (_ = false) _), .val 69 (Wh (_ = false) _), .val 70 (Wh (_ = false) _), .val 71 _]) [.g 0, .o 11] hst (obs_cons (ob_v rfl rfl (r_move (has_g 1 rfl (by kernel_rfl) (by kernel_rfl)))) (obs_cons (ob_v rfl rfl (r_not (has_v 0 rfl (by kernel_rfl) (by kernel_rfl)))) (obs_cons (ob_v rfl rfl (r_move (has_v 1 rfl (by kernel_rfl) (by kernel_rfl)))) (obs_cons (ob_gd rfl rfl rfl (has_v 2 rfl (by kernel_rfl) (by kernel_rfl)) (Nat.le_of_ble_eq_true (by kernel_rfl)) (fun hg => r_move (has_g 2 rfl (by kernel_rfl) (by kernel_rfl)))) (obs_cons (ob_gd rfl rfl rfl (has_v 2 rfl (by kernel_rfl) (by kernel_rfl)) (Nat.le_of_ble_eq_true (by kernel_rfl)) (fun hg => r_neq (has_wh (has_v 3 rfl (by kernel_rfl) (by kernel_rfl)) hg) has_num)) (obs_cons (ob_v rfl rfl (r_or (has_v 2 rfl (by kernel_rfl) (by kernel_rfl)) (has_v 4 rfl (by kernel_rfl) (by kernel_rfl)))) (obs_cons (ob_v rfl rfl (r_move (has_v 5 rfl (by kernel_rfl) (by kernel_rfl)))) (obs_cons (ob_gd rfl rfl rfl (has_v 6 rfl (by kernel_rfl) (by kernel_rfl)) (Nat.le_of_ble_eq_true (by kernel_rfl)) (fun hg => r_load (loc_at0 5 rfl (by kernel_rfl)) ty_26)) (obs_cons (ob_gd rfl rfl rfl (has_v 6 rfl (by kernel_rfl) (by kernel_rfl)) (Nat.le_of_ble_eq_true (by kernel_rfl)) (fun hg => r_load (loc_at0 1 rfl (by kernel_rfl)) ty_26)) (obs_cons (ob_gd rfl rfl rfl (has_v 6 rfl (by kernel_rfl) (by kernel_rfl)) (Nat.le_of_ble_eq_true (by kernel_rfl)) (fun hg => r_call (xs := [.tmp 67, .tmp 68]) (sameFrac_c _ _) (.cons (has_wh (has_v 7 rfl (by kernel_rfl) (by kernel_rfl)) hg) (.cons (has_wh (has_v 8 rfl (by kernel_rfl) (by kernel_rfl)) hg) .nil)))) (obs_cons (ob_gd rfl rfl rfl (has_v 6 rfl (by kernel_rfl) (by kernel_rfl)) (Nat.le_of_ble_eq_true (by kernel_rfl)) (fun hg => r_not (has_wh (has_v 9 rfl (by kernel_rfl) (by kernel_rfl)) hg))) (obs_cons (ob_v rfl rfl (r_or (has_v 6 rfl (by kernel_rfl) (by kernel_rfl)) (has_v 10 rfl (by kernel_rfl) (by kernel_rfl)))) (obs_nil))))))))))))) (by kernel_rfl) (by kernel_rfl) (by kernel_rfl) (fun a w hst => ?_)
        have hst : St B w0 126 [(6, _), (71, _)] [⟨3, 28, ptrH, _⟩, ⟨4, 26, ptrH, _⟩, ⟨5, 26, ptrH, _⟩, ⟨7, 26, ptrH, _⟩, ⟨9, 28, ptrH, _⟩, ⟨11, 26, ptrH, _⟩] a w := hst
        refine thn_normal ?_
        refine cond_of hst (List.mem_of_getElem? (i := 1) rfl) (fun hb3 => ?_) (fun hb3 => ?_)
        · exact (makes_l hb0 hb1 hb2 hb3).elim
        · refine wp_skip ?_
          refine thn_normal ?_
          have hst := St.sel hst []
          have hst := St.selL hst [0, 1, 2, 3, 4]
          exact hst
      · refine wp_skip ?_
        refine thn_normal ?_
        have hst := St.sel hst []
        exact hst
      refine thn_normal ?_
      have hst := St.sel hst []
      have hst := St.selL hst [0, 1, 2, 3]
      exact hst
    · refine wp_skip ?_
      refine thn_normal ?_
      have hst := St.sel hst []
      exact hst
    refine thn_normal ?_
    refine wp_seq ?_
    refine wp_seq ?_
    refine go_lin (sts := [none, none, none, none]) (news := []) (sp := [.val 72 _, .val 73 _, .val 74 _]) [.o 2] hst (obs_cons (ob_v rfl rfl (r_load (loc_at0 2 rfl (by kernel_rfl)) ty_26)) (obs_cons (ob_v rfl rfl (r_call (xs := [.tmp 72]) (fracCheck_c _) (.cons (has_v 0 rfl (by kernel_rfl) (by kernel_rfl)) .nil))) (obs_cons (ob_v rfl rfl (r_neq (has_v 1 rfl (by kernel_rfl) (by kernel_rfl)) has_num)) (obs_nil)))) (by kernel_rfl) (by kernel_rfl) (by kernel_rfl) (fun a w hst => ?_)
    have hst : St B w0 126 [(74, _)] [⟨3, 28, ptrH, _⟩, ⟨4, 26, ptrH, _⟩, ⟨5, 26, ptrH, _⟩, ⟨7, 26, ptrH, _⟩] a w := hst
    refine thn_normal ?_
    refine cond_of hst (List.mem_of_getElem? (i := 0) rfl) (fun hb4 => ?_) (fun hb4 => ?_)
    · refine wp_seq ?_
      refine go_lin (sts := [none, none, none, none]) (news := []) (sp := [.val 75 _, .val 6 _]) [.o 1] hst (obs_cons (ob_v rfl rfl (r_call (xs := []) lives20_c .nil)) (obs_cons (ob_v rfl rfl (r_assign (has_v 0 rfl (by kernel_rfl) (by kernel_rfl)))) (obs_nil))) (by kernel_rfl) (by kernel_rfl) (by kernel_rfl) (fun a w hst => ?_)
      have hst : St B w0 126 [(6, _)] [⟨3, 28, ptrH, _⟩, ⟨4, 26, ptrH, _⟩, ⟨5, 26, ptrH, _⟩, ⟨7, 26, ptrH, _⟩] a w := hst
      refine thn_normal ?_
      refine wp_ret ?_
      refine thn_ret ?_
      refine ret_wk ?_ (ret_tmp rfl hst (List.mem_of_getElem? (i := 0) rfl))
      exact wk_id
    · refine wp_skip ?_
      refine thn_normal ?_
      refine wp_seq ?_
      refine go_draw (anc := [[], [], [0], [0, 2], [0, 1, 2, 3], [], [0, 1, 2, 3, 4, 5], [0, 1, 2, 3, 4, 5, 6], [0, 1, 2, 3, 4, 5, 6, 7], [0, 1, 2, 3, 4, 5, 6, 7], [], [0, 1, 2, 3, 4, 5, 6, 7, 8, 10], [0, 1, 2, 3, 4, 5, 6, 7, 8, 9, 10, 11]]) (sts := [none, none, none, none]) (news := [⟨14, 28, ptrH, some 10, _, some (11, _)⟩]) (sp := [.val 77 _, .val 78 _, .val 79 _, .val 80 _, .val 81 _, .val 82 _, .val 83 _, .val 76 _, .val 84 _, .val 85 _, .alc 4, .sto 4, .val 15 _]) [.o 12] follows_mixed hst (obs_cons (ob_v rfl rfl (r_call (xs := [.const (.int .i64 (1)), .const (.int .i64 (1))]) (whole20_c (by decide) (by decide) (by decide) (by decide) (by decide)) (.cons has_num (.cons has_num .nil)))) (obs_cons (ob_v rfl rfl (r_load (loc_at0 2 rfl (by kernel_rfl)) ty_26)) (obs_cons (ob_v rfl rfl (r_call (xs := [.const (.int .i64 (0)), .const (.int .i64 (1))]) (whole20_c (by decide) (by decide) (by decide) (by decide) (by decide)) (.cons has_num (.cons has_num .nil)))) (obs_cons (ob_v rfl rfl (r_call (xs := [.const (.int .i64 (1)), .const (.int .i64 (1))]) (whole20_c (by decide) (by decide) (by decide) (by decide) (by decide)) (.cons has_num (.cons has_num .nil)))) (obs_cons (ob_v rfl rfl (r_build (xs := [(0, .tmp 77), (1, .tmp 78), (2, .tmp 79), (3, .tmp 80)]) (qs := [(0, _), (1, _), (2, _), (3, _)]) str_matrix (.cons ⟨rfl, (has_v 0 rfl (by kernel_rfl) (by kernel_rfl)), rfl⟩ (.cons ⟨rfl, (has_v 1 rfl (by kernel_rfl) (by kernel_rfl)), rfl⟩ (.cons ⟨rfl, (has_v 2 rfl (by kernel_rfl) (by kernel_rfl)), rfl⟩ (.cons ⟨rfl, (has_v 3 rfl (by kernel_rfl) (by kernel_rfl)), rfl⟩ .nil)))))) (obs_cons (ob_v rfl rfl (r_load (loc_at0 0 rfl (by kernel_rfl)) ty_28)) (obs_cons (ob_v rfl rfl (r_call (xs := [.tmp 81, .tmp 82]) (bmThrough_c ⟨_, _, _, _⟩ _) (.cons (has_v 4 rfl (by kernel_rfl) (by kernel_rfl)) (.cons (has_v 5 rfl (by kernel_rfl) (by kernel_rfl)) .nil)))) (obs_cons (ob_v rfl rfl (r_move (has_v 6 rfl (by kernel_rfl) (by kernel_rfl)))) (obs_cons (ob_v rfl rfl (r_ex0 (has_v 7 rfl (by kernel_rfl) (by kernel_rfl)))) (obs_cons (ob_v rfl rfl (r_ex1 (has_v 7 rfl (by kernel_rfl) (by kernel_rfl)))) (obs_cons (ob_alc rfl rfl rfl (Str.zero str_gauss)) (obs_cons (ob_sto rfl rfl rfl (has_v 8 rfl (by kernel_rfl) (by kernel_rfl)) ty_28 rfl) (obs_cons (ob_v rfl rfl (r_assign (has_v 9 rfl (by kernel_rfl) (by kernel_rfl)))) (obs_nil)))))))))))))) (by kernel_rfl) (by kernel_rfl) (by kernel_rfl) (by kernel_rfl) (fun a w hst => ?_)
      have hst : St B w0 126 [(15, _)] [⟨3, 28, ptrH, _⟩, ⟨4, 26, ptrH, _⟩, ⟨5, 26, ptrH, _⟩, ⟨7, 26, ptrH, _⟩, ⟨14, 28, ptrH, _⟩] a w := hst
      refine thn_normal ?_
      refine wp_seq ?_
      refine wp_seq ?_
      refine go_lin (sts := [none, none, none, none, none]) (news := []) (sp := [.val 86 _, .val 87 _]) [.o 1] hst (obs_cons (ob_v rfl rfl (r_move (has_g 0 rfl (by kernel_rfl) (by kernel_rfl)))) (obs_cons (ob_v rfl rfl (r_neq (has_v 0 rfl (by kernel_rfl) (by kernel_rfl)) has_num)) (obs_nil))) (by kernel_rfl) (by kernel_rfl) (by kernel_rfl) (fun a w hst => ?_)
      have hst : St B w0 126 [(87, _)] [⟨3, 28, ptrH, _⟩, ⟨4, 26, ptrH, _⟩, ⟨5, 26, ptrH, _⟩, ⟨7, 26, ptrH, _⟩, ⟨14, 28, ptrH, _⟩] a w := hst
      refine thn_normal ?_
      refine cond_of hst (List.mem_of_getElem? (i := 0) rfl) (fun hb5 => ?_) (fun hb5 => ?_)
      · refine wp_seq ?_
        refine go_lin (sts := [none, none, none, none, none]) (news := []) (sp := [.val 88 _, .val 6 _]) [.o 1] hst (obs_cons (ob_v rfl rfl (r_call (xs := []) lives20_c .nil)) (obs_cons (ob_v rfl rfl (r_assign (has_v 0 rfl (by kernel_rfl) (by kernel_rfl)))) (obs_nil))) (by kernel_rfl) (by kernel_rfl) (by kernel_rfl) (fun a w hst => ?_)
        have hst : St B w0 126 [(6, _)] [⟨3, 28, ptrH, _⟩, ⟨4, 26, ptrH, _⟩, ⟨5, 26, ptrH, _⟩, ⟨7, 26, ptrH, _⟩, ⟨14, 28, ptrH, _⟩] a w := hst
        refine thn_normal ?_
        refine wp_ret ?_
        refine thn_ret ?_
        refine ret_wk ?_ (ret_tmp rfl hst (List.mem_of_getElem? (i := 0) rfl))
        exact wk_id
      · refine wp_skip ?_
        refine thn_normal ?_
        refine wp_seq ?_
        refine go_lin (sts := [none, none, none, none, none]) (news := [⟨16, 26, ptrH, some 7, _, some (8, _)⟩]) (sp := [.val 90 _, .val 91 _, .val 92 _, .val 89 _, .val 93 _, .val 94 _, .val 95 _, .alc 5, .sto 5, .val 17 _, .val 18 _]) [.o 9, .o 10] hst (obs_cons (ob_v rfl rfl (r_load (loc_at0 0 rfl (by kernel_rfl)) ty_28)) (obs_cons (ob_v rfl rfl (r_load (loc_at0 4 rfl (by kernel_rfl)) ty_28)) (obs_cons (ob_v rfl rfl (r_call (xs := [.tmp 90, .tmp 91]) (space_c _ _) (.cons (has_v 0 rfl (by kernel_rfl) (by kernel_rfl)) (.cons (has_v 1 rfl (by kernel_rfl) (by kernel_rfl)) .nil)))) (obs_cons (ob_v rfl rfl (r_move (has_v 2 rfl (by kernel_rfl) (by kernel_rfl)))) (obs_cons (ob_v rfl rfl (r_ex0 (has_v 3 rfl (by kernel_rfl) (by kernel_rfl)))) (obs_cons (ob_v rfl rfl (r_ex1 (has_v 3 rfl (by kernel_rfl) (by kernel_rfl)))) (obs_cons (ob_v rfl rfl (r_ex2 (has_v 3 rfl (by kernel_rfl) (by kernel_rfl)))) (obs_cons (ob_alc rfl rfl rfl (Str.zero str_frac)) (obs_cons (ob_sto rfl rfl rfl (has_v 4 rfl (by kernel_rfl) (by kernel_rfl)) ty_26 rfl) (obs_cons (ob_v rfl rfl (r_assign (has_v 5 rfl (by kernel_rfl) (by kernel_rfl)))) (obs_cons (ob_v rfl rfl (r_assign (has_v 6 rfl (by kernel_rfl) (by kernel_rfl)))) (obs_nil)))))))))))) (by kernel_rfl) (by kernel_rfl) (by kernel_rfl) (fun a w hst => ?_)
        have hst : St B w0 126 [(17, _), (18, _)] [⟨3, 28, ptrH, _⟩, ⟨4, 26, ptrH, _⟩, ⟨5, 26, ptrH, _⟩, ⟨7, 26, ptrH, _⟩, ⟨14, 28, ptrH, _⟩, ⟨16, 26, ptrH, _⟩] a w := hst
        refine thn_normal ?_
        refine wp_seq ?_
        refine wp_seq ?_
        refine go_lin (sts := [none, none, none, none, none, none]) (news := []) (sp := [.val 96 _, .val 97 _, .val 98 _]) [.g 0, .g 1, .o 2] hst (obs_cons (ob_v rfl rfl (r_load (loc_at0 2 rfl (by kernel_rfl)) ty_26)) (obs_cons (ob_v rfl rfl (r_call (xs := [.tmp 96]) (fracSign_c _) (.cons (has_v 0 rfl (by kernel_rfl) (by kernel_rfl)) .nil))) (obs_cons (ob_v rfl rfl (r_lss (has_v 1 rfl (by kernel_rfl) (by kernel_rfl)) has_num)) (obs_nil)))) (by kernel_rfl) (by kernel_rfl) (by kernel_rfl) (fun a w hst => ?_)
        have hst : St B w0 126 [(17, _), (18, _), (98, _)] [⟨3, 28, ptrH, _⟩, ⟨4, 26, ptrH, _⟩, ⟨5, 26, ptrH, _⟩, ⟨7, 26, ptrH, _⟩, ⟨14, 28, ptrH, _⟩, ⟨16, 26, ptrH, _⟩] a w := hst
        refine thn_normal ?_
        refine cond_of hst (List.mem_of_getElem? (i := 2) rfl) (fun hb6 => ?_) (fun hb6 => ?_)
        · refine wp_seq ?_
          refine go_lin (sts := [none, none, none, none, none, none]) (news := []) (sp := [.val 99 _, .val 100 _, .val 101 _, .val 102 (Wh (_ = true) _), .val 103 (Wh (_ = true) _), .val 104 _, .val 105 _, .val 106 (Wh (_ = true) _), .val 107 (Wh (_ = true) _), .val 108 (Wh (_ = true) _), .val 109 _, .val 110 _, .val 111 (Wh (_ = true) _), .val 112 _, .val 6 _]) [.g 0, .g 1, .o 14] hst (obs_cons (ob_v rfl rfl (r_move (has_g 0 rfl (by kernel_rfl) (by kernel_rfl)))) (obs_cons (ob_v rfl rfl (r_not (has_v 0 rfl (by kernel_rfl) (by kernel_rfl)))) (obs_cons (ob_v rfl rfl (r_move (has_v 1 rfl (by kernel_rfl) (by kernel_rfl)))) (obs_cons (ob_gd rfl rfl rfl (has_v 2 rfl (by kernel_rfl) (by kernel_rfl)) (Nat.le_of_ble_eq_true (by kernel_rfl)) (fun hg => r_move (has_g 1 rfl (by kernel_rfl) (by kernel_rfl)))) (obs_cons (ob_gd rfl rfl rfl (has_v 2 rfl (by kernel_rfl) (by kernel_rfl)) (Nat.le_of_ble_eq_true (by kernel_rfl)) (fun hg => r_eql (has_wh (has_v 3 rfl (by kernel_rfl) (by kernel_rfl)) hg) has_num)) (obs_cons (ob_v rfl rfl (r_and (has_v 2 rfl (by kernel_rfl) (by kernel_rfl)) (has_v 4 rfl (by kernel_rfl) (by kernel_rfl)))) (obs_cons (ob_v rfl rfl (r_move (has_v 5 rfl (by kernel_rfl) (by kernel_rfl)))) (obs_cons (ob_gd rfl rfl rfl (has_v 6 rfl (by kernel_rfl) (by kernel_rfl)) (Nat.le_of_ble_eq_true (by kernel_rfl)) (fun hg => r_load (loc_at0 5 rfl (by kernel_rfl)) ty_26)) (obs_cons (ob_gd rfl rfl rfl (has_v 6 rfl (by kernel_rfl) (by kernel_rfl)) (Nat.le_of_ble_eq_true (by kernel_rfl)) (fun hg => r_build (xs := []) (qs := []) str_frac .nil)) (obs_cons (ob_gd rfl rfl rfl (has_v 6 rfl (by kernel_rfl) (by kernel_rfl)) (Nat.le_of_ble_eq_true (by kernel_rfl)) (fun hg => r_call (xs := [.tmp 106, .tmp 107]) (sameFrac_c _ rf0) (.cons (has_wh (has_v 7 rfl (by kernel_rfl) (by kernel_rfl)) hg) (.cons (has_wh (has_v 8 rfl (by kernel_rfl) (by kernel_rfl)) hg) .nil)))) (obs_cons (ob_v rfl rfl (r_and (has_v 6 rfl (by kernel_rfl) (by kernel_rfl)) (has_v 9 rfl (by kernel_rfl) (by kernel_rfl)))) (obs_cons (ob_v rfl rfl (r_move (has_v 10 rfl (by kernel_rfl) (by kernel_rfl)))) (obs_cons (ob_gd rfl rfl rfl (has_v 11 rfl (by kernel_rfl) (by kernel_rfl)) (Nat.le_of_ble_eq_true (by kernel_rfl)) (fun hg => r_call (xs := []) lives20_c .nil)) (obs_cons (ob_v rfl rfl (r_and (has_v 11 rfl (by kernel_rfl) (by kernel_rfl)) (has_v 12 rfl (by kernel_rfl) (by kernel_rfl)))) (obs_cons (ob_v rfl rfl (r_assign (has_v 13 rfl (by kernel_rfl) (by kernel_rfl)))) (obs_nil)))))))))))))))) (by kernel_rfl) (by kernel_rfl) (by kernel_rfl) (fun a w hst => ?_)
          have hst : St B w0 126 [(17, _), (18, _), (6, _)] [⟨3, 28, ptrH, _⟩, ⟨4, 26, ptrH, _⟩, ⟨5, 26, ptrH, _⟩, ⟨7, 26, ptrH, _⟩, ⟨14, 28, ptrH, _⟩, ⟨16, 26, ptrH, _⟩] a w := hst
          refine thn_normal ?_
          refine wp_ret ?_
          refine thn_ret ?_
          refine ret_wk ?_ (ret_tmp rfl hst (List.mem_of_getElem? (i := 2) rfl))
          exact bo_and (makes_n hb0 hb4 hb5 hb6)
        · refine wp_skip ?_
          refine thn_normal ?_
          refine wp_seq ?_
          refine go_lin (sts := [none, none, none, none, none, none]) (news := []) (sp := [.val 113 _, .val 114 _, .val 115 (Wh (_ = true) _), .val 116 (Wh (_ = true) _), .val 117 _, .val 118 _, .val 119 (Wh (_ = true) _), .val 120 (Wh (_ = true) _), .val 121 (Wh (_ = true) _), .val 122 _, .val 123 _, .val 124 (Wh (_ = true) _), .val 125 _, .val 6 _]) [.o 13] hst (obs_cons (ob_v rfl rfl (r_move (has_g 0 rfl (by kernel_rfl) (by kernel_rfl)))) (obs_cons (ob_v rfl rfl (r_move (has_v 0 rfl (by kernel_rfl) (by kernel_rfl)))) (obs_cons (ob_gd rfl rfl rfl (has_v 1 rfl (by kernel_rfl) (by kernel_rfl)) (Nat.le_of_ble_eq_true (by kernel_rfl)) (fun hg => r_move (has_g 1 rfl (by kernel_rfl) (by kernel_rfl)))) (obs_cons (ob_gd rfl rfl rfl (has_v 1 rfl (by kernel_rfl) (by kernel_rfl)) (Nat.le_of_ble_eq_true (by kernel_rfl)) (fun hg => r_eql (has_wh (has_v 2 rfl (by kernel_rfl) (by kernel_rfl)) hg) has_num)) (obs_cons (ob_v rfl rfl (r_and (has_v 1 rfl (by kernel_rfl) (by kernel_rfl)) (has_v 3 rfl (by kernel_rfl) (by kernel_rfl)))) (obs_cons (ob_v rfl rfl (r_move (has_v 4 rfl (by kernel_rfl) (by kernel_rfl)))) (obs_cons (ob_gd rfl rfl rfl (has_v 5 rfl (by kernel_rfl) (by kernel_rfl)) (Nat.le_of_ble_eq_true (by kernel_rfl)) (fun hg => r_load (loc_at0 5 rfl (by kernel_rfl)) ty_26)) (obs_cons (ob_gd rfl rfl rfl (has_v 5 rfl (by kernel_rfl) (by kernel_rfl)) (Nat.le_of_ble_eq_true (by kernel_rfl)) (fun hg => r_load (loc_at0 2 rfl (by kernel_rfl)) ty_26)) (obs_cons (ob_gd rfl rfl rfl (has_v 5 rfl (by kernel_rfl) (by kernel_rfl)) (Nat.le_of_ble_eq_true (by kernel_rfl)) (fun hg => r_call (xs := [.tmp 119, .tmp 120]) (sameFrac_c _ _) (.cons (has_wh (has_v 6 rfl (by kernel_rfl) (by kernel_rfl)) hg) (.cons (has_wh (has_v 7 rfl (by kernel_rfl) (by kernel_rfl)) hg) .nil)))) (obs_cons (ob_v rfl rfl (r_and (has_v 5 rfl (by kernel_rfl) (by kernel_rfl)) (has_v 8 rfl (by kernel_rfl) (by kernel_rfl)))) (obs_cons (ob_v rfl rfl (r_move (has_v 9 rfl (by kernel_rfl) (by kernel_rfl)))) (obs_cons (ob_gd rfl rfl rfl (has_v 10 rfl (by kernel_rfl) (by kernel_rfl)) (Nat.le_of_ble_eq_true (by kernel_rfl)) (fun hg => r_call (xs := []) lives20_c .nil)) (obs_cons (ob_v rfl rfl (r_and (has_v 10 rfl (by kernel_rfl) (by kernel_rfl)) (has_v 11 rfl (by kernel_rfl) (by kernel_rfl)))) (obs_cons (ob_v rfl rfl (r_assign (has_v 12 rfl (by kernel_rfl) (by kernel_rfl)))) (obs_nil))))))))))))))) (by kernel_rfl) (by kernel_rfl) (by kernel_rfl) (fun a w hst => ?_)
          have hst : St B w0 126 [(6, _)] [⟨3, 28, ptrH, _⟩, ⟨4, 26, ptrH, _⟩, ⟨5, 26, ptrH, _⟩, ⟨7, 26, ptrH, _⟩, ⟨14, 28, ptrH, _⟩, ⟨16, 26, ptrH, _⟩] a w := hst
          refine thn_normal ?_
          refine wp_ret ?_
          refine ret_wk ?_ (ret_tmp rfl hst (List.mem_of_getElem? (i := 0) rfl))
          exact bo_and (makes_p hb0 hb4 hb5 hb6)

open Go.ChangeShapes Go.WideShapes Go.ChangeAt
open Go.ChangeMaps (open_string shut_string)
set_option linter.unusedVariables false
theorem own : ownKnob Try.prog.godebug = none := by kernel_rfl
theorem laidOut : laidOutB Try.prog = true := by kernel_rfl
set_option maxRecDepth 100000 in
theorem lifted (os : Os) (started : os.Started) (H : Type) (enc : TypeId × Value → H) :
    ReturnsInHanded {} Try.checked os 14 .any (Rows.matchMakesSpec.pre6 enc Try.prog Try.f14 Rows.matchMakesRow.domain false) (Rows.matchMakesSpec.post enc Try.prog Try.f14 false true false false) := by
  refine returnsInHanded_of_change (C := Try.checked) own started (by kernel_rfl) Try.func14
    (ChangeSpec.witness6 (enc := enc) (C := Try.checked) false ⟨#[], #[.agg #[.bool false, .slice none 0 0, .bool false, .slice none 0 0, .bool false, .slice none 0 0, .bool false, .slice none 0 0], .agg #[.bool false, .slice none 0 0, .bool false, .slice none 0 0], .agg #[.bool false, .slice none 0 0, .bool false, .slice none 0 0]], []⟩ 8 (by kernel_rfl) (by kernel_rfl) (by kernel_rfl) (by kernel_rfl)) ?_
  intro W base args ds gs before hval0 hW hcnd _
  have hval : ∀ (j : Nat) t v, Try.f14.params[j]? = some t → args[j]? = some v → Value.okWide Try.prog W .any base t v := hval0
  have hW' := hW
  obtain ⟨p, q, hA0, hV, rfl, hfz, hnd⟩ := hW
  have hA : DataW.TrodAll enc Try.prog W 0 (fun _ => true) true Try.f14.params.toList args.toList ds p := hA0
  rw [Try.params14] at hA hval
  obtain ⟨v0, vs0, d0, ds0, p0, q0, hargs, rfl, rfl, h0, r0⟩ := trodAll_cons hA
  obtain ⟨v1, vs1, d1, ds1, p1, q1, rfl, rfl, rfl, h1, r1⟩ := trodAll_cons r0
  obtain ⟨v2, vs2, d2, ds2, p2, q2, rfl, rfl, rfl, h2, r2⟩ := trodAll_cons r1
  obtain ⟨rfl, rfl, rfl⟩ := trodAll_nil r2
  obtain rfl : args = #[v0, v1, v2] := by cases args; simp_all
  obtain ⟨rfl, rfl⟩ := trodVars_none hV
  have k0 := h0
  have lt0 : ∀ x ∈ p0, x.block < W.heap.size := by obtain ⟨m, hm⟩ := k0; exact DataW.trod_lt m _ _ _ hm
  have k1 := h1
  have lt1 : ∀ x ∈ p1, x.block < W.heap.size := by obtain ⟨m, hm⟩ := k1; exact DataW.trod_lt m _ _ _ hm
  have k2 := h2
  have lt2 : ∀ x ∈ p2, x.block < W.heap.size := by obtain ⟨m, hm⟩ := k2; exact DataW.trod_lt m _ _ _ hm
  obtain ⟨x0, a0⟩ := arg_of (A := RGA) (fun _ => rfl) Try.underlying28 rd_rg (hval 0 28 v0 rfl rfl) h0
  obtain ⟨x1, a1⟩ := arg_of (A := RFA) (fun _ => rfl) Try.underlying26 rd_rf (hval 1 26 v1 rfl rfl) h1
  obtain ⟨x2, a2⟩ := arg_of (A := RFA) (fun _ => rfl) Try.underlying26 rd_rf (hval 2 26 v2 rfl rfl) h2
  clear hA0 hval0
  refine ((matchMakes_w x0 x1 x2).2 W.heap.size W [v0, v1, v2] (Nat.le_refl _) (.cons a0 (.cons a1 (.cons a2 .nil)))).mono fun e W' ⟨v, he, hv, bel⟩ => ?_
  have hv' := bo_val hv
  subst hv' he
  exact ⟨_, rfl, _, _, _, [], _, [], hW', trodAll_mk1 (shut_bool Try.underlying4 _), (trodAll_cons_mk (Below.trod laidOut (by kernel_rfl) (of_decide_eq_true (by kernel_rfl)) k0 bel lt0) (trodAll_cons_mk (Below.trod laidOut (by kernel_rfl) (of_decide_eq_true (by kernel_rfl)) k1 bel lt1) (trodAll_cons_mk (Below.trod laidOut (by kernel_rfl) (of_decide_eq_true (by kernel_rfl)) k2 bel lt2) trodAll_mk0))), rfl, bel.frame _, fun h => by cases h⟩
theorem over : Rows.matchMakesRow.holds Try.pinned (OpenSpec.ofChange Rows.matchMakesSpec) :=
  OpenClaim.holds_of_wide 14 Try.f14 rfl rfl rfl rfl rfl rfl rfl ⟨rfl, rfl, rfl, rfl, rfl⟩ rfl rfl rfl rfl rfl (by kernel_rfl) Try.func14 (by kernel_rfl)
    (of_decide_eq_true (by kernel_rfl)) (by unfold Func.isWrapper; rw [if_neg (of_decide_eq_false (by kernel_rfl))]; exact ⟨rfl, rfl⟩)
    (fun os started H enc _ => lifted os started H enc)
theorem provedMatchMakes : Rows.MatchMakesSaid := over
#print axioms provedMatchMakes

end Go.Proofs.Ytiokhlpbdabaeaa
