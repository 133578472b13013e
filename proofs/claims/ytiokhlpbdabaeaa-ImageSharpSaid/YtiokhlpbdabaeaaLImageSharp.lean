/- ImageSharp: for every matrix and every place ahead the law of chapter 11 on rays of one point answers true. No condition. -/
import Derived.Test.YtiokhlpbdabaeaaRayG
import Derived.Test.YtiokhlpbdabaeaaRows
import Derived.WalkKit
import Derived.ProofKit
import Derived.OpenShut
import Derived.ShutString
import Derived.ChangeOld
import Derived.Below
namespace Go.Proofs.Ytiokhlpbdabaeaa
open Go Go.RowKit
namespace LImageSharp
theorem fld_42_0 : Fld Try.prog 42 0 0 4 := ⟨_, _, Try.underlying42, rfl, rfl, by kernel_rfl, by decide⟩
theorem fld_42_2 : Fld Try.prog 42 2 8 4 := ⟨_, _, Try.underlying42, rfl, rfl, by kernel_rfl, by decide⟩
theorem fld_42_3 : Fld Try.prog 42 3 12 4 := ⟨_, _, Try.underlying42, rfl, rfl, by kernel_rfl, by decide⟩
theorem sl_91 : Sl Try.prog 91 3 1 := ⟨by kernel_rfl, by kernel_rfl⟩
theorem ty_26 : Ty Try.prog 26 4 true := ⟨by kernel_rfl, by kernel_rfl⟩
theorem ty_42 : Ty Try.prog 42 16 true := ⟨by kernel_rfl, by kernel_rfl⟩
end LImageSharp
open LImageSharp
theorem bo_and {c : Bool} (h : c = true) : Wk (Bo (c && true)) (Bo true) := by subst h; exact wk_id
theorem tw_err {x y : Rat} (h : ((twF x y).2.2 != 0) = true) : (twF x y).2.2 = 4 := by
  unfold twF at h ⊢
  cases hl : [x, y].any longQ with
  | true => rfl
  | false => rw [hl] at h; simp at h
theorem im_err {m : RM} {t : RF} (h : ((imF m t).2.2 != 0) = true) : ((((imF m t).2.2 == 1) || ((imF m t).2.2 == 3)) || ((imF m t).2.2 == 4)) = true := by
  unfold imF at h ⊢
  cases hb : okM m && okX t with
  | false => rfl
  | true =>
    rw [hb, if_pos rfl] at h
    rw [if_pos rfl]
    by_cases h0 : loQ (toM m) (toQ t) = 0
    · rw [if_pos h0]; rfl
    · rw [if_neg h0] at h ⊢
      rw [tw_err h]
      rfl
theorem im_ok {m : RM} {t : RF} (h : ((imF m t).2.2 != 0) = false) : ∃ l, okM m = true ∧ t = rfOf l ∧ longQ l = false ∧ loQ (toM m) l ≠ 0 ∧ longQ (-(upQ (toM m) l / loQ (toM m) l)) = false ∧ longQ (1 / loQ (toM m) l) = false ∧ imF m t = (rfOf (-(upQ (toM m) l / loQ (toM m) l)), rfOf (1 / loQ (toM m) l), 0) := by
  unfold imF at h ⊢
  cases hb : okM m && okX t with
  | false => rw [hb] at h; simp at h
  | true =>
    rw [hb, if_pos rfl] at h
    rw [if_pos rfl]
    obtain ⟨hm, hx⟩ := and_mx hb
    obtain ⟨l, rfl, hl⟩ := ok_rf hx
    rw [toQ_of] at h ⊢
    by_cases h0 : loQ (toM m) l = 0
    · rw [if_pos h0] at h; simp at h
    · rw [if_neg h0] at h ⊢
      unfold twF at h ⊢
      cases hl2 : [-(upQ (toM m) l / loQ (toM m) l), 1 / loQ (toM m) l].any longQ with
      | true => rw [hl2] at h; simp at h
      | false =>
        have hl3 := hl2
        rw [two_long, Bool.or_eq_false_iff] at hl3
        exact ⟨l, hm, rfl, hl, h0, hl3.1, hl3.2, rfl⟩
theorem wi_ok {m : RM} {t s : RF} (h : (!(wiF m t s).2) = false) : (mulM m (spcM t)).2 = 0 ∧ (mulM (spcM s) (mulM m (spcM t)).1).2 = 0 ∧ (wiF m t s).1 = (mulM (spcM s) (mulM m (spcM t)).1).1 := by
  rw [Bool.not_eq_false'] at h
  unfold wiF at h ⊢
  cases h1 : (mulM m (spcM t)).2 != 0 with
  | true => rw [h1] at h; simp at h
  | false =>
    rw [h1, if_neg (by decide)] at h
    rw [if_neg (by decide)]
    exact ⟨by simpa using h1, by simpa using h, rfl⟩
theorem quo_of {r s : Rat} (hr : longQ r = false) (hs : longQ s = false) (h0 : s ≠ 0) : quoF (rfOf r) (rfOf s) = ansF (r / s) := by
  unfold quoF doF quoOp
  rw [okX_of, okX_of, hr, hs, toQ_of, toQ_of, if_neg h0]
  rfl
theorem sh_of {q : MQ} (h : okM (rmOf q) = true) : shF (rmOf q) = (decide (q.b = 0), 0) := by
  unfold shF
  rw [if_pos h, toM_of]
theorem sharp_alg {M : MQ} {l be lo : Rat} (hd : detM M = 1) (hlo : loQ M l = lo) (h0 : lo ≠ 0) (hb : be = -(upQ M l / lo)) :
    (mulQ ⟨1, be, 0, 1⟩ (mulQ M ⟨1, l, 0, 1⟩)).a = 1 / lo ∧ (mulQ ⟨1, be, 0, 1⟩ (mulQ M ⟨1, l, 0, 1⟩)).b = 0 ∧ (mulQ ⟨1, be, 0, 1⟩ (mulQ M ⟨1, l, 0, 1⟩)).c = M.c ∧ (mulQ ⟨1, be, 0, 1⟩ (mulQ M ⟨1, l, 0, 1⟩)).d = lo ∧ 1 / (1 / lo) = lo ∧ 1 / lo ≠ 0 := by
  unfold detM at hd
  unfold loQ at hlo
  unfold upQ at hb
  unfold mulQ
  simp only
  refine ⟨by grind, by grind, by grind, by grind, by grind, by grind⟩
theorem sharp_eq {m : RM} {t : RF} (h1 : ((imF m t).2.2 != 0) = false) (h2 : (!(wiF m t (imF m t).1).2) = false) : ∃ lo, (imF m t).2.1 = rfOf (1 / lo) ∧ shF (wiF m t (imF m t).1).1 = (true, 0) ∧ (wiF m t (imF m t).1).1.a = rfOf (1 / lo) ∧ (wiF m t (imF m t).1).1.c = m.c ∧ (wiF m t (imF m t).1).1.d = rfOf lo ∧ quoF (rfOf (Rat.divInt 1 1)) (rfOf (1 / lo)) = (rfOf lo, 0) := by
  obtain ⟨l, hm, rfl, hl, h0, hb, ht, e⟩ := im_ok h1
  rw [e] at h2 ⊢
  obtain ⟨a1, a2, a3⟩ := wi_ok h2
  have hW := mul_okM a2
  obtain ⟨_, _, b1, _⟩ := mul_ok a1
  obtain ⟨_, _, b2, b3⟩ := mul_ok a2
  simp only at a3 b1 b2 b3 hW
  rw [a3]
  simp only
  rw [b2] at hW ⊢
  rw [b1, toM_of, spc_q, spc_q, toM_of, toM_of] at hW b3 ⊢
  obtain ⟨c1, c2, c3, c4, c5, c6⟩ := sharp_alg (okM_q hm).2 rfl h0 rfl
  have hlo : longQ (loQ (toM m) l) = false := by
    simp only [List.any_cons, List.any_nil, Bool.or_false, Bool.or_eq_false_iff] at b3
    rw [← c4]
    exact b3.2.2.2
  refine ⟨loQ (toM m) l, rfl, ?_, ?_, ?_, ?_, ?_⟩
  · rw [sh_of hW, decide_eq_true c2]
  · exact congrArg rfOf c1
  · have h3 : m.c = rfOf (toM m).c := congrArg RM.c (okM_rm hm)
    rw [h3]
    exact congrArg rfOf c3
  · exact congrArg rfOf c4
  · rw [one_f, quo_of long_one ht c6, c5]
    exact ansF_ok (longQ_false.1 hlo)
theorem sharp_end {m : RM} {t : RF} (h1 : ((imF m t).2.2 != 0) = false) (h2 : (!(wiF m t (imF m t).1).2) = false) :
    (((((((shF (wiF m t (imF m t).1).1).2 == 0) && ((quoF (rfOf (Rat.divInt 1 1)) (imF m t).2.1).2 == 0)) && (shF (wiF m t (imF m t).1).1).1) && decide ((wiF m t (imF m t).1).1.a = (imF m t).2.1)) && decide ((wiF m t (imF m t).1).1.d = (quoF (rfOf (Rat.divInt 1 1)) (imF m t).2.1).1)) && decide ((wiF m t (imF m t).1).1.c = m.c)) = true := by
  obtain ⟨lo, e1, e2, e3, e4, e5, e6⟩ := sharp_eq h1 h2
  rw [e2, e1, e6, decide_eq_true e3, decide_eq_true e4, decide_eq_true e5]
  rfl

set_option maxRecDepth 100000 in
theorem imageSharp_w (m : RM) (t : RF) : Cn Try.prog 9 [(RMA m).va, (RFA t).va] (Bo true) := by
  refine Cn.intro Try.func9 rfl (by kernel_rfl) (Nat.le_of_ble_eq_true (by kernel_rfl)) (fun B w0 a hst => ?_)
  have hst : St B w0 93 [(0, (RMA m).va), (1, (RFA t).va)] [] a w0.w := hst
  refine wp_seq ?_
  refine go_lin (sts := []) (news := [⟨2, 42, ptrH, some 0, _, none⟩, ⟨3, 26, ptrH, some 1, _, none⟩]) (sp := [.alc 0, .alc 1, .val 4 _]) [.o 2] hst (obs_cons (ob_box rfl rfl rfl (has_g 0 rfl (by kernel_rfl) (by kernel_rfl))) (obs_cons (ob_box rfl rfl rfl (has_g 1 rfl (by kernel_rfl) (by kernel_rfl))) (obs_cons (ob_v rfl rfl (r_assign has_bo)) (obs_nil)))) (by kernel_rfl) (by kernel_rfl) (by kernel_rfl) (fun a w hst => ?_)
  have hst : St B w0 93 [(4, _)] [⟨2, 42, ptrH, _⟩, ⟨3, 26, ptrH, _⟩] a w := hst
  refine thn_normal ?_
  refine wp_seq ?_
  refine wp_seq ?_
  refine go_draw (anc := [[], [0], [], [0, 1, 2], [0, 1, 2, 3], [0, 1, 2, 3, 4]]) (sts := [none, none]) (news := []) (sp := [.val 13 _, .val 14 _, .val 15 _, .val 16 _, .val 17 _, .val 18 _]) [.g 0, .o 5] follows_mixed hst (obs_cons (ob_v rfl rfl (r_load (loc_at0 0 rfl (by kernel_rfl)) ty_42)) (obs_cons (ob_v rfl rfl (r_call (xs := [.tmp 13]) (matCost_c _) (.cons (has_v 0 rfl (by kernel_rfl) (by kernel_rfl)) .nil))) (obs_cons (ob_v rfl rfl (r_load (loc_at0 1 rfl (by kernel_rfl)) ty_26)) (obs_cons (ob_v rfl rfl (r_call (xs := [.tmp 15]) (fracCost_c _) (.cons (has_v 2 rfl (by kernel_rfl) (by kernel_rfl)) .nil))) (obs_cons (ob_v rfl rfl (r_slice (D := []) (l := [_, _]) (xs := [.tmp 14, .tmp 16]) (nd_ok (by kernel_rfl)) sl_91 (by kernel_rfl) (n_ok (by kernel_rfl)) (Nat.le_of_ble_eq_true (by kernel_rfl)) (Nat.le_of_ble_eq_true (by kernel_rfl)) (Nat.le_of_ble_eq_true (by kernel_rfl)) (.cons (has_v 1 rfl (by kernel_rfl) (by kernel_rfl)) (.cons (has_v 3 rfl (by kernel_rfl) (by kernel_rfl)) .nil)) rfl rfl)) (obs_cons (ob_v rfl rfl (r_call (xs := [.tmp 17]) (beyond_c [_, _]) (.cons (has_v 4 rfl (by kernel_rfl) (by kernel_rfl)) .nil))) (obs_nil))))))) (by kernel_rfl) (by kernel_rfl) (by kernel_rfl) (by kernel_rfl) (fun a w hst => ?_)
  have hst : St B w0 93 [(4, _), (18, _)] [⟨2, 42, ptrH, _⟩, ⟨3, 26, ptrH, _⟩] a w := hst
  refine thn_normal ?_
  refine cond_of hst (List.mem_of_getElem? (i := 1) rfl) (fun hb0 => ?_) (fun hb0 => ?_)
  · refine wp_seq ?_
    refine go_lin (sts := [none, none]) (news := []) (sp := [.val 4 _]) [.o 0] hst (obs_cons (ob_v rfl rfl (r_assign has_bo)) (obs_nil)) (by kernel_rfl) (by kernel_rfl) (by kernel_rfl) (fun a w hst => ?_)
    have hst : St B w0 93 [(4, _)] [⟨2, 42, ptrH, _⟩, ⟨3, 26, ptrH, _⟩] a w := hst
    refine thn_normal ?_
    refine wp_ret ?_
    refine thn_ret ?_
    refine ret_wk ?_ (ret_tmp rfl hst (List.mem_of_getElem? (i := 0) rfl))
    exact wk_id
  · refine wp_skip ?_
    refine thn_normal ?_
    refine wp_seq ?_
    refine go_lin (sts := [none, none]) (news := [⟨5, 26, ptrH, some 7, _, some (9, _)⟩, ⟨6, 26, ptrH, some 8, _, some (10, _)⟩]) (sp := [.val 20 _, .val 21 _, .val 22 _, .val 19 _, .val 23 _, .val 24 _, .val 25 _, .alc 2, .alc 3, .sto 2, .sto 3, .val 7 _]) [.g 0, .o 11] hst (obs_cons (ob_v rfl rfl (r_load (loc_at0 0 rfl (by kernel_rfl)) ty_42)) (obs_cons (ob_v rfl rfl (r_load (loc_at0 1 rfl (by kernel_rfl)) ty_26)) (obs_cons (ob_v rfl rfl (r_call (xs := [.tmp 20, .tmp 21]) (image_c m t) (.cons (has_v 0 rfl (by kernel_rfl) (by kernel_rfl)) (.cons (has_v 1 rfl (by kernel_rfl) (by kernel_rfl)) .nil)))) (obs_cons (ob_v rfl rfl (r_move (has_v 2 rfl (by kernel_rfl) (by kernel_rfl)))) (obs_cons (ob_v rfl rfl (r_ex0 (has_v 3 rfl (by kernel_rfl) (by kernel_rfl)))) (obs_cons (ob_v rfl rfl (r_ex1 (has_v 3 rfl (by kernel_rfl) (by kernel_rfl)))) (obs_cons (ob_v rfl rfl (r_ex2 (has_v 3 rfl (by kernel_rfl) (by kernel_rfl)))) (obs_cons (ob_alc rfl rfl rfl (Str.zero str_frac)) (obs_cons (ob_alc rfl rfl rfl (Str.zero str_frac)) (obs_cons (ob_sto rfl rfl rfl (has_v 4 rfl (by kernel_rfl) (by kernel_rfl)) ty_26 rfl) (obs_cons (ob_sto rfl rfl rfl (has_v 5 rfl (by kernel_rfl) (by kernel_rfl)) ty_26 rfl) (obs_cons (ob_v rfl rfl (r_assign (has_v 6 rfl (by kernel_rfl) (by kernel_rfl)))) (obs_nil))))))))))))) (by kernel_rfl) (by kernel_rfl) (by kernel_rfl) (fun a w hst => ?_)
    have hst : St B w0 93 [(4, _), (7, _)] [⟨2, 42, ptrH, _⟩, ⟨3, 26, ptrH, _⟩, ⟨5, 26, ptrH, _⟩, ⟨6, 26, ptrH, _⟩] a w := hst
    refine thn_normal ?_
    refine wp_seq ?_
    refine wp_seq ?_
    refine go_lin (sts := [none, none, none, none]) (news := []) (sp := [.val 26 _, .val 27 _]) [.g 0, .g 1, .o 1] hst (obs_cons (ob_v rfl rfl (r_move (has_g 1 rfl (by kernel_rfl) (by kernel_rfl)))) (obs_cons (ob_v rfl rfl (r_neq (has_v 0 rfl (by kernel_rfl) (by kernel_rfl)) has_num)) (obs_nil))) (by kernel_rfl) (by kernel_rfl) (by kernel_rfl) (fun a w hst => ?_)
    have hst : St B w0 93 [(4, _), (7, _), (27, _)] [⟨2, 42, ptrH, _⟩, ⟨3, 26, ptrH, _⟩, ⟨5, 26, ptrH, _⟩, ⟨6, 26, ptrH, _⟩] a w := hst
    refine thn_normal ?_
    refine cond_of hst (List.mem_of_getElem? (i := 2) rfl) (fun hb1 => ?_) (fun hb1 => ?_)
    · refine wp_seq ?_
      refine go_lin (sts := [none, none, none, none]) (news := []) (sp := [.val 28 _, .val 29 _, .val 30 _, .val 31 (Wh (_ = false) _), .val 32 (Wh (_ = false) _), .val 33 _, .val 34 _, .val 35 (Wh (_ = false) _), .val 36 (Wh (_ = false) _), .val 37 _, .val 38 _, .val 39 (Wh (_ = true) _), .val 40 _, .val 4 _]) [.g 1, .o 13] hst (obs_cons (ob_v rfl rfl (r_move (has_g 1 rfl (by kernel_rfl) (by kernel_rfl)))) (obs_cons (ob_v rfl rfl (r_eql (has_v 0 rfl (by kernel_rfl) (by kernel_rfl)) has_num)) (obs_cons (ob_v rfl rfl (r_move (has_v 1 rfl (by kernel_rfl) (by kernel_rfl)))) (obs_cons (ob_gd rfl rfl rfl (has_v 2 rfl (by kernel_rfl) (by kernel_rfl)) (Nat.le_of_ble_eq_true (by kernel_rfl)) (fun hg => r_move (has_g 1 rfl (by kernel_rfl) (by kernel_rfl)))) (obs_cons (ob_gd rfl rfl rfl (has_v 2 rfl (by kernel_rfl) (by kernel_rfl)) (Nat.le_of_ble_eq_true (by kernel_rfl)) (fun hg => r_eql (has_wh (has_v 3 rfl (by kernel_rfl) (by kernel_rfl)) hg) has_num)) (obs_cons (ob_v rfl rfl (r_or (has_v 2 rfl (by kernel_rfl) (by kernel_rfl)) (has_v 4 rfl (by kernel_rfl) (by kernel_rfl)))) (obs_cons (ob_v rfl rfl (r_move (has_v 5 rfl (by kernel_rfl) (by kernel_rfl)))) (obs_cons (ob_gd rfl rfl rfl (has_v 6 rfl (by kernel_rfl) (by kernel_rfl)) (Nat.le_of_ble_eq_true (by kernel_rfl)) (fun hg => r_move (has_g 1 rfl (by kernel_rfl) (by kernel_rfl)))) (obs_cons (ob_gd rfl rfl rfl (has_v 6 rfl (by kernel_rfl) (by kernel_rfl)) (Nat.le_of_ble_eq_true (by kernel_rfl)) (fun hg => r_eql (has_wh (has_v 7 rfl (by kernel_rfl) (by kernel_rfl)) hg) has_num)) (obs_cons (ob_v rfl rfl (r_or (has_v 6 rfl (by kernel_rfl) (by kernel_rfl)) (has_v 8 rfl (by kernel_rfl) (by kernel_rfl)))) (obs_cons (ob_v rfl rfl (r_move (has_v 9 rfl (by kernel_rfl) (by kernel_rfl)))) (obs_cons (ob_gd rfl rfl rfl (has_v 10 rfl (by kernel_rfl) (by kernel_rfl)) (Nat.le_of_ble_eq_true (by kernel_rfl)) (fun hg => r_call (xs := []) lives11_c .nil)) (obs_cons (ob_v rfl rfl (r_and (has_v 10 rfl (by kernel_rfl) (by kernel_rfl)) (has_v 11 rfl (by kernel_rfl) (by kernel_rfl)))) (obs_cons (ob_v rfl rfl (r_assign (has_v 12 rfl (by kernel_rfl) (by kernel_rfl)))) (obs_nil))))))))))))))) (by kernel_rfl) (by kernel_rfl) (by kernel_rfl) (fun a w hst => ?_)
      have hst : St B w0 93 [(7, _), (4, _)] [⟨2, 42, ptrH, _⟩, ⟨3, 26, ptrH, _⟩, ⟨5, 26, ptrH, _⟩, ⟨6, 26, ptrH, _⟩] a w := hst
      refine thn_normal ?_
      refine wp_ret ?_
      refine thn_ret ?_
      refine ret_wk ?_ (ret_tmp rfl hst (List.mem_of_getElem? (i := 1) rfl))
      exact bo_and (im_err hb1)
    · refine wp_skip ?_
      refine thn_normal ?_
      refine wp_seq ?_
      refine go_lin (sts := [none, none, none, none]) (news := [⟨8, 42, ptrH, some 7, _, some (8, _)⟩]) (sp := [.val 42 _, .val 43 _, .val 44 _, .val 45 _, .val 41 _, .val 46 _, .val 47 _, .alc 4, .sto 4, .val 9 _]) [.g 0, .g 1, .o 9] hst (obs_cons (ob_v rfl rfl (r_load (loc_at0 0 rfl (by kernel_rfl)) ty_42)) (obs_cons (ob_v rfl rfl (r_load (loc_at0 1 rfl (by kernel_rfl)) ty_26)) (obs_cons (ob_v rfl rfl (r_load (loc_at0 2 rfl (by kernel_rfl)) ty_26)) (obs_cons (ob_v rfl rfl (r_call (xs := [.tmp 42, .tmp 43, .tmp 44]) (within11_c m t _) (.cons (has_v 0 rfl (by kernel_rfl) (by kernel_rfl)) (.cons (has_v 1 rfl (by kernel_rfl) (by kernel_rfl)) (.cons (has_v 2 rfl (by kernel_rfl) (by kernel_rfl)) .nil))))) (obs_cons (ob_v rfl rfl (r_move (has_v 3 rfl (by kernel_rfl) (by kernel_rfl)))) (obs_cons (ob_v rfl rfl (r_ex0 (has_v 4 rfl (by kernel_rfl) (by kernel_rfl)))) (obs_cons (ob_v rfl rfl (r_ex1 (has_v 4 rfl (by kernel_rfl) (by kernel_rfl)))) (obs_cons (ob_alc rfl rfl rfl (Str.zero str_matrix)) (obs_cons (ob_sto rfl rfl rfl (has_v 5 rfl (by kernel_rfl) (by kernel_rfl)) ty_42 rfl) (obs_cons (ob_v rfl rfl (r_assign (has_v 6 rfl (by kernel_rfl) (by kernel_rfl)))) (obs_nil))))))))))) (by kernel_rfl) (by kernel_rfl) (by kernel_rfl) (fun a w hst => ?_)
      have hst : St B w0 93 [(4, _), (7, _), (9, _)] [⟨2, 42, ptrH, _⟩, ⟨3, 26, ptrH, _⟩, ⟨5, 26, ptrH, _⟩, ⟨6, 26, ptrH, _⟩, ⟨8, 42, ptrH, _⟩] a w := hst
      refine thn_normal ?_
      refine wp_seq ?_
      refine wp_seq ?_
      refine go_lin (sts := [none, none, none, none, none]) (news := []) (sp := [.val 48 _, .val 49 _]) [.g 0, .g 1, .o 1] hst (obs_cons (ob_v rfl rfl (r_move (has_g 2 rfl (by kernel_rfl) (by kernel_rfl)))) (obs_cons (ob_v rfl rfl (r_not (has_v 0 rfl (by kernel_rfl) (by kernel_rfl)))) (obs_nil))) (by kernel_rfl) (by kernel_rfl) (by kernel_rfl) (fun a w hst => ?_)
      have hst : St B w0 93 [(4, _), (7, _), (49, _)] [⟨2, 42, ptrH, _⟩, ⟨3, 26, ptrH, _⟩, ⟨5, 26, ptrH, _⟩, ⟨6, 26, ptrH, _⟩, ⟨8, 42, ptrH, _⟩] a w := hst
      refine thn_normal ?_
      refine cond_of hst (List.mem_of_getElem? (i := 2) rfl) (fun hb2 => ?_) (fun hb2 => ?_)
      · refine wp_seq ?_
        refine go_lin (sts := [none, none, none, none, none]) (news := []) (sp := [.val 50 _, .val 4 _]) [.g 1, .o 1] hst (obs_cons (ob_v rfl rfl (r_call (xs := []) lives11_c .nil)) (obs_cons (ob_v rfl rfl (r_assign (has_v 0 rfl (by kernel_rfl) (by kernel_rfl)))) (obs_nil))) (by kernel_rfl) (by kernel_rfl) (by kernel_rfl) (fun a w hst => ?_)
        have hst : St B w0 93 [(7, _), (4, _)] [⟨2, 42, ptrH, _⟩, ⟨3, 26, ptrH, _⟩, ⟨5, 26, ptrH, _⟩, ⟨6, 26, ptrH, _⟩, ⟨8, 42, ptrH, _⟩] a w := hst
        refine thn_normal ?_
        refine wp_ret ?_
        refine thn_ret ?_
        refine ret_wk ?_ (ret_tmp rfl hst (List.mem_of_getElem? (i := 1) rfl))
        exact wk_id
      · refine wp_skip ?_
        refine thn_normal ?_
        refine wp_seq ?_
        refine go_lin (sts := [none, none, none, none, none]) (news := []) (sp := [.val 52 _, .val 53 _, .val 51 _, .val 54 _, .val 55 _, .val 10 _, .val 7 _]) [.g 0, .o 5, .o 6] hst (obs_cons (ob_v rfl rfl (r_load (loc_at0 4 rfl (by kernel_rfl)) ty_42)) (obs_cons (ob_v rfl rfl (r_call (xs := [.tmp 52]) (sharp_c _) (.cons (has_v 0 rfl (by kernel_rfl) (by kernel_rfl)) .nil))) (obs_cons (ob_v rfl rfl (r_move (has_v 1 rfl (by kernel_rfl) (by kernel_rfl)))) (obs_cons (ob_v rfl rfl (r_ex0 (has_v 2 rfl (by kernel_rfl) (by kernel_rfl)))) (obs_cons (ob_v rfl rfl (r_ex1 (has_v 2 rfl (by kernel_rfl) (by kernel_rfl)))) (obs_cons (ob_v rfl rfl (r_assign (has_v 3 rfl (by kernel_rfl) (by kernel_rfl)))) (obs_cons (ob_v rfl rfl (r_assign (has_v 4 rfl (by kernel_rfl) (by kernel_rfl)))) (obs_nil)))))))) (by kernel_rfl) (by kernel_rfl) (by kernel_rfl) (fun a w hst => ?_)
        have hst : St B w0 93 [(4, _), (10, _), (7, _)] [⟨2, 42, ptrH, _⟩, ⟨3, 26, ptrH, _⟩, ⟨5, 26, ptrH, _⟩, ⟨6, 26, ptrH, _⟩, ⟨8, 42, ptrH, _⟩] a w := hst
        refine thn_normal ?_
        refine wp_seq ?_
        refine go_draw (anc := [[], [], [0, 1], [0, 1, 2], [0, 1, 2, 3], [0, 1, 2, 3], [], [0, 1, 2, 3, 4, 6], [0, 1, 2, 3, 4, 5, 6, 7]]) (sts := [none, none, none, none, none]) (news := [⟨11, 26, ptrH, some 6, _, some (7, _)⟩]) (sp := [.val 57 _, .val 58 _, .val 59 _, .val 56 _, .val 60 _, .val 61 _, .alc 5, .sto 5, .val 12 _]) [.g 0, .g 1, .g 2, .o 8] follows_mixed hst (obs_cons (ob_v rfl rfl (r_call (xs := [.const (.int .i64 (1)), .const (.int .i64 (1))]) (whole11_c (by decide) (by decide) (by decide) (by decide) (by decide)) (.cons has_num (.cons has_num .nil)))) (obs_cons (ob_v rfl rfl (r_load (loc_at0 3 rfl (by kernel_rfl)) ty_26)) (obs_cons (ob_v rfl rfl (r_call (xs := [.tmp 57, .tmp 58]) (quoF_c _ _) (.cons (has_v 0 rfl (by kernel_rfl) (by kernel_rfl)) (.cons (has_v 1 rfl (by kernel_rfl) (by kernel_rfl)) .nil)))) (obs_cons (ob_v rfl rfl (r_move (has_v 2 rfl (by kernel_rfl) (by kernel_rfl)))) (obs_cons (ob_v rfl rfl (r_ex0 (has_v 3 rfl (by kernel_rfl) (by kernel_rfl)))) (obs_cons (ob_v rfl rfl (r_ex1 (has_v 3 rfl (by kernel_rfl) (by kernel_rfl)))) (obs_cons (ob_alc rfl rfl rfl (Str.zero str_frac)) (obs_cons (ob_sto rfl rfl rfl (has_v 4 rfl (by kernel_rfl) (by kernel_rfl)) ty_26 rfl) (obs_cons (ob_v rfl rfl (r_assign (has_v 5 rfl (by kernel_rfl) (by kernel_rfl)))) (obs_nil)))))))))) (by kernel_rfl) (by kernel_rfl) (by kernel_rfl) (by kernel_rfl) (fun a w hst => ?_)
        have hst : St B w0 93 [(4, _), (10, _), (7, _), (12, _)] [⟨2, 42, ptrH, _⟩, ⟨3, 26, ptrH, _⟩, ⟨5, 26, ptrH, _⟩, ⟨6, 26, ptrH, _⟩, ⟨8, 42, ptrH, _⟩, ⟨11, 26, ptrH, _⟩] a w := hst
        refine thn_normal ?_
        refine wp_seq ?_
        refine go_lin (sts := [none, none, none, none, none, none]) (news := []) (sp := ((.val 62 _ : Sp) :: (.val 63 _) :: (.val 64 _) :: (.val 65 (Wh (_ = true) _)) :: (.val 66 (Wh (_ = true) _)) :: (.val 67 _) :: (.val 68 _) :: (.val 69 (Wh (_ = true) _)) :: (.val 70 _) :: (.val 71 _) :: (.adr 72 8 (.some 0) (_ = true)) :: (.val 73 (Wh (_ = true) _)) :: (.val 74 (Wh (_ = true) _)) :: (.val 75 (Wh (_ = true) _)) :: (.val 76 _) :: (.val 77 _) :: (.adr 78 8 (.some 12) (_ = true)) :: (.val 79 (Wh (_ = true) _)) :: (.val 80 (Wh (_ = true) _)) :: (.val 81 (Wh (_ = true) _)) :: (.val 82 _) :: (.val 83 _) :: (.adr 84 8 (.some 8) (_ = true)) :: (.val 85 (Wh (_ = true) _)) :: (.adr 86 2 (.some 8) (_ = true)) :: (.val 87 (Wh (_ = true) _)) :: (.val 88 (Wh (_ = true) _)) :: (.val 89 _) :: (.val 90 _) :: (.val 91 (Wh (_ = true) _)) :: (.val 92 _) :: (.val 4 _) :: [])) [.o 31] hst (obs_cons (ob_v rfl rfl (r_move (has_g 2 rfl (by kernel_rfl) (by kernel_rfl)))) (obs_cons (ob_v rfl rfl (r_eql (has_v 0 rfl (by kernel_rfl) (by kernel_rfl)) has_num)) (obs_cons (ob_v rfl rfl (r_move (has_v 1 rfl (by kernel_rfl) (by kernel_rfl)))) (obs_cons (ob_gd rfl rfl rfl (has_v 2 rfl (by kernel_rfl) (by kernel_rfl)) (Nat.le_of_ble_eq_true (by kernel_rfl)) (fun hg => r_move (has_g 3 rfl (by kernel_rfl) (by kernel_rfl)))) (obs_cons (ob_gd rfl rfl rfl (has_v 2 rfl (by kernel_rfl) (by kernel_rfl)) (Nat.le_of_ble_eq_true (by kernel_rfl)) (fun hg => r_eql (has_wh (has_v 3 rfl (by kernel_rfl) (by kernel_rfl)) hg) has_num)) (obs_cons (ob_v rfl rfl (r_and (has_v 2 rfl (by kernel_rfl) (by kernel_rfl)) (has_v 4 rfl (by kernel_rfl) (by kernel_rfl)))) (obs_cons (ob_v rfl rfl (r_move (has_v 5 rfl (by kernel_rfl) (by kernel_rfl)))) (obs_cons (ob_gd rfl rfl rfl (has_v 6 rfl (by kernel_rfl) (by kernel_rfl)) (Nat.le_of_ble_eq_true (by kernel_rfl)) (fun hg => r_move (has_g 1 rfl (by kernel_rfl) (by kernel_rfl)))) (obs_cons (ob_v rfl rfl (r_and (has_v 6 rfl (by kernel_rfl) (by kernel_rfl)) (has_v 7 rfl (by kernel_rfl) (by kernel_rfl)))) (obs_cons (ob_v rfl rfl (r_move (has_v 8 rfl (by kernel_rfl) (by kernel_rfl)))) (obs_cons (ob_ag rfl rfl rfl (has_v 9 rfl (by kernel_rfl) (by kernel_rfl)) (Nat.le_of_ble_eq_true (by kernel_rfl)) (fun hg => a_fld (loc_at0 4 rfl (by kernel_rfl)) fld_42_0)) (obs_cons (ob_gd rfl rfl rfl (has_v 9 rfl (by kernel_rfl) (by kernel_rfl)) (Nat.le_of_ble_eq_true (by kernel_rfl)) (fun hg => r_loadf 10 rfl (by kernel_rfl) hg (loc_at0 4 rfl (by kernel_rfl)) (Sub.part 0 rfl rfl) ty_26)) (obs_cons (ob_gd rfl rfl rfl (has_v 9 rfl (by kernel_rfl) (by kernel_rfl)) (Nat.le_of_ble_eq_true (by kernel_rfl)) (fun hg => r_load (loc_at0 3 rfl (by kernel_rfl)) ty_26)) (obs_cons (ob_gd rfl rfl rfl (has_v 9 rfl (by kernel_rfl) (by kernel_rfl)) (Nat.le_of_ble_eq_true (by kernel_rfl)) (fun hg => r_call (xs := [.tmp 73, .tmp 74]) (sameFrac_c _ _) (.cons (has_wh (has_v 11 rfl (by kernel_rfl) (by kernel_rfl)) hg) (.cons (has_wh (has_v 12 rfl (by kernel_rfl) (by kernel_rfl)) hg) .nil)))) (obs_cons (ob_v rfl rfl (r_and (has_v 9 rfl (by kernel_rfl) (by kernel_rfl)) (has_v 13 rfl (by kernel_rfl) (by kernel_rfl)))) (obs_cons (ob_v rfl rfl (r_move (has_v 14 rfl (by kernel_rfl) (by kernel_rfl)))) (obs_cons (ob_ag rfl rfl rfl (has_v 15 rfl (by kernel_rfl) (by kernel_rfl)) (Nat.le_of_ble_eq_true (by kernel_rfl)) (fun hg => a_fld (loc_at0 4 rfl (by kernel_rfl)) fld_42_3)) (obs_cons (ob_gd rfl rfl rfl (has_v 15 rfl (by kernel_rfl) (by kernel_rfl)) (Nat.le_of_ble_eq_true (by kernel_rfl)) (fun hg => r_loadf 16 rfl (by kernel_rfl) hg (loc_at0 4 rfl (by kernel_rfl)) (Sub.part 3 rfl rfl) ty_26)) (obs_cons (ob_gd rfl rfl rfl (has_v 15 rfl (by kernel_rfl) (by kernel_rfl)) (Nat.le_of_ble_eq_true (by kernel_rfl)) (fun hg => r_load (loc_at0 5 rfl (by kernel_rfl)) ty_26)) (obs_cons (ob_gd rfl rfl rfl (has_v 15 rfl (by kernel_rfl) (by kernel_rfl)) (Nat.le_of_ble_eq_true (by kernel_rfl)) (fun hg => r_call (xs := [.tmp 79, .tmp 80]) (sameFrac_c _ _) (.cons (has_wh (has_v 17 rfl (by kernel_rfl) (by kernel_rfl)) hg) (.cons (has_wh (has_v 18 rfl (by kernel_rfl) (by kernel_rfl)) hg) .nil)))) (obs_cons (ob_v rfl rfl (r_and (has_v 15 rfl (by kernel_rfl) (by kernel_rfl)) (has_v 19 rfl (by kernel_rfl) (by kernel_rfl)))) (obs_cons (ob_v rfl rfl (r_move (has_v 20 rfl (by kernel_rfl) (by kernel_rfl)))) (obs_cons (ob_ag rfl rfl rfl (has_v 21 rfl (by kernel_rfl) (by kernel_rfl)) (Nat.le_of_ble_eq_true (by kernel_rfl)) (fun hg => a_fld (loc_at0 4 rfl (by kernel_rfl)) fld_42_2)) (obs_cons (ob_gd rfl rfl rfl (has_v 21 rfl (by kernel_rfl) (by kernel_rfl)) (Nat.le_of_ble_eq_true (by kernel_rfl)) (fun hg => r_loadf 22 rfl (by kernel_rfl) hg (loc_at0 4 rfl (by kernel_rfl)) (Sub.part 2 rfl rfl) ty_26)) (obs_cons (ob_ag rfl rfl rfl (has_v 21 rfl (by kernel_rfl) (by kernel_rfl)) (Nat.le_of_ble_eq_true (by kernel_rfl)) (fun hg => a_fld (loc_at0 0 rfl (by kernel_rfl)) fld_42_2)) (obs_cons (ob_gd rfl rfl rfl (has_v 21 rfl (by kernel_rfl) (by kernel_rfl)) (Nat.le_of_ble_eq_true (by kernel_rfl)) (fun hg => r_loadf 24 rfl (by kernel_rfl) hg (loc_at0 0 rfl (by kernel_rfl)) (Sub.part 2 rfl rfl) ty_26)) (obs_cons (ob_gd rfl rfl rfl (has_v 21 rfl (by kernel_rfl) (by kernel_rfl)) (Nat.le_of_ble_eq_true (by kernel_rfl)) (fun hg => r_call (xs := [.tmp 85, .tmp 87]) (sameFrac_c _ _) (.cons (has_wh (has_v 23 rfl (by kernel_rfl) (by kernel_rfl)) hg) (.cons (has_wh (has_v 25 rfl (by kernel_rfl) (by kernel_rfl)) hg) .nil)))) (obs_cons (ob_v rfl rfl (r_and (has_v 21 rfl (by kernel_rfl) (by kernel_rfl)) (has_v 26 rfl (by kernel_rfl) (by kernel_rfl)))) (obs_cons (ob_v rfl rfl (r_move (has_v 27 rfl (by kernel_rfl) (by kernel_rfl)))) (obs_cons (ob_gd rfl rfl rfl (has_v 28 rfl (by kernel_rfl) (by kernel_rfl)) (Nat.le_of_ble_eq_true (by kernel_rfl)) (fun hg => r_call (xs := []) lives11_c .nil)) (obs_cons (ob_v rfl rfl (r_and (has_v 28 rfl (by kernel_rfl) (by kernel_rfl)) (has_v 29 rfl (by kernel_rfl) (by kernel_rfl)))) (obs_cons (ob_v rfl rfl (r_assign (has_v 30 rfl (by kernel_rfl) (by kernel_rfl)))) (obs_nil))))))))))))))))))))))))))))))))) (by kernel_rfl) (by kernel_rfl) (by kernel_rfl) (fun a w hst => ?_)
        have hst : St B w0 93 [(4, _)] [⟨2, 42, ptrH, _⟩, ⟨3, 26, ptrH, _⟩, ⟨5, 26, ptrH, _⟩, ⟨6, 26, ptrH, _⟩, ⟨8, 42, ptrH, _⟩, ⟨11, 26, ptrH, _⟩] a w := hst
        refine thn_normal ?_
        refine wp_ret ?_
        refine ret_wk ?_ (ret_tmp rfl hst (List.mem_of_getElem? (i := 0) rfl))
        exact bo_and (sharp_end hb1 hb2)

open Go.ChangeShapes Go.WideShapes Go.ChangeAt
open Go.ChangeMaps (open_string shut_string)
set_option linter.unusedVariables false
theorem own : ownKnob Try.prog.godebug = none := by kernel_rfl
theorem laidOut : laidOutB Try.prog = true := by kernel_rfl
set_option maxRecDepth 100000 in
theorem lifted (os : Os) (started : os.Started) (H : Type) (enc : TypeId × Value → H) :
    ReturnsInHanded {} Try.checked os 9 .any (Rows.imageSharpSpec.pre6 enc Try.prog Try.f9 Rows.imageSharpRow.domain false) (Rows.imageSharpSpec.post enc Try.prog Try.f9 false true false false) := by
  refine returnsInHanded_of_change (C := Try.checked) own started (by kernel_rfl) Try.func9
    (ChangeSpec.witness6 (enc := enc) (C := Try.checked) false ⟨#[], #[.agg #[.bool false, .slice none 0 0, .bool false, .slice none 0 0, .bool false, .slice none 0 0, .bool false, .slice none 0 0, .bool false, .slice none 0 0, .bool false, .slice none 0 0, .bool false, .slice none 0 0, .bool false, .slice none 0 0], .agg #[.bool false, .slice none 0 0, .bool false, .slice none 0 0]], []⟩ 8 (by kernel_rfl) (by kernel_rfl) (by kernel_rfl) (by kernel_rfl)) ?_
  intro W base args ds gs before hval0 hW hcnd _
  have hval : ∀ (j : Nat) t v, Try.f9.params[j]? = some t → args[j]? = some v → Value.okWide Try.prog W .any base t v := hval0
  have hW' := hW
  obtain ⟨p, q, hA0, hV, rfl, hfz, hnd⟩ := hW
  have hA : DataW.TrodAll enc Try.prog W 0 (fun _ => true) true Try.f9.params.toList args.toList ds p := hA0
  rw [Try.params9] at hA hval
  obtain ⟨v0, vs0, d0, ds0, p0, q0, hargs, rfl, rfl, h0, r0⟩ := trodAll_cons hA
  obtain ⟨v1, vs1, d1, ds1, p1, q1, rfl, rfl, rfl, h1, r1⟩ := trodAll_cons r0
  obtain ⟨rfl, rfl, rfl⟩ := trodAll_nil r1
  obtain rfl : args = #[v0, v1] := by cases args; simp_all
  obtain ⟨rfl, rfl⟩ := trodVars_none hV
  have k0 := h0
  have lt0 : ∀ x ∈ p0, x.block < W.heap.size := by obtain ⟨m, hm⟩ := k0; exact DataW.trod_lt m _ _ _ hm
  have k1 := h1
  have lt1 : ∀ x ∈ p1, x.block < W.heap.size := by obtain ⟨m, hm⟩ := k1; exact DataW.trod_lt m _ _ _ hm
  obtain ⟨x0, a0⟩ := arg_of (A := RMA) (fun _ => rfl) Try.underlying42 rd_rm (hval 0 42 v0 rfl rfl) h0
  obtain ⟨x1, a1⟩ := arg_of (A := RFA) (fun _ => rfl) Try.underlying26 rd_rf (hval 1 26 v1 rfl rfl) h1
  clear hA0 hval0
  refine ((imageSharp_w x0 x1).2 W.heap.size W [v0, v1] (Nat.le_refl _) (.cons a0 (.cons a1 .nil))).mono fun e W' ⟨v, he, hv, bel⟩ => ?_
  have hv' := bo_val hv
  subst hv' he
  exact ⟨_, rfl, _, _, _, [], _, [], hW', trodAll_mk1 (shut_bool Try.underlying4 _), (trodAll_cons_mk (Below.trod laidOut (by kernel_rfl) (of_decide_eq_true (by kernel_rfl)) k0 bel lt0) (trodAll_cons_mk (Below.trod laidOut (by kernel_rfl) (of_decide_eq_true (by kernel_rfl)) k1 bel lt1) trodAll_mk0)), rfl, bel.frame _, fun h => by cases h⟩
theorem over : Rows.imageSharpRow.holds Try.pinned (OpenSpec.ofChange Rows.imageSharpSpec) :=
  OpenClaim.holds_of_wide 9 Try.f9 rfl rfl rfl rfl rfl rfl rfl ⟨rfl, rfl, rfl, rfl, rfl⟩ rfl rfl rfl rfl rfl (by kernel_rfl) Try.func9 (by kernel_rfl)
    (of_decide_eq_true (by kernel_rfl)) (by unfold Func.isWrapper; rw [if_neg (of_decide_eq_false (by kernel_rfl))]; exact ⟨rfl, rfl⟩)
    (fun os started H enc _ => lifted os started H enc)
theorem provedImageSharp : Rows.ImageSharpSaid := over
#print axioms provedImageSharp

end Go.Proofs.Ytiokhlpbdabaeaa
