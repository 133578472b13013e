/- RayKeeps: for all pairs of matrices and of rays the law of chapter 9 on rays through matrices answers true. No condition. -/
import Derived.Test.YtiokhlpbdabaeaaRayL
import Derived.Test.YtiokhlpbdabaeaaRows
import Derived.WalkKit
import Derived.ProofKit
import Derived.OpenShut
import Derived.ShutString
import Derived.ChangeOld
import Derived.Below
namespace Go.Proofs.Ytiokhlpbdabaeaa
open Go Go.RowKit
namespace LRayKeeps
theorem fld_78_0 : Fld Try.prog 78 0 0 16 := ⟨_, _, Try.underlying78, rfl, rfl, by kernel_rfl, by decide⟩
theorem fld_78_1 : Fld Try.prog 78 1 16 16 := ⟨_, _, Try.underlying78, rfl, rfl, by kernel_rfl, by decide⟩
theorem fld_80_0 : Fld Try.prog 80 0 0 4 := ⟨_, _, Try.underlying80, rfl, rfl, by kernel_rfl, by decide⟩
theorem fld_80_1 : Fld Try.prog 80 1 4 4 := ⟨_, _, Try.underlying80, rfl, rfl, by kernel_rfl, by decide⟩
theorem fld_82_0 : Fld Try.prog 82 0 0 8 := ⟨_, _, Try.underlying82, rfl, rfl, by kernel_rfl, by decide⟩
theorem fld_82_1 : Fld Try.prog 82 1 8 8 := ⟨_, _, Try.underlying82, rfl, rfl, by kernel_rfl, by decide⟩
theorem sl_107 : Sl Try.prog 107 42 16 := ⟨by kernel_rfl, by kernel_rfl⟩
theorem ty_26 : Ty Try.prog 26 4 true := ⟨by kernel_rfl, by kernel_rfl⟩
theorem ty_4 : Ty Try.prog 4 1 false := ⟨by kernel_rfl, by kernel_rfl⟩
theorem ty_42 : Ty Try.prog 42 16 true := ⟨by kernel_rfl, by kernel_rfl⟩
theorem ty_80 : Ty Try.prog 80 8 true := ⟨by kernel_rfl, by kernel_rfl⟩
end LRayKeeps
open LRayKeeps
theorem zero_bool : Zero Try.prog 4 (BoA false) := Zero.of (z := .bool false) (by kernel_rfl) (fun _ _ => rfl)
theorem bo_and {c : Bool} (h : c = true) : Wk (Bo (c && true)) (Bo true) := by subst h; exact wk_id
abbrev Ls (q : MQ) : Prop := longQ q.a = false ∧ longQ q.b = false ∧ longQ q.c = false ∧ longQ q.d = false
abbrev Lr (q : YQ) : Prop := longQ q.y = false ∧ longQ q.u = false
theorem may1 {x : RM} (h : mayF x = true) : ∃ M, x = rmOf M ∧ okM (rmOf M) = true ∧ szM M ≤ 592 := by
  obtain ⟨h1, h2⟩ := may_sz h
  exact ⟨toM x, okM_rm h1, okM_rm h1 ▸ h1, h2⟩
theorem may2s {x y : RM} {r s : RR} (h : (((!([x, y].all mayF)) || decide (raySizeF r > 300)) || decide (raySizeF s > 300)) = false) (h2 : ((crF r s).2 != 0) = false) :
    (∃ M, x = rmOf M ∧ okM (rmOf M) = true ∧ szM M ≤ 592) ∧ (∃ M, y = rmOf M ∧ okM (rmOf M) = true ∧ szM M ≤ 592) ∧ (∃ R, r = rrOf R ∧ okR (rrOf R) = true ∧ szY R ≤ 296) ∧ (∃ R, s = rrOf R ∧ okR (rrOf R) = true ∧ szY R ≤ 296) := by
  have h2' : (crF r s).2 = 0 := by simpa using h2
  obtain ⟨k1, k2, k3⟩ := cr_ok h2'
  rw [ray_sz k1, ray_sz k2] at h
  simp only [Bool.or_eq_false_iff, decide_eq_false_iff_not] at h
  obtain ⟨⟨h0, h3⟩, h4⟩ := h
  simp only [List.all_cons, List.all_nil, Bool.and_true, Bool.not_eq_false', Bool.and_eq_true] at h0
  exact ⟨may1 h0.1, may1 h0.2, ⟨toY r, okR_rr k1, okR_rr k1 ▸ k1, by omega⟩, ⟨toY s, okR_rr k2, okR_rr k2 ▸ k2, by omega⟩⟩
theorem det_of {M : MQ} (h : okM (rmOf M) = true) : detM M = 1 := by have := (okM_q h).2; rwa [toM_of] at this
theorem okM_mul {M Q : MQ} (hm : okM (rmOf M) = true) (hq : okM (rmOf Q) = true) (hl : Ls (mulQ M Q)) : okM (rmOf (mulQ M Q)) = true :=
  okM_of hl.1 hl.2.1 hl.2.2.1 hl.2.2.2 (by rw [det_mul, det_of hm, det_of hq]; exact Rat.one_mul 1)
theorem beh_l {M Q : MQ} (hm : okM (rmOf M) = true) (hq : okM (rmOf Q) = true) (hl : Ls (mulQ M Q)) : Cm Try.prog 35 4 (BoA true) (BoA true) [.v (RMA (rmOf M)).va, .v (RMA (rmOf Q)).va, .w ptrH] ((RMA (rmOf (mulQ M Q))).va) := by
  obtain ⟨e1, e2, _⟩ := beh_eval hm hq (by rw [toM_of, toM_of]; exact hl)
  have h := behind_c (rmOf M) (rmOf Q) true
  rw [e1, e2, toM_of, toM_of] at h
  exact h
theorem back_l {M : MQ} (h : okM (rmOf M) = true) : Cn Try.prog 37 [(RMA (rmOf M)).va] (MR (rmOf (backQ M), 0)) := (back_c (rmOf M)).post (congrArg MR (by have := (back_eval h).1; rwa [toM_of] at this))
theorem mir_l {M : MQ} (h : okM (rmOf M) = true) : Cn Try.prog 38 [(RMA (rmOf M)).va] (MR (rmOf (mirQ M), 0)) := (mirror_c (rmOf M)).post (congrArg MR (by have := (mir_eval h).1; rwa [toM_of] at this))
theorem back_k {M : MQ} (h : okM (rmOf M) = true) : okM (rmOf (backQ M)) = true := by have := (back_eval h).2; rwa [toM_of] at this
theorem mir_k {M : MQ} (h : okM (rmOf M) = true) : okM (rmOf (mirQ M)) = true := by have := (mir_eval h).2; rwa [toM_of] at this
theorem go_l {M : MQ} {R : YQ} (hm : okM (rmOf M) = true) (hr : okR (rrOf R) = true) (hl : Lr (goQ M R)) : Cn Try.prog 55 [(RMA (rmOf M)).va, (RRA (rrOf R)).va] (YR (rrOf (goQ M R), 0)) := (through_c (rmOf M) (rrOf R)).post (congrArg YR (go_eval hm hr hl).1)
theorem go_k {M : MQ} {R : YQ} (hl : Lr (goQ M R)) : okR (rrOf (goQ M R)) = true := okR_of hl.1 hl.2
theorem cr_l {R R' : YQ} (h1 : okR (rrOf R) = true) (h2 : okR (rrOf R') = true) (hl : longQ (crossQ R R') = false) : Cn Try.prog 101 [(RRA (rrOf R)).va, (RRA (rrOf R')).va] (FrR (rfOf (crossQ R R'), 0)) := (cross_c (rrOf R) (rrOf R')).post (congrArg FrR (cr_eval h1 h2 hl))
theorem lr_of {R : YQ} (h : okR (rrOf R) = true) : Lr R := by have := okR_longs h; rwa [toY_of] at this
theorem lr_tu {R : YQ} (h : Lr R) : Lr (tuQ R) := ⟨h.1, by unfold tuQ; rw [long_min]; exact h.2⟩
theorem k_no {u v : RF} (h : u = v) (h2 : (((((0 : Int) != 0) || ((0 : Int) != 0)) || ((0 : Int) != 0)) || (!decide (u = v))) = true) : False := by
  rw [decide_eq_true h] at h2
  exact absurd h2 (by decide)
theorem k_no6 (h : (((((((0 : Int) != 0) || ((0 : Int) != 0)) || ((0 : Int) != 0)) || ((0 : Int) != 0)) || ((0 : Int) != 0)) || ((0 : Int) != 0)) = true) : False := absurd h (by decide)
theorem k_end {a b c d e f : RR} (h1 : a = b) (h2 : c = d) (h3 : e = f) : (((true && decide (a = b)) && decide (c = d)) && decide (e = f)) = true := by
  rw [decide_eq_true h1, decide_eq_true h2, decide_eq_true h3]
  rfl

set_option maxRecDepth 100000 in
theorem turned_c (r : RR) : Cn Try.prog 102 [(RRA r).va] ((RRA ⟨r.y, (subF (rfOf (Rat.divInt 0 1)) r.u).1⟩).va) := by
  refine Cn.intro Try.func102 rfl (by kernel_rfl) (Nat.le_of_ble_eq_true (by kernel_rfl)) (fun B w0 a hst => ?_)
  have hst : St B w0 22 [(0, (RRA r).va)] [] a w0.w := hst
  refine wp_seq ?_
  refine go_lin (sts := []) (news := [⟨1, 80, ptrH, some 0, _, none⟩, ⟨2, 80, ptrH, some 1, _, none⟩]) (sp := [.alc 0, .alc 1]) [] hst (obs_cons (ob_box rfl rfl rfl (has_g 0 rfl (by kernel_rfl) (by kernel_rfl))) (obs_cons (ob_alc rfl rfl rfl (Str.zero str_ray)) (obs_nil))) (by kernel_rfl) (by kernel_rfl) (by kernel_rfl) (fun a w hst => ?_)
  have hst : St B w0 22 [] [⟨1, 80, ptrH, _⟩, ⟨2, 80, ptrH, _⟩] a w := hst
  refine thn_normal ?_
  refine wp_seq ?_
  refine go_lin (sts := [none, none]) (news := [⟨3, 26, ptrH, some 4, _, some (5, _)⟩]) (sp := [.val 8 _, .val 7 _, .val 9 _, .val 10 _, .alc 2, .sto 2, .val 4 _]) [] hst (obs_cons (ob_v rfl rfl (r_call (xs := [.const (.int .i64 (0)), .const (.int .i64 (1))]) (ofQ_c (by decide) (by decide) (by decide) (by decide) (by decide)) (.cons has_num (.cons has_num .nil)))) (obs_cons (ob_v rfl rfl (r_move (has_v 0 rfl (by kernel_rfl) (by kernel_rfl)))) (obs_cons (ob_v rfl rfl (r_ex0 (has_v 1 rfl (by kernel_rfl) (by kernel_rfl)))) (obs_cons (ob_v rfl rfl (r_ex1 (has_v 1 rfl (by kernel_rfl) (by kernel_rfl)))) (obs_cons (ob_alc rfl rfl rfl (Str.zero str_frac)) (obs_cons (ob_sto rfl rfl rfl (has_v 2 rfl (by kernel_rfl) (by kernel_rfl)) ty_26 rfl) (obs_cons (ob_v rfl rfl (r_assign (has_v 3 rfl (by kernel_rfl) (by kernel_rfl)))) (obs_nil)))))))) (by kernel_rfl) (by kernel_rfl) (by kernel_rfl) (fun a w hst => ?_)
  have hst : St B w0 22 [] [⟨1, 80, ptrH, _⟩, ⟨2, 80, ptrH, _⟩, ⟨3, 26, ptrH, _⟩] a w := hst
  refine thn_normal ?_
  refine wp_seq ?_
  refine go_lin (sts := [none, none, none]) (news := [⟨5, 26, ptrH, some 7, _, some (8, _)⟩]) (sp := [.val 12 _, .adr 13 1 (.some 4) True, .val 14 _, .val 15 _, .val 11 _, .val 16 _, .val 17 _, .alc 3, .sto 3, .val 6 _]) [] hst (obs_cons (ob_v rfl rfl (r_load (loc_at0 2 rfl (by kernel_rfl)) ty_26)) (obs_cons (ob_a rfl rfl (a_fld (loc_at0 0 rfl (by kernel_rfl)) fld_80_1)) (obs_cons (ob_v rfl rfl (r_loadf 1 rfl (by kernel_rfl) trivial (loc_at0 0 rfl (by kernel_rfl)) (Sub.part 1 rfl rfl) ty_26)) (obs_cons (ob_v rfl rfl (r_call (xs := [.tmp 12, .tmp 14]) (subF_c _ _) (.cons (has_v 0 rfl (by kernel_rfl) (by kernel_rfl)) (.cons (has_v 2 rfl (by kernel_rfl) (by kernel_rfl)) .nil)))) (obs_cons (ob_v rfl rfl (r_move (has_v 3 rfl (by kernel_rfl) (by kernel_rfl)))) (obs_cons (ob_v rfl rfl (r_ex0 (has_v 4 rfl (by kernel_rfl) (by kernel_rfl)))) (obs_cons (ob_v rfl rfl (r_ex1 (has_v 4 rfl (by kernel_rfl) (by kernel_rfl)))) (obs_cons (ob_alc rfl rfl rfl (Str.zero str_frac)) (obs_cons (ob_sto rfl rfl rfl (has_v 5 rfl (by kernel_rfl) (by kernel_rfl)) ty_26 rfl) (obs_cons (ob_v rfl rfl (r_assign (has_v 6 rfl (by kernel_rfl) (by kernel_rfl)))) (obs_nil))))))))))) (by kernel_rfl) (by kernel_rfl) (by kernel_rfl) (fun a w hst => ?_)
  have hst : St B w0 22 [] [⟨1, 80, ptrH, _⟩, ⟨2, 80, ptrH, _⟩, ⟨3, 26, ptrH, _⟩, ⟨5, 26, ptrH, _⟩] a w := hst
  refine thn_normal ?_
  refine wp_seq ?_
  refine go_lin (sts := [none, some (4, _), none, none]) (news := []) (sp := [.adr 18 1 (.some 0) True, .val 19 _, .val 20 _, .val 21 _, .sto 1]) [] hst (obs_cons (ob_a rfl rfl (a_fld (loc_at0 0 rfl (by kernel_rfl)) fld_80_0)) (obs_cons (ob_v rfl rfl (r_loadf 0 rfl (by kernel_rfl) trivial (loc_at0 0 rfl (by kernel_rfl)) (Sub.part 0 rfl rfl) ty_26)) (obs_cons (ob_v rfl rfl (r_load (loc_at0 3 rfl (by kernel_rfl)) ty_26)) (obs_cons (ob_v rfl rfl (r_build (xs := [(0, .tmp 19), (1, .tmp 20)]) (qs := [(0, _), (1, _)]) str_ray (.cons ⟨rfl, (has_v 1 rfl (by kernel_rfl) (by kernel_rfl)), rfl⟩ (.cons ⟨rfl, (has_v 2 rfl (by kernel_rfl) (by kernel_rfl)), rfl⟩ .nil)))) (obs_cons (ob_sto rfl rfl rfl (has_v 3 rfl (by kernel_rfl) (by kernel_rfl)) ty_80 rfl) (obs_nil)))))) (by kernel_rfl) (by kernel_rfl) (by kernel_rfl) (fun a w hst => ?_)
  have hst : St B w0 22 [] [⟨1, 80, ptrH, _⟩, ⟨2, 80, ptrH, _⟩, ⟨3, 26, ptrH, _⟩, ⟨5, 26, ptrH, _⟩] a w := hst
  refine thn_normal ?_
  refine wp_ret ?_
  refine ret_wk ?_ (ret_cell rfl hst (List.mem_of_getElem? (i := 1) rfl) ty_80)
  exact wk_id

theorem turned_l {R : YQ} (h : Lr R) : Cn Try.prog 102 [(RRA (rrOf R)).va] ((RRA (rrOf (tuQ R))).va) := (turned_c (rrOf R)).post (congrArg (fun r => (RRA r).va) (by
  have e0 : (Rat.divInt 0 1 : Rat) = 0 := by kernel_rfl
  have h2 : longQ (0 - R.u) = false := by rw [long_neg]; exact h.2
  have e : (0 : Rat) - R.u = -R.u := by grind
  unfold rrOf tuQ
  rw [e0, sub_of long_zero h.2, ansF_ok (longQ_false.1 h2), e]))

set_option maxRecDepth 100000 in
theorem keeps_w (x y : RM) (r s : RR) : Cn Try.prog 54 [(RMA x).va, (RMA y).va, (RRA r).va, (RRA s).va] (Bo true) := by
  refine Cn.intro Try.func54 rfl (by kernel_rfl) (Nat.le_of_ble_eq_true (by kernel_rfl)) (fun B w0 a hst => ?_)
  have hst : St B w0 165 [(0, (RMA x).va), (1, (RMA y).va), (2, (RRA r).va), (3, (RRA s).va)] [] a w0.w := hst
  refine wp_seq ?_
  refine go_lin (sts := []) (news := [⟨4, 42, ptrH, some 0, _, none⟩, ⟨5, 42, ptrH, some 1, _, none⟩, ⟨6, 80, ptrH, some 2, _, none⟩, ⟨7, 80, ptrH, some 3, _, none⟩]) (sp := [.alc 0, .alc 1, .alc 2, .alc 3, .val 8 _]) [.o 4] hst (obs_cons (ob_box rfl rfl rfl (has_g 0 rfl (by kernel_rfl) (by kernel_rfl))) (obs_cons (ob_box rfl rfl rfl (has_g 1 rfl (by kernel_rfl) (by kernel_rfl))) (obs_cons (ob_box rfl rfl rfl (has_g 2 rfl (by kernel_rfl) (by kernel_rfl))) (obs_cons (ob_box rfl rfl rfl (has_g 3 rfl (by kernel_rfl) (by kernel_rfl))) (obs_cons (ob_v rfl rfl (r_assign has_bo)) (obs_nil)))))) (by kernel_rfl) (by kernel_rfl) (by kernel_rfl) (fun a w hst => ?_)
  have hst : St B w0 165 [(8, _)] [⟨4, 42, ptrH, _⟩, ⟨5, 42, ptrH, _⟩, ⟨6, 80, ptrH, _⟩, ⟨7, 80, ptrH, _⟩] a w := hst
  refine thn_normal ?_
  refine wp_seq ?_
  refine wp_seq ?_
  refine go_lin (sts := [none, none, none, none]) (news := []) (sp := [.val 27 _, .val 28 _, .val 29 _, .val 30 _, .val 31 _, .val 32 _, .val 33 (Wh (_ = false) _), .val 34 (Wh (_ = false) _), .val 35 (Wh (_ = false) _), .val 36 _, .val 37 _, .val 38 (Wh (_ = false) _), .val 39 (Wh (_ = false) _), .val 40 (Wh (_ = false) _), .val 41 _]) [.g 0, .o 14] hst (obs_cons (ob_v rfl rfl (r_load (loc_at0 0 rfl (by kernel_rfl)) ty_42)) (obs_cons (ob_v rfl rfl (r_load (loc_at0 1 rfl (by kernel_rfl)) ty_42)) (obs_cons (ob_v rfl rfl (r_slice (D := [U32]) (l := [_, _]) (xs := [.tmp 27, .tmp 28]) (nd_ok (by kernel_rfl)) sl_107 (by kernel_rfl) (n_ok (by kernel_rfl)) (Nat.le_of_ble_eq_true (by kernel_rfl)) (Nat.le_of_ble_eq_true (by kernel_rfl)) (Nat.le_of_ble_eq_true (by kernel_rfl)) (.cons (has_v 0 rfl (by kernel_rfl) (by kernel_rfl)) (.cons (has_v 1 rfl (by kernel_rfl) (by kernel_rfl)) .nil)) rfl rfl)) (obs_cons (ob_v rfl rfl (r_call (xs := [.tmp 29]) (may09_c [_, _]) (.cons (has_v 2 rfl (by kernel_rfl) (by kernel_rfl)) .nil))) (obs_cons (ob_v rfl rfl (r_not (has_v 3 rfl (by kernel_rfl) (by kernel_rfl)))) (obs_cons (ob_v rfl rfl (r_move (has_v 4 rfl (by kernel_rfl) (by kernel_rfl)))) (obs_cons (ob_gd rfl rfl rfl (has_v 5 rfl (by kernel_rfl) (by kernel_rfl)) (Nat.le_of_ble_eq_true (by kernel_rfl)) (fun hg => r_load (loc_at0 2 rfl (by kernel_rfl)) ty_80)) (obs_cons (ob_gd rfl rfl rfl (has_v 5 rfl (by kernel_rfl) (by kernel_rfl)) (Nat.le_of_ble_eq_true (by kernel_rfl)) (fun hg => r_call (xs := [.tmp 33]) (raySize_c _) (.cons (has_wh (has_v 6 rfl (by kernel_rfl) (by kernel_rfl)) hg) .nil))) (obs_cons (ob_gd rfl rfl rfl (has_v 5 rfl (by kernel_rfl) (by kernel_rfl)) (Nat.le_of_ble_eq_true (by kernel_rfl)) (fun hg => r_gtr (has_wh (has_v 7 rfl (by kernel_rfl) (by kernel_rfl)) hg) has_num)) (obs_cons (ob_v rfl rfl (r_or (has_v 5 rfl (by kernel_rfl) (by kernel_rfl)) (has_v 8 rfl (by kernel_rfl) (by kernel_rfl)))) (obs_cons (ob_v rfl rfl (r_move (has_v 9 rfl (by kernel_rfl) (by kernel_rfl)))) (obs_cons (ob_gd rfl rfl rfl (has_v 10 rfl (by kernel_rfl) (by kernel_rfl)) (Nat.le_of_ble_eq_true (by kernel_rfl)) (fun hg => r_load (loc_at0 3 rfl (by kernel_rfl)) ty_80)) (obs_cons (ob_gd rfl rfl rfl (has_v 10 rfl (by kernel_rfl) (by kernel_rfl)) (Nat.le_of_ble_eq_true (by kernel_rfl)) (fun hg => r_call (xs := [.tmp 38]) (raySize_c _) (.cons (has_wh (has_v 11 rfl (by kernel_rfl) (by kernel_rfl)) hg) .nil))) (obs_cons (ob_gd rfl rfl rfl (has_v 10 rfl (by kernel_rfl) (by kernel_rfl)) (Nat.le_of_ble_eq_true (by kernel_rfl)) (fun hg => r_gtr (has_wh (has_v 12 rfl (by kernel_rfl) (by kernel_rfl)) hg) has_num)) (obs_cons (ob_v rfl rfl (r_or (has_v 10 rfl (by kernel_rfl) (by kernel_rfl)) (has_v 13 rfl (by kernel_rfl) (by kernel_rfl)))) (obs_nil)))))))))))))))) (by kernel_rfl) (by kernel_rfl) (by kernel_rfl) (fun a w hst => ?_)
  have hst : St B w0 165 [(8, _), (41, _)] [⟨4, 42, ptrH, _⟩, ⟨5, 42, ptrH, _⟩, ⟨6, 80, ptrH, _⟩, ⟨7, 80, ptrH, _⟩] a w := hst
  refine thn_normal ?_
  refine cond_of hst (List.mem_of_getElem? (i := 1) rfl) (fun hb0 => ?_) (fun hb0 => ?_)
  · refine wp_seq ?_
    refine go_lin (sts := [none, none, none, none]) (news := []) (sp := [.val 42 _, .val 8 _]) [.o 1] hst (obs_cons (ob_v rfl rfl (r_call (xs := []) alive_c .nil)) (obs_cons (ob_v rfl rfl (r_assign (has_v 0 rfl (by kernel_rfl) (by kernel_rfl)))) (obs_nil))) (by kernel_rfl) (by kernel_rfl) (by kernel_rfl) (fun a w hst => ?_)
    have hst : St B w0 165 [(8, _)] [⟨4, 42, ptrH, _⟩, ⟨5, 42, ptrH, _⟩, ⟨6, 80, ptrH, _⟩, ⟨7, 80, ptrH, _⟩] a w := hst
    refine thn_normal ?_
    refine wp_ret ?_
    refine thn_ret ?_
    refine ret_wk ?_ (ret_tmp rfl hst (List.mem_of_getElem? (i := 0) rfl))
    exact wk_id
  · refine wp_skip ?_
    refine thn_normal ?_
    refine wp_seq ?_
    refine go_lin (sts := [none, none, none, none]) (news := [⟨9, 26, ptrH, some 6, _, some (7, _)⟩]) (sp := [.val 44 _, .val 45 _, .val 46 _, .val 43 _, .val 47 _, .val 48 _, .alc 4, .sto 4, .val 10 _]) [.g 0, .o 8] hst (obs_cons (ob_v rfl rfl (r_load (loc_at0 2 rfl (by kernel_rfl)) ty_80)) (obs_cons (ob_v rfl rfl (r_load (loc_at0 3 rfl (by kernel_rfl)) ty_80)) (obs_cons (ob_v rfl rfl (r_call (xs := [.tmp 44, .tmp 45]) (cross_c _ _) (.cons (has_v 0 rfl (by kernel_rfl) (by kernel_rfl)) (.cons (has_v 1 rfl (by kernel_rfl) (by kernel_rfl)) .nil)))) (obs_cons (ob_v rfl rfl (r_move (has_v 2 rfl (by kernel_rfl) (by kernel_rfl)))) (obs_cons (ob_v rfl rfl (r_ex0 (has_v 3 rfl (by kernel_rfl) (by kernel_rfl)))) (obs_cons (ob_v rfl rfl (r_ex1 (has_v 3 rfl (by kernel_rfl) (by kernel_rfl)))) (obs_cons (ob_alc rfl rfl rfl (Str.zero str_frac)) (obs_cons (ob_sto rfl rfl rfl (has_v 4 rfl (by kernel_rfl) (by kernel_rfl)) ty_26 rfl) (obs_cons (ob_v rfl rfl (r_assign (has_v 5 rfl (by kernel_rfl) (by kernel_rfl)))) (obs_nil)))))))))) (by kernel_rfl) (by kernel_rfl) (by kernel_rfl) (fun a w hst => ?_)
    have hst : St B w0 165 [(8, _), (10, _)] [⟨4, 42, ptrH, _⟩, ⟨5, 42, ptrH, _⟩, ⟨6, 80, ptrH, _⟩, ⟨7, 80, ptrH, _⟩, ⟨9, 26, ptrH, _⟩] a w := hst
    refine thn_normal ?_
    refine wp_seq ?_
    refine wp_seq ?_
    refine go_lin (sts := [none, none, none, none, none]) (news := []) (sp := [.val 49 _, .val 50 _]) [.g 0, .o 1] hst (obs_cons (ob_v rfl rfl (r_move (has_g 1 rfl (by kernel_rfl) (by kernel_rfl)))) (obs_cons (ob_v rfl rfl (r_neq (has_v 0 rfl (by kernel_rfl) (by kernel_rfl)) has_num)) (obs_nil))) (by kernel_rfl) (by kernel_rfl) (by kernel_rfl) (fun a w hst => ?_)
    have hst : St B w0 165 [(8, _), (50, _)] [⟨4, 42, ptrH, _⟩, ⟨5, 42, ptrH, _⟩, ⟨6, 80, ptrH, _⟩, ⟨7, 80, ptrH, _⟩, ⟨9, 26, ptrH, _⟩] a w := hst
    refine thn_normal ?_
    refine cond_of hst (List.mem_of_getElem? (i := 1) rfl) (fun hb1 => ?_) (fun hb1 => ?_)
    · refine wp_seq ?_
      refine go_lin (sts := [none, none, none, none, none]) (news := []) (sp := [.val 51 _, .val 8 _]) [.o 1] hst (obs_cons (ob_v rfl rfl (r_call (xs := []) alive_c .nil)) (obs_cons (ob_v rfl rfl (r_assign (has_v 0 rfl (by kernel_rfl) (by kernel_rfl)))) (obs_nil))) (by kernel_rfl) (by kernel_rfl) (by kernel_rfl) (fun a w hst => ?_)
      have hst : St B w0 165 [(8, _)] [⟨4, 42, ptrH, _⟩, ⟨5, 42, ptrH, _⟩, ⟨6, 80, ptrH, _⟩, ⟨7, 80, ptrH, _⟩, ⟨9, 26, ptrH, _⟩] a w := hst
      refine thn_normal ?_
      refine wp_ret ?_
      refine thn_ret ?_
      refine ret_wk ?_ (ret_tmp rfl hst (List.mem_of_getElem? (i := 0) rfl))
      exact wk_id
    · obtain ⟨⟨M, rfl, hM, sM⟩, ⟨N, rfl, hN, sN⟩, ⟨R, rfl, hR, sR⟩, ⟨Q, rfl, hS, sS⟩⟩ := may2s hb0 hb1
      have cz : (crF (rrOf R) (rrOf Q)).2 = 0 := by simpa using hb1
      have cl := (cr_ok cz).2.2
      rw [toY_of, toY_of] at cl
      have ce := cr_eval hR hS cl
      have x1 : Lr (goQ M R) := go_long (by omega)
      have y1 : Lr (goQ M Q) := go_long (by omega)
      have z1 : longQ (crossQ (goQ M R) (goQ M Q)) = false := by rw [cross_go (det_of hM)]; exact cl
      have a1 : Lr (goQ N (goQ M R)) := go_go_long (by omega)
      have l1 := mul_long (m := N) (q := M) (by omega)
      have k1 := okM_mul hN hM l1
      have b1 : Lr (goQ (mulQ N M) R) := by rw [← go_go]; exact a1
      have c1 : Lr (goQ (backQ M) (goQ M R)) := by rw [back_go (det_of hM)]; exact lr_of hR
      have d1 : Lr (goQ (mirQ M) (tuQ (goQ M R))) := by rw [mir_go (det_of hM)]; exact lr_tu (lr_of hR)
      refine wp_skip ?_
      refine thn_normal ?_
      refine wp_seq ?_
      refine go_lin (sts := [none, none, none, none, none]) (news := [⟨11, 4, ptrH, some 0, _, some (1, _)⟩]) (sp := [.alc 5, .sto 5]) [.g 0] hst (obs_cons (ob_alc rfl rfl rfl zero_bool) (obs_cons (ob_sto rfl rfl rfl has_bo ty_4 rfl) (obs_nil))) (by kernel_rfl) (by kernel_rfl) (by kernel_rfl) (fun a w hst => ?_)
      have hst : St B w0 165 [(8, _)] [⟨4, 42, ptrH, _⟩, ⟨5, 42, ptrH, _⟩, ⟨6, 80, ptrH, _⟩, ⟨7, 80, ptrH, _⟩, ⟨9, 26, ptrH, _⟩, ⟨11, 4, ptrH, _⟩] a w := hst
      refine thn_normal ?_
      refine wp_seq ?_
      refine go_lin (sts := [none, none, none, none, none, none]) (news := [⟨12, 80, ptrH, some 6, _, some (7, _)⟩]) (sp := [.val 53 _, .val 54 _, .val 55 _, .val 52 _, .val 56 _, .val 57 _, .alc 6, .sto 6, .val 13 _]) [.g 0, .o 8] hst (obs_cons (ob_v rfl rfl (r_load (loc_at0 0 rfl (by kernel_rfl)) ty_42)) (obs_cons (ob_v rfl rfl (r_load (loc_at0 2 rfl (by kernel_rfl)) ty_80)) (obs_cons (ob_v rfl rfl (r_call (xs := [.tmp 53, .tmp 54]) (go_l hM hR x1) (.cons (has_v 0 rfl (by kernel_rfl) (by kernel_rfl)) (.cons (has_v 1 rfl (by kernel_rfl) (by kernel_rfl)) .nil)))) (obs_cons (ob_v rfl rfl (r_move (has_v 2 rfl (by kernel_rfl) (by kernel_rfl)))) (obs_cons (ob_v rfl rfl (r_ex0 (has_v 3 rfl (by kernel_rfl) (by kernel_rfl)))) (obs_cons (ob_v rfl rfl (r_ex1 (has_v 3 rfl (by kernel_rfl) (by kernel_rfl)))) (obs_cons (ob_alc rfl rfl rfl (Str.zero str_ray)) (obs_cons (ob_sto rfl rfl rfl (has_v 4 rfl (by kernel_rfl) (by kernel_rfl)) ty_80 rfl) (obs_cons (ob_v rfl rfl (r_assign (has_v 5 rfl (by kernel_rfl) (by kernel_rfl)))) (obs_nil)))))))))) (by kernel_rfl) (by kernel_rfl) (by kernel_rfl) (fun a w hst => ?_)
      have hst : St B w0 165 [(8, _), (13, _)] [⟨4, 42, ptrH, _⟩, ⟨5, 42, ptrH, _⟩, ⟨6, 80, ptrH, _⟩, ⟨7, 80, ptrH, _⟩, ⟨9, 26, ptrH, _⟩, ⟨11, 4, ptrH, _⟩, ⟨12, 80, ptrH, _⟩] a w := hst
      refine thn_normal ?_
      refine wp_seq ?_
      refine go_lin (sts := [none, none, none, none, none, none, none]) (news := [⟨14, 80, ptrH, some 6, _, some (7, _)⟩]) (sp := [.val 59 _, .val 60 _, .val 61 _, .val 58 _, .val 62 _, .val 63 _, .alc 7, .sto 7, .val 15 _]) [.g 0, .g 1, .o 8] hst (obs_cons (ob_v rfl rfl (r_load (loc_at0 0 rfl (by kernel_rfl)) ty_42)) (obs_cons (ob_v rfl rfl (r_load (loc_at0 3 rfl (by kernel_rfl)) ty_80)) (obs_cons (ob_v rfl rfl (r_call (xs := [.tmp 59, .tmp 60]) (go_l hM hS y1) (.cons (has_v 0 rfl (by kernel_rfl) (by kernel_rfl)) (.cons (has_v 1 rfl (by kernel_rfl) (by kernel_rfl)) .nil)))) (obs_cons (ob_v rfl rfl (r_move (has_v 2 rfl (by kernel_rfl) (by kernel_rfl)))) (obs_cons (ob_v rfl rfl (r_ex0 (has_v 3 rfl (by kernel_rfl) (by kernel_rfl)))) (obs_cons (ob_v rfl rfl (r_ex1 (has_v 3 rfl (by kernel_rfl) (by kernel_rfl)))) (obs_cons (ob_alc rfl rfl rfl (Str.zero str_ray)) (obs_cons (ob_sto rfl rfl rfl (has_v 4 rfl (by kernel_rfl) (by kernel_rfl)) ty_80 rfl) (obs_cons (ob_v rfl rfl (r_assign (has_v 5 rfl (by kernel_rfl) (by kernel_rfl)))) (obs_nil)))))))))) (by kernel_rfl) (by kernel_rfl) (by kernel_rfl) (fun a w hst => ?_)
      have hst : St B w0 165 [(8, _), (13, _), (15, _)] [⟨4, 42, ptrH, _⟩, ⟨5, 42, ptrH, _⟩, ⟨6, 80, ptrH, _⟩, ⟨7, 80, ptrH, _⟩, ⟨9, 26, ptrH, _⟩, ⟨11, 4, ptrH, _⟩, ⟨12, 80, ptrH, _⟩, ⟨14, 80, ptrH, _⟩] a w := hst
      refine thn_normal ?_
      refine wp_seq ?_
      refine go_lin (sts := [none, none, none, none, none, none, none, none]) (news := [⟨16, 26, ptrH, some 6, _, some (7, _)⟩]) (sp := [.val 65 _, .val 66 _, .val 67 _, .val 64 _, .val 68 _, .val 69 _, .alc 8, .sto 8, .val 17 _]) [.g 0, .g 1, .g 2, .o 8] hst (obs_cons (ob_v rfl rfl (r_load (loc_at0 6 rfl (by kernel_rfl)) ty_80)) (obs_cons (ob_v rfl rfl (r_load (loc_at0 7 rfl (by kernel_rfl)) ty_80)) (obs_cons (ob_v rfl rfl (r_call (xs := [.tmp 65, .tmp 66]) (cr_l (go_k x1) (go_k y1) z1) (.cons (has_v 0 rfl (by kernel_rfl) (by kernel_rfl)) (.cons (has_v 1 rfl (by kernel_rfl) (by kernel_rfl)) .nil)))) (obs_cons (ob_v rfl rfl (r_move (has_v 2 rfl (by kernel_rfl) (by kernel_rfl)))) (obs_cons (ob_v rfl rfl (r_ex0 (has_v 3 rfl (by kernel_rfl) (by kernel_rfl)))) (obs_cons (ob_v rfl rfl (r_ex1 (has_v 3 rfl (by kernel_rfl) (by kernel_rfl)))) (obs_cons (ob_alc rfl rfl rfl (Str.zero str_frac)) (obs_cons (ob_sto rfl rfl rfl (has_v 4 rfl (by kernel_rfl) (by kernel_rfl)) ty_26 rfl) (obs_cons (ob_v rfl rfl (r_assign (has_v 5 rfl (by kernel_rfl) (by kernel_rfl)))) (obs_nil)))))))))) (by kernel_rfl) (by kernel_rfl) (by kernel_rfl) (fun a w hst => ?_)
      have hst : St B w0 165 [(8, _), (13, _), (15, _), (17, _)] [⟨4, 42, ptrH, _⟩, ⟨5, 42, ptrH, _⟩, ⟨6, 80, ptrH, _⟩, ⟨7, 80, ptrH, _⟩, ⟨9, 26, ptrH, _⟩, ⟨11, 4, ptrH, _⟩, ⟨12, 80, ptrH, _⟩, ⟨14, 80, ptrH, _⟩, ⟨16, 26, ptrH, _⟩] a w := hst
      refine thn_normal ?_
      refine wp_seq ?_
      refine wp_seq ?_
      refine go_lin (sts := [none, none, none, none, none, none, none, none, none]) (news := []) (sp := [.val 70 _, .val 71 _, .val 72 _, .val 73 (Wh (_ = false) _), .val 74 (Wh (_ = false) _), .val 75 _, .val 76 _, .val 77 (Wh (_ = false) _), .val 78 (Wh (_ = false) _), .val 79 _, .val 80 _, .val 81 (Wh (_ = false) _), .val 82 (Wh (_ = false) _), .val 83 (Wh (_ = false) _), .val 84 (Wh (_ = false) _), .val 85 _]) [.g 0, .g 1, .g 2, .g 3, .o 15] hst (obs_cons (ob_v rfl rfl (r_move (has_g 1 rfl (by kernel_rfl) (by kernel_rfl)))) (obs_cons (ob_v rfl rfl (r_neq (has_v 0 rfl (by kernel_rfl) (by kernel_rfl)) has_num)) (obs_cons (ob_v rfl rfl (r_move (has_v 1 rfl (by kernel_rfl) (by kernel_rfl)))) (obs_cons (ob_gd rfl rfl rfl (has_v 2 rfl (by kernel_rfl) (by kernel_rfl)) (Nat.le_of_ble_eq_true (by kernel_rfl)) (fun hg => r_move (has_g 2 rfl (by kernel_rfl) (by kernel_rfl)))) (obs_cons (ob_gd rfl rfl rfl (has_v 2 rfl (by kernel_rfl) (by kernel_rfl)) (Nat.le_of_ble_eq_true (by kernel_rfl)) (fun hg => r_neq (has_wh (has_v 3 rfl (by kernel_rfl) (by kernel_rfl)) hg) has_num)) (obs_cons (ob_v rfl rfl (r_or (has_v 2 rfl (by kernel_rfl) (by kernel_rfl)) (has_v 4 rfl (by kernel_rfl) (by kernel_rfl)))) (obs_cons (ob_v rfl rfl (r_move (has_v 5 rfl (by kernel_rfl) (by kernel_rfl)))) (obs_cons (ob_gd rfl rfl rfl (has_v 6 rfl (by kernel_rfl) (by kernel_rfl)) (Nat.le_of_ble_eq_true (by kernel_rfl)) (fun hg => r_move (has_g 3 rfl (by kernel_rfl) (by kernel_rfl)))) (obs_cons (ob_gd rfl rfl rfl (has_v 6 rfl (by kernel_rfl) (by kernel_rfl)) (Nat.le_of_ble_eq_true (by kernel_rfl)) (fun hg => r_neq (has_wh (has_v 7 rfl (by kernel_rfl) (by kernel_rfl)) hg) has_num)) (obs_cons (ob_v rfl rfl (r_or (has_v 6 rfl (by kernel_rfl) (by kernel_rfl)) (has_v 8 rfl (by kernel_rfl) (by kernel_rfl)))) (obs_cons (ob_v rfl rfl (r_move (has_v 9 rfl (by kernel_rfl) (by kernel_rfl)))) (obs_cons (ob_gd rfl rfl rfl (has_v 10 rfl (by kernel_rfl) (by kernel_rfl)) (Nat.le_of_ble_eq_true (by kernel_rfl)) (fun hg => r_load (loc_at0 4 rfl (by kernel_rfl)) ty_26)) (obs_cons (ob_gd rfl rfl rfl (has_v 10 rfl (by kernel_rfl) (by kernel_rfl)) (Nat.le_of_ble_eq_true (by kernel_rfl)) (fun hg => r_load (loc_at0 8 rfl (by kernel_rfl)) ty_26)) (obs_cons (ob_gd rfl rfl rfl (has_v 10 rfl (by kernel_rfl) (by kernel_rfl)) (Nat.le_of_ble_eq_true (by kernel_rfl)) (fun hg => r_call (xs := [.tmp 81, .tmp 82]) (sameFrac_c _ _) (.cons (has_wh (has_v 11 rfl (by kernel_rfl) (by kernel_rfl)) hg) (.cons (has_wh (has_v 12 rfl (by kernel_rfl) (by kernel_rfl)) hg) .nil)))) (obs_cons (ob_gd rfl rfl rfl (has_v 10 rfl (by kernel_rfl) (by kernel_rfl)) (Nat.le_of_ble_eq_true (by kernel_rfl)) (fun hg => r_not (has_wh (has_v 13 rfl (by kernel_rfl) (by kernel_rfl)) hg))) (obs_cons (ob_v rfl rfl (r_or (has_v 10 rfl (by kernel_rfl) (by kernel_rfl)) (has_v 14 rfl (by kernel_rfl) (by kernel_rfl)))) (obs_nil))))))))))))))))) (by kernel_rfl) (by kernel_rfl) (by kernel_rfl) (fun a w hst => ?_)
      have hst : St B w0 165 [(8, _), (13, _), (15, _), (17, _), (85, _)] [⟨4, 42, ptrH, _⟩, ⟨5, 42, ptrH, _⟩, ⟨6, 80, ptrH, _⟩, ⟨7, 80, ptrH, _⟩, ⟨9, 26, ptrH, _⟩, ⟨11, 4, ptrH, _⟩, ⟨12, 80, ptrH, _⟩, ⟨14, 80, ptrH, _⟩, ⟨16, 26, ptrH, _⟩] a w := hst
      refine thn_normal ?_
      refine cond_of hst (List.mem_of_getElem? (i := 4) rfl) (fun hb2 => ?_) (fun hb2 => ?_)
      · exact (k_no ((congrArg Prod.fst ce).trans (congrArg rfOf (cross_go (det_of hM) R Q).symm)) hb2).elim
      · refine wp_skip ?_
        refine thn_normal ?_
        refine wp_seq ?_
        refine go_lin (sts := [none, none, none, none, none, none, none, none, none]) (news := [⟨18, 80, ptrH, some 6, _, some (7, _)⟩]) (sp := [.val 87 _, .val 88 _, .val 89 _, .val 86 _, .val 90 _, .val 91 _, .alc 9, .sto 9, .val 13 _]) [.g 0, .g 2, .g 3, .o 8] hst (obs_cons (ob_v rfl rfl (r_load (loc_at0 1 rfl (by kernel_rfl)) ty_42)) (obs_cons (ob_v rfl rfl (r_load (loc_at0 6 rfl (by kernel_rfl)) ty_80)) (obs_cons (ob_v rfl rfl (r_call (xs := [.tmp 87, .tmp 88]) (go_l hN (go_k x1) a1) (.cons (has_v 0 rfl (by kernel_rfl) (by kernel_rfl)) (.cons (has_v 1 rfl (by kernel_rfl) (by kernel_rfl)) .nil)))) (obs_cons (ob_v rfl rfl (r_move (has_v 2 rfl (by kernel_rfl) (by kernel_rfl)))) (obs_cons (ob_v rfl rfl (r_ex0 (has_v 3 rfl (by kernel_rfl) (by kernel_rfl)))) (obs_cons (ob_v rfl rfl (r_ex1 (has_v 3 rfl (by kernel_rfl) (by kernel_rfl)))) (obs_cons (ob_alc rfl rfl rfl (Str.zero str_ray)) (obs_cons (ob_sto rfl rfl rfl (has_v 4 rfl (by kernel_rfl) (by kernel_rfl)) ty_80 rfl) (obs_cons (ob_v rfl rfl (r_assign (has_v 5 rfl (by kernel_rfl) (by kernel_rfl)))) (obs_nil)))))))))) (by kernel_rfl) (by kernel_rfl) (by kernel_rfl) (fun a w hst => ?_)
        have hst : St B w0 165 [(8, _), (15, _), (17, _), (13, _)] [⟨4, 42, ptrH, _⟩, ⟨5, 42, ptrH, _⟩, ⟨6, 80, ptrH, _⟩, ⟨7, 80, ptrH, _⟩, ⟨9, 26, ptrH, _⟩, ⟨11, 4, ptrH, _⟩, ⟨12, 80, ptrH, _⟩, ⟨14, 80, ptrH, _⟩, ⟨16, 26, ptrH, _⟩, ⟨18, 80, ptrH, _⟩] a w := hst
        refine thn_normal ?_
        refine wp_seq ?_
        refine go_draw (anc := [[], [], [0, 1], [], [0, 1, 2, 3], [0, 1, 2, 3, 4], [0, 1, 2, 3, 4, 5], [0, 1, 2, 3, 4, 5], [], [0, 1, 2, 3, 4, 5, 6, 8], [0, 1, 2, 3, 4, 5, 6, 7, 8, 9]]) (sts := [none, none, none, none, none, none, none, none, none, none]) (news := [⟨19, 80, ptrH, some 8, _, some (9, _)⟩]) (sp := [.val 93 _, .val 94 _, .val 95 _, .val 96 _, .val 97 _, .val 92 _, .val 98 _, .val 99 _, .alc 10, .sto 10, .val 15 _]) [.g 0, .g 2, .g 3, .o 10] follows_mixed hst (obs_cons (ob_v rfl rfl (r_load (loc_at0 1 rfl (by kernel_rfl)) ty_42)) (obs_cons (ob_v rfl rfl (r_load (loc_at0 0 rfl (by kernel_rfl)) ty_42)) (obs_cons (ob_v rfl rfl (r_same (xs := [.tmp 93, .tmp 94, .tmp 11]) (beh_l hN hM l1) (loc_at0 5 rfl (by kernel_rfl)) (.cons (has_v 0 rfl (by kernel_rfl) (by kernel_rfl)) (.cons (has_v 1 rfl (by kernel_rfl) (by kernel_rfl)) (.cons arw .nil))))) (obs_cons (ob_v rfl rfl (r_load (loc_at0 2 rfl (by kernel_rfl)) ty_80)) (obs_cons (ob_v rfl rfl (r_call (xs := [.tmp 95, .tmp 96]) (go_l k1 hR b1) (.cons (has_v 2 rfl (by kernel_rfl) (by kernel_rfl)) (.cons (has_v 3 rfl (by kernel_rfl) (by kernel_rfl)) .nil)))) (obs_cons (ob_v rfl rfl (r_move (has_v 4 rfl (by kernel_rfl) (by kernel_rfl)))) (obs_cons (ob_v rfl rfl (r_ex0 (has_v 5 rfl (by kernel_rfl) (by kernel_rfl)))) (obs_cons (ob_v rfl rfl (r_ex1 (has_v 5 rfl (by kernel_rfl) (by kernel_rfl)))) (obs_cons (ob_alc rfl rfl rfl (Str.zero str_ray)) (obs_cons (ob_sto rfl rfl rfl (has_v 6 rfl (by kernel_rfl) (by kernel_rfl)) ty_80 rfl) (obs_cons (ob_v rfl rfl (r_assign (has_v 7 rfl (by kernel_rfl) (by kernel_rfl)))) (obs_nil)))))))))))) (by kernel_rfl) (by kernel_rfl) (by kernel_rfl) (by kernel_rfl) (fun a w hst => ?_)
        have hst : St B w0 165 [(8, _), (17, _), (13, _), (15, _)] [⟨4, 42, ptrH, _⟩, ⟨5, 42, ptrH, _⟩, ⟨6, 80, ptrH, _⟩, ⟨7, 80, ptrH, _⟩, ⟨9, 26, ptrH, _⟩, ⟨11, 4, ptrH, _⟩, ⟨12, 80, ptrH, _⟩, ⟨14, 80, ptrH, _⟩, ⟨16, 26, ptrH, _⟩, ⟨18, 80, ptrH, _⟩, ⟨19, 80, ptrH, _⟩] a w := hst
        refine thn_normal ?_
        refine wp_seq ?_
        refine go_lin (sts := [none, none, none, none, none, none, none, none, none, none, none]) (news := [⟨20, 42, ptrH, some 5, _, some (6, _)⟩]) (sp := [.val 101 _, .val 102 _, .val 100 _, .val 103 _, .val 104 _, .alc 11, .sto 11, .val 17 _]) [.g 0, .g 2, .g 3, .o 7] hst (obs_cons (ob_v rfl rfl (r_load (loc_at0 0 rfl (by kernel_rfl)) ty_42)) (obs_cons (ob_v rfl rfl (r_call (xs := [.tmp 101]) (back_l hM) (.cons (has_v 0 rfl (by kernel_rfl) (by kernel_rfl)) .nil))) (obs_cons (ob_v rfl rfl (r_move (has_v 1 rfl (by kernel_rfl) (by kernel_rfl)))) (obs_cons (ob_v rfl rfl (r_ex0 (has_v 2 rfl (by kernel_rfl) (by kernel_rfl)))) (obs_cons (ob_v rfl rfl (r_ex1 (has_v 2 rfl (by kernel_rfl) (by kernel_rfl)))) (obs_cons (ob_alc rfl rfl rfl (Str.zero str_matrix)) (obs_cons (ob_sto rfl rfl rfl (has_v 3 rfl (by kernel_rfl) (by kernel_rfl)) ty_42 rfl) (obs_cons (ob_v rfl rfl (r_assign (has_v 4 rfl (by kernel_rfl) (by kernel_rfl)))) (obs_nil))))))))) (by kernel_rfl) (by kernel_rfl) (by kernel_rfl) (fun a w hst => ?_)
        have hst : St B w0 165 [(8, _), (13, _), (15, _), (17, _)] [⟨4, 42, ptrH, _⟩, ⟨5, 42, ptrH, _⟩, ⟨6, 80, ptrH, _⟩, ⟨7, 80, ptrH, _⟩, ⟨9, 26, ptrH, _⟩, ⟨11, 4, ptrH, _⟩, ⟨12, 80, ptrH, _⟩, ⟨14, 80, ptrH, _⟩, ⟨16, 26, ptrH, _⟩, ⟨18, 80, ptrH, _⟩, ⟨19, 80, ptrH, _⟩, ⟨20, 42, ptrH, _⟩] a w := hst
        refine thn_normal ?_
        refine wp_seq ?_
        refine go_lin (sts := [none, none, none, none, none, none, none, none, none, none, none, none]) (news := [⟨21, 80, ptrH, some 6, _, some (7, _)⟩]) (sp := [.val 106 _, .val 107 _, .val 108 _, .val 105 _, .val 109 _, .val 110 _, .alc 12, .sto 12, .val 22 _]) [.g 0, .g 1, .g 2, .g 3, .o 8] hst (obs_cons (ob_v rfl rfl (r_load (loc_at0 11 rfl (by kernel_rfl)) ty_42)) (obs_cons (ob_v rfl rfl (r_load (loc_at0 6 rfl (by kernel_rfl)) ty_80)) (obs_cons (ob_v rfl rfl (r_call (xs := [.tmp 106, .tmp 107]) (go_l (back_k hM) (go_k x1) c1) (.cons (has_v 0 rfl (by kernel_rfl) (by kernel_rfl)) (.cons (has_v 1 rfl (by kernel_rfl) (by kernel_rfl)) .nil)))) (obs_cons (ob_v rfl rfl (r_move (has_v 2 rfl (by kernel_rfl) (by kernel_rfl)))) (obs_cons (ob_v rfl rfl (r_ex0 (has_v 3 rfl (by kernel_rfl) (by kernel_rfl)))) (obs_cons (ob_v rfl rfl (r_ex1 (has_v 3 rfl (by kernel_rfl) (by kernel_rfl)))) (obs_cons (ob_alc rfl rfl rfl (Str.zero str_ray)) (obs_cons (ob_sto rfl rfl rfl (has_v 4 rfl (by kernel_rfl) (by kernel_rfl)) ty_80 rfl) (obs_cons (ob_v rfl rfl (r_assign (has_v 5 rfl (by kernel_rfl) (by kernel_rfl)))) (obs_nil)))))))))) (by kernel_rfl) (by kernel_rfl) (by kernel_rfl) (fun a w hst => ?_)
        have hst : St B w0 165 [(8, _), (13, _), (15, _), (17, _), (22, _)] [⟨4, 42, ptrH, _⟩, ⟨5, 42, ptrH, _⟩, ⟨6, 80, ptrH, _⟩, ⟨7, 80, ptrH, _⟩, ⟨9, 26, ptrH, _⟩, ⟨11, 4, ptrH, _⟩, ⟨12, 80, ptrH, _⟩, ⟨14, 80, ptrH, _⟩, ⟨16, 26, ptrH, _⟩, ⟨18, 80, ptrH, _⟩, ⟨19, 80, ptrH, _⟩, ⟨20, 42, ptrH, _⟩, ⟨21, 80, ptrH, _⟩] a w := hst
        refine thn_normal ?_
        refine wp_seq ?_
        refine go_lin (sts := [none, none, none, none, none, none, none, none, none, none, none, none, none]) (news := [⟨23, 42, ptrH, some 5, _, some (6, _)⟩]) (sp := [.val 112 _, .val 113 _, .val 111 _, .val 114 _, .val 115 _, .alc 13, .sto 13, .val 24 _]) [.g 0, .g 1, .g 2, .g 3, .g 4, .o 7] hst (obs_cons (ob_v rfl rfl (r_load (loc_at0 0 rfl (by kernel_rfl)) ty_42)) (obs_cons (ob_v rfl rfl (r_call (xs := [.tmp 112]) (mir_l hM) (.cons (has_v 0 rfl (by kernel_rfl) (by kernel_rfl)) .nil))) (obs_cons (ob_v rfl rfl (r_move (has_v 1 rfl (by kernel_rfl) (by kernel_rfl)))) (obs_cons (ob_v rfl rfl (r_ex0 (has_v 2 rfl (by kernel_rfl) (by kernel_rfl)))) (obs_cons (ob_v rfl rfl (r_ex1 (has_v 2 rfl (by kernel_rfl) (by kernel_rfl)))) (obs_cons (ob_alc rfl rfl rfl (Str.zero str_matrix)) (obs_cons (ob_sto rfl rfl rfl (has_v 3 rfl (by kernel_rfl) (by kernel_rfl)) ty_42 rfl) (obs_cons (ob_v rfl rfl (r_assign (has_v 4 rfl (by kernel_rfl) (by kernel_rfl)))) (obs_nil))))))))) (by kernel_rfl) (by kernel_rfl) (by kernel_rfl) (fun a w hst => ?_)
        have hst : St B w0 165 [(8, _), (13, _), (15, _), (17, _), (22, _), (24, _)] [⟨4, 42, ptrH, _⟩, ⟨5, 42, ptrH, _⟩, ⟨6, 80, ptrH, _⟩, ⟨7, 80, ptrH, _⟩, ⟨9, 26, ptrH, _⟩, ⟨11, 4, ptrH, _⟩, ⟨12, 80, ptrH, _⟩, ⟨14, 80, ptrH, _⟩, ⟨16, 26, ptrH, _⟩, ⟨18, 80, ptrH, _⟩, ⟨19, 80, ptrH, _⟩, ⟨20, 42, ptrH, _⟩, ⟨21, 80, ptrH, _⟩, ⟨23, 42, ptrH, _⟩] a w := hst
        refine thn_normal ?_
        refine wp_seq ?_
        refine go_draw (anc := [[], [], [1], [0, 1, 2], [0, 1, 2, 3], [0, 1, 2, 3, 4], [0, 1, 2, 3, 4], [], [0, 1, 2, 3, 4, 5, 7], [0, 1, 2, 3, 4, 5, 6, 7, 8]]) (sts := [none, none, none, none, none, none, none, none, none, none, none, none, none, none]) (news := [⟨25, 80, ptrH, some 7, _, some (8, _)⟩]) (sp := [.val 117 _, .val 118 _, .val 119 _, .val 120 _, .val 116 _, .val 121 _, .val 122 _, .alc 14, .sto 14, .val 26 _]) [.g 0, .g 1, .g 2, .g 3, .g 4, .g 5, .o 9] follows_mixed hst (obs_cons (ob_v rfl rfl (r_load (loc_at0 13 rfl (by kernel_rfl)) ty_42)) (obs_cons (ob_v rfl rfl (r_load (loc_at0 6 rfl (by kernel_rfl)) ty_80)) (obs_cons (ob_v rfl rfl (r_call (xs := [.tmp 118]) (turned_l x1) (.cons (has_v 1 rfl (by kernel_rfl) (by kernel_rfl)) .nil))) (obs_cons (ob_v rfl rfl (r_call (xs := [.tmp 117, .tmp 119]) (go_l (mir_k hM) (okR_of (lr_tu x1).1 (lr_tu x1).2) d1) (.cons (has_v 0 rfl (by kernel_rfl) (by kernel_rfl)) (.cons (has_v 2 rfl (by kernel_rfl) (by kernel_rfl)) .nil)))) (obs_cons (ob_v rfl rfl (r_move (has_v 3 rfl (by kernel_rfl) (by kernel_rfl)))) (obs_cons (ob_v rfl rfl (r_ex0 (has_v 4 rfl (by kernel_rfl) (by kernel_rfl)))) (obs_cons (ob_v rfl rfl (r_ex1 (has_v 4 rfl (by kernel_rfl) (by kernel_rfl)))) (obs_cons (ob_alc rfl rfl rfl (Str.zero str_ray)) (obs_cons (ob_sto rfl rfl rfl (has_v 5 rfl (by kernel_rfl) (by kernel_rfl)) ty_80 rfl) (obs_cons (ob_v rfl rfl (r_assign (has_v 6 rfl (by kernel_rfl) (by kernel_rfl)))) (obs_nil))))))))))) (by kernel_rfl) (by kernel_rfl) (by kernel_rfl) (by kernel_rfl) (fun a w hst => ?_)
        have hst : St B w0 165 [(8, _), (13, _), (15, _), (17, _), (22, _), (24, _), (26, _)] [⟨4, 42, ptrH, _⟩, ⟨5, 42, ptrH, _⟩, ⟨6, 80, ptrH, _⟩, ⟨7, 80, ptrH, _⟩, ⟨9, 26, ptrH, _⟩, ⟨11, 4, ptrH, _⟩, ⟨12, 80, ptrH, _⟩, ⟨14, 80, ptrH, _⟩, ⟨16, 26, ptrH, _⟩, ⟨18, 80, ptrH, _⟩, ⟨19, 80, ptrH, _⟩, ⟨20, 42, ptrH, _⟩, ⟨21, 80, ptrH, _⟩, ⟨23, 42, ptrH, _⟩, ⟨25, 80, ptrH, _⟩] a w := hst
        refine thn_normal ?_
        refine wp_seq ?_
        refine wp_seq ?_
        refine go_lin (sts := [none, none, none, none, none, none, none, none, none, none, none, none, none, none, none]) (news := []) (sp := [.val 123 _, .val 124 _, .val 125 _, .val 126 (Wh (_ = false) _), .val 127 (Wh (_ = false) _), .val 128 _, .val 129 _, .val 130 (Wh (_ = false) _), .val 131 (Wh (_ = false) _), .val 132 _, .val 133 _, .val 134 (Wh (_ = false) _), .val 135 (Wh (_ = false) _), .val 136 _, .val 137 _, .val 138 (Wh (_ = false) _), .val 139 (Wh (_ = false) _), .val 140 _, .val 141 _, .val 142 (Wh (_ = false) _), .val 143 (Wh (_ = false) _), .val 144 _]) [.g 0, .o 21] hst (obs_cons (ob_v rfl rfl (r_move (has_g 1 rfl (by kernel_rfl) (by kernel_rfl)))) (obs_cons (ob_v rfl rfl (r_neq (has_v 0 rfl (by kernel_rfl) (by kernel_rfl)) has_num)) (obs_cons (ob_v rfl rfl (r_move (has_v 1 rfl (by kernel_rfl) (by kernel_rfl)))) (obs_cons (ob_gd rfl rfl rfl (has_v 2 rfl (by kernel_rfl) (by kernel_rfl)) (Nat.le_of_ble_eq_true (by kernel_rfl)) (fun hg => r_move (has_g 2 rfl (by kernel_rfl) (by kernel_rfl)))) (obs_cons (ob_gd rfl rfl rfl (has_v 2 rfl (by kernel_rfl) (by kernel_rfl)) (Nat.le_of_ble_eq_true (by kernel_rfl)) (fun hg => r_neq (has_wh (has_v 3 rfl (by kernel_rfl) (by kernel_rfl)) hg) has_num)) (obs_cons (ob_v rfl rfl (r_or (has_v 2 rfl (by kernel_rfl) (by kernel_rfl)) (has_v 4 rfl (by kernel_rfl) (by kernel_rfl)))) (obs_cons (ob_v rfl rfl (r_move (has_v 5 rfl (by kernel_rfl) (by kernel_rfl)))) (obs_cons (ob_gd rfl rfl rfl (has_v 6 rfl (by kernel_rfl) (by kernel_rfl)) (Nat.le_of_ble_eq_true (by kernel_rfl)) (fun hg => r_move (has_g 3 rfl (by kernel_rfl) (by kernel_rfl)))) (obs_cons (ob_gd rfl rfl rfl (has_v 6 rfl (by kernel_rfl) (by kernel_rfl)) (Nat.le_of_ble_eq_true (by kernel_rfl)) (fun hg => r_neq (has_wh (has_v 7 rfl (by kernel_rfl) (by kernel_rfl)) hg) has_num)) (obs_cons (ob_v rfl rfl (r_or (has_v 6 rfl (by kernel_rfl) (by kernel_rfl)) (has_v 8 rfl (by kernel_rfl) (by kernel_rfl)))) (obs_cons (ob_v rfl rfl (r_move (has_v 9 rfl (by kernel_rfl) (by kernel_rfl)))) (obs_cons (ob_gd rfl rfl rfl (has_v 10 rfl (by kernel_rfl) (by kernel_rfl)) (Nat.le_of_ble_eq_true (by kernel_rfl)) (fun hg => r_move (has_g 4 rfl (by kernel_rfl) (by kernel_rfl)))) (obs_cons (ob_gd rfl rfl rfl (has_v 10 rfl (by kernel_rfl) (by kernel_rfl)) (Nat.le_of_ble_eq_true (by kernel_rfl)) (fun hg => r_neq (has_wh (has_v 11 rfl (by kernel_rfl) (by kernel_rfl)) hg) has_num)) (obs_cons (ob_v rfl rfl (r_or (has_v 10 rfl (by kernel_rfl) (by kernel_rfl)) (has_v 12 rfl (by kernel_rfl) (by kernel_rfl)))) (obs_cons (ob_v rfl rfl (r_move (has_v 13 rfl (by kernel_rfl) (by kernel_rfl)))) (obs_cons (ob_gd rfl rfl rfl (has_v 14 rfl (by kernel_rfl) (by kernel_rfl)) (Nat.le_of_ble_eq_true (by kernel_rfl)) (fun hg => r_move (has_g 5 rfl (by kernel_rfl) (by kernel_rfl)))) (obs_cons (ob_gd rfl rfl rfl (has_v 14 rfl (by kernel_rfl) (by kernel_rfl)) (Nat.le_of_ble_eq_true (by kernel_rfl)) (fun hg => r_neq (has_wh (has_v 15 rfl (by kernel_rfl) (by kernel_rfl)) hg) has_num)) (obs_cons (ob_v rfl rfl (r_or (has_v 14 rfl (by kernel_rfl) (by kernel_rfl)) (has_v 16 rfl (by kernel_rfl) (by kernel_rfl)))) (obs_cons (ob_v rfl rfl (r_move (has_v 17 rfl (by kernel_rfl) (by kernel_rfl)))) (obs_cons (ob_gd rfl rfl rfl (has_v 18 rfl (by kernel_rfl) (by kernel_rfl)) (Nat.le_of_ble_eq_true (by kernel_rfl)) (fun hg => r_move (has_g 6 rfl (by kernel_rfl) (by kernel_rfl)))) (obs_cons (ob_gd rfl rfl rfl (has_v 18 rfl (by kernel_rfl) (by kernel_rfl)) (Nat.le_of_ble_eq_true (by kernel_rfl)) (fun hg => r_neq (has_wh (has_v 19 rfl (by kernel_rfl) (by kernel_rfl)) hg) has_num)) (obs_cons (ob_v rfl rfl (r_or (has_v 18 rfl (by kernel_rfl) (by kernel_rfl)) (has_v 20 rfl (by kernel_rfl) (by kernel_rfl)))) (obs_nil))))))))))))))))))))))) (by kernel_rfl) (by kernel_rfl) (by kernel_rfl) (fun a w hst => ?_)
        have hst : St B w0 165 [(8, _), (144, _)] [⟨4, 42, ptrH, _⟩, ⟨5, 42, ptrH, _⟩, ⟨6, 80, ptrH, _⟩, ⟨7, 80, ptrH, _⟩, ⟨9, 26, ptrH, _⟩, ⟨11, 4, ptrH, _⟩, ⟨12, 80, ptrH, _⟩, ⟨14, 80, ptrH, _⟩, ⟨16, 26, ptrH, _⟩, ⟨18, 80, ptrH, _⟩, ⟨19, 80, ptrH, _⟩, ⟨20, 42, ptrH, _⟩, ⟨21, 80, ptrH, _⟩, ⟨23, 42, ptrH, _⟩, ⟨25, 80, ptrH, _⟩] a w := hst
        refine thn_normal ?_
        refine cond_of hst (List.mem_of_getElem? (i := 1) rfl) (fun hb3 => ?_) (fun hb3 => ?_)
        · exact (k_no6 hb3).elim
        · refine wp_skip ?_
          refine thn_normal ?_
          refine wp_seq ?_
          refine go_draw (anc := [[], [0], [0, 1], [0, 1], [0, 1, 2, 3], [0, 1, 2, 3, 4], [0, 1, 2, 3, 4, 5], [0, 1, 2, 3, 4, 5, 6], [0, 1, 2, 3, 4, 5, 6], [0, 1, 2, 3, 4, 5, 6, 7, 8], [0, 1, 2, 3, 4, 5, 6, 7, 8, 9], [0, 1, 2, 3, 4, 5, 6, 7, 8, 9, 10], [0, 1, 2, 3, 4, 5, 6, 7, 8, 9, 10, 11], [0, 1, 2, 3, 4, 5, 6, 7, 8, 9, 10, 11], [0, 1, 2, 3, 4, 5, 6, 7, 8, 9, 10, 11, 13], [0, 1, 2, 3, 4, 5, 6, 7, 8, 9, 10, 11, 12, 13, 14], [0, 1, 2, 3, 4, 5, 6, 7, 8, 9, 10, 11, 12, 13, 14, 15], [0, 1, 2, 3, 4, 5, 6, 7, 8, 9, 10, 11, 12, 13, 14, 15, 16], [0, 1, 2, 3, 4, 5, 6, 7, 8, 9, 10, 11, 12, 13, 14, 15, 16, 17], [0, 1, 2, 3, 4, 5, 6, 7, 8, 9, 10, 11, 12, 13, 14, 15, 16, 17, 18], [0, 1, 2, 3, 4, 5, 6, 7, 8, 9, 10, 11, 12, 13, 14, 15, 16, 17, 18, 19]]) (sts := [none, none, none, none, none, none, none, none, none, none, none, none, none, none, none]) (news := []) (sp := [.val 145 _, .val 146 _, .val 147 (Wh (_ = true) _), .val 148 (Wh (_ = true) _), .val 149 (Wh (_ = true) _), .val 150 _, .val 151 _, .val 152 (Wh (_ = true) _), .val 153 (Wh (_ = true) _), .val 154 (Wh (_ = true) _), .val 155 _, .val 156 _, .val 157 (Wh (_ = true) _), .val 158 (Wh (_ = true) _), .val 159 (Wh (_ = true) _), .val 160 (Wh (_ = true) _), .val 161 _, .val 162 _, .val 163 (Wh (_ = true) _), .val 164 _, .val 8 _]) [.o 20] follows_mixed hst (obs_cons (ob_v rfl rfl (r_load (loc_at0 5 rfl (by kernel_rfl)) ty_4)) (obs_cons (ob_v rfl rfl (r_move (has_v 0 rfl (by kernel_rfl) (by kernel_rfl)))) (obs_cons (ob_gd rfl rfl rfl (has_v 1 rfl (by kernel_rfl) (by kernel_rfl)) (Nat.le_of_ble_eq_true (by kernel_rfl)) (fun hg => r_load (loc_at0 9 rfl (by kernel_rfl)) ty_80)) (obs_cons (ob_gd rfl rfl rfl (has_v 1 rfl (by kernel_rfl) (by kernel_rfl)) (Nat.le_of_ble_eq_true (by kernel_rfl)) (fun hg => r_load (loc_at0 10 rfl (by kernel_rfl)) ty_80)) (obs_cons (ob_gd rfl rfl rfl (has_v 1 rfl (by kernel_rfl) (by kernel_rfl)) (Nat.le_of_ble_eq_true (by kernel_rfl)) (fun hg => r_call (xs := [.tmp 147, .tmp 148]) (sameRay_c _ _) (.cons (has_wh (has_v 2 rfl (by kernel_rfl) (by kernel_rfl)) hg) (.cons (has_wh (has_v 3 rfl (by kernel_rfl) (by kernel_rfl)) hg) .nil)))) (obs_cons (ob_v rfl rfl (r_and (has_v 1 rfl (by kernel_rfl) (by kernel_rfl)) (has_v 4 rfl (by kernel_rfl) (by kernel_rfl)))) (obs_cons (ob_v rfl rfl (r_move (has_v 5 rfl (by kernel_rfl) (by kernel_rfl)))) (obs_cons (ob_gd rfl rfl rfl (has_v 6 rfl (by kernel_rfl) (by kernel_rfl)) (Nat.le_of_ble_eq_true (by kernel_rfl)) (fun hg => r_load (loc_at0 12 rfl (by kernel_rfl)) ty_80)) (obs_cons (ob_gd rfl rfl rfl (has_v 6 rfl (by kernel_rfl) (by kernel_rfl)) (Nat.le_of_ble_eq_true (by kernel_rfl)) (fun hg => r_load (loc_at0 2 rfl (by kernel_rfl)) ty_80)) (obs_cons (ob_gd rfl rfl rfl (has_v 6 rfl (by kernel_rfl) (by kernel_rfl)) (Nat.le_of_ble_eq_true (by kernel_rfl)) (fun hg => r_call (xs := [.tmp 152, .tmp 153]) (sameRay_c _ _) (.cons (has_wh (has_v 7 rfl (by kernel_rfl) (by kernel_rfl)) hg) (.cons (has_wh (has_v 8 rfl (by kernel_rfl) (by kernel_rfl)) hg) .nil)))) (obs_cons (ob_v rfl rfl (r_and (has_v 6 rfl (by kernel_rfl) (by kernel_rfl)) (has_v 9 rfl (by kernel_rfl) (by kernel_rfl)))) (obs_cons (ob_v rfl rfl (r_move (has_v 10 rfl (by kernel_rfl) (by kernel_rfl)))) (obs_cons (ob_gd rfl rfl rfl (has_v 11 rfl (by kernel_rfl) (by kernel_rfl)) (Nat.le_of_ble_eq_true (by kernel_rfl)) (fun hg => r_load (loc_at0 14 rfl (by kernel_rfl)) ty_80)) (obs_cons (ob_gd rfl rfl rfl (has_v 11 rfl (by kernel_rfl) (by kernel_rfl)) (Nat.le_of_ble_eq_true (by kernel_rfl)) (fun hg => r_load (loc_at0 2 rfl (by kernel_rfl)) ty_80)) (obs_cons (ob_gd rfl rfl rfl (has_v 11 rfl (by kernel_rfl) (by kernel_rfl)) (Nat.le_of_ble_eq_true (by kernel_rfl)) (fun hg => r_call (xs := [.tmp 158]) (turned_l (lr_of hR)) (.cons (has_wh (has_v 13 rfl (by kernel_rfl) (by kernel_rfl)) hg) .nil))) (obs_cons (ob_gd rfl rfl rfl (has_v 11 rfl (by kernel_rfl) (by kernel_rfl)) (Nat.le_of_ble_eq_true (by kernel_rfl)) (fun hg => r_call (xs := [.tmp 157, .tmp 159]) (sameRay_c _ _) (.cons (has_wh (has_v 12 rfl (by kernel_rfl) (by kernel_rfl)) hg) (.cons (has_wh (has_v 14 rfl (by kernel_rfl) (by kernel_rfl)) hg) .nil)))) (obs_cons (ob_v rfl rfl (r_and (has_v 11 rfl (by kernel_rfl) (by kernel_rfl)) (has_v 15 rfl (by kernel_rfl) (by kernel_rfl)))) (obs_cons (ob_v rfl rfl (r_move (has_v 16 rfl (by kernel_rfl) (by kernel_rfl)))) (obs_cons (ob_gd rfl rfl rfl (has_v 17 rfl (by kernel_rfl) (by kernel_rfl)) (Nat.le_of_ble_eq_true (by kernel_rfl)) (fun hg => r_call (xs := []) alive_c .nil)) (obs_cons (ob_v rfl rfl (r_and (has_v 17 rfl (by kernel_rfl) (by kernel_rfl)) (has_v 18 rfl (by kernel_rfl) (by kernel_rfl)))) (obs_cons (ob_v rfl rfl (r_assign (has_v 19 rfl (by kernel_rfl) (by kernel_rfl)))) (obs_nil)))))))))))))))))))))) (by kernel_rfl) (by kernel_rfl) (by kernel_rfl) (by kernel_rfl) (fun a w hst => ?_)
          have hst : St B w0 165 [(8, _)] [⟨4, 42, ptrH, _⟩, ⟨5, 42, ptrH, _⟩, ⟨6, 80, ptrH, _⟩, ⟨7, 80, ptrH, _⟩, ⟨9, 26, ptrH, _⟩, ⟨11, 4, ptrH, _⟩, ⟨12, 80, ptrH, _⟩, ⟨14, 80, ptrH, _⟩, ⟨16, 26, ptrH, _⟩, ⟨18, 80, ptrH, _⟩, ⟨19, 80, ptrH, _⟩, ⟨20, 42, ptrH, _⟩, ⟨21, 80, ptrH, _⟩, ⟨23, 42, ptrH, _⟩, ⟨25, 80, ptrH, _⟩] a w := hst
          refine thn_normal ?_
          refine wp_ret ?_
          refine ret_wk ?_ (ret_tmp rfl hst (List.mem_of_getElem? (i := 0) rfl))
          exact bo_and (k_end (congrArg rrOf (go_go N M R)) (congrArg rrOf (back_go (det_of hM) R)) (congrArg rrOf (mir_go (det_of hM) R)))

set_option maxRecDepth 100000 in
theorem rayKeeps_w (x : RM × RM) (y : RR × RR) : Cn Try.prog 10 [(TwoA x).va, (PairA y).va] (Bo true) := by
  refine Cn.intro Try.func10 rfl (by kernel_rfl) (Nat.le_of_ble_eq_true (by kernel_rfl)) (fun B w0 a hst => ?_)
  have hst : St B w0 14 [(0, (TwoA x).va), (1, (PairA y).va)] [] a w0.w := hst
  refine wp_seq ?_
  refine go_lin (sts := []) (news := [⟨2, 78, ptrH, some 0, _, none⟩, ⟨3, 82, ptrH, some 1, _, none⟩]) (sp := [.alc 0, .alc 1, .val 4 _]) [.o 2] hst (obs_cons (ob_box rfl rfl rfl (has_g 0 rfl (by kernel_rfl) (by kernel_rfl))) (obs_cons (ob_box rfl rfl rfl (has_g 1 rfl (by kernel_rfl) (by kernel_rfl))) (obs_cons (ob_v rfl rfl (r_assign has_bo)) (obs_nil)))) (by kernel_rfl) (by kernel_rfl) (by kernel_rfl) (fun a w hst => ?_)
  have hst : St B w0 14 [(4, _)] [⟨2, 78, ptrH, _⟩, ⟨3, 82, ptrH, _⟩] a w := hst
  refine thn_normal ?_
  refine wp_seq ?_
  refine go_lin (sts := [none, none]) (news := []) (sp := [.adr 5 2 (.some 0) True, .val 6 _, .adr 7 2 (.some 16) True, .val 8 _, .adr 9 3 (.some 0) True, .val 10 _, .adr 11 3 (.some 8) True, .val 12 _, .val 13 _, .val 4 _]) [.o 9] hst (obs_cons (ob_a rfl rfl (a_fld (loc_at0 0 rfl (by kernel_rfl)) fld_78_0)) (obs_cons (ob_v rfl rfl (r_loadf 0 rfl (by kernel_rfl) trivial (loc_at0 0 rfl (by kernel_rfl)) (Sub.part 0 rfl rfl) ty_42)) (obs_cons (ob_a rfl rfl (a_fld (loc_at0 0 rfl (by kernel_rfl)) fld_78_1)) (obs_cons (ob_v rfl rfl (r_loadf 2 rfl (by kernel_rfl) trivial (loc_at0 0 rfl (by kernel_rfl)) (Sub.part 1 rfl rfl) ty_42)) (obs_cons (ob_a rfl rfl (a_fld (loc_at0 1 rfl (by kernel_rfl)) fld_82_0)) (obs_cons (ob_v rfl rfl (r_loadf 4 rfl (by kernel_rfl) trivial (loc_at0 1 rfl (by kernel_rfl)) (Sub.part 0 rfl rfl) ty_80)) (obs_cons (ob_a rfl rfl (a_fld (loc_at0 1 rfl (by kernel_rfl)) fld_82_1)) (obs_cons (ob_v rfl rfl (r_loadf 6 rfl (by kernel_rfl) trivial (loc_at0 1 rfl (by kernel_rfl)) (Sub.part 1 rfl rfl) ty_80)) (obs_cons (ob_v rfl rfl (r_call (xs := [.tmp 6, .tmp 8, .tmp 10, .tmp 12]) (keeps_w _ _ _ _) (.cons (has_v 1 rfl (by kernel_rfl) (by kernel_rfl)) (.cons (has_v 3 rfl (by kernel_rfl) (by kernel_rfl)) (.cons (has_v 5 rfl (by kernel_rfl) (by kernel_rfl)) (.cons (has_v 7 rfl (by kernel_rfl) (by kernel_rfl)) .nil)))))) (obs_cons (ob_v rfl rfl (r_assign (has_v 8 rfl (by kernel_rfl) (by kernel_rfl)))) (obs_nil))))))))))) (by kernel_rfl) (by kernel_rfl) (by kernel_rfl) (fun a w hst => ?_)
  have hst : St B w0 14 [(4, _)] [⟨2, 78, ptrH, _⟩, ⟨3, 82, ptrH, _⟩] a w := hst
  refine thn_normal ?_
  refine wp_ret ?_
  refine ret_wk ?_ (ret_tmp rfl hst (List.mem_of_getElem? (i := 0) rfl))
  exact wk_id

open Go.ChangeShapes Go.WideShapes Go.ChangeAt
open Go.ChangeMaps (open_string shut_string)
set_option linter.unusedVariables false
theorem own : ownKnob Try.prog.godebug = none := by kernel_rfl
theorem laidOut : laidOutB Try.prog = true := by kernel_rfl
set_option maxRecDepth 100000 in
theorem lifted (os : Os) (started : os.Started) (H : Type) (enc : TypeId × Value → H) :
    ReturnsInHanded {} Try.checked os 10 .any (Rows.rayKeepsSpec.pre6 enc Try.prog Try.f10 Rows.rayKeepsRow.domain false) (Rows.rayKeepsSpec.post enc Try.prog Try.f10 false true false false) := by
  refine returnsInHanded_of_change (C := Try.checked) own started (by kernel_rfl) Try.func10
    (ChangeSpec.witness6 (enc := enc) (C := Try.checked) false ⟨#[], #[.agg #[.bool false, .slice none 0 0, .bool false, .slice none 0 0, .bool false, .slice none 0 0, .bool false, .slice none 0 0, .bool false, .slice none 0 0, .bool false, .slice none 0 0, .bool false, .slice none 0 0, .bool false, .slice none 0 0, .bool false, .slice none 0 0, .bool false, .slice none 0 0, .bool false, .slice none 0 0, .bool false, .slice none 0 0, .bool false, .slice none 0 0, .bool false, .slice none 0 0, .bool false, .slice none 0 0, .bool false, .slice none 0 0], .agg #[.bool false, .slice none 0 0, .bool false, .slice none 0 0, .bool false, .slice none 0 0, .bool false, .slice none 0 0, .bool false, .slice none 0 0, .bool false, .slice none 0 0, .bool false, .slice none 0 0, .bool false, .slice none 0 0]], []⟩ 8 (by kernel_rfl) (by kernel_rfl) (by kernel_rfl) (by kernel_rfl)) ?_
  intro W base args ds gs before hval0 hW hcnd _
  have hval : ∀ (j : Nat) t v, Try.f10.params[j]? = some t → args[j]? = some v → Value.okWide Try.prog W .any base t v := hval0
  have hW' := hW
  obtain ⟨p, q, hA0, hV, rfl, hfz, hnd⟩ := hW
  have hA : DataW.TrodAll enc Try.prog W 0 (fun _ => true) true Try.f10.params.toList args.toList ds p := hA0
  rw [Try.params10] at hA hval
  obtain ⟨v0, vs0, d0, ds0, p0, q0, hargs, rfl, rfl, h0, r0⟩ := trodAll_cons hA
  obtain ⟨v1, vs1, d1, ds1, p1, q1, rfl, rfl, rfl, h1, r1⟩ := trodAll_cons r0
  obtain ⟨rfl, rfl, rfl⟩ := trodAll_nil r1
  obtain rfl : args = #[v0, v1] := by cases args; simp_all
  obtain ⟨rfl, rfl⟩ := trodVars_none hV
  have k0 := h0
  have lt0 : ∀ x ∈ p0, x.block < W.heap.size := by obtain ⟨m, hm⟩ := k0; exact DataW.trod_lt m _ _ _ hm
  have k1 := h1
  have lt1 : ∀ x ∈ p1, x.block < W.heap.size := by obtain ⟨m, hm⟩ := k1; exact DataW.trod_lt m _ _ _ hm
  obtain ⟨x0, a0⟩ := arg_of (A := TwoA) (fun _ => rfl) Try.underlying78 rd_two (hval 0 78 v0 rfl rfl) h0
  obtain ⟨x1, a1⟩ := arg_of (A := PairA) (fun _ => rfl) Try.underlying82 rd_pair (hval 1 82 v1 rfl rfl) h1
  clear hA0 hval0
  refine ((rayKeeps_w x0 x1).2 W.heap.size W [v0, v1] (Nat.le_refl _) (.cons a0 (.cons a1 .nil))).mono fun e W' ⟨v, he, hv, bel⟩ => ?_
  have hv' := bo_val hv
  subst hv' he
  exact ⟨_, rfl, _, _, _, [], _, [], hW', trodAll_mk1 (shut_bool Try.underlying4 _), (trodAll_cons_mk (Below.trod laidOut (by kernel_rfl) (of_decide_eq_true (by kernel_rfl)) k0 bel lt0) (trodAll_cons_mk (Below.trod laidOut (by kernel_rfl) (of_decide_eq_true (by kernel_rfl)) k1 bel lt1) trodAll_mk0)), rfl, bel.frame _, fun h => by cases h⟩
theorem over : Rows.rayKeepsRow.holds Try.pinned (OpenSpec.ofChange Rows.rayKeepsSpec) :=
  OpenClaim.holds_of_wide 10 Try.f10 rfl rfl rfl rfl rfl rfl rfl ⟨rfl, rfl, rfl, rfl, rfl⟩ rfl rfl rfl rfl rfl (by kernel_rfl) Try.func10 (by kernel_rfl)
    (of_decide_eq_true (by kernel_rfl)) (by unfold Func.isWrapper; rw [if_neg (of_decide_eq_false (by kernel_rfl))]; exact ⟨rfl, rfl⟩)
    (fun os started H enc _ => lifted os started H enc)
theorem provedRayKeeps : Rows.RayKeepsSaid := over
#print axioms provedRayKeeps

end Go.Proofs.Ytiokhlpbdabaeaa
