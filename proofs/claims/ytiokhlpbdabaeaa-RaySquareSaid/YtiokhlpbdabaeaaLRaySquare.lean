/- RaySquare: for all matrices the law of chapter 9 on traces and on a matrix behind itself answers true. No condition. -/
import Derived.Test.YtiokhlpbdabaeaaRayI
import Derived.Test.YtiokhlpbdabaeaaRows
import Derived.WalkKit
import Derived.ProofKit
import Derived.OpenShut
import Derived.ShutString
import Derived.ChangeOld
import Derived.Below
namespace Go.Proofs.Ytiokhlpbdabaeaa
open Go Go.RowKit
namespace LRaySquare
theorem fld_42_0 : Fld Try.prog 42 0 0 4 := ⟨_, _, Try.underlying42, rfl, rfl, by kernel_rfl, by decide⟩
theorem fld_42_1 : Fld Try.prog 42 1 4 4 := ⟨_, _, Try.underlying42, rfl, rfl, by kernel_rfl, by decide⟩
theorem fld_42_2 : Fld Try.prog 42 2 8 4 := ⟨_, _, Try.underlying42, rfl, rfl, by kernel_rfl, by decide⟩
theorem fld_42_3 : Fld Try.prog 42 3 12 4 := ⟨_, _, Try.underlying42, rfl, rfl, by kernel_rfl, by decide⟩
theorem sl_107 : Sl Try.prog 107 42 16 := ⟨by kernel_rfl, by kernel_rfl⟩
theorem ty_26 : Ty Try.prog 26 4 true := ⟨by kernel_rfl, by kernel_rfl⟩
theorem ty_4 : Ty Try.prog 4 1 false := ⟨by kernel_rfl, by kernel_rfl⟩
theorem ty_42 : Ty Try.prog 42 16 true := ⟨by kernel_rfl, by kernel_rfl⟩
end LRaySquare
open LRaySquare
theorem zero_bool : Zero Try.prog 4 (BoA false) := Zero.of (z := .bool false) (by kernel_rfl) (fun _ _ => rfl)
theorem may2 {x y : RM} (h : (![x, y].all mayF) = false) : (okM x = true ∧ szM (toM x) ≤ 592) ∧ (okM y = true ∧ szM (toM y) ≤ 592) := by
  simp only [List.all_cons, List.all_nil, Bool.and_true, Bool.not_eq_false', Bool.and_eq_true] at h
  exact ⟨may_sz h.1, may_sz h.2⟩
theorem beh_x {m q : RM} (hm : okM m = true) (hq : okM q = true) (hs : szM (toM m) + szM (toM q) ≤ 1200) : Cm Try.prog 35 4 (BoA true) (BoA true) [.v (RMA m).va, .v (RMA q).va, .w ptrH] ((RMA (rmOf (mulQ (toM m) (toM q)))).va) := by
  obtain ⟨e1, e2, _⟩ := beh_eval hm hq (mul_long hs)
  have h := behind_c m q true
  rw [e1, e2] at h
  exact h
theorem tr_y {m : RM} (hm : okM m = true) (hl : longQ ((toM m).a + (toM m).d) = false) : Cn Try.prog 43 [(RMA m).va] (FrR (rfOf ((toM m).a + (toM m).d), 0)) :=
  (trace_c m).post (congrArg FrR (by
    unfold trF asF kM
    rw [hm]
    exact ansF_ok (longQ_false.1 hl)))
theorem tr_long {m q : MQ} (h : szM m + szM q ≤ 1200) : longQ ((mulQ m q).a + (mulQ m q).d) = false := by
  unfold szM at h
  unfold mulQ
  exact bQ_long (bQ_add (bQ_add (bQ_mul (bQ_sz m.a) (bQ_sz q.a)) (bQ_mul (bQ_sz m.b) (bQ_sz q.c))) (bQ_add (bQ_mul (bQ_sz m.c) (bQ_sz q.b)) (bQ_mul (bQ_sz m.d) (bQ_sz q.d)))) (by omega)
theorem tr_x {m q : RM} (hm : okM m = true) (hq : okM q = true) (hs : szM (toM m) + szM (toM q) ≤ 1200) : Cn Try.prog 43 [(RMA (rmOf (mulQ (toM m) (toM q)))).va] (FrR (rfOf ((mulQ (toM m) (toM q)).a + (mulQ (toM m) (toM q)).d), 0)) := by
  have h := tr_y (m := rmOf (mulQ (toM m) (toM q))) (beh_eval hm hq (mul_long hs)).2.2 (by rw [toM_of]; exact tr_long hs)
  rw [toM_of] at h
  exact h
theorem t_long {m : MQ} (h : szM m ≤ 592) : longQ (m.a + m.d) = false := by
  unfold szM at h
  exact bQ_long (bQ_add (bQ_sz m.a) (bQ_sz m.d)) (by omega)
theorem mul_x {r : Rat} {f : RF} (hr : longQ r = false) (hf : okX f = true) (hl : longQ (r * toQ f) = false) : Cn Try.prog 45 [(RFA (rfOf r)).va, (RFA f).va] (FrR (rfOf (r * toQ f), 0)) :=
  (mul_c (rfOf r) f).post (congrArg FrR (by
    unfold mulF doF
    rw [okX_of, hr, hf, toQ_of]
    exact ansF_ok (longQ_false.1 hl)))
theorem okM_each {m : RM} (h : okM m = true) : okX m.a = true ∧ okX m.b = true ∧ okX m.c = true ∧ okX m.d = true := by
  have h3 := (okM_q h).1
  simpa only [List.all_cons, List.all_nil, Bool.and_true, Bool.and_eq_true] using h3
theorem tm_long {m : MQ} (h : szM m ≤ 592) {x : Rat} (hx : szQ x ≤ 592) : longQ ((m.a + m.d) * x) = false := by
  unfold szM at h
  exact bQ_long (bQ_mul (bQ_add (bQ_sz m.a) (bQ_sz m.d)) (bQ_sz x)) (by omega)
theorem sz_each {m : MQ} (h : szM m ≤ 592) : szQ m.a ≤ 592 ∧ szQ m.b ≤ 592 ∧ szQ m.c ≤ 592 ∧ szQ m.d ≤ 592 := by
  unfold szM at h
  omega
theorem sq_no {u v : RF} (h : u = v) (h2 : (((((0 : Int) != 0) || ((0 : Int) != 0)) || ((0 : Int) != 0)) || (!decide (u = v))) = true) : False := by
  rw [decide_eq_true h] at h2
  exact absurd h2 (by decide)
theorem sq_no2 (h2 : (((((0 : Int) != 0) || ((0 : Int) != 0)) || ((0 : Int) != 0)) || ((0 : Int) != 0)) = true) : False := absurd h2 (by decide)
theorem tr_comm (m q : MQ) : rfOf ((mulQ m q).a + (mulQ m q).d) = rfOf ((mulQ q m).a + (mulQ q m).d) := congrArg rfOf (by unfold mulQ; grind)
theorem sq_alg {m : MQ} (hd : detM m = 1) : (mulQ m m).a = (m.a + m.d) * m.a - 1 ∧ (mulQ m m).b = (m.a + m.d) * m.b ∧ (mulQ m m).c = (m.a + m.d) * m.c ∧ (mulQ m m).d = (m.a + m.d) * m.d - 1 := by
  unfold detM at hd
  unfold mulQ
  refine ⟨by grind, by grind, by grind, by grind⟩
theorem sq_end {x : RM} (hm : okM x = true) (sm : szM (toM x) ≤ 592) :
    ((((true && decide ((rmOf (mulQ (toM x) (toM x))).a = (subF (rfOf (((toM x).a + (toM x).d) * toQ x.a)) (rfOf (Rat.divInt 1 1))).1)) && decide ((rmOf (mulQ (toM x) (toM x))).b = rfOf (((toM x).a + (toM x).d) * toQ x.b))) && decide ((rmOf (mulQ (toM x) (toM x))).c = rfOf (((toM x).a + (toM x).d) * toQ x.c))) && decide ((rmOf (mulQ (toM x) (toM x))).d = (subF (rfOf (((toM x).a + (toM x).d) * toQ x.d)) (rfOf (Rat.divInt 1 1))).1)) = true := by
  obtain ⟨a1, a2, a3, a4⟩ := sq_alg (okM_q hm).2
  obtain ⟨l1, _, _, l4⟩ := mul_long (m := toM x) (q := toM x) (by omega)
  obtain ⟨s1, _, _, s4⟩ := sz_each sm
  have e1 : (subF (rfOf (((toM x).a + (toM x).d) * toQ x.a)) (rfOf (Rat.divInt 1 1))).1 = rfOf (((toM x).a + (toM x).d) * (toM x).a - 1) := congrArg Prod.fst ((sub_of (tm_long sm s1) long_one).trans (ansF_ok (longQ_false.1 (a1 ▸ l1))))
  have e4 : (subF (rfOf (((toM x).a + (toM x).d) * toQ x.d)) (rfOf (Rat.divInt 1 1))).1 = rfOf (((toM x).a + (toM x).d) * (toM x).d - 1) := congrArg Prod.fst ((sub_of (tm_long sm s4) long_one).trans (ansF_ok (longQ_false.1 (a4 ▸ l4))))
  rw [e1, e4, decide_eq_true (show (rmOf (mulQ (toM x) (toM x))).a = _ from congrArg rfOf a1), decide_eq_true (show (rmOf (mulQ (toM x) (toM x))).b = rfOf (((toM x).a + (toM x).d) * toQ x.b) from congrArg rfOf a2), decide_eq_true (show (rmOf (mulQ (toM x) (toM x))).c = rfOf (((toM x).a + (toM x).d) * toQ x.c) from congrArg rfOf a3), decide_eq_true (show (rmOf (mulQ (toM x) (toM x))).d = _ from congrArg rfOf a4)]
  rfl
theorem bo_and {c : Bool} (h : c = true) : Wk (Bo (c && true)) (Bo true) := by subst h; exact wk_id

set_option maxRecDepth 100000 in
theorem raySquare_w (x y : RM) : Cn Try.prog 7 [(RMA x).va, (RMA y).va] (Bo true) := by
  refine Cn.intro Try.func7 rfl (by kernel_rfl) (Nat.le_of_ble_eq_true (by kernel_rfl)) (fun B w0 a hst => ?_)
  have hst : St B w0 145 [(0, (RMA x).va), (1, (RMA y).va)] [] a w0.w := hst
  refine wp_seq ?_
  refine go_lin (sts := []) (news := [⟨2, 42, ptrH, some 0, _, none⟩, ⟨3, 42, ptrH, some 1, _, none⟩]) (sp := [.alc 0, .alc 1, .val 4 _]) [.o 2] hst (obs_cons (ob_box rfl rfl rfl (has_g 0 rfl (by kernel_rfl) (by kernel_rfl))) (obs_cons (ob_box rfl rfl rfl (has_g 1 rfl (by kernel_rfl) (by kernel_rfl))) (obs_cons (ob_v rfl rfl (r_assign has_bo)) (obs_nil)))) (by kernel_rfl) (by kernel_rfl) (by kernel_rfl) (fun a w hst => ?_)
  have hst : St B w0 145 [(4, _)] [⟨2, 42, ptrH, _⟩, ⟨3, 42, ptrH, _⟩] a w := hst
  refine thn_normal ?_
  refine wp_seq ?_
  refine wp_seq ?_
  refine go_lin (sts := [none, none]) (news := []) (sp := [.val 23 _, .val 24 _, .val 25 _, .val 26 _, .val 27 _]) [.g 0, .o 4] hst (obs_cons (ob_v rfl rfl (r_load (loc_at0 0 rfl (by kernel_rfl)) ty_42)) (obs_cons (ob_v rfl rfl (r_load (loc_at0 1 rfl (by kernel_rfl)) ty_42)) (obs_cons (ob_v rfl rfl (r_slice (D := [U32]) (l := [_, _]) (xs := [.tmp 23, .tmp 24]) (nd_ok (by kernel_rfl)) sl_107 (by kernel_rfl) (n_ok (by kernel_rfl)) (Nat.le_of_ble_eq_true (by kernel_rfl)) (Nat.le_of_ble_eq_true (by kernel_rfl)) (Nat.le_of_ble_eq_true (by kernel_rfl)) (.cons (has_v 0 rfl (by kernel_rfl) (by kernel_rfl)) (.cons (has_v 1 rfl (by kernel_rfl) (by kernel_rfl)) .nil)) rfl rfl)) (obs_cons (ob_v rfl rfl (r_call (xs := [.tmp 25]) (may09_c [_, _]) (.cons (has_v 2 rfl (by kernel_rfl) (by kernel_rfl)) .nil))) (obs_cons (ob_v rfl rfl (r_not (has_v 3 rfl (by kernel_rfl) (by kernel_rfl)))) (obs_nil)))))) (by kernel_rfl) (by kernel_rfl) (by kernel_rfl) (fun a w hst => ?_)
  have hst : St B w0 145 [(4, _), (27, _)] [⟨2, 42, ptrH, _⟩, ⟨3, 42, ptrH, _⟩] a w := hst
  refine thn_normal ?_
  refine cond_of hst (List.mem_of_getElem? (i := 1) rfl) (fun hb0 => ?_) (fun hb0 => ?_)
  · refine wp_seq ?_
    refine go_lin (sts := [none, none]) (news := []) (sp := [.val 28 _, .val 4 _]) [.o 1] hst (obs_cons (ob_v rfl rfl (r_call (xs := []) alive_c .nil)) (obs_cons (ob_v rfl rfl (r_assign (has_v 0 rfl (by kernel_rfl) (by kernel_rfl)))) (obs_nil))) (by kernel_rfl) (by kernel_rfl) (by kernel_rfl) (fun a w hst => ?_)
    have hst : St B w0 145 [(4, _)] [⟨2, 42, ptrH, _⟩, ⟨3, 42, ptrH, _⟩] a w := hst
    refine thn_normal ?_
    refine wp_ret ?_
    refine thn_ret ?_
    refine ret_wk ?_ (ret_tmp rfl hst (List.mem_of_getElem? (i := 0) rfl))
    exact wk_id
  · obtain ⟨⟨hm, sm⟩, hn, sn⟩ := may2 hb0
    refine wp_skip ?_
    refine thn_normal ?_
    refine wp_seq ?_
    refine go_lin (sts := [none, none]) (news := [⟨5, 4, ptrH, some 0, _, some (1, _)⟩]) (sp := [.alc 2, .sto 2]) [.g 0] hst (obs_cons (ob_alc rfl rfl rfl zero_bool) (obs_cons (ob_sto rfl rfl rfl has_bo ty_4 rfl) (obs_nil))) (by kernel_rfl) (by kernel_rfl) (by kernel_rfl) (fun a w hst => ?_)
    have hst : St B w0 145 [(4, _)] [⟨2, 42, ptrH, _⟩, ⟨3, 42, ptrH, _⟩, ⟨5, 4, ptrH, _⟩] a w := hst
    refine thn_normal ?_
    refine wp_seq ?_
    refine go_lin (sts := [none, none, some (2, _)]) (news := [⟨6, 26, ptrH, some 7, _, some (8, _)⟩]) (sp := [.val 30 _, .val 31 _, .cal 32 _ 2, .val 33 _, .val 29 _, .val 34 _, .val 35 _, .alc 3, .sto 3, .val 7 _]) [.g 0, .o 9] hst (obs_cons (ob_v rfl rfl (r_load (loc_at0 0 rfl (by kernel_rfl)) ty_42)) (obs_cons (ob_v rfl rfl (r_load (loc_at0 1 rfl (by kernel_rfl)) ty_42)) (obs_cons (ob_cal (xs := [.tmp 30, .tmp 31, .tmp 5]) rfl rfl rfl (beh_x hm hn (by omega)) (.cons (has_v 0 rfl (by kernel_rfl) (by kernel_rfl)) (.cons (has_v 1 rfl (by kernel_rfl) (by kernel_rfl)) (.cons arw .nil)))) (obs_cons (ob_v rfl rfl (r_call (xs := [.tmp 32]) (tr_x hm hn (by omega)) (.cons (has_c 2 rfl (by kernel_rfl) (by kernel_rfl)) .nil))) (obs_cons (ob_v rfl rfl (r_move (has_v 3 rfl (by kernel_rfl) (by kernel_rfl)))) (obs_cons (ob_v rfl rfl (r_ex0 (has_v 4 rfl (by kernel_rfl) (by kernel_rfl)))) (obs_cons (ob_v rfl rfl (r_ex1 (has_v 4 rfl (by kernel_rfl) (by kernel_rfl)))) (obs_cons (ob_alc rfl rfl rfl (Str.zero str_frac)) (obs_cons (ob_sto rfl rfl rfl (has_v 5 rfl (by kernel_rfl) (by kernel_rfl)) ty_26 rfl) (obs_cons (ob_v rfl rfl (r_assign (has_v 6 rfl (by kernel_rfl) (by kernel_rfl)))) (obs_nil))))))))))) (by kernel_rfl) (by kernel_rfl) (by kernel_rfl) (fun a w hst => ?_)
    have hst : St B w0 145 [(4, _), (7, _)] [⟨2, 42, ptrH, _⟩, ⟨3, 42, ptrH, _⟩, ⟨5, 4, ptrH, _⟩, ⟨6, 26, ptrH, _⟩] a w := hst
    refine thn_normal ?_
    refine wp_seq ?_
    refine go_lin (sts := [none, none, some (2, _), none]) (news := [⟨8, 26, ptrH, some 7, _, some (8, _)⟩]) (sp := [.val 37 _, .val 38 _, .cal 39 _ 2, .val 40 _, .val 36 _, .val 41 _, .val 42 _, .alc 4, .sto 4, .val 9 _]) [.g 0, .g 1, .o 9] hst (obs_cons (ob_v rfl rfl (r_load (loc_at0 1 rfl (by kernel_rfl)) ty_42)) (obs_cons (ob_v rfl rfl (r_load (loc_at0 0 rfl (by kernel_rfl)) ty_42)) (obs_cons (ob_cal (xs := [.tmp 37, .tmp 38, .tmp 5]) rfl rfl rfl (beh_x hn hm (by omega)) (.cons (has_v 0 rfl (by kernel_rfl) (by kernel_rfl)) (.cons (has_v 1 rfl (by kernel_rfl) (by kernel_rfl)) (.cons arw .nil)))) (obs_cons (ob_v rfl rfl (r_call (xs := [.tmp 39]) (tr_x hn hm (by omega)) (.cons (has_c 2 rfl (by kernel_rfl) (by kernel_rfl)) .nil))) (obs_cons (ob_v rfl rfl (r_move (has_v 3 rfl (by kernel_rfl) (by kernel_rfl)))) (obs_cons (ob_v rfl rfl (r_ex0 (has_v 4 rfl (by kernel_rfl) (by kernel_rfl)))) (obs_cons (ob_v rfl rfl (r_ex1 (has_v 4 rfl (by kernel_rfl) (by kernel_rfl)))) (obs_cons (ob_alc rfl rfl rfl (Str.zero str_frac)) (obs_cons (ob_sto rfl rfl rfl (has_v 5 rfl (by kernel_rfl) (by kernel_rfl)) ty_26 rfl) (obs_cons (ob_v rfl rfl (r_assign (has_v 6 rfl (by kernel_rfl) (by kernel_rfl)))) (obs_nil))))))))))) (by kernel_rfl) (by kernel_rfl) (by kernel_rfl) (fun a w hst => ?_)
    have hst : St B w0 145 [(4, _), (7, _), (9, _)] [⟨2, 42, ptrH, _⟩, ⟨3, 42, ptrH, _⟩, ⟨5, 4, ptrH, _⟩, ⟨6, 26, ptrH, _⟩, ⟨8, 26, ptrH, _⟩] a w := hst
    refine thn_normal ?_
    refine wp_seq ?_
    refine go_lin (sts := [none, none, none, none, none]) (news := [⟨10, 26, ptrH, some 5, _, some (6, _)⟩]) (sp := [.val 44 _, .val 45 _, .val 43 _, .val 46 _, .val 47 _, .alc 5, .sto 5, .val 11 _]) [.g 0, .g 1, .g 2, .o 7] hst (obs_cons (ob_v rfl rfl (r_load (loc_at0 0 rfl (by kernel_rfl)) ty_42)) (obs_cons (ob_v rfl rfl (r_call (xs := [.tmp 44]) (tr_y hm (t_long sm)) (.cons (has_v 0 rfl (by kernel_rfl) (by kernel_rfl)) .nil))) (obs_cons (ob_v rfl rfl (r_move (has_v 1 rfl (by kernel_rfl) (by kernel_rfl)))) (obs_cons (ob_v rfl rfl (r_ex0 (has_v 2 rfl (by kernel_rfl) (by kernel_rfl)))) (obs_cons (ob_v rfl rfl (r_ex1 (has_v 2 rfl (by kernel_rfl) (by kernel_rfl)))) (obs_cons (ob_alc rfl rfl rfl (Str.zero str_frac)) (obs_cons (ob_sto rfl rfl rfl (has_v 3 rfl (by kernel_rfl) (by kernel_rfl)) ty_26 rfl) (obs_cons (ob_v rfl rfl (r_assign (has_v 4 rfl (by kernel_rfl) (by kernel_rfl)))) (obs_nil))))))))) (by kernel_rfl) (by kernel_rfl) (by kernel_rfl) (fun a w hst => ?_)
    have hst : St B w0 145 [(4, _), (7, _), (9, _), (11, _)] [⟨2, 42, ptrH, _⟩, ⟨3, 42, ptrH, _⟩, ⟨5, 4, ptrH, _⟩, ⟨6, 26, ptrH, _⟩, ⟨8, 26, ptrH, _⟩, ⟨10, 26, ptrH, _⟩] a w := hst
    refine thn_normal ?_
    refine wp_seq ?_
    refine wp_seq ?_
    refine go_lin (sts := [none, none, none, none, none, none]) (news := []) (sp := [.val 48 _, .val 49 _, .val 50 _, .val 51 (Wh (_ = false) _), .val 52 (Wh (_ = false) _), .val 53 _, .val 54 _, .val 55 (Wh (_ = false) _), .val 56 (Wh (_ = false) _), .val 57 _, .val 58 _, .val 59 (Wh (_ = false) _), .val 60 (Wh (_ = false) _), .val 61 (Wh (_ = false) _), .val 62 (Wh (_ = false) _), .val 63 _]) [.g 0, .o 15] hst (obs_cons (ob_v rfl rfl (r_move (has_g 1 rfl (by kernel_rfl) (by kernel_rfl)))) (obs_cons (ob_v rfl rfl (r_neq (has_v 0 rfl (by kernel_rfl) (by kernel_rfl)) has_num)) (obs_cons (ob_v rfl rfl (r_move (has_v 1 rfl (by kernel_rfl) (by kernel_rfl)))) (obs_cons (ob_gd rfl rfl rfl (has_v 2 rfl (by kernel_rfl) (by kernel_rfl)) (Nat.le_of_ble_eq_true (by kernel_rfl)) (fun hg => r_move (has_g 2 rfl (by kernel_rfl) (by kernel_rfl)))) (obs_cons (ob_gd rfl rfl rfl (has_v 2 rfl (by kernel_rfl) (by kernel_rfl)) (Nat.le_of_ble_eq_true (by kernel_rfl)) (fun hg => r_neq (has_wh (has_v 3 rfl (by kernel_rfl) (by kernel_rfl)) hg) has_num)) (obs_cons (ob_v rfl rfl (r_or (has_v 2 rfl (by kernel_rfl) (by kernel_rfl)) (has_v 4 rfl (by kernel_rfl) (by kernel_rfl)))) (obs_cons (ob_v rfl rfl (r_move (has_v 5 rfl (by kernel_rfl) (by kernel_rfl)))) (obs_cons (ob_gd rfl rfl rfl (has_v 6 rfl (by kernel_rfl) (by kernel_rfl)) (Nat.le_of_ble_eq_true (by kernel_rfl)) (fun hg => r_move (has_g 3 rfl (by kernel_rfl) (by kernel_rfl)))) (obs_cons (ob_gd rfl rfl rfl (has_v 6 rfl (by kernel_rfl) (by kernel_rfl)) (Nat.le_of_ble_eq_true (by kernel_rfl)) (fun hg => r_neq (has_wh (has_v 7 rfl (by kernel_rfl) (by kernel_rfl)) hg) has_num)) (obs_cons (ob_v rfl rfl (r_or (has_v 6 rfl (by kernel_rfl) (by kernel_rfl)) (has_v 8 rfl (by kernel_rfl) (by kernel_rfl)))) (obs_cons (ob_v rfl rfl (r_move (has_v 9 rfl (by kernel_rfl) (by kernel_rfl)))) (obs_cons (ob_gd rfl rfl rfl (has_v 10 rfl (by kernel_rfl) (by kernel_rfl)) (Nat.le_of_ble_eq_true (by kernel_rfl)) (fun hg => r_load (loc_at0 3 rfl (by kernel_rfl)) ty_26)) (obs_cons (ob_gd rfl rfl rfl (has_v 10 rfl (by kernel_rfl) (by kernel_rfl)) (Nat.le_of_ble_eq_true (by kernel_rfl)) (fun hg => r_load (loc_at0 4 rfl (by kernel_rfl)) ty_26)) (obs_cons (ob_gd rfl rfl rfl (has_v 10 rfl (by kernel_rfl) (by kernel_rfl)) (Nat.le_of_ble_eq_true (by kernel_rfl)) (fun hg => r_call (xs := [.tmp 59, .tmp 60]) (sameFrac_c _ _) (.cons (has_wh (has_v 11 rfl (by kernel_rfl) (by kernel_rfl)) hg) (.cons (has_wh (has_v 12 rfl (by kernel_rfl) (by kernel_rfl)) hg) .nil)))) (obs_cons (ob_gd rfl rfl rfl (has_v 10 rfl (by kernel_rfl) (by kernel_rfl)) (Nat.le_of_ble_eq_true (by kernel_rfl)) (fun hg => r_not (has_wh (has_v 13 rfl (by kernel_rfl) (by kernel_rfl)) hg))) (obs_cons (ob_v rfl rfl (r_or (has_v 10 rfl (by kernel_rfl) (by kernel_rfl)) (has_v 14 rfl (by kernel_rfl) (by kernel_rfl)))) (obs_nil))))))))))))))))) (by kernel_rfl) (by kernel_rfl) (by kernel_rfl) (fun a w hst => ?_)
    have hst : St B w0 145 [(4, _), (63, _)] [⟨2, 42, ptrH, _⟩, ⟨3, 42, ptrH, _⟩, ⟨5, 4, ptrH, _⟩, ⟨6, 26, ptrH, _⟩, ⟨8, 26, ptrH, _⟩, ⟨10, 26, ptrH, _⟩] a w := hst
    refine thn_normal ?_
    refine cond_of hst (List.mem_of_getElem? (i := 1) rfl) (fun hb1 => ?_) (fun hb1 => ?_)
    · exact (sq_no (tr_comm _ _) hb1).elim
    · refine wp_skip ?_
      refine thn_normal ?_
      refine wp_seq ?_
      refine go_lin (sts := [none, none, some (2, _), none, none, none]) (news := [⟨12, 42, ptrH, some 3, _, some (4, _)⟩]) (sp := [.val 64 _, .val 65 _, .cal 66 _ 2, .alc 6, .sto 6]) [.g 0] hst (obs_cons (ob_v rfl rfl (r_load (loc_at0 0 rfl (by kernel_rfl)) ty_42)) (obs_cons (ob_v rfl rfl (r_load (loc_at0 0 rfl (by kernel_rfl)) ty_42)) (obs_cons (ob_cal (xs := [.tmp 64, .tmp 65, .tmp 5]) rfl rfl rfl (beh_x hm hm (by omega)) (.cons (has_v 0 rfl (by kernel_rfl) (by kernel_rfl)) (.cons (has_v 1 rfl (by kernel_rfl) (by kernel_rfl)) (.cons arw .nil)))) (obs_cons (ob_alc rfl rfl rfl (Str.zero str_matrix)) (obs_cons (ob_sto rfl rfl rfl (has_c 2 rfl (by kernel_rfl) (by kernel_rfl)) ty_42 rfl) (obs_nil)))))) (by kernel_rfl) (by kernel_rfl) (by kernel_rfl) (fun a w hst => ?_)
      have hst : St B w0 145 [(4, _)] [⟨2, 42, ptrH, _⟩, ⟨3, 42, ptrH, _⟩, ⟨5, 4, ptrH, _⟩, ⟨6, 26, ptrH, _⟩, ⟨8, 26, ptrH, _⟩, ⟨10, 26, ptrH, _⟩, ⟨12, 42, ptrH, _⟩] a w := hst
      refine thn_normal ?_
      refine wp_seq ?_
      refine go_lin (sts := [none, none, none, none, none, none, none]) (news := [⟨13, 26, ptrH, some 4, _, some (5, _)⟩]) (sp := [.val 68 _, .val 67 _, .val 69 _, .val 70 _, .alc 7, .sto 7, .val 14 _]) [.g 0] hst (obs_cons (ob_v rfl rfl (r_call (xs := [.const (.int .i64 (1)), .const (.int .i64 (1))]) (ofQ_c (by decide) (by decide) (by decide) (by decide) (by decide)) (.cons has_num (.cons has_num .nil)))) (obs_cons (ob_v rfl rfl (r_move (has_v 0 rfl (by kernel_rfl) (by kernel_rfl)))) (obs_cons (ob_v rfl rfl (r_ex0 (has_v 1 rfl (by kernel_rfl) (by kernel_rfl)))) (obs_cons (ob_v rfl rfl (r_ex1 (has_v 1 rfl (by kernel_rfl) (by kernel_rfl)))) (obs_cons (ob_alc rfl rfl rfl (Str.zero str_frac)) (obs_cons (ob_sto rfl rfl rfl (has_v 2 rfl (by kernel_rfl) (by kernel_rfl)) ty_26 rfl) (obs_cons (ob_v rfl rfl (r_assign (has_v 3 rfl (by kernel_rfl) (by kernel_rfl)))) (obs_nil)))))))) (by kernel_rfl) (by kernel_rfl) (by kernel_rfl) (fun a w hst => ?_)
      have hst : St B w0 145 [(4, _)] [⟨2, 42, ptrH, _⟩, ⟨3, 42, ptrH, _⟩, ⟨5, 4, ptrH, _⟩, ⟨6, 26, ptrH, _⟩, ⟨8, 26, ptrH, _⟩, ⟨10, 26, ptrH, _⟩, ⟨12, 42, ptrH, _⟩, ⟨13, 26, ptrH, _⟩] a w := hst
      refine thn_normal ?_
      refine wp_seq ?_
      refine go_lin (sts := [none, none, none, none, none, none, none, none]) (news := [⟨15, 26, ptrH, some 7, _, some (8, _)⟩]) (sp := [.val 72 _, .adr 73 2 (.some 0) True, .val 74 _, .val 75 _, .val 71 _, .val 76 _, .val 77 _, .alc 8, .sto 8, .val 16 _]) [.g 0, .o 9] hst (obs_cons (ob_v rfl rfl (r_load (loc_at0 5 rfl (by kernel_rfl)) ty_26)) (obs_cons (ob_a rfl rfl (a_fld (loc_at0 0 rfl (by kernel_rfl)) fld_42_0)) (obs_cons (ob_v rfl rfl (r_loadf 1 rfl (by kernel_rfl) trivial (loc_at0 0 rfl (by kernel_rfl)) (Sub.part 0 rfl rfl) ty_26)) (obs_cons (ob_v rfl rfl (r_call (xs := [.tmp 72, .tmp 74]) (mul_x (t_long sm) (okM_each hm).1 (tm_long sm (sz_each sm).1)) (.cons (has_v 0 rfl (by kernel_rfl) (by kernel_rfl)) (.cons (has_v 2 rfl (by kernel_rfl) (by kernel_rfl)) .nil)))) (obs_cons (ob_v rfl rfl (r_move (has_v 3 rfl (by kernel_rfl) (by kernel_rfl)))) (obs_cons (ob_v rfl rfl (r_ex0 (has_v 4 rfl (by kernel_rfl) (by kernel_rfl)))) (obs_cons (ob_v rfl rfl (r_ex1 (has_v 4 rfl (by kernel_rfl) (by kernel_rfl)))) (obs_cons (ob_alc rfl rfl rfl (Str.zero str_frac)) (obs_cons (ob_sto rfl rfl rfl (has_v 5 rfl (by kernel_rfl) (by kernel_rfl)) ty_26 rfl) (obs_cons (ob_v rfl rfl (r_assign (has_v 6 rfl (by kernel_rfl) (by kernel_rfl)))) (obs_nil))))))))))) (by kernel_rfl) (by kernel_rfl) (by kernel_rfl) (fun a w hst => ?_)
      have hst : St B w0 145 [(4, _), (16, _)] [⟨2, 42, ptrH, _⟩, ⟨3, 42, ptrH, _⟩, ⟨5, 4, ptrH, _⟩, ⟨6, 26, ptrH, _⟩, ⟨8, 26, ptrH, _⟩, ⟨10, 26, ptrH, _⟩, ⟨12, 42, ptrH, _⟩, ⟨13, 26, ptrH, _⟩, ⟨15, 26, ptrH, _⟩] a w := hst
      refine thn_normal ?_
      refine wp_seq ?_
      refine go_lin (sts := [none, none, none, none, none, none, none, none, none]) (news := [⟨17, 26, ptrH, some 7, _, some (8, _)⟩]) (sp := [.val 79 _, .adr 80 2 (.some 4) True, .val 81 _, .val 82 _, .val 78 _, .val 83 _, .val 84 _, .alc 9, .sto 9, .val 18 _]) [.g 0, .g 1, .o 9] hst (obs_cons (ob_v rfl rfl (r_load (loc_at0 5 rfl (by kernel_rfl)) ty_26)) (obs_cons (ob_a rfl rfl (a_fld (loc_at0 0 rfl (by kernel_rfl)) fld_42_1)) (obs_cons (ob_v rfl rfl (r_loadf 1 rfl (by kernel_rfl) trivial (loc_at0 0 rfl (by kernel_rfl)) (Sub.part 1 rfl rfl) ty_26)) (obs_cons (ob_v rfl rfl (r_call (xs := [.tmp 79, .tmp 81]) (mul_x (t_long sm) (okM_each hm).2.1 (tm_long sm (sz_each sm).2.1)) (.cons (has_v 0 rfl (by kernel_rfl) (by kernel_rfl)) (.cons (has_v 2 rfl (by kernel_rfl) (by kernel_rfl)) .nil)))) (obs_cons (ob_v rfl rfl (r_move (has_v 3 rfl (by kernel_rfl) (by kernel_rfl)))) (obs_cons (ob_v rfl rfl (r_ex0 (has_v 4 rfl (by kernel_rfl) (by kernel_rfl)))) (obs_cons (ob_v rfl rfl (r_ex1 (has_v 4 rfl (by kernel_rfl) (by kernel_rfl)))) (obs_cons (ob_alc rfl rfl rfl (Str.zero str_frac)) (obs_cons (ob_sto rfl rfl rfl (has_v 5 rfl (by kernel_rfl) (by kernel_rfl)) ty_26 rfl) (obs_cons (ob_v rfl rfl (r_assign (has_v 6 rfl (by kernel_rfl) (by kernel_rfl)))) (obs_nil))))))))))) (by kernel_rfl) (by kernel_rfl) (by kernel_rfl) (fun a w hst => ?_)
      have hst : St B w0 145 [(4, _), (16, _), (18, _)] [⟨2, 42, ptrH, _⟩, ⟨3, 42, ptrH, _⟩, ⟨5, 4, ptrH, _⟩, ⟨6, 26, ptrH, _⟩, ⟨8, 26, ptrH, _⟩, ⟨10, 26, ptrH, _⟩, ⟨12, 42, ptrH, _⟩, ⟨13, 26, ptrH, _⟩, ⟨15, 26, ptrH, _⟩, ⟨17, 26, ptrH, _⟩] a w := hst
      refine thn_normal ?_
      refine wp_seq ?_
      refine go_lin (sts := [none, none, none, none, none, none, none, none, none, none]) (news := [⟨19, 26, ptrH, some 7, _, some (8, _)⟩]) (sp := [.val 86 _, .adr 87 2 (.some 8) True, .val 88 _, .val 89 _, .val 85 _, .val 90 _, .val 91 _, .alc 10, .sto 10, .val 20 _]) [.g 0, .g 1, .g 2, .o 9] hst (obs_cons (ob_v rfl rfl (r_load (loc_at0 5 rfl (by kernel_rfl)) ty_26)) (obs_cons (ob_a rfl rfl (a_fld (loc_at0 0 rfl (by kernel_rfl)) fld_42_2)) (obs_cons (ob_v rfl rfl (r_loadf 1 rfl (by kernel_rfl) trivial (loc_at0 0 rfl (by kernel_rfl)) (Sub.part 2 rfl rfl) ty_26)) (obs_cons (ob_v rfl rfl (r_call (xs := [.tmp 86, .tmp 88]) (mul_x (t_long sm) (okM_each hm).2.2.1 (tm_long sm (sz_each sm).2.2.1)) (.cons (has_v 0 rfl (by kernel_rfl) (by kernel_rfl)) (.cons (has_v 2 rfl (by kernel_rfl) (by kernel_rfl)) .nil)))) (obs_cons (ob_v rfl rfl (r_move (has_v 3 rfl (by kernel_rfl) (by kernel_rfl)))) (obs_cons (ob_v rfl rfl (r_ex0 (has_v 4 rfl (by kernel_rfl) (by kernel_rfl)))) (obs_cons (ob_v rfl rfl (r_ex1 (has_v 4 rfl (by kernel_rfl) (by kernel_rfl)))) (obs_cons (ob_alc rfl rfl rfl (Str.zero str_frac)) (obs_cons (ob_sto rfl rfl rfl (has_v 5 rfl (by kernel_rfl) (by kernel_rfl)) ty_26 rfl) (obs_cons (ob_v rfl rfl (r_assign (has_v 6 rfl (by kernel_rfl) (by kernel_rfl)))) (obs_nil))))))))))) (by kernel_rfl) (by kernel_rfl) (by kernel_rfl) (fun a w hst => ?_)
      have hst : St B w0 145 [(4, _), (16, _), (18, _), (20, _)] [⟨2, 42, ptrH, _⟩, ⟨3, 42, ptrH, _⟩, ⟨5, 4, ptrH, _⟩, ⟨6, 26, ptrH, _⟩, ⟨8, 26, ptrH, _⟩, ⟨10, 26, ptrH, _⟩, ⟨12, 42, ptrH, _⟩, ⟨13, 26, ptrH, _⟩, ⟨15, 26, ptrH, _⟩, ⟨17, 26, ptrH, _⟩, ⟨19, 26, ptrH, _⟩] a w := hst
      refine thn_normal ?_
      refine wp_seq ?_
      refine go_lin (sts := [none, none, none, none, none, none, none, none, none, none, none]) (news := [⟨21, 26, ptrH, some 7, _, some (8, _)⟩]) (sp := [.val 93 _, .adr 94 2 (.some 12) True, .val 95 _, .val 96 _, .val 92 _, .val 97 _, .val 98 _, .alc 11, .sto 11, .val 22 _]) [.g 0, .g 1, .g 2, .g 3, .o 9] hst (obs_cons (ob_v rfl rfl (r_load (loc_at0 5 rfl (by kernel_rfl)) ty_26)) (obs_cons (ob_a rfl rfl (a_fld (loc_at0 0 rfl (by kernel_rfl)) fld_42_3)) (obs_cons (ob_v rfl rfl (r_loadf 1 rfl (by kernel_rfl) trivial (loc_at0 0 rfl (by kernel_rfl)) (Sub.part 3 rfl rfl) ty_26)) (obs_cons (ob_v rfl rfl (r_call (xs := [.tmp 93, .tmp 95]) (mul_x (t_long sm) (okM_each hm).2.2.2 (tm_long sm (sz_each sm).2.2.2)) (.cons (has_v 0 rfl (by kernel_rfl) (by kernel_rfl)) (.cons (has_v 2 rfl (by kernel_rfl) (by kernel_rfl)) .nil)))) (obs_cons (ob_v rfl rfl (r_move (has_v 3 rfl (by kernel_rfl) (by kernel_rfl)))) (obs_cons (ob_v rfl rfl (r_ex0 (has_v 4 rfl (by kernel_rfl) (by kernel_rfl)))) (obs_cons (ob_v rfl rfl (r_ex1 (has_v 4 rfl (by kernel_rfl) (by kernel_rfl)))) (obs_cons (ob_alc rfl rfl rfl (Str.zero str_frac)) (obs_cons (ob_sto rfl rfl rfl (has_v 5 rfl (by kernel_rfl) (by kernel_rfl)) ty_26 rfl) (obs_cons (ob_v rfl rfl (r_assign (has_v 6 rfl (by kernel_rfl) (by kernel_rfl)))) (obs_nil))))))))))) (by kernel_rfl) (by kernel_rfl) (by kernel_rfl) (fun a w hst => ?_)
      have hst : St B w0 145 [(4, _), (16, _), (18, _), (20, _), (22, _)] [⟨2, 42, ptrH, _⟩, ⟨3, 42, ptrH, _⟩, ⟨5, 4, ptrH, _⟩, ⟨6, 26, ptrH, _⟩, ⟨8, 26, ptrH, _⟩, ⟨10, 26, ptrH, _⟩, ⟨12, 42, ptrH, _⟩, ⟨13, 26, ptrH, _⟩, ⟨15, 26, ptrH, _⟩, ⟨17, 26, ptrH, _⟩, ⟨19, 26, ptrH, _⟩, ⟨21, 26, ptrH, _⟩] a w := hst
      refine thn_normal ?_
      refine wp_seq ?_
      refine wp_seq ?_
      refine go_lin (sts := [none, none, none, none, none, none, none, none, none, none, none, none]) (news := []) (sp := [.val 99 _, .val 100 _, .val 101 _, .val 102 (Wh (_ = false) _), .val 103 (Wh (_ = false) _), .val 104 _, .val 105 _, .val 106 (Wh (_ = false) _), .val 107 (Wh (_ = false) _), .val 108 _, .val 109 _, .val 110 (Wh (_ = false) _), .val 111 (Wh (_ = false) _), .val 112 _]) [.g 0, .o 13] hst (obs_cons (ob_v rfl rfl (r_move (has_g 1 rfl (by kernel_rfl) (by kernel_rfl)))) (obs_cons (ob_v rfl rfl (r_neq (has_v 0 rfl (by kernel_rfl) (by kernel_rfl)) has_num)) (obs_cons (ob_v rfl rfl (r_move (has_v 1 rfl (by kernel_rfl) (by kernel_rfl)))) (obs_cons (ob_gd rfl rfl rfl (has_v 2 rfl (by kernel_rfl) (by kernel_rfl)) (Nat.le_of_ble_eq_true (by kernel_rfl)) (fun hg => r_move (has_g 2 rfl (by kernel_rfl) (by kernel_rfl)))) (obs_cons (ob_gd rfl rfl rfl (has_v 2 rfl (by kernel_rfl) (by kernel_rfl)) (Nat.le_of_ble_eq_true (by kernel_rfl)) (fun hg => r_neq (has_wh (has_v 3 rfl (by kernel_rfl) (by kernel_rfl)) hg) has_num)) (obs_cons (ob_v rfl rfl (r_or (has_v 2 rfl (by kernel_rfl) (by kernel_rfl)) (has_v 4 rfl (by kernel_rfl) (by kernel_rfl)))) (obs_cons (ob_v rfl rfl (r_move (has_v 5 rfl (by kernel_rfl) (by kernel_rfl)))) (obs_cons (ob_gd rfl rfl rfl (has_v 6 rfl (by kernel_rfl) (by kernel_rfl)) (Nat.le_of_ble_eq_true (by kernel_rfl)) (fun hg => r_move (has_g 3 rfl (by kernel_rfl) (by kernel_rfl)))) (obs_cons (ob_gd rfl rfl rfl (has_v 6 rfl (by kernel_rfl) (by kernel_rfl)) (Nat.le_of_ble_eq_true (by kernel_rfl)) (fun hg => r_neq (has_wh (has_v 7 rfl (by kernel_rfl) (by kernel_rfl)) hg) has_num)) (obs_cons (ob_v rfl rfl (r_or (has_v 6 rfl (by kernel_rfl) (by kernel_rfl)) (has_v 8 rfl (by kernel_rfl) (by kernel_rfl)))) (obs_cons (ob_v rfl rfl (r_move (has_v 9 rfl (by kernel_rfl) (by kernel_rfl)))) (obs_cons (ob_gd rfl rfl rfl (has_v 10 rfl (by kernel_rfl) (by kernel_rfl)) (Nat.le_of_ble_eq_true (by kernel_rfl)) (fun hg => r_move (has_g 4 rfl (by kernel_rfl) (by kernel_rfl)))) (obs_cons (ob_gd rfl rfl rfl (has_v 10 rfl (by kernel_rfl) (by kernel_rfl)) (Nat.le_of_ble_eq_true (by kernel_rfl)) (fun hg => r_neq (has_wh (has_v 11 rfl (by kernel_rfl) (by kernel_rfl)) hg) has_num)) (obs_cons (ob_v rfl rfl (r_or (has_v 10 rfl (by kernel_rfl) (by kernel_rfl)) (has_v 12 rfl (by kernel_rfl) (by kernel_rfl)))) (obs_nil))))))))))))))) (by kernel_rfl) (by kernel_rfl) (by kernel_rfl) (fun a w hst => ?_)
      have hst : St B w0 145 [(4, _), (112, _)] [⟨2, 42, ptrH, _⟩, ⟨3, 42, ptrH, _⟩, ⟨5, 4, ptrH, _⟩, ⟨6, 26, ptrH, _⟩, ⟨8, 26, ptrH, _⟩, ⟨10, 26, ptrH, _⟩, ⟨12, 42, ptrH, _⟩, ⟨13, 26, ptrH, _⟩, ⟨15, 26, ptrH, _⟩, ⟨17, 26, ptrH, _⟩, ⟨19, 26, ptrH, _⟩, ⟨21, 26, ptrH, _⟩] a w := hst
      refine thn_normal ?_
      refine cond_of hst (List.mem_of_getElem? (i := 1) rfl) (fun hb2 => ?_) (fun hb2 => ?_)
      · exact (sq_no2 hb2).elim
      · refine wp_skip ?_
        refine thn_normal ?_
        refine wp_seq ?_
        refine go_draw (anc := [[], [0], [0, 1], [0, 1, 2], [0, 1], [0, 1], [0, 1, 4, 5], [0, 1, 2, 3, 4, 5, 6], [0, 1, 2, 3, 4, 5, 6, 7], [0, 1, 2, 3, 4, 5, 6, 7, 8], [0, 1, 2, 3, 4, 5, 6, 7, 8, 9], [0, 1, 2, 3, 4, 5, 6, 7, 8, 9, 10], [0, 1, 2, 3, 4, 5, 6, 7, 8, 9], [0, 1, 2, 3, 4, 5, 6, 7, 8, 9, 10, 11, 12], [0, 1, 2, 3, 4, 5, 6, 7, 8, 9, 10, 11, 12, 13], [0, 1, 2, 3, 4, 5, 6, 7, 8, 9, 10, 11, 12, 13, 14], [0, 1, 2, 3, 4, 5, 6, 7, 8, 9, 10, 11, 12, 13, 14, 15], [0, 1, 2, 3, 4, 5, 6, 7, 8, 9, 10, 11, 12, 13, 14, 15, 16], [0, 1, 2, 3, 4, 5, 6, 7, 8, 9, 10, 11, 12, 13, 14, 15], [0, 1, 2, 3, 4, 5, 6, 7, 8, 9, 10, 11, 12, 13, 14, 15, 16, 17, 18], [0, 1, 2, 3, 4, 5, 6, 7, 8, 9, 10, 11, 12, 13, 14, 15, 16, 17, 18, 19], [0, 1, 2, 3, 4, 5, 6, 7, 8, 9, 10, 11, 12, 13, 14, 15, 16, 17, 18, 19, 20], [0, 1, 2, 3, 4, 5, 6, 7, 8, 9, 10, 11, 12, 13, 14, 15, 16, 17, 18, 19, 20, 21], [0, 1, 2, 3, 4, 5, 6, 7, 8, 9, 10, 11, 12, 13, 14, 15, 16, 17, 18, 19, 20, 21, 22], [0, 1, 2, 3, 4, 5, 6, 7, 8, 9, 10, 11, 12, 13, 14, 15, 16, 17, 18, 19, 20, 21], [0, 1, 2, 3, 4, 5, 6, 7, 8, 9, 10, 11, 12, 13, 14, 15, 16, 17, 18, 19, 20, 21], [0, 1, 2, 3, 4, 5, 6, 7, 8, 9, 10, 11, 12, 13, 14, 15, 16, 17, 18, 19, 20, 21, 24, 25], [0, 1, 2, 3, 4, 5, 6, 7, 8, 9, 10, 11, 12, 13, 14, 15, 16, 17, 18, 19, 20, 21, 22, 23, 24, 25, 26], [0, 1, 2, 3, 4, 5, 6, 7, 8, 9, 10, 11, 12, 13, 14, 15, 16, 17, 18, 19, 20, 21, 22, 23, 24, 25, 26, 27], [0, 1, 2, 3, 4, 5, 6, 7, 8, 9, 10, 11, 12, 13, 14, 15, 16, 17, 18, 19, 20, 21, 22, 23, 24, 25, 26, 27, 28], [0, 1, 2, 3, 4, 5, 6, 7, 8, 9, 10, 11, 12, 13, 14, 15, 16, 17, 18, 19, 20, 21, 22, 23, 24, 25, 26, 27, 28, 29], [0, 1, 2, 3, 4, 5, 6, 7, 8, 9, 10, 11, 12, 13, 14, 15, 16, 17, 18, 19, 20, 21, 22, 23, 24, 25, 26, 27, 28, 29, 30], [0, 1, 2, 3, 4, 5, 6, 7, 8, 9, 10, 11, 12, 13, 14, 15, 16, 17, 18, 19, 20, 21, 22, 23, 24, 25, 26, 27, 28, 29, 30, 31]]) (sts := [none, none, none, none, none, none, none, none, none, none, none, none]) (news := []) (sp := ((.val 113 _ : Sp) :: (.val 114 _) :: (.adr 115 12 (.some 0) (_ = true)) :: (.val 116 (Wh (_ = true) _)) :: (.val 117 (Wh (_ = true) _)) :: (.val 118 (Wh (_ = true) _)) :: (.val 119 (Wh (_ = true) _)) :: (.val 120 (Wh (_ = true) _)) :: (.val 121 _) :: (.val 122 _) :: (.adr 123 12 (.some 4) (_ = true)) :: (.val 124 (Wh (_ = true) _)) :: (.val 125 (Wh (_ = true) _)) :: (.val 126 (Wh (_ = true) _)) :: (.val 127 _) :: (.val 128 _) :: (.adr 129 12 (.some 8) (_ = true)) :: (.val 130 (Wh (_ = true) _)) :: (.val 131 (Wh (_ = true) _)) :: (.val 132 (Wh (_ = true) _)) :: (.val 133 _) :: (.val 134 _) :: (.adr 135 12 (.some 12) (_ = true)) :: (.val 136 (Wh (_ = true) _)) :: (.val 137 (Wh (_ = true) _)) :: (.val 138 (Wh (_ = true) _)) :: (.val 139 (Wh (_ = true) _)) :: (.val 140 (Wh (_ = true) _)) :: (.val 141 _) :: (.val 142 _) :: (.val 143 (Wh (_ = true) _)) :: (.val 144 _) :: (.val 4 _) :: [])) [.o 32] follows_mixed hst (obs_cons (ob_v rfl rfl (r_load (loc_at0 2 rfl (by kernel_rfl)) ty_4)) (obs_cons (ob_v rfl rfl (r_move (has_v 0 rfl (by kernel_rfl) (by kernel_rfl)))) (obs_cons (ob_ag rfl rfl rfl (has_v 1 rfl (by kernel_rfl) (by kernel_rfl)) (Nat.le_of_ble_eq_true (by kernel_rfl)) (fun hg => a_fld (loc_at0 6 rfl (by kernel_rfl)) fld_42_0)) (obs_cons (ob_gd rfl rfl rfl (has_v 1 rfl (by kernel_rfl) (by kernel_rfl)) (Nat.le_of_ble_eq_true (by kernel_rfl)) (fun hg => r_loadf 2 rfl (by kernel_rfl) hg (loc_at0 6 rfl (by kernel_rfl)) (Sub.part 0 rfl rfl) ty_26)) (obs_cons (ob_gd rfl rfl rfl (has_v 1 rfl (by kernel_rfl) (by kernel_rfl)) (Nat.le_of_ble_eq_true (by kernel_rfl)) (fun hg => r_load (loc_at0 8 rfl (by kernel_rfl)) ty_26)) (obs_cons (ob_gd rfl rfl rfl (has_v 1 rfl (by kernel_rfl) (by kernel_rfl)) (Nat.le_of_ble_eq_true (by kernel_rfl)) (fun hg => r_load (loc_at0 7 rfl (by kernel_rfl)) ty_26)) (obs_cons (ob_gd rfl rfl rfl (has_v 1 rfl (by kernel_rfl) (by kernel_rfl)) (Nat.le_of_ble_eq_true (by kernel_rfl)) (fun hg => r_call (xs := [.tmp 117, .tmp 118]) (less09_c _ _) (.cons (has_wh (has_v 4 rfl (by kernel_rfl) (by kernel_rfl)) hg) (.cons (has_wh (has_v 5 rfl (by kernel_rfl) (by kernel_rfl)) hg) .nil)))) (obs_cons (ob_gd rfl rfl rfl (has_v 1 rfl (by kernel_rfl) (by kernel_rfl)) (Nat.le_of_ble_eq_true (by kernel_rfl)) (fun hg => r_call (xs := [.tmp 116, .tmp 119]) (sameFrac_c _ _) (.cons (has_wh (has_v 3 rfl (by kernel_rfl) (by kernel_rfl)) hg) (.cons (has_wh (has_v 6 rfl (by kernel_rfl) (by kernel_rfl)) hg) .nil)))) (obs_cons (ob_v rfl rfl (r_and (has_v 1 rfl (by kernel_rfl) (by kernel_rfl)) (has_v 7 rfl (by kernel_rfl) (by kernel_rfl)))) (obs_cons (ob_v rfl rfl (r_move (has_v 8 rfl (by kernel_rfl) (by kernel_rfl)))) (obs_cons (ob_ag rfl rfl rfl (has_v 9 rfl (by kernel_rfl) (by kernel_rfl)) (Nat.le_of_ble_eq_true (by kernel_rfl)) (fun hg => a_fld (loc_at0 6 rfl (by kernel_rfl)) fld_42_1)) (obs_cons (ob_gd rfl rfl rfl (has_v 9 rfl (by kernel_rfl) (by kernel_rfl)) (Nat.le_of_ble_eq_true (by kernel_rfl)) (fun hg => r_loadf 10 rfl (by kernel_rfl) hg (loc_at0 6 rfl (by kernel_rfl)) (Sub.part 1 rfl rfl) ty_26)) (obs_cons (ob_gd rfl rfl rfl (has_v 9 rfl (by kernel_rfl) (by kernel_rfl)) (Nat.le_of_ble_eq_true (by kernel_rfl)) (fun hg => r_load (loc_at0 9 rfl (by kernel_rfl)) ty_26)) (obs_cons (ob_gd rfl rfl rfl (has_v 9 rfl (by kernel_rfl) (by kernel_rfl)) (Nat.le_of_ble_eq_true (by kernel_rfl)) (fun hg => r_call (xs := [.tmp 124, .tmp 125]) (sameFrac_c _ _) (.cons (has_wh (has_v 11 rfl (by kernel_rfl) (by kernel_rfl)) hg) (.cons (has_wh (has_v 12 rfl (by kernel_rfl) (by kernel_rfl)) hg) .nil)))) (obs_cons (ob_v rfl rfl (r_and (has_v 9 rfl (by kernel_rfl) (by kernel_rfl)) (has_v 13 rfl (by kernel_rfl) (by kernel_rfl)))) (obs_cons (ob_v rfl rfl (r_move (has_v 14 rfl (by kernel_rfl) (by kernel_rfl)))) (obs_cons (ob_ag rfl rfl rfl (has_v 15 rfl (by kernel_rfl) (by kernel_rfl)) (Nat.le_of_ble_eq_true (by kernel_rfl)) (fun hg => a_fld (loc_at0 6 rfl (by kernel_rfl)) fld_42_2)) (obs_cons (ob_gd rfl rfl rfl (has_v 15 rfl (by kernel_rfl) (by kernel_rfl)) (Nat.le_of_ble_eq_true (by kernel_rfl)) (fun hg => r_loadf 16 rfl (by kernel_rfl) hg (loc_at0 6 rfl (by kernel_rfl)) (Sub.part 2 rfl rfl) ty_26)) (obs_cons (ob_gd rfl rfl rfl (has_v 15 rfl (by kernel_rfl) (by kernel_rfl)) (Nat.le_of_ble_eq_true (by kernel_rfl)) (fun hg => r_load (loc_at0 10 rfl (by kernel_rfl)) ty_26)) (obs_cons (ob_gd rfl rfl rfl (has_v 15 rfl (by kernel_rfl) (by kernel_rfl)) (Nat.le_of_ble_eq_true (by kernel_rfl)) (fun hg => r_call (xs := [.tmp 130, .tmp 131]) (sameFrac_c _ _) (.cons (has_wh (has_v 17 rfl (by kernel_rfl) (by kernel_rfl)) hg) (.cons (has_wh (has_v 18 rfl (by kernel_rfl) (by kernel_rfl)) hg) .nil)))) (obs_cons (ob_v rfl rfl (r_and (has_v 15 rfl (by kernel_rfl) (by kernel_rfl)) (has_v 19 rfl (by kernel_rfl) (by kernel_rfl)))) (obs_cons (ob_v rfl rfl (r_move (has_v 20 rfl (by kernel_rfl) (by kernel_rfl)))) (obs_cons (ob_ag rfl rfl rfl (has_v 21 rfl (by kernel_rfl) (by kernel_rfl)) (Nat.le_of_ble_eq_true (by kernel_rfl)) (fun hg => a_fld (loc_at0 6 rfl (by kernel_rfl)) fld_42_3)) (obs_cons (ob_gd rfl rfl rfl (has_v 21 rfl (by kernel_rfl) (by kernel_rfl)) (Nat.le_of_ble_eq_true (by kernel_rfl)) (fun hg => r_loadf 22 rfl (by kernel_rfl) hg (loc_at0 6 rfl (by kernel_rfl)) (Sub.part 3 rfl rfl) ty_26)) (obs_cons (ob_gd rfl rfl rfl (has_v 21 rfl (by kernel_rfl) (by kernel_rfl)) (Nat.le_of_ble_eq_true (by kernel_rfl)) (fun hg => r_load (loc_at0 11 rfl (by kernel_rfl)) ty_26)) (obs_cons (ob_gd rfl rfl rfl (has_v 21 rfl (by kernel_rfl) (by kernel_rfl)) (Nat.le_of_ble_eq_true (by kernel_rfl)) (fun hg => r_load (loc_at0 7 rfl (by kernel_rfl)) ty_26)) (obs_cons (ob_gd rfl rfl rfl (has_v 21 rfl (by kernel_rfl) (by kernel_rfl)) (Nat.le_of_ble_eq_true (by kernel_rfl)) (fun hg => r_call (xs := [.tmp 137, .tmp 138]) (less09_c _ _) (.cons (has_wh (has_v 24 rfl (by kernel_rfl) (by kernel_rfl)) hg) (.cons (has_wh (has_v 25 rfl (by kernel_rfl) (by kernel_rfl)) hg) .nil)))) (obs_cons (ob_gd rfl rfl rfl (has_v 21 rfl (by kernel_rfl) (by kernel_rfl)) (Nat.le_of_ble_eq_true (by kernel_rfl)) (fun hg => r_call (xs := [.tmp 136, .tmp 139]) (sameFrac_c _ _) (.cons (has_wh (has_v 23 rfl (by kernel_rfl) (by kernel_rfl)) hg) (.cons (has_wh (has_v 26 rfl (by kernel_rfl) (by kernel_rfl)) hg) .nil)))) (obs_cons (ob_v rfl rfl (r_and (has_v 21 rfl (by kernel_rfl) (by kernel_rfl)) (has_v 27 rfl (by kernel_rfl) (by kernel_rfl)))) (obs_cons (ob_v rfl rfl (r_move (has_v 28 rfl (by kernel_rfl) (by kernel_rfl)))) (obs_cons (ob_gd rfl rfl rfl (has_v 29 rfl (by kernel_rfl) (by kernel_rfl)) (Nat.le_of_ble_eq_true (by kernel_rfl)) (fun hg => r_call (xs := []) alive_c .nil)) (obs_cons (ob_v rfl rfl (r_and (has_v 29 rfl (by kernel_rfl) (by kernel_rfl)) (has_v 30 rfl (by kernel_rfl) (by kernel_rfl)))) (obs_cons (ob_v rfl rfl (r_assign (has_v 31 rfl (by kernel_rfl) (by kernel_rfl)))) (obs_nil)))))))))))))))))))))))))))))))))) (by kernel_rfl) (by kernel_rfl) (by kernel_rfl) (by kernel_rfl) (fun a w hst => ?_)
        have hst : St B w0 145 [(4, _)] [⟨2, 42, ptrH, _⟩, ⟨3, 42, ptrH, _⟩, ⟨5, 4, ptrH, _⟩, ⟨6, 26, ptrH, _⟩, ⟨8, 26, ptrH, _⟩, ⟨10, 26, ptrH, _⟩, ⟨12, 42, ptrH, _⟩, ⟨13, 26, ptrH, _⟩, ⟨15, 26, ptrH, _⟩, ⟨17, 26, ptrH, _⟩, ⟨19, 26, ptrH, _⟩, ⟨21, 26, ptrH, _⟩] a w := hst
        refine thn_normal ?_
        refine wp_ret ?_
        refine ret_wk ?_ (ret_tmp rfl hst (List.mem_of_getElem? (i := 0) rfl))
        exact bo_and (sq_end hm sm)

open Go.ChangeShapes Go.WideShapes Go.ChangeAt
open Go.ChangeMaps (open_string shut_string)
set_option linter.unusedVariables false
theorem own : ownKnob Try.prog.godebug = none := by kernel_rfl
theorem laidOut : laidOutB Try.prog = true := by kernel_rfl
set_option maxRecDepth 100000 in
theorem lifted (os : Os) (started : os.Started) (H : Type) (enc : TypeId × Value → H) :
    ReturnsInHanded {} Try.checked os 7 .any (Rows.raySquareSpec.pre6 enc Try.prog Try.f7 Rows.raySquareRow.domain false) (Rows.raySquareSpec.post enc Try.prog Try.f7 false true false false) := by
  refine returnsInHanded_of_change (C := Try.checked) own started (by kernel_rfl) Try.func7
    (ChangeSpec.witness6 (enc := enc) (C := Try.checked) false ⟨#[], #[.agg #[.bool false, .slice none 0 0, .bool false, .slice none 0 0, .bool false, .slice none 0 0, .bool false, .slice none 0 0, .bool false, .slice none 0 0, .bool false, .slice none 0 0, .bool false, .slice none 0 0, .bool false, .slice none 0 0], .agg #[.bool false, .slice none 0 0, .bool false, .slice none 0 0, .bool false, .slice none 0 0, .bool false, .slice none 0 0, .bool false, .slice none 0 0, .bool false, .slice none 0 0, .bool false, .slice none 0 0, .bool false, .slice none 0 0]], []⟩ 8 (by kernel_rfl) (by kernel_rfl) (by kernel_rfl) (by kernel_rfl)) ?_
  intro W base args ds gs before hval0 hW hcnd _
  have hval : ∀ (j : Nat) t v, Try.f7.params[j]? = some t → args[j]? = some v → Value.okWide Try.prog W .any base t v := hval0
  have hW' := hW
  obtain ⟨p, q, hA0, hV, rfl, hfz, hnd⟩ := hW
  have hA : DataW.TrodAll enc Try.prog W 0 (fun _ => true) true Try.f7.params.toList args.toList ds p := hA0
  rw [Try.params7] at hA hval
  obtain ⟨v0, vs0, d0, ds0, p0, q0, hargs, rfl, rfl, h0, r0⟩ := trodAll_cons hA
  obtain ⟨v1, vs1, d1, ds1, p1, q1, rfl, rfl, rfl, h1, r1⟩ := trodAll_cons r0
  obtain ⟨rfl, rfl, rfl⟩ := trodAll_nil r1
  obtain rfl : args = #[v0, v1] := by cases args; simp_all
  obtain ⟨rfl, rfl⟩ := trodVars_none hV
  have k0 := h0
  have lt0 : ∀ x ∈ p0, x.block < W.heap.size := by obtain ⟨m, hm⟩ := k0; exact DataW.trod_lt m _ _ _ hm
  have k1 := h1
  have lt1 : ∀ x ∈ p1, x.block < W.heap.size := by obtain ⟨m, hm⟩ := k1; exact DataW.trod_lt m _ _ _ hm
  obtain ⟨x0, a0⟩ := arg_of (A := RMA) (fun _ => rfl) Try.underlying42 rd_rm (hval 0 42 v0 rfl rfl) h0
  obtain ⟨x1, a1⟩ := arg_of (A := RMA) (fun _ => rfl) Try.underlying42 rd_rm (hval 1 42 v1 rfl rfl) h1
  clear hA0 hval0
  refine ((raySquare_w x0 x1).2 W.heap.size W [v0, v1] (Nat.le_refl _) (.cons a0 (.cons a1 .nil))).mono fun e W' ⟨v, he, hv, bel⟩ => ?_
  have hv' := bo_val hv
  subst hv' he
  exact ⟨_, rfl, _, _, _, [], _, [], hW', trodAll_mk1 (shut_bool Try.underlying4 _), (trodAll_cons_mk (Below.trod laidOut (by kernel_rfl) (of_decide_eq_true (by kernel_rfl)) k0 bel lt0) (trodAll_cons_mk (Below.trod laidOut (by kernel_rfl) (of_decide_eq_true (by kernel_rfl)) k1 bel lt1) trodAll_mk0)), rfl, bel.frame _, fun h => by cases h⟩
theorem over : Rows.raySquareRow.holds Try.pinned (OpenSpec.ofChange Rows.raySquareSpec) :=
  OpenClaim.holds_of_wide 7 Try.f7 rfl rfl rfl rfl rfl rfl rfl ⟨rfl, rfl, rfl, rfl, rfl⟩ rfl rfl rfl rfl rfl (by kernel_rfl) Try.func7 (by kernel_rfl)
    (of_decide_eq_true (by kernel_rfl)) (by unfold Func.isWrapper; rw [if_neg (of_decide_eq_false (by kernel_rfl))]; exact ⟨rfl, rfl⟩)
    (fun os started H enc _ => lifted os started H enc)
theorem provedRaySquare : Rows.RaySquareSaid := over
#print axioms provedRaySquare

end Go.Proofs.Ytiokhlpbdabaeaa
