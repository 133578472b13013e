/- Contracts of package image: power, planes, image, sharpness, stop. -/
import Derived.Test.YtiokhlpbdabaeaaLeafX
namespace Go.Proofs.Ytiokhlpbdabaeaa
open Go Go.RowKit
namespace LeafY
theorem fld_42_0 : Fld Try.prog 42 0 0 4 := ⟨_, _, Try.underlying42, rfl, rfl, by kernel_rfl, by decide⟩
theorem fld_42_1 : Fld Try.prog 42 1 4 4 := ⟨_, _, Try.underlying42, rfl, rfl, by kernel_rfl, by decide⟩
theorem fld_42_2 : Fld Try.prog 42 2 8 4 := ⟨_, _, Try.underlying42, rfl, rfl, by kernel_rfl, by decide⟩
theorem fld_42_3 : Fld Try.prog 42 3 12 4 := ⟨_, _, Try.underlying42, rfl, rfl, by kernel_rfl, by decide⟩
theorem sl_116 : Sl Try.prog 116 26 4 := ⟨by kernel_rfl, by kernel_rfl⟩
theorem ty_26 : Ty Try.prog 26 4 true := ⟨by kernel_rfl, by kernel_rfl⟩
theorem ty_42 : Ty Try.prog 42 16 true := ⟨by kernel_rfl, by kernel_rfl⟩
end LeafY
open LeafY
def twF (x y : Rat) : RF × RF × Int := if [x, y].any longQ then (rf0, rf0, 4) else (rfOf x, rfOf y, 0)
abbrev TwR (r : RF × RF × Int) : VA := Tu [(RFA r.1).va, (RFA r.2.1).va, In r.2.2]
def upQ (m : MQ) (x : Rat) : Rat := m.a * x + m.b
def loQ (m : MQ) (x : Rat) : Rat := m.c * x + m.d
abbrev UpV (m : MQ) (x : Rat) : VA := Tu [Qs 6145 (upQ m x), Qs 6145 (loQ m x)]
def powF (m : RM) : RF × Int := if okM m then ansF (-(toM m).c) else (rf0, 1)
def plF (m : RM) : RF × RF × Int := if okM m then (if (toM m).c = 0 then (rf0, rf0, 3) else twF (((toM m).d - 1) / (toM m).c) ((1 - (toM m).a) / (toM m).c)) else (rf0, rf0, 1)
def imF (m : RM) (t : RF) : RF × RF × Int := if okM m && okX t then (if loQ (toM m) (toQ t) = 0 then (rf0, rf0, 3) else twF (-(upQ (toM m) (toQ t) / loQ (toM m) (toQ t))) (1 / loQ (toM m) (toQ t))) else (rf0, rf0, 1)
def shF (m : RM) : Bool × Int := if okM m then (decide ((toM m).b = 0), 0) else (false, 1)
def stF (m : RM) (t : RF) : RF × Int := if (okM m && okX t) && !decide ((toQ t).num.sign < 0) then (if (toM m).b = 0 then (rf0, 3) else if (toM m).b.num.sign = 1 then ansF (toQ t / (toM m).b) else ansF (toQ t / -(toM m).b)) else (rf0, 1)
theorem chk1 {c : Bool} : ((if c then (0 : Int) else 1) != 0) = !c := by cases c <;> rfl
theorem chk2 {m : RM} {t : RF} : (((if okM m then (0 : Int) else 1) != 0) || ((if okX t then (0 : Int) else 1) != 0)) = !(okM m && okX t) := by rw [chk1, chk1, Bool.not_and]
theorem chk3 {m : RM} {t : RF} {c : Bool} : ((((if okM m then (0 : Int) else 1) != 0) || ((if okX t then (0 : Int) else 1) != 0)) || c) = !((okM m && okX t) && !c) := by rw [chk2]; cases okM m && okX t <;> cases c <;> rfl
theorem sgn_x {m : RM} {t : RF} (h : (((if okM m then (0 : Int) else 1) != 0) || ((if okX t then (0 : Int) else 1) != 0)) = false) : Cn Try.prog 68 [(RFA t).va] (In (toQ t).num.sign) := by
  rw [chk2, Bool.not_eq_false', Bool.and_eq_true] at h
  exact sign_q.wk (.cons (qa_x h.2 (Nat.le_refl 2048)).va .nil)
theorem neg_nz {x : Rat} (h : ¬ x = 0) : ¬ -x = 0 := fun e => h (by grind)
theorem two_long {x y : Rat} : [x, y].any longQ = (longQ x || longQ y) := by simp

set_option maxRecDepth 100000 in
theorem im1_q {c : Nat} {x : Rat} (hc : c ≤ 549755813888) : Cn Try.prog 66 [Qs c x] (FrR (ansF x)) := by
  refine Cn.intro Try.func66 rfl (by kernel_rfl) (Nat.le_of_ble_eq_true (by kernel_rfl)) (fun B w0 a hst => ?_)
  have hst : St B w0 14 [(0, Qs c x)] [] a w0.w := hst
  refine wp_seq ?_
  refine go_lin (sts := []) (news := [⟨1, 26, ptrH, some 0, _, none⟩, ⟨2, 26, ptrH, some 1, _, none⟩]) (sp := [.alc 0, .alc 1, .val 3 _]) [.o 2] hst (obs_cons (ob_box rfl rfl rfl (has_g 0 rfl (by kernel_rfl) (by kernel_rfl))) (obs_cons (ob_alc rfl rfl rfl (Str.zero str_frac)) (obs_cons (ob_v rfl rfl (r_assign has_num)) (obs_nil)))) (by kernel_rfl) (by kernel_rfl) (by kernel_rfl) (fun a w hst => ?_)
  have hst : St B w0 14 [(3, _)] [⟨1, 26, ptrH, _⟩, ⟨2, 26, ptrH, _⟩] a w := hst
  refine thn_normal ?_
  refine wp_seq ?_
  refine wp_seq ?_
  refine go_lin (sts := [none, none]) (news := []) (sp := [.val 5 _, .val 6 _, .val 7 _, .val 4 _]) [.g 0, .o 3] hst (obs_cons (ob_v rfl rfl (r_load (loc_at0 0 rfl (by kernel_rfl)) ty_26)) (obs_cons (ob_v rfl rfl (r_slice (D := [U32]) (l := [_]) (xs := [.tmp 5]) (nd_ok (by kernel_rfl)) sl_116 (by kernel_rfl) (n_ok (by kernel_rfl)) (Nat.le_of_ble_eq_true (by kernel_rfl)) (Nat.le_of_ble_eq_true (by kernel_rfl)) (Nat.le_of_ble_eq_true (by kernel_rfl)) (.cons (has_v 0 rfl (by kernel_rfl) (by kernel_rfl)) .nil) rfl rfl)) (obs_cons (ob_v rfl rfl (r_call (xs := [.tmp 6]) (answer_q [x] (.cons ⟨_, rfl⟩ .nil) (Nat.le_of_ble_eq_true (by kernel_rfl))) (.cons (has_v 1 rfl (by kernel_rfl) (by kernel_rfl)) .nil))) (obs_cons (ob_v rfl rfl (r_assign (has_v 2 rfl (by kernel_rfl) (by kernel_rfl)))) (obs_nil))))) (by kernel_rfl) (by kernel_rfl) (by kernel_rfl) (fun a w hst => ?_)
  have hst : St B w0 14 [(3, _), (4, _)] [⟨1, 26, ptrH, _⟩, ⟨2, 26, ptrH, _⟩] a w := hst
  refine thn_normal ?_
  refine wp_seq ?_
  refine go_lin (sts := [none, none]) (news := []) (sp := [.val 8 _, .val 9 _]) [.g 0, .g 1, .o 1] hst (obs_cons (ob_v rfl rfl (r_move (has_g 1 rfl (by kernel_rfl) (by kernel_rfl)))) (obs_cons (ob_v rfl rfl (r_neq (has_v 0 rfl (by kernel_rfl) (by kernel_rfl)) has_num)) (obs_nil))) (by kernel_rfl) (by kernel_rfl) (by kernel_rfl) (fun a w hst => ?_)
  have hst : St B w0 14 [(3, _), (4, _), (9, _)] [⟨1, 26, ptrH, _⟩, ⟨2, 26, ptrH, _⟩] a w := hst
  refine thn_normal ?_
  refine cond_of hst (List.mem_of_getElem? (i := 2) rfl) (fun hb0 => ?_) (fun hb0 => ?_)
  · rw [one_long, ne0] at hb0
    refine wp_seq ?_
    refine go_lin (sts := [none, some (2, _)]) (news := []) (sp := [.val 10 _, .val 11 _, .sto 1, .val 3 _]) [.o 3] hst (obs_cons (ob_v rfl rfl (r_build (xs := []) (qs := []) str_frac .nil)) (obs_cons (ob_v rfl rfl (r_move (has_g 1 rfl (by kernel_rfl) (by kernel_rfl)))) (obs_cons (ob_sto rfl rfl rfl (has_v 0 rfl (by kernel_rfl) (by kernel_rfl)) ty_26 rfl) (obs_cons (ob_v rfl rfl (r_assign (has_v 1 rfl (by kernel_rfl) (by kernel_rfl)))) (obs_nil))))) (by kernel_rfl) (by kernel_rfl) (by kernel_rfl) (fun a w hst => ?_)
    have hst : St B w0 14 [(3, _)] [⟨1, 26, ptrH, _⟩, ⟨2, 26, ptrH, _⟩] a w := hst
    refine thn_normal ?_
    refine wp_ret ?_
    refine thn_ret ?_
    refine ret_wk ?_ (ret_many (rs := [.cell 2 26, .tmp 3]) rfl hst (.cell (List.mem_of_getElem? (i := 1) rfl) ty_26 (.tmp (List.mem_of_getElem? (i := 0) rfl) .nil)) (by decide))
    rw [ansF, if_pos hb0]; exact tu2w wk_id (wk_eq (by rw [one_long, hb0]; rfl))
  · rw [one_long, ne0] at hb0
    refine wp_skip ?_
    refine thn_normal ?_
    refine wp_seq ?_
    refine go_lin (sts := [none, some (2, _)]) (news := []) (sp := [.val 12 _, .val 13 _, .sto 1, .val 3 _]) [.o 3] hst (obs_cons (ob_v rfl rfl (r_load (loc_at0 0 rfl (by kernel_rfl)) ty_26)) (obs_cons (ob_v rfl rfl (r_call (xs := [.tmp 12]) (copy_q (by omega)) (.cons (has_v 0 rfl (by kernel_rfl) (by kernel_rfl)) .nil))) (obs_cons (ob_sto rfl rfl rfl (has_v 1 rfl (by kernel_rfl) (by kernel_rfl)) ty_26 rfl) (obs_cons (ob_v rfl rfl (r_assign has_num)) (obs_nil))))) (by kernel_rfl) (by kernel_rfl) (by kernel_rfl) (fun a w hst => ?_)
    have hst : St B w0 14 [(3, _)] [⟨1, 26, ptrH, _⟩, ⟨2, 26, ptrH, _⟩] a w := hst
    refine thn_normal ?_
    refine wp_ret ?_
    refine ret_wk ?_ (ret_many (rs := [.cell 2 26, .tmp 3]) rfl hst (.cell (List.mem_of_getElem? (i := 1) rfl) ty_26 (.tmp (List.mem_of_getElem? (i := 0) rfl) .nil)) (by decide))
    rw [ansF, if_neg (by rw [hb0]; decide)]; exact tu2w rq_wk wk_id

set_option maxRecDepth 100000 in
theorem im2_q {c d : Nat} {x y : Rat} (hc : c ≤ 549755813888) (hd : d ≤ 549755813888) : Cn Try.prog 70 [Qs c x, Qs d y] (TwR (twF x y)) := by
  refine Cn.intro Try.func70 rfl (by kernel_rfl) (Nat.le_of_ble_eq_true (by kernel_rfl)) (fun B w0 a hst => ?_)
  have hst : St B w0 21 [(0, Qs c x), (1, Qs d y)] [] a w0.w := hst
  refine wp_seq ?_
  refine go_lin (sts := []) (news := [⟨2, 26, ptrH, some 0, _, none⟩, ⟨3, 26, ptrH, some 1, _, none⟩, ⟨4, 26, ptrH, some 2, _, none⟩, ⟨5, 26, ptrH, some 3, _, none⟩]) (sp := [.alc 0, .alc 1, .alc 2, .alc 3, .val 6 _]) [.o 4] hst (obs_cons (ob_box rfl rfl rfl (has_g 0 rfl (by kernel_rfl) (by kernel_rfl))) (obs_cons (ob_box rfl rfl rfl (has_g 1 rfl (by kernel_rfl) (by kernel_rfl))) (obs_cons (ob_alc rfl rfl rfl (Str.zero str_frac)) (obs_cons (ob_alc rfl rfl rfl (Str.zero str_frac)) (obs_cons (ob_v rfl rfl (r_assign has_num)) (obs_nil)))))) (by kernel_rfl) (by kernel_rfl) (by kernel_rfl) (fun a w hst => ?_)
  have hst : St B w0 21 [(6, _)] [⟨2, 26, ptrH, _⟩, ⟨3, 26, ptrH, _⟩, ⟨4, 26, ptrH, _⟩, ⟨5, 26, ptrH, _⟩] a w := hst
  refine thn_normal ?_
  refine wp_seq ?_
  refine wp_seq ?_
  refine go_lin (sts := [none, none, none, none]) (news := []) (sp := [.val 8 _, .val 9 _, .val 10 _, .val 11 _, .val 7 _]) [.g 0, .o 4] hst (obs_cons (ob_v rfl rfl (r_load (loc_at0 0 rfl (by kernel_rfl)) ty_26)) (obs_cons (ob_v rfl rfl (r_load (loc_at0 1 rfl (by kernel_rfl)) ty_26)) (obs_cons (ob_v rfl rfl (r_slice (D := [U32]) (l := [_, _]) (xs := [.tmp 8, .tmp 9]) (nd_ok (by kernel_rfl)) sl_116 (by kernel_rfl) (n_ok (by kernel_rfl)) (Nat.le_of_ble_eq_true (by kernel_rfl)) (Nat.le_of_ble_eq_true (by kernel_rfl)) (Nat.le_of_ble_eq_true (by kernel_rfl)) (.cons (has_v 0 rfl (by kernel_rfl) (by kernel_rfl)) (.cons (has_v 1 rfl (by kernel_rfl) (by kernel_rfl)) .nil)) rfl rfl)) (obs_cons (ob_v rfl rfl (r_call (xs := [.tmp 10]) (answer_q [x, y] (.cons ⟨_, rfl⟩ (.cons ⟨_, rfl⟩ .nil)) (Nat.le_of_ble_eq_true (by kernel_rfl))) (.cons (has_v 2 rfl (by kernel_rfl) (by kernel_rfl)) .nil))) (obs_cons (ob_v rfl rfl (r_assign (has_v 3 rfl (by kernel_rfl) (by kernel_rfl)))) (obs_nil)))))) (by kernel_rfl) (by kernel_rfl) (by kernel_rfl) (fun a w hst => ?_)
  have hst : St B w0 21 [(6, _), (7, _)] [⟨2, 26, ptrH, _⟩, ⟨3, 26, ptrH, _⟩, ⟨4, 26, ptrH, _⟩, ⟨5, 26, ptrH, _⟩] a w := hst
  refine thn_normal ?_
  refine wp_seq ?_
  refine go_lin (sts := [none, none, none, none]) (news := []) (sp := [.val 12 _, .val 13 _]) [.g 0, .g 1, .o 1] hst (obs_cons (ob_v rfl rfl (r_move (has_g 1 rfl (by kernel_rfl) (by kernel_rfl)))) (obs_cons (ob_v rfl rfl (r_neq (has_v 0 rfl (by kernel_rfl) (by kernel_rfl)) has_num)) (obs_nil))) (by kernel_rfl) (by kernel_rfl) (by kernel_rfl) (fun a w hst => ?_)
  have hst : St B w0 21 [(6, _), (7, _), (13, _)] [⟨2, 26, ptrH, _⟩, ⟨3, 26, ptrH, _⟩, ⟨4, 26, ptrH, _⟩, ⟨5, 26, ptrH, _⟩] a w := hst
  refine thn_normal ?_
  refine cond_of hst (List.mem_of_getElem? (i := 2) rfl) (fun hb0 => ?_) (fun hb0 => ?_)
  · rw [ne0] at hb0
    refine wp_seq ?_
    refine go_lin (sts := [none, none, some (3, _), some (4, _)]) (news := []) (sp := [.val 14 _, .val 15 _, .val 16 _, .sto 2, .sto 3, .val 6 _]) [.o 5] hst (obs_cons (ob_v rfl rfl (r_build (xs := []) (qs := []) str_frac .nil)) (obs_cons (ob_v rfl rfl (r_build (xs := []) (qs := []) str_frac .nil)) (obs_cons (ob_v rfl rfl (r_move (has_g 1 rfl (by kernel_rfl) (by kernel_rfl)))) (obs_cons (ob_sto rfl rfl rfl (has_v 0 rfl (by kernel_rfl) (by kernel_rfl)) ty_26 rfl) (obs_cons (ob_sto rfl rfl rfl (has_v 1 rfl (by kernel_rfl) (by kernel_rfl)) ty_26 rfl) (obs_cons (ob_v rfl rfl (r_assign (has_v 2 rfl (by kernel_rfl) (by kernel_rfl)))) (obs_nil))))))) (by kernel_rfl) (by kernel_rfl) (by kernel_rfl) (fun a w hst => ?_)
    have hst : St B w0 21 [(6, _)] [⟨2, 26, ptrH, _⟩, ⟨3, 26, ptrH, _⟩, ⟨4, 26, ptrH, _⟩, ⟨5, 26, ptrH, _⟩] a w := hst
    refine thn_normal ?_
    refine wp_ret ?_
    refine thn_ret ?_
    refine ret_wk ?_ (ret_many (rs := [.cell 4 26, .cell 5 26, .tmp 6]) rfl hst (.cell (List.mem_of_getElem? (i := 2) rfl) ty_26 (.cell (List.mem_of_getElem? (i := 3) rfl) ty_26 (.tmp (List.mem_of_getElem? (i := 0) rfl) .nil))) (by decide))
    rw [show twF x y = (rf0, rf0, 4) from if_pos hb0]; exact tu3w wk_id wk_id (wk_eq (by rw [hb0]; rfl))
  · rw [ne0] at hb0
    refine wp_skip ?_
    refine thn_normal ?_
    refine wp_seq ?_
    refine go_draw (anc := [[], [0], [], [0, 1, 2], [0, 1, 2, 3], [0, 1, 2, 3, 4], [0, 1, 2, 3, 4, 5]]) (sts := [none, none, some (4, _), some (5, _)]) (news := []) (sp := [.val 17 _, .val 18 _, .val 19 _, .val 20 _, .sto 2, .sto 3, .val 6 _]) [.o 6] follows_mixed hst (obs_cons (ob_v rfl rfl (r_load (loc_at0 0 rfl (by kernel_rfl)) ty_26)) (obs_cons (ob_v rfl rfl (r_call (xs := [.tmp 17]) (copy_q (by omega)) (.cons (has_v 0 rfl (by kernel_rfl) (by kernel_rfl)) .nil))) (obs_cons (ob_v rfl rfl (r_load (loc_at0 1 rfl (by kernel_rfl)) ty_26)) (obs_cons (ob_v rfl rfl (r_call (xs := [.tmp 19]) (copy_q (by omega)) (.cons (has_v 2 rfl (by kernel_rfl) (by kernel_rfl)) .nil))) (obs_cons (ob_sto rfl rfl rfl (has_v 1 rfl (by kernel_rfl) (by kernel_rfl)) ty_26 rfl) (obs_cons (ob_sto rfl rfl rfl (has_v 3 rfl (by kernel_rfl) (by kernel_rfl)) ty_26 rfl) (obs_cons (ob_v rfl rfl (r_assign has_num)) (obs_nil)))))))) (by kernel_rfl) (by kernel_rfl) (by kernel_rfl) (by kernel_rfl) (fun a w hst => ?_)
    have hst : St B w0 21 [(6, _)] [⟨2, 26, ptrH, _⟩, ⟨3, 26, ptrH, _⟩, ⟨4, 26, ptrH, _⟩, ⟨5, 26, ptrH, _⟩] a w := hst
    refine thn_normal ?_
    refine wp_ret ?_
    refine ret_wk ?_ (ret_many (rs := [.cell 4 26, .cell 5 26, .tmp 6]) rfl hst (.cell (List.mem_of_getElem? (i := 2) rfl) ty_26 (.cell (List.mem_of_getElem? (i := 3) rfl) ty_26 (.tmp (List.mem_of_getElem? (i := 0) rfl) .nil))) (by decide))
    rw [twF, if_neg (by rw [hb0]; decide)]; exact tu3w rq_wk rq_wk wk_id

set_option maxRecDepth 100000 in
theorem at1_c (m : MQ) (x : Rat) : Cn Try.prog 122 [Qs 2048 x, (ElP 42 (QMA 2048 m))] (UpV m x) := by
  refine Cn.intro Try.func122 rfl (by kernel_rfl) (Nat.le_of_ble_eq_true (by kernel_rfl)) (fun B w0 a hst => ?_)
  have hst : St B w0 19 [(0, Qs 2048 x), (1, (ElP 42 (QMA 2048 m)))] [] a w0.w := hst
  refine wp_seq ?_
  refine go_lin (sts := []) (news := [⟨2, 26, ptrH, some 0, _, none⟩, ⟨3, 26, ptrH, some 1, _, none⟩, ⟨4, 26, ptrH, some 2, _, none⟩]) (sp := [.alc 0, .alc 1, .alc 2]) [.g 1] hst (obs_cons (ob_box rfl rfl rfl (has_g 0 rfl (by kernel_rfl) (by kernel_rfl))) (obs_cons (ob_alc rfl rfl rfl (Str.zero str_frac)) (obs_cons (ob_alc rfl rfl rfl (Str.zero str_frac)) (obs_nil)))) (by kernel_rfl) (by kernel_rfl) (by kernel_rfl) (fun a w hst => ?_)
  have hst : St B w0 19 [(1, _)] [⟨2, 26, ptrH, _⟩, ⟨3, 26, ptrH, _⟩, ⟨4, 26, ptrH, _⟩] a w := hst
  refine thn_normal ?_
  refine wp_seq ?_
  refine go_draw (anc := [[], [0], [], [0, 1, 2], [], [4], [0, 1, 2, 3, 4, 5], [], [7], [], [0, 1, 2, 3, 4, 5, 6, 7, 8, 9], [], [11], [0, 1, 2, 3, 4, 5, 6, 7, 8, 9, 10, 11, 12], [0, 1, 2, 3, 4, 5, 6, 7, 8, 9, 10, 11, 12, 13], [0, 1, 2, 3, 4, 5, 6, 7, 8, 9, 10, 11, 12, 13, 14]]) (sts := [none, some (14, _), some (15, _)]) (news := []) (sp := [.val 5 _, .val 6 _, .val 7 _, .val 8 _, .val 9 _, .val 10 _, .val 11 _, .val 12 _, .val 13 _, .val 14 _, .val 15 _, .val 16 _, .val 17 _, .val 18 _, .sto 1, .sto 2]) [] follows_mixed hst (obs_cons (ob_v rfl rfl (r_fielde (has_g 0 rfl (by kernel_rfl) (by kernel_rfl)) fld_42_0 (Sub.part 0 rfl rfl))) (obs_cons (ob_v rfl rfl (r_loade (has_v 0 rfl (by kernel_rfl) (by kernel_rfl)) ty_26)) (obs_cons (ob_v rfl rfl (r_load (loc_at0 0 rfl (by kernel_rfl)) ty_26)) (obs_cons (ob_v rfl rfl (r_call (xs := [.tmp 6, .tmp 7]) (times_q (by omega)) (.cons (has_v 1 rfl (by kernel_rfl) (by kernel_rfl)) (.cons (has_v 2 rfl (by kernel_rfl) (by kernel_rfl)) .nil)))) (obs_cons (ob_v rfl rfl (r_fielde (has_g 0 rfl (by kernel_rfl) (by kernel_rfl)) fld_42_1 (Sub.part 1 rfl rfl))) (obs_cons (ob_v rfl rfl (r_loade (has_v 4 rfl (by kernel_rfl) (by kernel_rfl)) ty_26)) (obs_cons (ob_v rfl rfl (r_call (xs := [.tmp 8, .tmp 10]) (plus_q (by omega)) (.cons (has_v 3 rfl (by kernel_rfl) (by kernel_rfl)) (.cons (has_v 5 rfl (by kernel_rfl) (by kernel_rfl)) .nil)))) (obs_cons (ob_v rfl rfl (r_fielde (has_g 0 rfl (by kernel_rfl) (by kernel_rfl)) fld_42_2 (Sub.part 2 rfl rfl))) (obs_cons (ob_v rfl rfl (r_loade (has_v 7 rfl (by kernel_rfl) (by kernel_rfl)) ty_26)) (obs_cons (ob_v rfl rfl (r_load (loc_at0 0 rfl (by kernel_rfl)) ty_26)) (obs_cons (ob_v rfl rfl (r_call (xs := [.tmp 13, .tmp 14]) (times_q (by omega)) (.cons (has_v 8 rfl (by kernel_rfl) (by kernel_rfl)) (.cons (has_v 9 rfl (by kernel_rfl) (by kernel_rfl)) .nil)))) (obs_cons (ob_v rfl rfl (r_fielde (has_g 0 rfl (by kernel_rfl) (by kernel_rfl)) fld_42_3 (Sub.part 3 rfl rfl))) (obs_cons (ob_v rfl rfl (r_loade (has_v 11 rfl (by kernel_rfl) (by kernel_rfl)) ty_26)) (obs_cons (ob_v rfl rfl (r_call (xs := [.tmp 15, .tmp 17]) (plus_q (by omega)) (.cons (has_v 10 rfl (by kernel_rfl) (by kernel_rfl)) (.cons (has_v 12 rfl (by kernel_rfl) (by kernel_rfl)) .nil)))) (obs_cons (ob_sto rfl rfl rfl (has_v 6 rfl (by kernel_rfl) (by kernel_rfl)) ty_26 rfl) (obs_cons (ob_sto rfl rfl rfl (has_v 13 rfl (by kernel_rfl) (by kernel_rfl)) ty_26 rfl) (obs_nil))))))))))))))))) (by kernel_rfl) (by kernel_rfl) (by kernel_rfl) (by kernel_rfl) (fun a w hst => ?_)
  have hst : St B w0 19 [] [⟨2, 26, ptrH, _⟩, ⟨3, 26, ptrH, _⟩, ⟨4, 26, ptrH, _⟩] a w := hst
  refine thn_normal ?_
  refine wp_ret ?_
  refine ret_wk ?_ (ret_many (rs := [.cell 3 26, .cell 4 26]) rfl hst (.cell (List.mem_of_getElem? (i := 1) rfl) ty_26 (.cell (List.mem_of_getElem? (i := 2) rfl) ty_26 .nil)) (by decide))
  exact wk_id

abbrev FnU (m : MQ) : VA := FnV Try.prog [42, 141] (fun x : Rat => [Qs 2048 x]) (fun x => UpV m x)

set_option maxRecDepth 100000 in
theorem at_c (m : MQ) : Cn Try.prog 74 [(QMA 2048 m).va] (FnU m) := by
  refine Cn.intro Try.func74 rfl (by kernel_rfl) (Nat.le_of_ble_eq_true (by kernel_rfl)) (fun B w0 a hst => ?_)
  have hst : St B w0 4 [(0, (QMA 2048 m).va)] [] a w0.w := hst
  refine wp_seq ?_
  refine go_lin (sts := []) (news := [⟨1, 42, ptrH, some 0, _, none⟩]) (sp := [.alc 0, .val 2 _]) [.o 1] hst (obs_cons (ob_box rfl rfl rfl (has_g 0 rfl (by kernel_rfl) (by kernel_rfl))) (obs_cons (ob_v rfl rfl (r_assign has_const)) (obs_nil))) (by kernel_rfl) (by kernel_rfl) (by kernel_rfl) (fun a w hst => ?_)
  have hst : St B w0 4 [(2, _)] [⟨1, 42, ptrH, _⟩] a w := hst
  refine thn_normal ?_
  refine wp_seq ?_
  refine go_lin (sts := [none]) (news := []) (sp := [.val 3 _, .val 2 _]) [.o 1] hst (obs_cons (ob_v rfl rfl (r_mkfunc (xs := [.tmp 1]) (D := [42, 141]) (pre := fun x : Rat => [Qs 2048 x]) (post := fun x => UpV m x) (fun x => at1_c m x) (nd_va rfl) (.cons (has_ptr (loc_at0 0 rfl (by kernel_rfl))) .nil))) (obs_cons (ob_v rfl rfl (r_assign (has_v 0 rfl (by kernel_rfl) (by kernel_rfl)))) (obs_nil))) (by kernel_rfl) (by kernel_rfl) (by kernel_rfl) (fun a w hst => ?_)
  have hst : St B w0 4 [(2, _)] [⟨1, 42, ptrH, _⟩] a w := hst
  refine thn_normal ?_
  refine wp_ret ?_
  refine ret_wk ?_ (ret_tmp rfl hst (List.mem_of_getElem? (i := 0) rfl))
  exact wk_id

theorem okM_all {m : RM} (h : okM m = true) : [m.a, m.b, m.c, m.d].all okX = true := (okM_q h).1
theorem and_mx {m : RM} {t : RF} (h : (okM m && okX t) = true) : okM m = true ∧ okX t = true := by rwa [Bool.and_eq_true] at h

set_option maxRecDepth 100000 in
theorem power_c (m : RM) : Cn Try.prog 25 [(RMA m).va] (FrR (powF m)) := by
  refine Cn.intro Try.func25 rfl (by kernel_rfl) (Nat.le_of_ble_eq_true (by kernel_rfl)) (fun B w0 a hst => ?_)
  have hst : St B w0 14 [(0, (RMA m).va)] [] a w0.w := hst
  refine wp_seq ?_
  refine go_lin (sts := []) (news := [⟨1, 42, ptrH, some 0, _, none⟩, ⟨2, 26, ptrH, some 1, _, none⟩]) (sp := [.alc 0, .alc 1, .val 3 _]) [.o 2] hst (obs_cons (ob_box rfl rfl rfl (has_g 0 rfl (by kernel_rfl) (by kernel_rfl))) (obs_cons (ob_alc rfl rfl rfl (Str.zero str_frac)) (obs_cons (ob_v rfl rfl (r_assign has_num)) (obs_nil)))) (by kernel_rfl) (by kernel_rfl) (by kernel_rfl) (fun a w hst => ?_)
  have hst : St B w0 14 [(3, _)] [⟨1, 42, ptrH, _⟩, ⟨2, 26, ptrH, _⟩] a w := hst
  refine thn_normal ?_
  refine wp_seq ?_
  refine wp_seq ?_
  refine go_lin (sts := [none, none]) (news := []) (sp := [.val 4 _, .val 5 _, .val 6 _]) [.g 0, .o 2] hst (obs_cons (ob_v rfl rfl (r_load (loc_at0 0 rfl (by kernel_rfl)) ty_42)) (obs_cons (ob_v rfl rfl (r_call (xs := [.tmp 4]) (rayCheck_c _) (.cons (has_v 0 rfl (by kernel_rfl) (by kernel_rfl)) .nil))) (obs_cons (ob_v rfl rfl (r_neq (has_v 1 rfl (by kernel_rfl) (by kernel_rfl)) has_num)) (obs_nil)))) (by kernel_rfl) (by kernel_rfl) (by kernel_rfl) (fun a w hst => ?_)
  have hst : St B w0 14 [(3, _), (6, _)] [⟨1, 42, ptrH, _⟩, ⟨2, 26, ptrH, _⟩] a w := hst
  refine thn_normal ?_
  refine cond_of hst (List.mem_of_getElem? (i := 1) rfl) (fun hb0 => ?_) (fun hb0 => ?_)
  · rw [chk1, Bool.not_eq_true'] at hb0
    refine wp_seq ?_
    refine go_lin (sts := [none, some (1, _)]) (news := []) (sp := [.val 7 _, .sto 1, .val 3 _]) [.o 2] hst (obs_cons (ob_v rfl rfl (r_build (xs := []) (qs := []) str_frac .nil)) (obs_cons (ob_sto rfl rfl rfl (has_v 0 rfl (by kernel_rfl) (by kernel_rfl)) ty_26 rfl) (obs_cons (ob_v rfl rfl (r_assign has_num)) (obs_nil)))) (by kernel_rfl) (by kernel_rfl) (by kernel_rfl) (fun a w hst => ?_)
    have hst : St B w0 14 [(3, _)] [⟨1, 42, ptrH, _⟩, ⟨2, 26, ptrH, _⟩] a w := hst
    refine thn_normal ?_
    refine wp_ret ?_
    refine thn_ret ?_
    refine ret_wk ?_ (ret_many (rs := [.cell 2 26, .tmp 3]) rfl hst (.cell (List.mem_of_getElem? (i := 1) rfl) ty_26 (.tmp (List.mem_of_getElem? (i := 0) rfl) .nil)) (by decide))
    rw [powF, if_neg (by rw [hb0]; decide)]; exact wk_id
  · rw [chk1, Bool.not_eq_false'] at hb0
    have hst := St.wkL hst 0 rfl (qm_x (okM_all hb0))
    refine wp_skip ?_
    refine thn_normal ?_
    refine wp_seq ?_
    refine go_lin (sts := [none, some (6, _)]) (news := []) (sp := [.adr 8 1 (.some 8) True, .val 9 _, .val 10 _, .val 11 _, .val 12 _, .val 13 _, .sto 1, .val 3 _]) [.o 7] hst (obs_cons (ob_a rfl rfl (a_fld (loc_at0 0 rfl (by kernel_rfl)) fld_42_2)) (obs_cons (ob_v rfl rfl (r_loadf 0 rfl (by kernel_rfl) trivial (loc_at0 0 rfl (by kernel_rfl)) (Sub.part 2 rfl rfl) ty_26)) (obs_cons (ob_v rfl rfl (r_call (xs := [.tmp 9]) (turned_q (by decide)) (.cons (has_v 1 rfl (by kernel_rfl) (by kernel_rfl)) .nil))) (obs_cons (ob_v rfl rfl (r_call (xs := [.tmp 10]) (im1_q (by decide)) (.cons (has_v 2 rfl (by kernel_rfl) (by kernel_rfl)) .nil))) (obs_cons (ob_v rfl rfl (r_ex0 (has_v 3 rfl (by kernel_rfl) (by kernel_rfl)))) (obs_cons (ob_v rfl rfl (r_ex1 (has_v 3 rfl (by kernel_rfl) (by kernel_rfl)))) (obs_cons (ob_sto rfl rfl rfl (has_v 4 rfl (by kernel_rfl) (by kernel_rfl)) ty_26 rfl) (obs_cons (ob_v rfl rfl (r_assign (has_v 5 rfl (by kernel_rfl) (by kernel_rfl)))) (obs_nil))))))))) (by kernel_rfl) (by kernel_rfl) (by kernel_rfl) (fun a w hst => ?_)
    have hst : St B w0 14 [(3, _)] [⟨1, 42, ptrH, _⟩, ⟨2, 26, ptrH, _⟩] a w := hst
    refine thn_normal ?_
    refine wp_ret ?_
    refine ret_wk ?_ (ret_many (rs := [.cell 2 26, .tmp 3]) rfl hst (.cell (List.mem_of_getElem? (i := 1) rfl) ty_26 (.tmp (List.mem_of_getElem? (i := 0) rfl) .nil)) (by decide))
    rw [powF, if_pos hb0]; exact wk_id

set_option maxRecDepth 100000 in
theorem sharp_c (m : RM) : Cn Try.prog 28 [(RMA m).va] (Tu [Bo (shF m).1, In (shF m).2]) := by
  refine Cn.intro Try.func28 rfl (by kernel_rfl) (Nat.le_of_ble_eq_true (by kernel_rfl)) (fun B w0 a hst => ?_)
  have hst : St B w0 11 [(0, (RMA m).va)] [] a w0.w := hst
  refine wp_seq ?_
  refine go_lin (sts := []) (news := [⟨1, 42, ptrH, some 0, _, none⟩]) (sp := [.alc 0, .val 2 _, .val 3 _]) [.o 1, .o 2] hst (obs_cons (ob_box rfl rfl rfl (has_g 0 rfl (by kernel_rfl) (by kernel_rfl))) (obs_cons (ob_v rfl rfl (r_assign has_bo)) (obs_cons (ob_v rfl rfl (r_assign has_num)) (obs_nil)))) (by kernel_rfl) (by kernel_rfl) (by kernel_rfl) (fun a w hst => ?_)
  have hst : St B w0 11 [(2, _), (3, _)] [⟨1, 42, ptrH, _⟩] a w := hst
  refine thn_normal ?_
  refine wp_seq ?_
  refine wp_seq ?_
  refine go_lin (sts := [none]) (news := []) (sp := [.val 4 _, .val 5 _, .val 6 _]) [.g 0, .g 1, .o 2] hst (obs_cons (ob_v rfl rfl (r_load (loc_at0 0 rfl (by kernel_rfl)) ty_42)) (obs_cons (ob_v rfl rfl (r_call (xs := [.tmp 4]) (rayCheck_c _) (.cons (has_v 0 rfl (by kernel_rfl) (by kernel_rfl)) .nil))) (obs_cons (ob_v rfl rfl (r_neq (has_v 1 rfl (by kernel_rfl) (by kernel_rfl)) has_num)) (obs_nil)))) (by kernel_rfl) (by kernel_rfl) (by kernel_rfl) (fun a w hst => ?_)
  have hst : St B w0 11 [(2, _), (3, _), (6, _)] [⟨1, 42, ptrH, _⟩] a w := hst
  refine thn_normal ?_
  refine cond_of hst (List.mem_of_getElem? (i := 2) rfl) (fun hb0 => ?_) (fun hb0 => ?_)
  · rw [chk1, Bool.not_eq_true'] at hb0
    refine wp_seq ?_
    refine go_lin (sts := [none]) (news := []) (sp := [.val 2 _, .val 3 _]) [.o 0, .o 1] hst (obs_cons (ob_v rfl rfl (r_assign has_bo)) (obs_cons (ob_v rfl rfl (r_assign has_num)) (obs_nil))) (by kernel_rfl) (by kernel_rfl) (by kernel_rfl) (fun a w hst => ?_)
    have hst : St B w0 11 [(2, _), (3, _)] [⟨1, 42, ptrH, _⟩] a w := hst
    refine thn_normal ?_
    refine wp_ret ?_
    refine thn_ret ?_
    refine ret_wk ?_ (ret_many (rs := [.tmp 2, .tmp 3]) rfl hst (.tmp (List.mem_of_getElem? (i := 0) rfl) (.tmp (List.mem_of_getElem? (i := 1) rfl) .nil)) (by decide))
    rw [shF, if_neg (by rw [hb0]; decide)]; exact wk_id
  · rw [chk1, Bool.not_eq_false'] at hb0
    have hst := St.wkL hst 0 rfl (qm_x (okM_all hb0))
    refine wp_skip ?_
    refine thn_normal ?_
    refine wp_seq ?_
    refine go_lin (sts := [none]) (news := []) (sp := [.adr 7 1 (.some 4) True, .val 8 _, .val 9 _, .val 10 _, .val 2 _, .val 3 _]) [.o 4, .o 5] hst (obs_cons (ob_a rfl rfl (a_fld (loc_at0 0 rfl (by kernel_rfl)) fld_42_1)) (obs_cons (ob_v rfl rfl (r_loadf 0 rfl (by kernel_rfl) trivial (loc_at0 0 rfl (by kernel_rfl)) (Sub.part 1 rfl rfl) ty_26)) (obs_cons (ob_v rfl rfl (r_call (xs := [.tmp 8]) sign_q (.cons (has_v 1 rfl (by kernel_rfl) (by kernel_rfl)) .nil))) (obs_cons (ob_v rfl rfl (r_eql (has_v 2 rfl (by kernel_rfl) (by kernel_rfl)) has_num)) (obs_cons (ob_v rfl rfl (r_assign (has_v 3 rfl (by kernel_rfl) (by kernel_rfl)))) (obs_cons (ob_v rfl rfl (r_assign has_num)) (obs_nil))))))) (by kernel_rfl) (by kernel_rfl) (by kernel_rfl) (fun a w hst => ?_)
    have hst : St B w0 11 [(2, _), (3, _)] [⟨1, 42, ptrH, _⟩] a w := hst
    refine thn_normal ?_
    refine wp_ret ?_
    refine ret_wk ?_ (ret_many (rs := [.tmp 2, .tmp 3]) rfl hst (.tmp (List.mem_of_getElem? (i := 0) rfl) (.tmp (List.mem_of_getElem? (i := 1) rfl) .nil)) (by decide))
    rw [shF, if_pos hb0]; exact tu2w (wk_eq (congrArg Bo sgn0)) wk_id

set_option maxRecDepth 100000 in
theorem planes_c (m : RM) : Cn Try.prog 26 [(RMA m).va] (TwR (plF m)) := by
  refine Cn.intro Try.func26 rfl (by kernel_rfl) (Nat.le_of_ble_eq_true (by kernel_rfl)) (fun B w0 a hst => ?_)
  have hst : St B w0 38 [(0, (RMA m).va)] [] a w0.w := hst
  refine wp_seq ?_
  refine go_lin (sts := []) (news := [⟨1, 42, ptrH, some 0, _, none⟩, ⟨2, 26, ptrH, some 1, _, none⟩, ⟨3, 26, ptrH, some 2, _, none⟩]) (sp := [.alc 0, .alc 1, .alc 2, .val 4 _]) [.o 3] hst (obs_cons (ob_box rfl rfl rfl (has_g 0 rfl (by kernel_rfl) (by kernel_rfl))) (obs_cons (ob_alc rfl rfl rfl (Str.zero str_frac)) (obs_cons (ob_alc rfl rfl rfl (Str.zero str_frac)) (obs_cons (ob_v rfl rfl (r_assign has_num)) (obs_nil))))) (by kernel_rfl) (by kernel_rfl) (by kernel_rfl) (fun a w hst => ?_)
  have hst : St B w0 38 [(4, _)] [⟨1, 42, ptrH, _⟩, ⟨2, 26, ptrH, _⟩, ⟨3, 26, ptrH, _⟩] a w := hst
  refine thn_normal ?_
  refine wp_seq ?_
  refine wp_block ?_
  refine wp_seq ?_
  refine go_lin (sts := [none, none, none]) (news := []) (sp := [.val 7 _, .val 8 _, .val 9 _, .val 6 _]) [.g 0, .o 3] hst (obs_cons (ob_v rfl rfl (r_load (loc_at0 0 rfl (by kernel_rfl)) ty_42)) (obs_cons (ob_v rfl rfl (r_call (xs := [.tmp 7]) (rayCheck_c _) (.cons (has_v 0 rfl (by kernel_rfl) (by kernel_rfl)) .nil))) (obs_cons (ob_v rfl rfl (r_neq (has_v 1 rfl (by kernel_rfl) (by kernel_rfl)) has_num)) (obs_cons (ob_v rfl rfl (r_assign (has_v 2 rfl (by kernel_rfl) (by kernel_rfl)))) (obs_nil))))) (by kernel_rfl) (by kernel_rfl) (by kernel_rfl) (fun a w hst => ?_)
  have hst : St B w0 38 [(4, _), (6, _)] [⟨1, 42, ptrH, _⟩, ⟨2, 26, ptrH, _⟩, ⟨3, 26, ptrH, _⟩] a w := hst
  refine thn_normal ?_
  refine cond_of hst (List.mem_of_getElem? (i := 1) rfl) (fun hb0 => ?_) (fun hb0 => ?_)
  · rw [chk1, Bool.not_eq_true'] at hb0
    refine wp_seq ?_
    refine go_lin (sts := [none, some (2, _), some (3, _)]) (news := []) (sp := [.val 10 _, .val 11 _, .sto 1, .sto 2, .val 4 _]) [.o 4] hst (obs_cons (ob_v rfl rfl (r_build (xs := []) (qs := []) str_frac .nil)) (obs_cons (ob_v rfl rfl (r_build (xs := []) (qs := []) str_frac .nil)) (obs_cons (ob_sto rfl rfl rfl (has_v 0 rfl (by kernel_rfl) (by kernel_rfl)) ty_26 rfl) (obs_cons (ob_sto rfl rfl rfl (has_v 1 rfl (by kernel_rfl) (by kernel_rfl)) ty_26 rfl) (obs_cons (ob_v rfl rfl (r_assign has_num)) (obs_nil)))))) (by kernel_rfl) (by kernel_rfl) (by kernel_rfl) (fun a w hst => ?_)
    have hst : St B w0 38 [(4, _)] [⟨1, 42, ptrH, _⟩, ⟨2, 26, ptrH, _⟩, ⟨3, 26, ptrH, _⟩] a w := hst
    refine thn_normal ?_
    refine wp_ret ?_
    refine blk_ret ?_
    refine thn_ret ?_
    refine ret_wk ?_ (ret_many (rs := [.cell 2 26, .cell 3 26, .tmp 4]) rfl hst (.cell (List.mem_of_getElem? (i := 1) rfl) ty_26 (.cell (List.mem_of_getElem? (i := 2) rfl) ty_26 (.tmp (List.mem_of_getElem? (i := 0) rfl) .nil))) (by decide))
    rw [plF, if_neg (by rw [hb0]; decide)]; exact wk_id
  · rw [chk1, Bool.not_eq_false'] at hb0
    have hst := St.wkL hst 0 rfl (qm_x (okM_all hb0))
    refine wp_seq ?_
    refine go_lin (sts := [none, none, none]) (news := []) (sp := [.adr 13 1 (.some 8) True, .val 14 _, .val 15 _, .val 16 _, .val 12 _]) [.g 0, .o 4] hst (obs_cons (ob_a rfl rfl (a_fld (loc_at0 0 rfl (by kernel_rfl)) fld_42_2)) (obs_cons (ob_v rfl rfl (r_loadf 0 rfl (by kernel_rfl) trivial (loc_at0 0 rfl (by kernel_rfl)) (Sub.part 2 rfl rfl) ty_26)) (obs_cons (ob_v rfl rfl (r_call (xs := [.tmp 14]) sign_q (.cons (has_v 1 rfl (by kernel_rfl) (by kernel_rfl)) .nil))) (obs_cons (ob_v rfl rfl (r_eql (has_v 2 rfl (by kernel_rfl) (by kernel_rfl)) has_num)) (obs_cons (ob_v rfl rfl (r_assign (has_v 3 rfl (by kernel_rfl) (by kernel_rfl)))) (obs_nil)))))) (by kernel_rfl) (by kernel_rfl) (by kernel_rfl) (fun a w hst => ?_)
    have hst : St B w0 38 [(4, _), (12, _)] [⟨1, 42, ptrH, _⟩, ⟨2, 26, ptrH, _⟩, ⟨3, 26, ptrH, _⟩] a w := hst
    refine thn_normal ?_
    refine cond_of hst (List.mem_of_getElem? (i := 1) rfl) (fun hb1 => ?_) (fun hb1 => ?_)
    · rw [sgn0, decide_eq_true_eq] at hb1
      refine wp_seq ?_
      refine go_lin (sts := [none, some (2, _), some (3, _)]) (news := []) (sp := [.val 17 _, .val 18 _, .sto 1, .sto 2, .val 4 _]) [.o 4] hst (obs_cons (ob_v rfl rfl (r_build (xs := []) (qs := []) str_frac .nil)) (obs_cons (ob_v rfl rfl (r_build (xs := []) (qs := []) str_frac .nil)) (obs_cons (ob_sto rfl rfl rfl (has_v 0 rfl (by kernel_rfl) (by kernel_rfl)) ty_26 rfl) (obs_cons (ob_sto rfl rfl rfl (has_v 1 rfl (by kernel_rfl) (by kernel_rfl)) ty_26 rfl) (obs_cons (ob_v rfl rfl (r_assign has_num)) (obs_nil)))))) (by kernel_rfl) (by kernel_rfl) (by kernel_rfl) (fun a w hst => ?_)
      have hst : St B w0 38 [(4, _)] [⟨1, 42, ptrH, _⟩, ⟨2, 26, ptrH, _⟩, ⟨3, 26, ptrH, _⟩] a w := hst
      refine thn_normal ?_
      refine wp_ret ?_
      refine blk_ret ?_
      refine thn_ret ?_
      refine ret_wk ?_ (ret_many (rs := [.cell 2 26, .cell 3 26, .tmp 4]) rfl hst (.cell (List.mem_of_getElem? (i := 1) rfl) ty_26 (.cell (List.mem_of_getElem? (i := 2) rfl) ty_26 (.tmp (List.mem_of_getElem? (i := 0) rfl) .nil))) (by decide))
      rw [plF, if_pos hb0, if_pos hb1]; exact wk_id
    · rw [sgn0, decide_eq_false_iff_not] at hb1
      refine wp_skip ?_
      refine blk_normal ?_
      refine thn_normal ?_
      refine wp_seq ?_
      refine go_lin (sts := [none, none, none]) (news := [⟨5, 26, ptrH, some 1, _, some (2, _)⟩]) (sp := [.val 19 _, .alc 3, .sto 3]) [.g 0] hst (obs_cons (ob_v rfl rfl (r_call (xs := []) one_q .nil)) (obs_cons (ob_alc rfl rfl rfl (Str.zero str_frac)) (obs_cons (ob_sto rfl rfl rfl (has_v 0 rfl (by kernel_rfl) (by kernel_rfl)) ty_26 rfl) (obs_nil)))) (by kernel_rfl) (by kernel_rfl) (by kernel_rfl) (fun a w hst => ?_)
      have hst : St B w0 38 [(4, _)] [⟨1, 42, ptrH, _⟩, ⟨2, 26, ptrH, _⟩, ⟨3, 26, ptrH, _⟩, ⟨5, 26, ptrH, _⟩] a w := hst
      refine thn_normal ?_
      refine wp_seq ?_
      refine go_draw (anc := [[], [0], [], [0, 1, 2], [], [4], [0, 1, 2, 3, 4, 5], [], [], [8], [0, 1, 2, 3, 4, 5, 6, 7, 8, 9], [], [11], [0, 1, 2, 3, 4, 5, 6, 7, 8, 9, 10, 11, 12], [0, 1, 2, 3, 4, 5, 6, 7, 8, 9, 10, 11, 12, 13], [0, 1, 2, 3, 4, 5, 6, 7, 8, 9, 10, 11, 12, 13, 14], [0, 1, 2, 3, 4, 5, 6, 7, 8, 9, 10, 11, 12, 13, 14], [0, 1, 2, 3, 4, 5, 6, 7, 8, 9, 10, 11, 12, 13, 14], [0, 1, 2, 3, 4, 5, 6, 7, 8, 9, 10, 11, 12, 13, 14, 15, 16, 17], [0, 1, 2, 3, 4, 5, 6, 7, 8, 9, 10, 11, 12, 13, 14, 15, 16, 17, 18], [0, 1, 2, 3, 4, 5, 6, 7, 8, 9, 10, 11, 12, 13, 14, 15, 16, 17, 18, 19]]) (sts := [none, some (18, _), some (19, _), none]) (news := []) (sp := [.adr 20 1 (.some 12) True, .val 21 _, .val 22 _, .val 23 _, .adr 24 1 (.some 8) True, .val 25 _, .val 26 _, .val 27 _, .adr 28 1 (.some 0) True, .val 29 _, .val 30 _, .adr 31 1 (.some 8) True, .val 32 _, .val 33 _, .val 34 _, .val 35 _, .val 36 _, .val 37 _, .sto 1, .sto 2, .val 4 _]) [.o 20] follows_mixed hst (obs_cons (ob_a rfl rfl (a_fld (loc_at0 0 rfl (by kernel_rfl)) fld_42_3)) (obs_cons (ob_v rfl rfl (r_loadf 0 rfl (by kernel_rfl) trivial (loc_at0 0 rfl (by kernel_rfl)) (Sub.part 3 rfl rfl) ty_26)) (obs_cons (ob_v rfl rfl (r_load (loc_at0 3 rfl (by kernel_rfl)) ty_26)) (obs_cons (ob_v rfl rfl (r_call (xs := [.tmp 21, .tmp 22]) (minus_q (by decide)) (.cons (has_v 1 rfl (by kernel_rfl) (by kernel_rfl)) (.cons (has_v 2 rfl (by kernel_rfl) (by kernel_rfl)) .nil)))) (obs_cons (ob_a rfl rfl (a_fld (loc_at0 0 rfl (by kernel_rfl)) fld_42_2)) (obs_cons (ob_v rfl rfl (r_loadf 4 rfl (by kernel_rfl) trivial (loc_at0 0 rfl (by kernel_rfl)) (Sub.part 2 rfl rfl) ty_26)) (obs_cons (ob_v rfl rfl (r_call (xs := [.tmp 23, .tmp 25]) (over_q (by decide) hb1) (.cons (has_v 3 rfl (by kernel_rfl) (by kernel_rfl)) (.cons (has_v 5 rfl (by kernel_rfl) (by kernel_rfl)) .nil)))) (obs_cons (ob_v rfl rfl (r_load (loc_at0 3 rfl (by kernel_rfl)) ty_26)) (obs_cons (ob_a rfl rfl (a_fld (loc_at0 0 rfl (by kernel_rfl)) fld_42_0)) (obs_cons (ob_v rfl rfl (r_loadf 8 rfl (by kernel_rfl) trivial (loc_at0 0 rfl (by kernel_rfl)) (Sub.part 0 rfl rfl) ty_26)) (obs_cons (ob_v rfl rfl (r_call (xs := [.tmp 27, .tmp 29]) (minus_q (by decide)) (.cons (has_v 7 rfl (by kernel_rfl) (by kernel_rfl)) (.cons (has_v 9 rfl (by kernel_rfl) (by kernel_rfl)) .nil)))) (obs_cons (ob_a rfl rfl (a_fld (loc_at0 0 rfl (by kernel_rfl)) fld_42_2)) (obs_cons (ob_v rfl rfl (r_loadf 11 rfl (by kernel_rfl) trivial (loc_at0 0 rfl (by kernel_rfl)) (Sub.part 2 rfl rfl) ty_26)) (obs_cons (ob_v rfl rfl (r_call (xs := [.tmp 30, .tmp 32]) (over_q (by decide) hb1) (.cons (has_v 10 rfl (by kernel_rfl) (by kernel_rfl)) (.cons (has_v 12 rfl (by kernel_rfl) (by kernel_rfl)) .nil)))) (obs_cons (ob_v rfl rfl (r_call (xs := [.tmp 26, .tmp 33]) (im2_q (by decide) (by decide)) (.cons (has_v 6 rfl (by kernel_rfl) (by kernel_rfl)) (.cons (has_v 13 rfl (by kernel_rfl) (by kernel_rfl)) .nil)))) (obs_cons (ob_v rfl rfl (r_ex0 (has_v 14 rfl (by kernel_rfl) (by kernel_rfl)))) (obs_cons (ob_v rfl rfl (r_ex1 (has_v 14 rfl (by kernel_rfl) (by kernel_rfl)))) (obs_cons (ob_v rfl rfl (r_ex2 (has_v 14 rfl (by kernel_rfl) (by kernel_rfl)))) (obs_cons (ob_sto rfl rfl rfl (has_v 15 rfl (by kernel_rfl) (by kernel_rfl)) ty_26 rfl) (obs_cons (ob_sto rfl rfl rfl (has_v 16 rfl (by kernel_rfl) (by kernel_rfl)) ty_26 rfl) (obs_cons (ob_v rfl rfl (r_assign (has_v 17 rfl (by kernel_rfl) (by kernel_rfl)))) (obs_nil)))))))))))))))))))))) (by kernel_rfl) (by kernel_rfl) (by kernel_rfl) (by kernel_rfl) (fun a w hst => ?_)
      have hst : St B w0 38 [(4, _)] [⟨1, 42, ptrH, _⟩, ⟨2, 26, ptrH, _⟩, ⟨3, 26, ptrH, _⟩, ⟨5, 26, ptrH, _⟩] a w := hst
      refine thn_normal ?_
      refine wp_ret ?_
      refine ret_wk ?_ (ret_many (rs := [.cell 2 26, .cell 3 26, .tmp 4]) rfl hst (.cell (List.mem_of_getElem? (i := 1) rfl) ty_26 (.cell (List.mem_of_getElem? (i := 2) rfl) ty_26 (.tmp (List.mem_of_getElem? (i := 0) rfl) .nil))) (by decide))
      rw [plF, if_pos hb0, if_neg hb1]; exact wk_id

set_option maxRecDepth 100000 in
theorem image_c (m : RM) (t : RF) : Cn Try.prog 27 [(RMA m).va, (RFA t).va] (TwR (imF m t)) := by
  refine Cn.intro Try.func27 rfl (by kernel_rfl) (Nat.le_of_ble_eq_true (by kernel_rfl)) (fun B w0 a hst => ?_)
  have hst : St B w0 42 [(0, (RMA m).va), (1, (RFA t).va)] [] a w0.w := hst
  refine wp_seq ?_
  refine go_lin (sts := []) (news := [⟨2, 42, ptrH, some 0, _, none⟩, ⟨3, 26, ptrH, some 1, _, none⟩, ⟨4, 26, ptrH, some 2, _, none⟩, ⟨5, 26, ptrH, some 3, _, none⟩]) (sp := [.alc 0, .alc 1, .alc 2, .alc 3, .val 6 _]) [.o 4] hst (obs_cons (ob_box rfl rfl rfl (has_g 0 rfl (by kernel_rfl) (by kernel_rfl))) (obs_cons (ob_box rfl rfl rfl (has_g 1 rfl (by kernel_rfl) (by kernel_rfl))) (obs_cons (ob_alc rfl rfl rfl (Str.zero str_frac)) (obs_cons (ob_alc rfl rfl rfl (Str.zero str_frac)) (obs_cons (ob_v rfl rfl (r_assign has_num)) (obs_nil)))))) (by kernel_rfl) (by kernel_rfl) (by kernel_rfl) (fun a w hst => ?_)
  have hst : St B w0 42 [(6, _)] [⟨2, 42, ptrH, _⟩, ⟨3, 26, ptrH, _⟩, ⟨4, 26, ptrH, _⟩, ⟨5, 26, ptrH, _⟩] a w := hst
  refine thn_normal ?_
  refine wp_seq ?_
  refine wp_seq ?_
  refine go_lin (sts := [none, none, none, none]) (news := []) (sp := [.val 9 _, .val 10 _, .val 11 _, .val 12 _, .val 13 (Wh (_ = false) _), .val 14 (Wh (_ = false) _), .val 15 (Wh (_ = false) _), .val 16 _]) [.g 0, .o 7] hst (obs_cons (ob_v rfl rfl (r_load (loc_at0 0 rfl (by kernel_rfl)) ty_42)) (obs_cons (ob_v rfl rfl (r_call (xs := [.tmp 9]) (rayCheck_c _) (.cons (has_v 0 rfl (by kernel_rfl) (by kernel_rfl)) .nil))) (obs_cons (ob_v rfl rfl (r_neq (has_v 1 rfl (by kernel_rfl) (by kernel_rfl)) has_num)) (obs_cons (ob_v rfl rfl (r_move (has_v 2 rfl (by kernel_rfl) (by kernel_rfl)))) (obs_cons (ob_gd rfl rfl rfl (has_v 3 rfl (by kernel_rfl) (by kernel_rfl)) (Nat.le_of_ble_eq_true (by kernel_rfl)) (fun hg => r_load (loc_at0 1 rfl (by kernel_rfl)) ty_26)) (obs_cons (ob_gd rfl rfl rfl (has_v 3 rfl (by kernel_rfl) (by kernel_rfl)) (Nat.le_of_ble_eq_true (by kernel_rfl)) (fun hg => r_call (xs := [.tmp 13]) (check_x _) (.cons (has_wh (has_v 4 rfl (by kernel_rfl) (by kernel_rfl)) hg) .nil))) (obs_cons (ob_gd rfl rfl rfl (has_v 3 rfl (by kernel_rfl) (by kernel_rfl)) (Nat.le_of_ble_eq_true (by kernel_rfl)) (fun hg => r_neq (has_wh (has_v 5 rfl (by kernel_rfl) (by kernel_rfl)) hg) has_num)) (obs_cons (ob_v rfl rfl (r_or (has_v 3 rfl (by kernel_rfl) (by kernel_rfl)) (has_v 6 rfl (by kernel_rfl) (by kernel_rfl)))) (obs_nil))))))))) (by kernel_rfl) (by kernel_rfl) (by kernel_rfl) (fun a w hst => ?_)
  have hst : St B w0 42 [(6, _), (16, _)] [⟨2, 42, ptrH, _⟩, ⟨3, 26, ptrH, _⟩, ⟨4, 26, ptrH, _⟩, ⟨5, 26, ptrH, _⟩] a w := hst
  refine thn_normal ?_
  refine cond_of hst (List.mem_of_getElem? (i := 1) rfl) (fun hb0 => ?_) (fun hb0 => ?_)
  · rw [chk2, Bool.not_eq_true'] at hb0
    refine wp_seq ?_
    refine go_lin (sts := [none, none, some (2, _), some (3, _)]) (news := []) (sp := [.val 17 _, .val 18 _, .sto 2, .sto 3, .val 6 _]) [.o 4] hst (obs_cons (ob_v rfl rfl (r_build (xs := []) (qs := []) str_frac .nil)) (obs_cons (ob_v rfl rfl (r_build (xs := []) (qs := []) str_frac .nil)) (obs_cons (ob_sto rfl rfl rfl (has_v 0 rfl (by kernel_rfl) (by kernel_rfl)) ty_26 rfl) (obs_cons (ob_sto rfl rfl rfl (has_v 1 rfl (by kernel_rfl) (by kernel_rfl)) ty_26 rfl) (obs_cons (ob_v rfl rfl (r_assign has_num)) (obs_nil)))))) (by kernel_rfl) (by kernel_rfl) (by kernel_rfl) (fun a w hst => ?_)
    have hst : St B w0 42 [(6, _)] [⟨2, 42, ptrH, _⟩, ⟨3, 26, ptrH, _⟩, ⟨4, 26, ptrH, _⟩, ⟨5, 26, ptrH, _⟩] a w := hst
    refine thn_normal ?_
    refine wp_ret ?_
    refine thn_ret ?_
    refine ret_wk ?_ (ret_many (rs := [.cell 4 26, .cell 5 26, .tmp 6]) rfl hst (.cell (List.mem_of_getElem? (i := 2) rfl) ty_26 (.cell (List.mem_of_getElem? (i := 3) rfl) ty_26 (.tmp (List.mem_of_getElem? (i := 0) rfl) .nil))) (by decide))
    rw [imF, if_neg (by rw [hb0]; decide)]; exact wk_id
  · rw [chk2, Bool.not_eq_false'] at hb0
    have hst := St.wkL hst 0 rfl (qm_x (okM_all (and_mx hb0).1))
    have hst := St.wkL hst 1 rfl (qa_x (and_mx hb0).2 (Nat.le_refl 2048))
    refine wp_skip ?_
    refine thn_normal ?_
    refine wp_seq ?_
    refine go_draw (anc := [[], [0], [], [0, 1, 2], [0, 1, 2, 3], [0, 1, 2, 3, 4], [0, 1, 2, 3, 4], [], [], [0, 1, 2, 3, 4, 5, 7, 8], [0, 1, 2, 3, 4, 5, 6, 7, 8, 9]]) (sts := [none, none, none, none]) (news := [⟨7, 26, ptrH, some 7, _, some (9, _)⟩, ⟨8, 26, ptrH, some 8, _, some (10, _)⟩]) (sp := [.val 20 _, .val 21 _, .val 22 _, .val 23 _, .val 19 _, .val 24 _, .val 25 _, .alc 4, .alc 5, .sto 4, .sto 5]) [.g 0] follows_mixed hst (obs_cons (ob_v rfl rfl (r_load (loc_at0 0 rfl (by kernel_rfl)) ty_42)) (obs_cons (ob_v rfl rfl (r_call (xs := [.tmp 20]) (at_c (toM m)) (.cons (has_v 0 rfl (by kernel_rfl) (by kernel_rfl)) .nil))) (obs_cons (ob_v rfl rfl (r_load (loc_at0 1 rfl (by kernel_rfl)) ty_26)) (obs_cons (ob_v rfl rfl (r_callv (xs := [.tmp 22]) (toQ t) (has_v 1 rfl (by kernel_rfl) (by kernel_rfl)) (.cons (has_v 2 rfl (by kernel_rfl) (by kernel_rfl)) .nil))) (obs_cons (ob_v rfl rfl (r_move (has_v 3 rfl (by kernel_rfl) (by kernel_rfl)))) (obs_cons (ob_v rfl rfl (r_ex0 (has_v 4 rfl (by kernel_rfl) (by kernel_rfl)))) (obs_cons (ob_v rfl rfl (r_ex1 (has_v 4 rfl (by kernel_rfl) (by kernel_rfl)))) (obs_cons (ob_alc rfl rfl rfl (Str.zero str_frac)) (obs_cons (ob_alc rfl rfl rfl (Str.zero str_frac)) (obs_cons (ob_sto rfl rfl rfl (has_v 5 rfl (by kernel_rfl) (by kernel_rfl)) ty_26 rfl) (obs_cons (ob_sto rfl rfl rfl (has_v 6 rfl (by kernel_rfl) (by kernel_rfl)) ty_26 rfl) (obs_nil)))))))))))) (by kernel_rfl) (by kernel_rfl) (by kernel_rfl) (by kernel_rfl) (fun a w hst => ?_)
    have hst : St B w0 42 [(6, _)] [⟨2, 42, ptrH, _⟩, ⟨3, 26, ptrH, _⟩, ⟨4, 26, ptrH, _⟩, ⟨5, 26, ptrH, _⟩, ⟨7, 26, ptrH, _⟩, ⟨8, 26, ptrH, _⟩] a w := hst
    refine thn_normal ?_
    refine wp_seq ?_
    refine wp_seq ?_
    refine go_lin (sts := [none, none, none, none, none, none]) (news := []) (sp := [.val 26 _, .val 27 _, .val 28 _]) [.g 0, .o 2] hst (obs_cons (ob_v rfl rfl (r_load (loc_at0 5 rfl (by kernel_rfl)) ty_26)) (obs_cons (ob_v rfl rfl (r_call (xs := [.tmp 26]) sign_q (.cons (has_v 0 rfl (by kernel_rfl) (by kernel_rfl)) .nil))) (obs_cons (ob_v rfl rfl (r_eql (has_v 1 rfl (by kernel_rfl) (by kernel_rfl)) has_num)) (obs_nil)))) (by kernel_rfl) (by kernel_rfl) (by kernel_rfl) (fun a w hst => ?_)
    have hst : St B w0 42 [(6, _), (28, _)] [⟨2, 42, ptrH, _⟩, ⟨3, 26, ptrH, _⟩, ⟨4, 26, ptrH, _⟩, ⟨5, 26, ptrH, _⟩, ⟨7, 26, ptrH, _⟩, ⟨8, 26, ptrH, _⟩] a w := hst
    refine thn_normal ?_
    refine cond_of hst (List.mem_of_getElem? (i := 1) rfl) (fun hb1 => ?_) (fun hb1 => ?_)
    · rw [sgn0, decide_eq_true_eq] at hb1
      refine wp_seq ?_
      refine go_lin (sts := [none, none, some (2, _), some (3, _), none, none]) (news := []) (sp := [.val 29 _, .val 30 _, .sto 2, .sto 3, .val 6 _]) [.o 4] hst (obs_cons (ob_v rfl rfl (r_build (xs := []) (qs := []) str_frac .nil)) (obs_cons (ob_v rfl rfl (r_build (xs := []) (qs := []) str_frac .nil)) (obs_cons (ob_sto rfl rfl rfl (has_v 0 rfl (by kernel_rfl) (by kernel_rfl)) ty_26 rfl) (obs_cons (ob_sto rfl rfl rfl (has_v 1 rfl (by kernel_rfl) (by kernel_rfl)) ty_26 rfl) (obs_cons (ob_v rfl rfl (r_assign has_num)) (obs_nil)))))) (by kernel_rfl) (by kernel_rfl) (by kernel_rfl) (fun a w hst => ?_)
      have hst : St B w0 42 [(6, _)] [⟨2, 42, ptrH, _⟩, ⟨3, 26, ptrH, _⟩, ⟨4, 26, ptrH, _⟩, ⟨5, 26, ptrH, _⟩, ⟨7, 26, ptrH, _⟩, ⟨8, 26, ptrH, _⟩] a w := hst
      refine thn_normal ?_
      refine wp_ret ?_
      refine thn_ret ?_
      refine ret_wk ?_ (ret_many (rs := [.cell 4 26, .cell 5 26, .tmp 6]) rfl hst (.cell (List.mem_of_getElem? (i := 2) rfl) ty_26 (.cell (List.mem_of_getElem? (i := 3) rfl) ty_26 (.tmp (List.mem_of_getElem? (i := 0) rfl) .nil))) (by decide))
      rw [imF, if_pos hb0, if_pos hb1]; exact wk_id
    · rw [sgn0, decide_eq_false_iff_not] at hb1
      refine wp_skip ?_
      refine thn_normal ?_
      refine wp_seq ?_
      refine go_draw (anc := [[], [], [0, 1], [0, 1, 2], [0, 1, 2, 3], [], [0, 1, 2, 3, 4, 5], [0, 1, 2, 3, 4, 5, 6], [0, 1, 2, 3, 4, 5, 6, 7], [0, 1, 2, 3, 4, 5, 6, 7], [0, 1, 2, 3, 4, 5, 6, 7], [0, 1, 2, 3, 4, 5, 6, 7, 8, 9, 10], [0, 1, 2, 3, 4, 5, 6, 7, 8, 9, 10, 11], [0, 1, 2, 3, 4, 5, 6, 7, 8, 9, 10, 11, 12]]) (sts := [none, none, some (11, _), some (12, _), none, none]) (news := []) (sp := [.val 31 _, .val 32 _, .val 33 _, .val 34 _, .val 35 _, .val 36 _, .val 37 _, .val 38 _, .val 39 _, .val 40 _, .val 41 _, .sto 2, .sto 3, .val 6 _]) [.o 13] follows_mixed hst (obs_cons (ob_v rfl rfl (r_load (loc_at0 4 rfl (by kernel_rfl)) ty_26)) (obs_cons (ob_v rfl rfl (r_load (loc_at0 5 rfl (by kernel_rfl)) ty_26)) (obs_cons (ob_v rfl rfl (r_call (xs := [.tmp 31, .tmp 32]) (over_q (by decide) hb1) (.cons (has_v 0 rfl (by kernel_rfl) (by kernel_rfl)) (.cons (has_v 1 rfl (by kernel_rfl) (by kernel_rfl)) .nil)))) (obs_cons (ob_v rfl rfl (r_call (xs := [.tmp 33]) (turned_q (by decide)) (.cons (has_v 2 rfl (by kernel_rfl) (by kernel_rfl)) .nil))) (obs_cons (ob_v rfl rfl (r_call (xs := []) one_q .nil)) (obs_cons (ob_v rfl rfl (r_load (loc_at0 5 rfl (by kernel_rfl)) ty_26)) (obs_cons (ob_v rfl rfl (r_call (xs := [.tmp 35, .tmp 36]) (over_q (by decide) hb1) (.cons (has_v 4 rfl (by kernel_rfl) (by kernel_rfl)) (.cons (has_v 5 rfl (by kernel_rfl) (by kernel_rfl)) .nil)))) (obs_cons (ob_v rfl rfl (r_call (xs := [.tmp 34, .tmp 37]) (im2_q (by decide) (by decide)) (.cons (has_v 3 rfl (by kernel_rfl) (by kernel_rfl)) (.cons (has_v 6 rfl (by kernel_rfl) (by kernel_rfl)) .nil)))) (obs_cons (ob_v rfl rfl (r_ex0 (has_v 7 rfl (by kernel_rfl) (by kernel_rfl)))) (obs_cons (ob_v rfl rfl (r_ex1 (has_v 7 rfl (by kernel_rfl) (by kernel_rfl)))) (obs_cons (ob_v rfl rfl (r_ex2 (has_v 7 rfl (by kernel_rfl) (by kernel_rfl)))) (obs_cons (ob_sto rfl rfl rfl (has_v 8 rfl (by kernel_rfl) (by kernel_rfl)) ty_26 rfl) (obs_cons (ob_sto rfl rfl rfl (has_v 9 rfl (by kernel_rfl) (by kernel_rfl)) ty_26 rfl) (obs_cons (ob_v rfl rfl (r_assign (has_v 10 rfl (by kernel_rfl) (by kernel_rfl)))) (obs_nil))))))))))))))) (by kernel_rfl) (by kernel_rfl) (by kernel_rfl) (by kernel_rfl) (fun a w hst => ?_)
      have hst : St B w0 42 [(6, _)] [⟨2, 42, ptrH, _⟩, ⟨3, 26, ptrH, _⟩, ⟨4, 26, ptrH, _⟩, ⟨5, 26, ptrH, _⟩, ⟨7, 26, ptrH, _⟩, ⟨8, 26, ptrH, _⟩] a w := hst
      refine thn_normal ?_
      refine wp_ret ?_
      refine ret_wk ?_ (ret_many (rs := [.cell 4 26, .cell 5 26, .tmp 6]) rfl hst (.cell (List.mem_of_getElem? (i := 2) rfl) ty_26 (.cell (List.mem_of_getElem? (i := 3) rfl) ty_26 (.tmp (List.mem_of_getElem? (i := 0) rfl) .nil))) (by decide))
      rw [imF, if_pos hb0, if_neg hb1]; exact wk_id

set_option maxRecDepth 100000 in
theorem stop_c (m : RM) (t : RF) : Cn Try.prog 29 [(RMA m).va, (RFA t).va] (FrR (stF m t)) := by
  refine Cn.intro Try.func29 rfl (by kernel_rfl) (Nat.le_of_ble_eq_true (by kernel_rfl)) (fun B w0 a hst => ?_)
  have hst : St B w0 43 [(0, (RMA m).va), (1, (RFA t).va)] [] a w0.w := hst
  refine wp_seq ?_
  refine go_lin (sts := []) (news := [⟨2, 42, ptrH, some 0, _, none⟩, ⟨3, 26, ptrH, some 1, _, none⟩, ⟨4, 26, ptrH, some 2, _, none⟩]) (sp := [.alc 0, .alc 1, .alc 2, .val 5 _]) [.o 3] hst (obs_cons (ob_box rfl rfl rfl (has_g 0 rfl (by kernel_rfl) (by kernel_rfl))) (obs_cons (ob_box rfl rfl rfl (has_g 1 rfl (by kernel_rfl) (by kernel_rfl))) (obs_cons (ob_alc rfl rfl rfl (Str.zero str_frac)) (obs_cons (ob_v rfl rfl (r_assign has_num)) (obs_nil))))) (by kernel_rfl) (by kernel_rfl) (by kernel_rfl) (fun a w hst => ?_)
  have hst : St B w0 43 [(5, _)] [⟨2, 42, ptrH, _⟩, ⟨3, 26, ptrH, _⟩, ⟨4, 26, ptrH, _⟩] a w := hst
  refine thn_normal ?_
  refine wp_seq ?_
  refine wp_seq ?_
  refine go_lin (sts := [none, none, none]) (news := []) (sp := [.val 6 _, .val 7 _, .val 8 _, .val 9 _, .val 10 (Wh (_ = false) _), .val 11 (Wh (_ = false) _), .val 12 (Wh (_ = false) _), .val 13 _, .val 14 _, .val 15 (Wh (_ = false) _), .val 16 (Wh (_ = false) _), .val 17 (Wh (_ = false) _), .val 18 _]) [.g 0, .o 12] hst (obs_cons (ob_v rfl rfl (r_load (loc_at0 0 rfl (by kernel_rfl)) ty_42)) (obs_cons (ob_v rfl rfl (r_call (xs := [.tmp 6]) (rayCheck_c _) (.cons (has_v 0 rfl (by kernel_rfl) (by kernel_rfl)) .nil))) (obs_cons (ob_v rfl rfl (r_neq (has_v 1 rfl (by kernel_rfl) (by kernel_rfl)) has_num)) (obs_cons (ob_v rfl rfl (r_move (has_v 2 rfl (by kernel_rfl) (by kernel_rfl)))) (obs_cons (ob_gd rfl rfl rfl (has_v 3 rfl (by kernel_rfl) (by kernel_rfl)) (Nat.le_of_ble_eq_true (by kernel_rfl)) (fun hg => r_load (loc_at0 1 rfl (by kernel_rfl)) ty_26)) (obs_cons (ob_gd rfl rfl rfl (has_v 3 rfl (by kernel_rfl) (by kernel_rfl)) (Nat.le_of_ble_eq_true (by kernel_rfl)) (fun hg => r_call (xs := [.tmp 10]) (check_x _) (.cons (has_wh (has_v 4 rfl (by kernel_rfl) (by kernel_rfl)) hg) .nil))) (obs_cons (ob_gd rfl rfl rfl (has_v 3 rfl (by kernel_rfl) (by kernel_rfl)) (Nat.le_of_ble_eq_true (by kernel_rfl)) (fun hg => r_neq (has_wh (has_v 5 rfl (by kernel_rfl) (by kernel_rfl)) hg) has_num)) (obs_cons (ob_v rfl rfl (r_or (has_v 3 rfl (by kernel_rfl) (by kernel_rfl)) (has_v 6 rfl (by kernel_rfl) (by kernel_rfl)))) (obs_cons (ob_v rfl rfl (r_move (has_v 7 rfl (by kernel_rfl) (by kernel_rfl)))) (obs_cons (ob_gd rfl rfl rfl (has_v 8 rfl (by kernel_rfl) (by kernel_rfl)) (Nat.le_of_ble_eq_true (by kernel_rfl)) (fun hg => r_load (loc_at0 1 rfl (by kernel_rfl)) ty_26)) (obs_cons (ob_gd rfl rfl rfl (has_v 8 rfl (by kernel_rfl) (by kernel_rfl)) (Nat.le_of_ble_eq_true (by kernel_rfl)) (fun hg => r_call (xs := [.tmp 15]) (sgn_x hg) (.cons (has_wh (has_v 9 rfl (by kernel_rfl) (by kernel_rfl)) hg) .nil))) (obs_cons (ob_gd rfl rfl rfl (has_v 8 rfl (by kernel_rfl) (by kernel_rfl)) (Nat.le_of_ble_eq_true (by kernel_rfl)) (fun hg => r_lss (has_wh (has_v 10 rfl (by kernel_rfl) (by kernel_rfl)) hg) has_num)) (obs_cons (ob_v rfl rfl (r_or (has_v 8 rfl (by kernel_rfl) (by kernel_rfl)) (has_v 11 rfl (by kernel_rfl) (by kernel_rfl)))) (obs_nil)))))))))))))) (by kernel_rfl) (by kernel_rfl) (by kernel_rfl) (fun a w hst => ?_)
  have hst : St B w0 43 [(5, _), (18, _)] [⟨2, 42, ptrH, _⟩, ⟨3, 26, ptrH, _⟩, ⟨4, 26, ptrH, _⟩] a w := hst
  refine thn_normal ?_
  refine cond_of hst (List.mem_of_getElem? (i := 1) rfl) (fun hb0 => ?_) (fun hb0 => ?_)
  · rw [chk3, Bool.not_eq_true'] at hb0
    refine wp_seq ?_
    refine go_lin (sts := [none, none, some (1, _)]) (news := []) (sp := [.val 19 _, .sto 2, .val 5 _]) [.o 2] hst (obs_cons (ob_v rfl rfl (r_build (xs := []) (qs := []) str_frac .nil)) (obs_cons (ob_sto rfl rfl rfl (has_v 0 rfl (by kernel_rfl) (by kernel_rfl)) ty_26 rfl) (obs_cons (ob_v rfl rfl (r_assign has_num)) (obs_nil)))) (by kernel_rfl) (by kernel_rfl) (by kernel_rfl) (fun a w hst => ?_)
    have hst : St B w0 43 [(5, _)] [⟨2, 42, ptrH, _⟩, ⟨3, 26, ptrH, _⟩, ⟨4, 26, ptrH, _⟩] a w := hst
    refine thn_normal ?_
    refine wp_ret ?_
    refine thn_ret ?_
    refine ret_wk ?_ (ret_many (rs := [.cell 4 26, .tmp 5]) rfl hst (.cell (List.mem_of_getElem? (i := 2) rfl) ty_26 (.tmp (List.mem_of_getElem? (i := 0) rfl) .nil)) (by decide))
    rw [stF, if_neg (by rw [hb0]; decide)]; exact wk_id
  · rw [chk3, Bool.not_eq_false'] at hb0
    have hb0 := hb0
    have hok := (Bool.and_eq_true _ _ ▸ hb0 : _ ∧ _).1
    have hst := St.wkL hst 0 rfl (qm_x (okM_all (and_mx hok).1))
    have hst := St.wkL hst 1 rfl (qa_x (and_mx hok).2 (Nat.le_refl 2048))
    refine wp_skip ?_
    refine thn_normal ?_
    refine wp_seq ?_
    refine wp_seq ?_
    refine go_lin (sts := [none, none, none]) (news := []) (sp := [.adr 20 2 (.some 4) True, .val 21 _, .val 22 _]) [.g 0, .o 2] hst (obs_cons (ob_a rfl rfl (a_fld (loc_at0 0 rfl (by kernel_rfl)) fld_42_1)) (obs_cons (ob_v rfl rfl (r_loadf 0 rfl (by kernel_rfl) trivial (loc_at0 0 rfl (by kernel_rfl)) (Sub.part 1 rfl rfl) ty_26)) (obs_cons (ob_v rfl rfl (r_call (xs := [.tmp 21]) sign_q (.cons (has_v 1 rfl (by kernel_rfl) (by kernel_rfl)) .nil))) (obs_nil)))) (by kernel_rfl) (by kernel_rfl) (by kernel_rfl) (fun a w hst => ?_)
    have hst : St B w0 43 [(5, _), (22, _)] [⟨2, 42, ptrH, _⟩, ⟨3, 26, ptrH, _⟩, ⟨4, 26, ptrH, _⟩] a w := hst
    refine thn_normal ?_
    refine wp_block ?_
    refine wp_seq ?_
    refine go_lin (sts := [none, none, none]) (news := []) (sp := [.val 24 _, .val 23 _]) [.g 0, .g 1, .o 1] hst (obs_cons (ob_v rfl rfl (r_eql (has_g 1 rfl (by kernel_rfl) (by kernel_rfl)) has_num)) (obs_cons (ob_v rfl rfl (r_assign (has_v 0 rfl (by kernel_rfl) (by kernel_rfl)))) (obs_nil))) (by kernel_rfl) (by kernel_rfl) (by kernel_rfl) (fun a w hst => ?_)
    have hst : St B w0 43 [(5, _), (22, _), (23, _)] [⟨2, 42, ptrH, _⟩, ⟨3, 26, ptrH, _⟩, ⟨4, 26, ptrH, _⟩] a w := hst
    refine thn_normal ?_
    refine cond_of hst (List.mem_of_getElem? (i := 2) rfl) (fun hb1 => ?_) (fun hb1 => ?_)
    · rw [sgn0, decide_eq_true_eq] at hb1
      refine wp_seq ?_
      refine go_lin (sts := [none, none, some (1, _)]) (news := []) (sp := [.val 25 _, .sto 2, .val 5 _]) [.o 2] hst (obs_cons (ob_v rfl rfl (r_build (xs := []) (qs := []) str_frac .nil)) (obs_cons (ob_sto rfl rfl rfl (has_v 0 rfl (by kernel_rfl) (by kernel_rfl)) ty_26 rfl) (obs_cons (ob_v rfl rfl (r_assign has_num)) (obs_nil)))) (by kernel_rfl) (by kernel_rfl) (by kernel_rfl) (fun a w hst => ?_)
      have hst : St B w0 43 [(5, _)] [⟨2, 42, ptrH, _⟩, ⟨3, 26, ptrH, _⟩, ⟨4, 26, ptrH, _⟩] a w := hst
      refine thn_normal ?_
      refine wp_ret ?_
      refine blk_ret ?_
      refine thn_ret ?_
      refine ret_wk ?_ (ret_many (rs := [.cell 4 26, .tmp 5]) rfl hst (.cell (List.mem_of_getElem? (i := 2) rfl) ty_26 (.tmp (List.mem_of_getElem? (i := 0) rfl) .nil)) (by decide))
      rw [stF, if_pos hb0, if_pos hb1]; exact wk_id
    · rw [sgn0, decide_eq_false_iff_not] at hb1
      refine wp_seq ?_
      refine go_lin (sts := [none, none, none]) (news := []) (sp := [.val 27 _, .val 26 _]) [.g 0, .o 1] hst (obs_cons (ob_v rfl rfl (r_eql (has_g 1 rfl (by kernel_rfl) (by kernel_rfl)) has_num)) (obs_cons (ob_v rfl rfl (r_assign (has_v 0 rfl (by kernel_rfl) (by kernel_rfl)))) (obs_nil))) (by kernel_rfl) (by kernel_rfl) (by kernel_rfl) (fun a w hst => ?_)
      have hst : St B w0 43 [(5, _), (26, _)] [⟨2, 42, ptrH, _⟩, ⟨3, 26, ptrH, _⟩, ⟨4, 26, ptrH, _⟩] a w := hst
      refine thn_normal ?_
      refine cond_of hst (List.mem_of_getElem? (i := 1) rfl) (fun hb2 => ?_) (fun hb2 => ?_)
      · rw [beq_iff_eq] at hb2
        refine wp_seq ?_
        refine go_lin (sts := [none, none, some (7, _)]) (news := []) (sp := [.val 28 _, .adr 29 2 (.some 4) True, .val 30 _, .val 31 _, .val 32 _, .val 33 _, .val 34 _, .sto 2, .val 5 _]) [.o 8] hst (obs_cons (ob_v rfl rfl (r_load (loc_at0 1 rfl (by kernel_rfl)) ty_26)) (obs_cons (ob_a rfl rfl (a_fld (loc_at0 0 rfl (by kernel_rfl)) fld_42_1)) (obs_cons (ob_v rfl rfl (r_loadf 1 rfl (by kernel_rfl) trivial (loc_at0 0 rfl (by kernel_rfl)) (Sub.part 1 rfl rfl) ty_26)) (obs_cons (ob_v rfl rfl (r_call (xs := [.tmp 28, .tmp 30]) (over_q (by decide) hb1) (.cons (has_v 0 rfl (by kernel_rfl) (by kernel_rfl)) (.cons (has_v 2 rfl (by kernel_rfl) (by kernel_rfl)) .nil)))) (obs_cons (ob_v rfl rfl (r_call (xs := [.tmp 31]) (im1_q (by decide)) (.cons (has_v 3 rfl (by kernel_rfl) (by kernel_rfl)) .nil))) (obs_cons (ob_v rfl rfl (r_ex0 (has_v 4 rfl (by kernel_rfl) (by kernel_rfl)))) (obs_cons (ob_v rfl rfl (r_ex1 (has_v 4 rfl (by kernel_rfl) (by kernel_rfl)))) (obs_cons (ob_sto rfl rfl rfl (has_v 5 rfl (by kernel_rfl) (by kernel_rfl)) ty_26 rfl) (obs_cons (ob_v rfl rfl (r_assign (has_v 6 rfl (by kernel_rfl) (by kernel_rfl)))) (obs_nil)))))))))) (by kernel_rfl) (by kernel_rfl) (by kernel_rfl) (fun a w hst => ?_)
        have hst : St B w0 43 [(5, _)] [⟨2, 42, ptrH, _⟩, ⟨3, 26, ptrH, _⟩, ⟨4, 26, ptrH, _⟩] a w := hst
        refine thn_normal ?_
        refine wp_ret ?_
        refine blk_ret ?_
        refine thn_ret ?_
        refine ret_wk ?_ (ret_many (rs := [.cell 4 26, .tmp 5]) rfl hst (.cell (List.mem_of_getElem? (i := 2) rfl) ty_26 (.tmp (List.mem_of_getElem? (i := 0) rfl) .nil)) (by decide))
        rw [stF, if_pos hb0, if_neg hb1, if_pos hb2]; exact wk_id
      · rw [beq_eq_false_iff_ne] at hb2
        refine wp_skip ?_
        refine blk_normal ?_
        refine thn_normal ?_
        refine wp_seq ?_
        refine go_draw (anc := [[], [], [1], [1, 2], [0, 1, 2, 3], [0, 1, 2, 3, 4], [0, 1, 2, 3, 4, 5], [0, 1, 2, 3, 4, 5], [0, 1, 2, 3, 4, 5, 6, 7], [0, 1, 2, 3, 4, 5, 6, 7, 8]]) (sts := [none, none, some (8, _)]) (news := []) (sp := [.val 35 _, .adr 36 2 (.some 4) True, .val 37 _, .val 38 _, .val 39 _, .val 40 _, .val 41 _, .val 42 _, .sto 2, .val 5 _]) [.o 9] follows_mixed hst (obs_cons (ob_v rfl rfl (r_load (loc_at0 1 rfl (by kernel_rfl)) ty_26)) (obs_cons (ob_a rfl rfl (a_fld (loc_at0 0 rfl (by kernel_rfl)) fld_42_1)) (obs_cons (ob_v rfl rfl (r_loadf 1 rfl (by kernel_rfl) trivial (loc_at0 0 rfl (by kernel_rfl)) (Sub.part 1 rfl rfl) ty_26)) (obs_cons (ob_v rfl rfl (r_call (xs := [.tmp 37]) (turned_q (by decide)) (.cons (has_v 2 rfl (by kernel_rfl) (by kernel_rfl)) .nil))) (obs_cons (ob_v rfl rfl (r_call (xs := [.tmp 35, .tmp 38]) (over_q (by decide) (neg_nz hb1)) (.cons (has_v 0 rfl (by kernel_rfl) (by kernel_rfl)) (.cons (has_v 3 rfl (by kernel_rfl) (by kernel_rfl)) .nil)))) (obs_cons (ob_v rfl rfl (r_call (xs := [.tmp 39]) (im1_q (by decide)) (.cons (has_v 4 rfl (by kernel_rfl) (by kernel_rfl)) .nil))) (obs_cons (ob_v rfl rfl (r_ex0 (has_v 5 rfl (by kernel_rfl) (by kernel_rfl)))) (obs_cons (ob_v rfl rfl (r_ex1 (has_v 5 rfl (by kernel_rfl) (by kernel_rfl)))) (obs_cons (ob_sto rfl rfl rfl (has_v 6 rfl (by kernel_rfl) (by kernel_rfl)) ty_26 rfl) (obs_cons (ob_v rfl rfl (r_assign (has_v 7 rfl (by kernel_rfl) (by kernel_rfl)))) (obs_nil))))))))))) (by kernel_rfl) (by kernel_rfl) (by kernel_rfl) (by kernel_rfl) (fun a w hst => ?_)
        have hst : St B w0 43 [(5, _)] [⟨2, 42, ptrH, _⟩, ⟨3, 26, ptrH, _⟩, ⟨4, 26, ptrH, _⟩] a w := hst
        refine thn_normal ?_
        refine wp_ret ?_
        refine ret_wk ?_ (ret_many (rs := [.cell 4 26, .tmp 5]) rfl hst (.cell (List.mem_of_getElem? (i := 2) rfl) ty_26 (.tmp (List.mem_of_getElem? (i := 0) rfl) .nil)) (by decide))
        rw [stF, if_pos hb0, if_neg hb1, if_neg hb2]; exact wk_id

end Go.Proofs.Ytiokhlpbdabaeaa
