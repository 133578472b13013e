/- The reference of layer 20: May, Alike, Best. -/
import Derived.Test.YtmghfjcjcfaagaaGreatRefK
import Derived.Test.YtmghfjcjcfaagaaGreatMatB
namespace Go.Proofs.YtmghfjcjcfaagaaGreat
open Go Go.RowKit
namespace RefN
theorem fld_52_0 : Fld Tryz.prog 52 0 0 4 := ⟨_, _, Tryz.underlying52, rfl, rfl, by kernel_rfl, by decide⟩
theorem fld_52_1 : Fld Tryz.prog 52 1 4 4 := ⟨_, _, Tryz.underlying52, rfl, rfl, by kernel_rfl, by decide⟩
theorem sl_53 : Sl Tryz.prog 53 52 8 := ⟨by kernel_rfl, by kernel_rfl⟩
theorem sl_71 : Sl Tryz.prog 71 26 4 := ⟨by kernel_rfl, by kernel_rfl⟩
theorem ty_26 : Ty Tryz.prog 26 4 true := ⟨by kernel_rfl, by kernel_rfl⟩
theorem ty_52 : Ty Tryz.prog 52 8 true := ⟨by kernel_rfl, by kernel_rfl⟩
end RefN
open RefN
set_option linter.unusedVariables false
theorem sgn_x {x : RG} (h : [x.re, x.im].all okX = true) : Cn Tryz.prog 138 [(RFA x.im).va] (In (toQ x.im).num.sign) := by
  simp only [List.all_cons, List.all_nil, Bool.and_true, Bool.and_eq_true] at h
  exact r2sign_q.wk (.cons (qa_x h.2 (Nat.le_refl 2048)).va .nil)
theorem may20_e {x : RG} : ([x.re, x.im].all okX && decide ((toQ x.im).num.sign > 0)) = okB x := by
  unfold okB bmC
  cases h : [x.re, x.im].all okX with
  | false => simp
  | true =>
    by_cases h2 : (toQ x.im).num.sign ≤ 0
    · rw [if_pos rfl, if_pos h2]
      have : ¬ (toQ x.im).num.sign > 0 := by omega
      simp [this]
    · rw [if_pos rfl, if_neg h2]
      have : (toQ x.im).num.sign > 0 := by omega
      simp [this]
theorem not_may {b : Bool} (h : (!b) = true) : b = false := by cases b <;> simp_all
theorem bf_no1 {p : RG} {xs : List RG} (h : okB p = false) : bestF p xs = (0, 1) := by rw [bestF, h]; rfl
theorem bf_no2 {p : RG} {xs : List RG} (h : xs.all okB = false) : bestF p xs = (0, 1) := by rw [bestF, h, Bool.and_false]; rfl
theorem all_f {xs : List RG} {j : Nat} (hj : j < xs.length) (h : okB xs[j] = false) : xs.all okB = false := by
  rw [List.all_eq_false]
  exact ⟨_, List.getElem_mem hj, by rw [h]; decide⟩
theorem all_nx3 {xs : List RG} {j : Nat} (hj : j < xs.length) (ht : (xs.take j).all okB = true) (h : okB xs[j] = true) : (xs.take (j + 1)).all okB = true := by
  rw [List.take_succ_eq_append_getElem hj, List.all_append, ht]
  simp [h]
theorem bet_no {f : Nat → Rat} {j : Nat} (hj : 0 < j) (h : decide (cmQ (f j) (bI f j).2 > 0) = true) : bI f (j + 1) = (j, f j) := bI_n (by
  unfold bet
  have h2 := of_decide_eq_true h
  rw [decide_eq_true hj, decide_eq_false (by omega)]; rfl)
theorem bet_yes {f : Nat → Rat} {j : Nat} (hj : 0 < j) (h : decide (cmQ (f j) (bI f j).2 > 0) = false) : bI f (j + 1) = bI f j := bI_y (by
  unfold bet
  have h2 := of_decide_eq_false h
  rw [decide_eq_true hj, decide_eq_true (by omega)]; rfl)
set_option maxRecDepth 100000 in
theorem r3may_c (x : RG) : Cn Tryz.prog 137 [(RGA x).va] (Bo ([x.re, x.im].all okX)) := by
  refine Cn.intro Tryz.func137 rfl (by kernel_rfl) nq (fun B w0 a hst => ?_)
  have hst : St B w0 9 [(0, (RGA x).va)] [] a w0.w := hst
  refine wp_seq ?_
  refine gl (sts := []) (news := [⟨1, 52, ptrH, some 0, _, none⟩]) (sp := [.alc 0, .val 2 _]) [.o 1] hst (oc (ob_box rfl rfl rfl (gq 0 rfl)) (oc (ob_v rfl rfl (r_assign has_bo)) o0)) (fun a w hst => ?_)
  have hst : St B w0 9 [(2, _)] [⟨1, 52, ptrH, _⟩] a w := hst
  refine thn_normal ?_
  refine wp_seq ?_
  refine gl (sts := [none]) (news := []) (sp := [.adr 3 1 (.some 0) True, .val 4 _, .adr 5 1 (.some 4) True, .val 6 _, .val 7 _, .val 8 _, .val 2 _]) [.o 6] hst (oc (ob_a rfl rfl (a_fld (lz0 0 rfl) fld_52_0)) (oc (ob_v rfl rfl (r_loadf 0 rfl (by kernel_rfl) trivial (lz0 0 rfl) (Sub.part 0 rfl rfl) ty_26)) (oc (ob_a rfl rfl (a_fld (lz0 0 rfl) fld_52_1)) (oc (ob_v rfl rfl (r_loadf 2 rfl (by kernel_rfl) trivial (lz0 0 rfl) (Sub.part 1 rfl rfl) ty_26)) (oc (ob_v rfl rfl (r_slice (D := [U32]) (l := [_, _]) (xs := [.tmp 4, .tmp 6]) (nd_ok (by kernel_rfl)) sl_71 (by kernel_rfl) (n_ok (by kernel_rfl)) nq nq nq (.cons (vq 1 rfl) (.cons (vq 3 rfl) .nil)) rfl rfl)) (oc (ob_v rfl rfl (r_call (xs := [.tmp 7]) (r2checks_c [x.re, x.im] nq) (.cons (vq 4 rfl) .nil))) (oc (ob_v rfl rfl (r_assign (vq 5 rfl))) o0))))))) (fun a w hst => ?_)
  have hst : St B w0 9 [(2, _)] [⟨1, 52, ptrH, _⟩] a w := hst
  refine thn_normal ?_
  refine wp_ret ?_
  refine ret_wk ?_ (ret_tmp rfl hst (List.mem_of_getElem? (i := 0) rfl))
  exact wk_id

set_option maxRecDepth 100000 in
theorem r20may_c (x : RG) : Cn Tryz.prog 73 [(RGA x).va] (Bo (okB x)) := by
  refine Cn.intro Tryz.func73 rfl (by kernel_rfl) nq (fun B w0 a hst => ?_)
  have hst : St B w0 11 [(0, (RGA x).va)] [] a w0.w := hst
  refine wp_seq ?_
  refine gl (sts := []) (news := [⟨1, 52, ptrH, some 0, _, none⟩]) (sp := [.alc 0, .val 2 _]) [.o 1] hst (oc (ob_box rfl rfl rfl (gq 0 rfl)) (oc (ob_v rfl rfl (r_assign has_bo)) o0)) (fun a w hst => ?_)
  have hst : St B w0 11 [(2, _)] [⟨1, 52, ptrH, _⟩] a w := hst
  refine thn_normal ?_
  refine wp_seq ?_
  refine gl (sts := [none]) (news := []) (sp := [.val 3 _, .val 4 _, .val 5 _, .adr 6 1 (.some 4) (_ = true), .val 7 (Wh (_ = true) _), .val 8 (Wh (_ = true) _), .val 9 (Wh (_ = true) _), .val 10 _, .val 2 _]) [.o 8] hst (oc (ob_v rfl rfl (r_load (lz0 0 rfl) ty_52)) (oc (ob_v rfl rfl (r_call (xs := [.tmp 3]) (r3may_c x) (.cons (vq 0 rfl) .nil))) (oc (ob_v rfl rfl (r_move (vq 1 rfl))) (oc (ob_ag rfl rfl rfl (vq 2 rfl) nq (fun hg => a_fld (lz0 0 rfl) fld_52_1)) (oc (ob_gd rfl rfl rfl (vq 2 rfl) nq (fun hg => r_loadf 3 rfl (by kernel_rfl) hg (lz0 0 rfl) (Sub.part 1 rfl rfl) ty_26)) (oc (ob_gd rfl rfl rfl (vq 2 rfl) nq (fun hg => r_call (xs := [.tmp 7]) (sgn_x hg) (.cons (has_wh (vq 4 rfl) hg) .nil))) (oc (ob_gd rfl rfl rfl (vq 2 rfl) nq (fun hg => r_gtr (has_wh (vq 5 rfl) hg) has_num)) (oc (ob_v rfl rfl (r_and (vq 2 rfl) (vq 6 rfl))) (oc (ob_v rfl rfl (r_assign (vq 7 rfl))) o0))))))))) (fun a w hst => ?_)
  have hst : St B w0 11 [(2, _)] [⟨1, 52, ptrH, _⟩] a w := hst
  refine thn_normal ?_
  refine wp_ret ?_
  refine ret_wk ?_ (ret_tmp rfl hst (List.mem_of_getElem? (i := 0) rfl))
  exact wk_eq (congrArg Bo may20_e)

set_option maxRecDepth 100000 in
theorem r20square_q {c : Nat} {x : Rat} (hc : c ≤ 400000000) : Cn Tryz.prog 140 [Qs c x] (Qs (c + c) (x * x)) := by
  refine Cn.intro Tryz.func140 rfl (by kernel_rfl) nq (fun B w0 a hst => ?_)
  have hst : St B w0 6 [(0, Qs c x)] [] a w0.w := hst
  refine wp_seq ?_
  refine gl (sts := []) (news := [⟨1, 26, ptrH, some 0, _, none⟩, ⟨2, 26, ptrH, some 1, _, none⟩]) (sp := [.alc 0, .alc 1]) [] hst (oc (ob_box rfl rfl rfl (gq 0 rfl)) (oc (ob_alc rfl rfl rfl (Str.zero str_frac)) o0)) (fun a w hst => ?_)
  have hst : St B w0 6 [] [⟨1, 26, ptrH, _⟩, ⟨2, 26, ptrH, _⟩] a w := hst
  refine thn_normal ?_
  refine wp_seq ?_
  refine gl (sts := [none, some (3, _)]) (news := []) (sp := [.val 3 _, .val 4 _, .val 5 _, .sto 1]) [] hst (oc (ob_v rfl rfl (r_load (lz0 0 rfl) ty_26)) (oc (ob_v rfl rfl (r_load (lz0 0 rfl) ty_26)) (oc (ob_v rfl rfl (r_call (xs := [.tmp 3, .tmp 4]) (r2times_q (by omega)) (.cons (vq 0 rfl) (.cons (vq 1 rfl) .nil)))) (oc (ob_sto rfl rfl rfl (vq 2 rfl) ty_26 (Eq.trans (b := 4) rfl rfl)) o0)))) (fun a w hst => ?_)
  have hst : St B w0 6 [] [⟨1, 26, ptrH, _⟩, ⟨2, 26, ptrH, _⟩] a w := hst
  refine thn_normal ?_
  refine wp_ret ?_
  refine ret_wk ?_ (ret_cell rfl hst (List.mem_of_getElem? (i := 1) rfl) ty_26)
  exact wk_id

set_option maxRecDepth 100000 in
theorem r20alike_q {p q : GQ} (hp : 0 < p.im) (hq : 0 < q.im) : Cn Tryz.prog 74 [(QGA 2048 p).va, (QGA 2048 q).va] (Qs 20487 (alkQ p q)) := by
  refine Cn.intro Tryz.func74 rfl (by kernel_rfl) nq (fun B w0 a hst => ?_)
  have hst : St B w0 30 [(0, (QGA 2048 p).va), (1, (QGA 2048 q).va)] [] a w0.w := hst
  refine wp_seq ?_
  refine gl (sts := []) (news := [⟨2, 52, ptrH, some 0, _, none⟩, ⟨3, 52, ptrH, some 1, _, none⟩, ⟨4, 26, ptrH, some 2, _, none⟩]) (sp := [.alc 0, .alc 1, .alc 2]) [] hst (oc (ob_box rfl rfl rfl (gq 0 rfl)) (oc (ob_box rfl rfl rfl (gq 1 rfl)) (oc (ob_alc rfl rfl rfl (Str.zero str_frac)) o0))) (fun a w hst => ?_)
  have hst : St B w0 30 [] [⟨2, 52, ptrH, _⟩, ⟨3, 52, ptrH, _⟩, ⟨4, 26, ptrH, _⟩] a w := hst
  refine thn_normal ?_
  refine wp_seq ?_
  refine go_draw (anc := [[], [], [1], [], [3], [0, 1, 2, 3, 4], [0, 1, 2, 3, 4, 5], [], [0, 1, 2, 3, 4, 5, 6, 7]]) (sts := [none, none, none]) (news := [⟨5, 26, ptrH, some 7, _, some (8, _)⟩]) (sp := [.val 7 _, .adr 8 2 (.some 4) True, .val 9 _, .adr 10 3 (.some 4) True, .val 11 _, .val 12 _, .val 13 _, .alc 3, .sto 3]) [] follows_mixed hst (oc (ob_v rfl rfl (r_call (xs := [.const (.int .i64 (4)), .const (.int .i64 (1))]) (r2small_q (by decide) (by decide) (by decide) (by decide) (by decide)) (.cons has_num (.cons has_num .nil)))) (oc (ob_a rfl rfl (a_fld (lz0 0 rfl) fld_52_1)) (oc (ob_v rfl rfl (r_loadf 1 rfl (by kernel_rfl) trivial (lz0 0 rfl) (Sub.part 1 rfl rfl) ty_26)) (oc (ob_a rfl rfl (a_fld (lz0 1 rfl) fld_52_1)) (oc (ob_v rfl rfl (r_loadf 3 rfl (by kernel_rfl) trivial (lz0 1 rfl) (Sub.part 1 rfl rfl) ty_26)) (oc (ob_v rfl rfl (r_call (xs := [.tmp 9, .tmp 11]) (r2times_q (by omega)) (.cons (vq 2 rfl) (.cons (vq 4 rfl) .nil)))) (oc (ob_v rfl rfl (r_call (xs := [.tmp 7, .tmp 12]) (r2times_q (by omega)) (.cons (vq 0 rfl) (.cons (vq 5 rfl) .nil)))) (oc (ob_alc rfl rfl rfl (Str.zero str_frac)) (oc (ob_sto rfl rfl rfl (vq 6 rfl) ty_26 (Eq.trans (b := 4) rfl rfl)) o0))))))))) (by kernel_rfl) (by kernel_rfl) (by kernel_rfl) (by kernel_rfl) (fun a w hst => ?_)
  have hst : St B w0 30 [] [⟨2, 52, ptrH, _⟩, ⟨3, 52, ptrH, _⟩, ⟨4, 26, ptrH, _⟩, ⟨5, 26, ptrH, _⟩] a w := hst
  refine thn_normal ?_
  refine wp_seq ?_
  refine go_draw (anc := [[], [0], [], [2], [0, 1, 2, 3], [0, 1, 2, 3, 4], [], [6], [], [8], [0, 1, 2, 3, 4, 5, 6, 7, 8, 9], [0, 1, 2, 3, 4, 5, 6, 7, 8, 9, 10], [0, 1, 2, 3, 4, 5, 6, 7, 8, 9, 10, 11], [], [0, 1, 2, 3, 4, 5, 6, 7, 8, 9, 10, 11, 12, 13]]) (sts := [none, none, none, none]) (news := [⟨6, 26, ptrH, some 13, _, some (14, _)⟩]) (sp := [.adr 14 2 (.some 0) True, .val 15 _, .adr 16 3 (.some 0) True, .val 17 _, .val 18 _, .val 19 _, .adr 20 2 (.some 4) True, .val 21 _, .adr 22 3 (.some 4) True, .val 23 _, .val 24 _, .val 25 _, .val 26 _, .alc 4, .sto 4]) [] follows_mixed hst (oc (ob_a rfl rfl (a_fld (lz0 0 rfl) fld_52_0)) (oc (ob_v rfl rfl (r_loadf 0 rfl (by kernel_rfl) trivial (lz0 0 rfl) (Sub.part 0 rfl rfl) ty_26)) (oc (ob_a rfl rfl (a_fld (lz0 1 rfl) fld_52_0)) (oc (ob_v rfl rfl (r_loadf 2 rfl (by kernel_rfl) trivial (lz0 1 rfl) (Sub.part 0 rfl rfl) ty_26)) (oc (ob_v rfl rfl (r_call (xs := [.tmp 15, .tmp 17]) (r2minus_q (by omega)) (.cons (vq 1 rfl) (.cons (vq 3 rfl) .nil)))) (oc (ob_v rfl rfl (r_call (xs := [.tmp 18]) (r20square_q (by decide)) (.cons (vq 4 rfl) .nil))) (oc (ob_a rfl rfl (a_fld (lz0 0 rfl) fld_52_1)) (oc (ob_v rfl rfl (r_loadf 6 rfl (by kernel_rfl) trivial (lz0 0 rfl) (Sub.part 1 rfl rfl) ty_26)) (oc (ob_a rfl rfl (a_fld (lz0 1 rfl) fld_52_1)) (oc (ob_v rfl rfl (r_loadf 8 rfl (by kernel_rfl) trivial (lz0 1 rfl) (Sub.part 1 rfl rfl) ty_26)) (oc (ob_v rfl rfl (r_call (xs := [.tmp 21, .tmp 23]) (r2plus_q (by omega)) (.cons (vq 7 rfl) (.cons (vq 9 rfl) .nil)))) (oc (ob_v rfl rfl (r_call (xs := [.tmp 24]) (r20square_q (by decide)) (.cons (vq 10 rfl) .nil))) (oc (ob_v rfl rfl (r_call (xs := [.tmp 19, .tmp 25]) (r2plus_q (by omega)) (.cons (vq 5 rfl) (.cons (vq 11 rfl) .nil)))) (oc (ob_alc rfl rfl rfl (Str.zero str_frac)) (oc (ob_sto rfl rfl rfl (vq 12 rfl) ty_26 (Eq.trans (b := 4) rfl rfl)) o0))))))))))))))) (by kernel_rfl) (by kernel_rfl) (by kernel_rfl) (by kernel_rfl) (fun a w hst => ?_)
  have hst : St B w0 30 [] [⟨2, 52, ptrH, _⟩, ⟨3, 52, ptrH, _⟩, ⟨4, 26, ptrH, _⟩, ⟨5, 26, ptrH, _⟩, ⟨6, 26, ptrH, _⟩] a w := hst
  refine thn_normal ?_
  refine wp_seq ?_
  refine gl (sts := [none, none, some (3, _), none, none]) (news := []) (sp := [.val 27 _, .val 28 _, .val 29 _, .sto 2]) [] hst (oc (ob_v rfl rfl (r_load (lz0 3 rfl) ty_26)) (oc (ob_v rfl rfl (r_load (lz0 4 rfl) ty_26)) (oc (ob_v rfl rfl (r_call (xs := [.tmp 27, .tmp 28]) (r2over_q (by decide) (sq_ne (add_pos hp hq))) (.cons (vq 0 rfl) (.cons (vq 1 rfl) .nil)))) (oc (ob_sto rfl rfl rfl (vq 2 rfl) ty_26 (Eq.trans (b := 4) rfl rfl)) o0)))) (fun a w hst => ?_)
  have hst : St B w0 30 [] [⟨2, 52, ptrH, _⟩, ⟨3, 52, ptrH, _⟩, ⟨4, 26, ptrH, _⟩, ⟨5, 26, ptrH, _⟩, ⟨6, 26, ptrH, _⟩] a w := hst
  refine thn_normal ?_
  refine wp_ret ?_
  refine ret_wk ?_ (ret_cell rfl hst (List.mem_of_getElem? (i := 2) rfl) ty_26)
  exact (qa_mono (by decide)).va

theorem r20alike_x {p : RG} {xs : List RG} (h : okB p = true ∧ xs.all okB = true) {j : Nat} (hj : j < xs.length) : Cn Tryz.prog 74 [(RGA p).va, (RGA (xs[j])).va] (Qs 20487 (ovs p xs j)) := by
  have hx := okB_q h.1
  have hy := okB_q (List.all_eq_true.1 h.2 _ (List.getElem_mem hj))
  have e : ovs p xs j = alkQ (toG p) (toG xs[j]) := by unfold ovs; rw [List.getD_eq_getElem?_getD, List.getElem?_eq_getElem hj]; rfl
  rw [e]
  exact (r20alike_q hx.2 hy.2).wk (.cons (qg_x hx.1).va (.cons (qg_x hy.1).va .nil))

set_option maxRecDepth 100000 in
theorem r20best_c (p : RG) (xs : List RG) (hl : xs.length ≤ 10000000) : Cn Tryz.prog 28 [(RGA p).va, (SlA 52 [U32] (xs.map RGA)).va] (Tu [In (bestF p xs).1, In (bestF p xs).2]) := by
  refine Cn.intro Tryz.func28 rfl (by kernel_rfl) nq (fun B w0 a hst => ?_)
  have hst : St B w0 53 [(0, (RGA p).va), (1, (SlA 52 [U32] (xs.map RGA)).va)] [] a w0.w := hst
  refine wp_seq ?_
  refine gl (sts := []) (news := [⟨2, 52, ptrH, some 0, _, none⟩]) (sp := [.alc 0, .val 4 _, .val 5 _]) [.g 1, .o 1, .o 2] hst (oc (ob_box rfl rfl rfl (gq 0 rfl)) (oc (ob_v rfl rfl (r_assign has_num)) (oc (ob_v rfl rfl (r_assign has_num)) o0))) (fun a w hst => ?_)
  have hst : St B w0 53 [(1, _), (4, _), (5, _)] [⟨2, 52, ptrH, _⟩] a w := hst
  refine thn_normal ?_
  refine wp_seq ?_
  refine wp_seq ?_
  refine gl (sts := [none]) (news := []) (sp := [.val 11 _, .val 12 _, .val 13 _]) [.g 0, .g 1, .g 2, .o 2] hst (oc (ob_v rfl rfl (r_load (lz0 0 rfl) ty_52)) (oc (ob_v rfl rfl (r_call (xs := [.tmp 11]) (r20may_c p) (.cons (vq 0 rfl) .nil))) (oc (ob_v rfl rfl (r_not (vq 1 rfl))) o0))) (fun a w hst => ?_)
  have hst : St B w0 53 [(1, _), (4, _), (5, _), (13, _)] [⟨2, 52, ptrH, _⟩] a w := hst
  refine thn_normal ?_
  refine cond_of hst (List.mem_of_getElem? (i := 3) rfl) (fun hb0 => ?_) (fun hb0 => ?_)
  · have hp := not_may hb0
    refine wp_seq ?_
    refine gl (sts := [none]) (news := []) (sp := [.val 4 _, .val 5 _]) [.g 0, .o 0, .o 1] hst (oc (ob_v rfl rfl (r_assign has_num)) (oc (ob_v rfl rfl (r_assign has_num)) o0)) (fun a w hst => ?_)
    have hst : St B w0 53 [(1, _), (4, _), (5, _)] [⟨2, 52, ptrH, _⟩] a w := hst
    refine thn_normal ?_
    refine wp_ret ?_
    refine thn_ret ?_
    refine ret_wk ?_ (ret_many (rs := [.tmp 4, .tmp 5]) rfl hst (.tmp (List.mem_of_getElem? (i := 1) rfl) (.tmp (List.mem_of_getElem? (i := 2) rfl) .nil)) (by decide))
    rw [bf_no1 hp]; exact wk_id
  · have hp : okB p = true := by simpa using hb0
    refine wp_skip ?_
    refine thn_normal ?_
    refine wp_seq ?_
    refine wp_seq ?_
    refine gl (sts := [none]) (news := []) (sp := [.val 6 _]) [.g 0, .g 1, .g 2, .o 0] hst (oc (ob_v rfl rfl (r_assign has_num)) o0) (fun a w hst => ?_)
    have hst : St B w0 53 [(1, _), (4, _), (5, _), (6, _)] [⟨2, 52, ptrH, _⟩] a w := hst
    refine thn_normal ?_
    refine wp_block ?_
    have hst := St.sel hst [0, 3]
    refine wp_loop_ghost (fun n a w => ∃ j : Nat, (n + j = xs.length ∧ (xs.take j).all okB = true) ∧ St B w0 53 [(1, (SlA 52 [U32] (xs.map RGA)).va), (6, In (j : Nat))] [⟨2, 52, ptrH, RGA p⟩] a w) (xs.length) ?_ ?_
    · exact ⟨0, ⟨by omega, rfl⟩, hst⟩
    intro n a w hI
    obtain ⟨j, ⟨hn, hno⟩, hst⟩ := hI
    refine wp_seq ?_
    refine wp_seq ?_
    refine gl (sts := [none]) (news := []) (sp := [.val 14 _, .val 15 _, .val 16 _, .val 17 _]) [.g 0, .g 1, .o 3] hst (oc (ob_v rfl rfl (r_move (gq 1 rfl))) (oc (ob_v rfl rfl (r_move (gq 0 rfl))) (oc (ob_v rfl rfl (r_len Tryz.underlying53 (vq 1 rfl))) (oc (ob_v rfl rfl (r_lss (vq 0 rfl) (vq 2 rfl))) o0)))) (fun a w hst => ?_)
    have hst : St B w0 53 [(1, _), (6, _), (17, _)] [⟨2, 52, ptrH, _⟩] a w := hst
    refine thn_normal ?_
    refine cond_of hst (List.mem_of_getElem? (i := 2) rfl) (fun hb1 => ?_) (fun hb1 => ?_)
    · have hj : j < xs.length := by rw [List.length_map] at hb1; simp at hb1; omega
      refine wp_skip ?_
      refine thn_normal ?_
      refine wp_seq ?_
      refine wp_block ?_
      refine wp_seq ?_
      refine gl (sts := [none]) (news := []) (sp := [.val 20 _, .val 21 _, .val 22 _, .val 23 _, .val 24 _, .val 25 _]) [.g 0, .g 1, .o 5] hst (oc (ob_v rfl rfl (r_move (gq 0 rfl))) (oc (ob_v rfl rfl (r_move (gq 1 rfl))) (oc (ob_v rfl rfl (r_idx sl_53 (map_n fun _ => rfl) (vq 0 rfl) (vq 1 rfl) (map_at hj))) (oc (ob_v rfl rfl (r_loade (vq 2 rfl) ty_52)) (oc (ob_v rfl rfl (r_call (xs := [.tmp 23]) (r20may_c xs[j]) (.cons (vq 3 rfl) .nil))) (oc (ob_v rfl rfl (r_not (vq 4 rfl))) o0)))))) (fun a w hst => ?_)
      have hst : St B w0 53 [(1, _), (6, _), (25, _)] [⟨2, 52, ptrH, _⟩] a w := hst
      refine thn_normal ?_
      refine cond_of hst (List.mem_of_getElem? (i := 2) rfl) (fun hb2 => ?_) (fun hb2 => ?_)
      · have hq := all_f hj (not_may hb2)
        refine wp_seq ?_
        refine gl (sts := [none]) (news := []) (sp := [.val 4 _, .val 5 _]) [.g 0, .g 1, .o 0, .o 1] hst (oc (ob_v rfl rfl (r_assign has_num)) (oc (ob_v rfl rfl (r_assign has_num)) o0)) (fun a w hst => ?_)
        have hst : St B w0 53 [(1, _), (6, _), (4, _), (5, _)] [⟨2, 52, ptrH, _⟩] a w := hst
        refine thn_normal ?_
        refine wp_ret ?_
        refine blk_ret ?_
        refine thn_ret ?_
        refine thn_ret ?_
        refine blk_ret ?_
        refine thn_ret ?_
        refine ret_wk ?_ (ret_many (rs := [.tmp 4, .tmp 5]) rfl hst (.tmp (List.mem_of_getElem? (i := 2) rfl) (.tmp (List.mem_of_getElem? (i := 3) rfl) .nil)) (by decide))
        rw [bf_no2 hq]; exact wk_id
      · refine wp_skip ?_
        refine blk_normal ?_
        refine thn_normal ?_
        refine gl (sts := [none]) (news := []) (sp := [.val 18 _, .val 19 _, .val 6 _]) [.g 0, .o 2] hst (oc (ob_v rfl rfl (r_move (gq 1 rfl))) (oc (ob_v rfl rfl (r_add (vq 0 rfl) has_num (wi_succ (by omega)))) (oc (ob_v rfl rfl (r_assign (vq 1 rfl))) o0))) (fun a w hst => ?_)
        have hst : St B w0 53 [(1, _), (6, _)] [⟨2, 52, ptrH, _⟩] a w := hst
        refine thn_normal ?_
        have hst := St.sel hst [0, 1]
        exact ⟨n - 1, by omega, j + 1, ⟨by omega, all_nx3 hj hno (by simpa using hb2)⟩, hst⟩
    · obtain rfl : j = xs.length := by rw [List.length_map] at hb1; simp at hb1; omega
      have hok : okB p = true ∧ xs.all okB = true := ⟨hp, by rw [List.take_length] at hno; exact hno⟩
      refine wp_exit ?_
      refine thn_exit ?_
      refine thn_exit ?_
      refine blk_exit ?_
      refine thn_normal ?_
      refine wp_seq ?_
      refine wp_seq ?_
      refine gl (sts := [none]) (news := []) (sp := [.val 26 _, .val 27 _, .val 28 _]) [.g 0, .o 2] hst (oc (ob_v rfl rfl (r_move (gq 0 rfl))) (oc (ob_v rfl rfl (r_len Tryz.underlying53 (vq 0 rfl))) (oc (ob_v rfl rfl (r_eql (vq 1 rfl) has_num)) o0))) (fun a w hst => ?_)
      have hst : St B w0 53 [(1, _), (28, _)] [⟨2, 52, ptrH, _⟩] a w := hst
      refine thn_normal ?_
      refine cond_of hst (List.mem_of_getElem? (i := 1) rfl) (fun hb3 => ?_) (fun hb3 => ?_)
      · have hz : xs.length = 0 := by rw [List.length_map] at hb3; simp at hb3; rw [hb3]; rfl
        refine wp_seq ?_
        refine gl (sts := [none]) (news := []) (sp := [.val 4 _, .val 5 _]) [.g 0, .o 0, .o 1] hst (oc (ob_v rfl rfl (r_assign has_num)) (oc (ob_v rfl rfl (r_assign has_num)) o0)) (fun a w hst => ?_)
        have hst : St B w0 53 [(1, _), (4, _), (5, _)] [⟨2, 52, ptrH, _⟩] a w := hst
        refine thn_normal ?_
        refine wp_ret ?_
        refine thn_ret ?_
        refine ret_wk ?_ (ret_many (rs := [.tmp 4, .tmp 5]) rfl hst (.tmp (List.mem_of_getElem? (i := 1) rfl) (.tmp (List.mem_of_getElem? (i := 2) rfl) .nil)) (by decide))
        rw [bf_zero hok hz]; exact wk_id
      · have hz : xs.length ≠ 0 := by rw [List.length_map] at hb3; simp at hb3; intro e; exact hb3 (List.length_eq_zero_iff.1 e)
        have h0 : 0 < xs.length := by omega
        refine wp_skip ?_
        refine thn_normal ?_
        refine wp_seq ?_
        refine gl (sts := [none]) (news := []) (sp := [.val 7 _]) [.g 0, .o 0] hst (oc (ob_v rfl rfl (r_assign has_num)) o0) (fun a w hst => ?_)
        have hst : St B w0 53 [(1, _), (7, _)] [⟨2, 52, ptrH, _⟩] a w := hst
        refine thn_normal ?_
        refine wp_seq ?_
        refine go_draw (anc := [[], [], [1], [1, 2], [0, 1, 2, 3], [], [0, 1, 2, 3, 4, 5]]) (sts := [none]) (news := [⟨8, 26, ptrH, some 5, _, some (6, _)⟩]) (sp := [.val 29 _, .val 30 _, .val 31 _, .val 32 _, .val 33 _, .alc 1, .sto 1]) [.g 0, .g 1] follows_mixed hst (oc (ob_v rfl rfl (r_load (lz0 0 rfl) ty_52)) (oc (ob_v rfl rfl (r_move (gq 0 rfl))) (oc (ob_v rfl rfl (r_idx sl_53 (map_n fun _ => rfl) (vq 1 rfl) (has_nat 0 rfl) (map_at h0))) (oc (ob_v rfl rfl (r_loade (vq 2 rfl) ty_52)) (oc (ob_v rfl rfl (r_call (xs := [.tmp 29, .tmp 32]) (r20alike_x hok h0) (.cons (vq 0 rfl) (.cons (vq 3 rfl) .nil)))) (oc (ob_alc rfl rfl rfl (Str.zero str_frac)) (oc (ob_sto rfl rfl rfl (vq 4 rfl) ty_26 (Eq.trans (b := 4) rfl rfl)) o0))))))) (by kernel_rfl) (by kernel_rfl) (by kernel_rfl) (by kernel_rfl) (fun a w hst => ?_)
        have hst : St B w0 53 [(1, _), (7, _)] [⟨2, 52, ptrH, _⟩, ⟨8, 26, ptrH, _⟩] a w := hst
        refine thn_normal ?_
        refine wp_seq ?_
        refine wp_seq ?_
        refine gl (sts := [none, none]) (news := []) (sp := [.val 9 _]) [.g 0, .g 1, .o 0] hst (oc (ob_v rfl rfl (r_assign has_num)) o0) (fun a w hst => ?_)
        have hst : St B w0 53 [(1, _), (7, _), (9, _)] [⟨2, 52, ptrH, _⟩, ⟨8, 26, ptrH, _⟩] a w := hst
        refine thn_normal ?_
        refine wp_block ?_
        have hst := St.sel hst [0, 1, 2]
        refine wp_loop_ghost (fun n a w => ∃ j : Nat, (n + j = xs.length ∧ 0 < j) ∧ St B w0 53 [(1, (SlA 52 [U32] (xs.map RGA)).va), (7, In ((bI (ovs p xs) j).1 : Nat)), (9, In (j : Nat))] [⟨2, 52, ptrH, RGA p⟩, ⟨8, 26, ptrH, QA 20487 (bI (ovs p xs) j).2⟩] a w) (xs.length - 1) ?_ ?_
        · exact ⟨1, ⟨by omega, by decide⟩, hst⟩
        intro n a w hI
        obtain ⟨j, ⟨hn, hj0⟩, hst⟩ := hI
        refine wp_seq ?_
        refine wp_seq ?_
        refine gl (sts := [none, none]) (news := []) (sp := [.val 34 _, .val 35 _, .val 36 _, .val 37 _]) [.g 0, .g 1, .g 2, .o 3] hst (oc (ob_v rfl rfl (r_move (gq 2 rfl))) (oc (ob_v rfl rfl (r_move (gq 0 rfl))) (oc (ob_v rfl rfl (r_len Tryz.underlying53 (vq 1 rfl))) (oc (ob_v rfl rfl (r_lss (vq 0 rfl) (vq 2 rfl))) o0)))) (fun a w hst => ?_)
        have hst : St B w0 53 [(1, _), (7, _), (9, _), (37, _)] [⟨2, 52, ptrH, _⟩, ⟨8, 26, ptrH, _⟩] a w := hst
        refine thn_normal ?_
        refine cond_of hst (List.mem_of_getElem? (i := 3) rfl) (fun hb4 => ?_) (fun hb4 => ?_)
        · have hj : j < xs.length := by rw [List.length_map] at hb4; simp at hb4; omega
          refine wp_skip ?_
          refine thn_normal ?_
          refine wp_seq ?_
          refine wp_block ?_
          refine wp_seq ?_
          refine go_draw (anc := [[], [], [], [1, 2], [1, 2, 3], [0, 1, 2, 3, 4], [], [0, 1, 2, 3, 4, 5, 6]]) (sts := [none, none]) (news := [⟨10, 26, ptrH, some 6, _, some (7, _)⟩]) (sp := [.val 40 _, .val 41 _, .val 42 _, .val 43 _, .val 44 _, .val 45 _, .alc 2, .sto 2]) [.g 0, .g 1, .g 2] follows_mixed hst (oc (ob_v rfl rfl (r_load (lz0 0 rfl) ty_52)) (oc (ob_v rfl rfl (r_move (gq 0 rfl))) (oc (ob_v rfl rfl (r_move (gq 2 rfl))) (oc (ob_v rfl rfl (r_idx sl_53 (map_n fun _ => rfl) (vq 1 rfl) (vq 2 rfl) (map_at hj))) (oc (ob_v rfl rfl (r_loade (vq 3 rfl) ty_52)) (oc (ob_v rfl rfl (r_call (xs := [.tmp 40, .tmp 44]) (r20alike_x hok hj) (.cons (vq 0 rfl) (.cons (vq 4 rfl) .nil)))) (oc (ob_alc rfl rfl rfl (Str.zero str_frac)) (oc (ob_sto rfl rfl rfl (vq 5 rfl) ty_26 (Eq.trans (b := 4) rfl rfl)) o0)))))))) (by kernel_rfl) (by kernel_rfl) (by kernel_rfl) (by kernel_rfl) (fun a w hst => ?_)
          have hst : St B w0 53 [(1, _), (7, _), (9, _)] [⟨2, 52, ptrH, _⟩, ⟨8, 26, ptrH, _⟩, ⟨10, 26, ptrH, _⟩] a w := hst
          refine thn_normal ?_
          refine wp_seq ?_
          refine gl (sts := [none, none, none]) (news := []) (sp := [.val 46 _, .val 47 _, .val 48 _, .val 49 _]) [.g 0, .g 1, .g 2, .o 3] hst (oc (ob_v rfl rfl (r_load (lz0 2 rfl) ty_26)) (oc (ob_v rfl rfl (r_load (lz0 1 rfl) ty_26)) (oc (ob_v rfl rfl (r_call (xs := [.tmp 46, .tmp 47]) (r2cmp_q (by omega)) (.cons (vq 0 rfl) (.cons (vq 1 rfl) .nil)))) (oc (ob_v rfl rfl (r_gtr (vq 2 rfl) has_num)) o0)))) (fun a w hst => ?_)
          have hst : St B w0 53 [(1, _), (7, _), (9, _), (49, _)] [⟨2, 52, ptrH, _⟩, ⟨8, 26, ptrH, _⟩, ⟨10, 26, ptrH, _⟩] a w := hst
          refine thn_normal ?_
          refine cond_join (fun a w =>  St B w0 53 [(1, (SlA 52 [U32] (xs.map RGA)).va), (7, In ((bI (ovs p xs) (j + 1)).1 : Nat)), (9, In (j : Nat))] [⟨2, 52, ptrH, RGA p⟩, ⟨8, 26, ptrH, QA 20487 (bI (ovs p xs) (j + 1)).2⟩, ⟨10, 26, ptrH, QA 20487 (ovs p xs j)⟩] a w) hst (List.mem_of_getElem? (i := 3) rfl) (fun hb5 => ?_) (fun hb5 => ?_) (fun a w hst => ?_)
          · refine wp_seq ?_
            refine gl (sts := [none, none, none]) (news := []) (sp := [.val 50 _, .val 7 _]) [.g 0, .g 2, .o 1] hst (oc (ob_v rfl rfl (r_move (gq 2 rfl))) (oc (ob_v rfl rfl (r_assign (vq 0 rfl))) o0)) (fun a w hst => ?_)
            have hst : St B w0 53 [(1, _), (9, _), (7, _)] [⟨2, 52, ptrH, _⟩, ⟨8, 26, ptrH, _⟩, ⟨10, 26, ptrH, _⟩] a w := hst
            refine thn_normal ?_
            refine gl (sts := [none, some (1, _), none]) (news := []) (sp := [.val 51 _, .sto 1]) [.g 0, .g 1, .g 2] hst (oc (ob_v rfl rfl (r_load (lz0 2 rfl) ty_26)) (oc (ob_sto rfl rfl rfl (vq 0 rfl) ty_26 (Eq.trans (b := 4) rfl rfl)) o0)) (fun a w hst => ?_)
            have hst : St B w0 53 [(1, _), (9, _), (7, _)] [⟨2, 52, ptrH, _⟩, ⟨8, 26, ptrH, _⟩, ⟨10, 26, ptrH, _⟩] a w := hst
            refine thn_normal ?_
            have hst := St.sel hst [0, 2, 1]
            rw [bet_no hj0 hb5]; exact hst
          · refine wp_skip ?_
            refine thn_normal ?_
            have hst := St.sel hst [0, 1, 2]
            rw [bet_yes hj0 hb5]; exact hst
          refine blk_normal ?_
          refine thn_normal ?_
          refine gl (sts := [none, none, none]) (news := []) (sp := [.val 38 _, .val 39 _, .val 9 _]) [.g 0, .g 1, .o 2] hst (oc (ob_v rfl rfl (r_move (gq 2 rfl))) (oc (ob_v rfl rfl (r_add (vq 0 rfl) has_num (wi_succ (by omega)))) (oc (ob_v rfl rfl (r_assign (vq 1 rfl))) o0))) (fun a w hst => ?_)
          have hst : St B w0 53 [(1, _), (7, _), (9, _)] [⟨2, 52, ptrH, _⟩, ⟨8, 26, ptrH, _⟩, ⟨10, 26, ptrH, _⟩] a w := hst
          refine thn_normal ?_
          have hst := St.sel hst [0, 1, 2]
          have hst := St.selL hst [0, 1]
          exact ⟨n - 1, by omega, j + 1, ⟨by omega, by omega⟩, hst⟩
        · obtain rfl : j = xs.length := by rw [List.length_map] at hb4; simp at hb4; omega
          refine wp_exit ?_
          refine thn_exit ?_
          refine thn_exit ?_
          refine blk_exit ?_
          refine thn_normal ?_
          refine wp_seq ?_
          refine gl (sts := [none, none]) (news := []) (sp := [.val 52 _, .val 4 _, .val 5 _]) [.o 1, .o 2] hst (oc (ob_v rfl rfl (r_move (gq 1 rfl))) (oc (ob_v rfl rfl (r_assign (vq 0 rfl))) (oc (ob_v rfl rfl (r_assign has_num)) o0))) (fun a w hst => ?_)
          have hst : St B w0 53 [(4, _), (5, _)] [⟨2, 52, ptrH, _⟩, ⟨8, 26, ptrH, _⟩] a w := hst
          refine thn_normal ?_
          refine wp_ret ?_
          refine ret_wk ?_ (ret_many (rs := [.tmp 4, .tmp 5]) rfl hst (.tmp (List.mem_of_getElem? (i := 0) rfl) (.tmp (List.mem_of_getElem? (i := 1) rfl) .nil)) (by decide))
          rw [bf_some hok hz]; exact wk_id

end Go.Proofs.YtmghfjcjcfaagaaGreat
