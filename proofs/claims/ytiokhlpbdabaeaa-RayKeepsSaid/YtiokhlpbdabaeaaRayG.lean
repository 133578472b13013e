/- Contract of chapter 11 helper within; what a product that is answered is. -/
import Derived.Test.YtiokhlpbdabaeaaRayF
namespace Go.Proofs.Ytiokhlpbdabaeaa
open Go Go.RowKit
namespace RayG
theorem ty_26 : Ty Try.prog 26 4 true := ⟨by kernel_rfl, by kernel_rfl⟩
theorem ty_42 : Ty Try.prog 42 16 true := ⟨by kernel_rfl, by kernel_rfl⟩
end RayG
open RayG
abbrev spcM (t : RF) : RM := ⟨rfOf (Rat.divInt 1 1), t, rfOf (Rat.divInt 0 1), rfOf (Rat.divInt 1 1)⟩
def wiF (m : RM) (t s : RF) : RM × Bool := if (mulM m (spcM t)).2 != 0 then (rm0, false) else ((mulM (spcM s) (mulM m (spcM t)).1).1, (mulM (spcM s) (mulM m (spcM t)).1).2 == 0)
theorem rm_eta (m : RM) : (⟨m.a, m.b, m.c, m.d⟩ : RM) = m := rfl
theorem mul_ok {m q : RM} (h : (mulM m q).2 = 0) : okM m = true ∧ okM q = true ∧ (mulM m q).1 = rmOf (mulQ (toM m) (toM q)) ∧ [(mulQ (toM m) (toM q)).a, (mulQ (toM m) (toM q)).b, (mulQ (toM m) (toM q)).c, (mulQ (toM m) (toM q)).d].any longQ = false := by
  unfold mulM asM at h ⊢
  by_cases he : kM (kM 0 m) q = 0
  · rw [if_pos he] at h ⊢
    have h1 := kM_0 he
    have h2 := kM_0 h1.2
    cases hl : [(mulQ (toM m) (toM q)).a, (mulQ (toM m) (toM q)).b, (mulQ (toM m) (toM q)).c, (mulQ (toM m) (toM q)).d].any longQ with
    | true => rw [hl] at h; simp at h
    | false => exact ⟨h2.1, h1.1, rfl, rfl⟩
  · rw [if_neg he] at h
    exact absurd h he
theorem det_mul (m q : MQ) : detM (mulQ m q) = detM m * detM q := by unfold detM mulQ; grind
theorem mul_okM {m q : RM} (h : (mulM m q).2 = 0) : okM (mulM m q).1 = true := by
  obtain ⟨h1, h2, h3, h4⟩ := mul_ok h
  rw [h3]
  simp only [List.any_cons, List.any_nil, Bool.or_false, Bool.or_eq_false_iff] at h4
  exact okM_of h4.1 h4.2.1 h4.2.2.1 h4.2.2.2 (by rw [det_mul, (okM_q h1).2, (okM_q h2).2]; exact Rat.one_mul 1)
theorem spc_q {l : Rat} : spcM (rfOf l) = rmOf ⟨1, l, 0, 1⟩ := space_m rfl
theorem spc_ok {t : RF} (h : okM (spcM t) = true) : ∃ l, t = rfOf l ∧ longQ l = false := by
  unfold okM at h
  simp only [List.all_cons, List.all_nil, Bool.and_true, Bool.and_eq_true] at h
  exact ok_rf h.1.2.1
theorem okM_rm {m : RM} (h : okM m = true) : m = rmOf (toM m) := by
  have h1 := (okM_q h).1
  simp only [List.all_cons, List.all_nil, Bool.and_true, Bool.and_eq_true] at h1
  obtain ⟨⟨h2, _⟩, ⟨h3, _⟩, ⟨h4, _⟩, ⟨h5, _⟩⟩ := And.intro (okX_q h1.1) (And.intro (okX_q h1.2.1) (And.intro (okX_q h1.2.2.1) (okX_q h1.2.2.2)))
  cases m
  simp only [rmOf, toM, RM.mk.injEq]
  exact ⟨h2, h3, h4, h5⟩

set_option maxRecDepth 100000 in
theorem within11_c (m : RM) (t s : RF) : Cn Try.prog 52 [(RMA m).va, (RFA t).va, (RFA s).va] (Tu [(RMA (wiF m t s).1).va, Bo (wiF m t s).2]) := by
  refine Cn.intro Try.func52 rfl (by kernel_rfl) (Nat.le_of_ble_eq_true (by kernel_rfl)) (fun B w0 a hst => ?_)
  have hst : St B w0 31 [(0, (RMA m).va), (1, (RFA t).va), (2, (RFA s).va)] [] a w0.w := hst
  refine wp_seq ?_
  refine go_lin (sts := []) (news := [⟨3, 42, ptrH, some 0, _, none⟩, ⟨4, 26, ptrH, some 1, _, none⟩, ⟨5, 26, ptrH, some 2, _, none⟩, ⟨6, 42, ptrH, some 3, _, none⟩]) (sp := [.alc 0, .alc 1, .alc 2, .alc 3, .val 7 _]) [.o 4] hst (obs_cons (ob_box rfl rfl rfl (has_g 0 rfl (by kernel_rfl) (by kernel_rfl))) (obs_cons (ob_box rfl rfl rfl (has_g 1 rfl (by kernel_rfl) (by kernel_rfl))) (obs_cons (ob_box rfl rfl rfl (has_g 2 rfl (by kernel_rfl) (by kernel_rfl))) (obs_cons (ob_alc rfl rfl rfl (Str.zero str_matrix)) (obs_cons (ob_v rfl rfl (r_assign has_bo)) (obs_nil)))))) (by kernel_rfl) (by kernel_rfl) (by kernel_rfl) (fun a w hst => ?_)
  have hst : St B w0 31 [(7, _)] [⟨3, 42, ptrH, _⟩, ⟨4, 26, ptrH, _⟩, ⟨5, 26, ptrH, _⟩, ⟨6, 42, ptrH, _⟩] a w := hst
  refine thn_normal ?_
  refine wp_seq ?_
  refine go_draw (anc := [[], [], [1], [0, 1, 2], [0, 1, 2, 3], [0, 1, 2, 3, 4], [0, 1, 2, 3, 4], [], [0, 1, 2, 3, 4, 5, 7], [0, 1, 2, 3, 4, 5, 6, 7, 8]]) (sts := [none, none, none, none]) (news := [⟨8, 42, ptrH, some 7, _, some (8, _)⟩]) (sp := [.val 12 _, .val 13 _, .val 14 _, .val 15 _, .val 11 _, .val 16 _, .val 17 _, .alc 4, .sto 4, .val 9 _]) [.g 0, .o 9] follows_mixed hst (obs_cons (ob_v rfl rfl (r_load (loc_at0 0 rfl (by kernel_rfl)) ty_42)) (obs_cons (ob_v rfl rfl (r_load (loc_at0 1 rfl (by kernel_rfl)) ty_26)) (obs_cons (ob_v rfl rfl (r_call (xs := [.tmp 13]) (space11_c _) (.cons (has_v 1 rfl (by kernel_rfl) (by kernel_rfl)) .nil))) (obs_cons (ob_v rfl rfl (r_call (xs := [.tmp 12, .tmp 14]) (mul09_c _ _) (.cons (has_v 0 rfl (by kernel_rfl) (by kernel_rfl)) (.cons (has_v 2 rfl (by kernel_rfl) (by kernel_rfl)) .nil)))) (obs_cons (ob_v rfl rfl (r_move (has_v 3 rfl (by kernel_rfl) (by kernel_rfl)))) (obs_cons (ob_v rfl rfl (r_ex0 (has_v 4 rfl (by kernel_rfl) (by kernel_rfl)))) (obs_cons (ob_v rfl rfl (r_ex1 (has_v 4 rfl (by kernel_rfl) (by kernel_rfl)))) (obs_cons (ob_alc rfl rfl rfl (Str.zero str_matrix)) (obs_cons (ob_sto rfl rfl rfl (has_v 5 rfl (by kernel_rfl) (by kernel_rfl)) ty_42 rfl) (obs_cons (ob_v rfl rfl (r_assign (has_v 6 rfl (by kernel_rfl) (by kernel_rfl)))) (obs_nil))))))))))) (by kernel_rfl) (by kernel_rfl) (by kernel_rfl) (by kernel_rfl) (fun a w hst => ?_)
  have hst : St B w0 31 [(7, _), (9, _)] [⟨3, 42, ptrH, _⟩, ⟨4, 26, ptrH, _⟩, ⟨5, 26, ptrH, _⟩, ⟨6, 42, ptrH, _⟩, ⟨8, 42, ptrH, _⟩] a w := hst
  refine thn_normal ?_
  refine wp_seq ?_
  refine wp_seq ?_
  refine go_lin (sts := [none, none, none, none, none]) (news := []) (sp := [.val 18 _, .val 19 _]) [.g 0, .g 1, .o 1] hst (obs_cons (ob_v rfl rfl (r_move (has_g 1 rfl (by kernel_rfl) (by kernel_rfl)))) (obs_cons (ob_v rfl rfl (r_neq (has_v 0 rfl (by kernel_rfl) (by kernel_rfl)) has_num)) (obs_nil))) (by kernel_rfl) (by kernel_rfl) (by kernel_rfl) (fun a w hst => ?_)
  have hst : St B w0 31 [(7, _), (9, _), (19, _)] [⟨3, 42, ptrH, _⟩, ⟨4, 26, ptrH, _⟩, ⟨5, 26, ptrH, _⟩, ⟨6, 42, ptrH, _⟩, ⟨8, 42, ptrH, _⟩] a w := hst
  refine thn_normal ?_
  refine cond_of hst (List.mem_of_getElem? (i := 2) rfl) (fun hb0 => ?_) (fun hb0 => ?_)
  · refine wp_seq ?_
    refine go_lin (sts := [none, none, none, some (1, _), none]) (news := []) (sp := [.val 20 _, .sto 3, .val 7 _]) [.g 1, .o 2] hst (obs_cons (ob_v rfl rfl (r_build (xs := []) (qs := []) str_matrix .nil)) (obs_cons (ob_sto rfl rfl rfl (has_v 0 rfl (by kernel_rfl) (by kernel_rfl)) ty_42 rfl) (obs_cons (ob_v rfl rfl (r_assign has_bo)) (obs_nil)))) (by kernel_rfl) (by kernel_rfl) (by kernel_rfl) (fun a w hst => ?_)
    have hst : St B w0 31 [(9, _), (7, _)] [⟨3, 42, ptrH, _⟩, ⟨4, 26, ptrH, _⟩, ⟨5, 26, ptrH, _⟩, ⟨6, 42, ptrH, _⟩, ⟨8, 42, ptrH, _⟩] a w := hst
    refine thn_normal ?_
    refine wp_ret ?_
    refine thn_ret ?_
    refine ret_wk ?_ (ret_many (rs := [.cell 6 42, .tmp 7]) rfl hst (.cell (List.mem_of_getElem? (i := 3) rfl) ty_42 (.tmp (List.mem_of_getElem? (i := 1) rfl) .nil)) (by decide))
    rw [wiF, if_pos hb0]; exact wk_id
  · refine wp_skip ?_
    refine thn_normal ?_
    refine wp_seq ?_
    refine go_draw (anc := [[], [0], [], [0, 1, 2], [0, 1, 2, 3], [0, 1, 2, 3, 4], [0, 1, 2, 3, 4], [], [0, 1, 2, 3, 4, 5, 7], [0, 1, 2, 3, 4, 5, 6, 7, 8]]) (sts := [none, none, none, none, none]) (news := [⟨10, 42, ptrH, some 7, _, some (8, _)⟩]) (sp := [.val 22 _, .val 23 _, .val 24 _, .val 25 _, .val 21 _, .val 26 _, .val 27 _, .alc 5, .sto 5, .val 9 _]) [.g 0, .o 9] follows_mixed hst (obs_cons (ob_v rfl rfl (r_load (loc_at0 2 rfl (by kernel_rfl)) ty_26)) (obs_cons (ob_v rfl rfl (r_call (xs := [.tmp 22]) (space11_c _) (.cons (has_v 0 rfl (by kernel_rfl) (by kernel_rfl)) .nil))) (obs_cons (ob_v rfl rfl (r_load (loc_at0 4 rfl (by kernel_rfl)) ty_42)) (obs_cons (ob_v rfl rfl (r_call (xs := [.tmp 23, .tmp 24]) (mul09_c _ _) (.cons (has_v 1 rfl (by kernel_rfl) (by kernel_rfl)) (.cons (has_v 2 rfl (by kernel_rfl) (by kernel_rfl)) .nil)))) (obs_cons (ob_v rfl rfl (r_move (has_v 3 rfl (by kernel_rfl) (by kernel_rfl)))) (obs_cons (ob_v rfl rfl (r_ex0 (has_v 4 rfl (by kernel_rfl) (by kernel_rfl)))) (obs_cons (ob_v rfl rfl (r_ex1 (has_v 4 rfl (by kernel_rfl) (by kernel_rfl)))) (obs_cons (ob_alc rfl rfl rfl (Str.zero str_matrix)) (obs_cons (ob_sto rfl rfl rfl (has_v 5 rfl (by kernel_rfl) (by kernel_rfl)) ty_42 rfl) (obs_cons (ob_v rfl rfl (r_assign (has_v 6 rfl (by kernel_rfl) (by kernel_rfl)))) (obs_nil))))))))))) (by kernel_rfl) (by kernel_rfl) (by kernel_rfl) (by kernel_rfl) (fun a w hst => ?_)
    have hst : St B w0 31 [(7, _), (9, _)] [⟨3, 42, ptrH, _⟩, ⟨4, 26, ptrH, _⟩, ⟨5, 26, ptrH, _⟩, ⟨6, 42, ptrH, _⟩, ⟨8, 42, ptrH, _⟩, ⟨10, 42, ptrH, _⟩] a w := hst
    refine thn_normal ?_
    refine wp_seq ?_
    refine go_lin (sts := [none, none, none, some (3, _), none, none]) (news := []) (sp := [.val 28 _, .val 29 _, .val 30 _, .sto 3, .val 7 _]) [.o 4] hst (obs_cons (ob_v rfl rfl (r_load (loc_at0 5 rfl (by kernel_rfl)) ty_42)) (obs_cons (ob_v rfl rfl (r_move (has_g 1 rfl (by kernel_rfl) (by kernel_rfl)))) (obs_cons (ob_v rfl rfl (r_eql (has_v 1 rfl (by kernel_rfl) (by kernel_rfl)) has_num)) (obs_cons (ob_sto rfl rfl rfl (has_v 0 rfl (by kernel_rfl) (by kernel_rfl)) ty_42 rfl) (obs_cons (ob_v rfl rfl (r_assign (has_v 2 rfl (by kernel_rfl) (by kernel_rfl)))) (obs_nil)))))) (by kernel_rfl) (by kernel_rfl) (by kernel_rfl) (fun a w hst => ?_)
    have hst : St B w0 31 [(7, _)] [⟨3, 42, ptrH, _⟩, ⟨4, 26, ptrH, _⟩, ⟨5, 26, ptrH, _⟩, ⟨6, 42, ptrH, _⟩, ⟨8, 42, ptrH, _⟩, ⟨10, 42, ptrH, _⟩] a w := hst
    refine thn_normal ?_
    refine wp_ret ?_
    refine ret_wk ?_ (ret_many (rs := [.cell 6 42, .tmp 7]) rfl hst (.cell (List.mem_of_getElem? (i := 3) rfl) ty_42 (.tmp (List.mem_of_getElem? (i := 0) rfl) .nil)) (by decide))
    rw [wiF, if_neg (by rw [hb0]; decide)]; exact wk_id

end Go.Proofs.Ytiokhlpbdabaeaa
