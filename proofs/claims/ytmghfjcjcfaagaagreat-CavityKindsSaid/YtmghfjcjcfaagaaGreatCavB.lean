/- Helpers of the laws of chapter 12; what is the same of all matrices of one kind. -/
import Derived.Test.YtmghfjcjcfaagaaGreatCavA
namespace Go.Proofs.YtmghfjcjcfaagaaGreat
open Go Go.RowKit
namespace CavB
theorem fld_28_2 : Fld Tryz.prog 28 2 8 4 := ⟨_, _, Tryz.underlying28, rfl, rfl, by kernel_rfl, by decide⟩
theorem fld_28_3 : Fld Tryz.prog 28 3 12 4 := ⟨_, _, Tryz.underlying28, rfl, rfl, by kernel_rfl, by decide⟩
theorem ty_26 : Ty Tryz.prog 26 4 true := ⟨by kernel_rfl, by kernel_rfl⟩
theorem ty_28 : Ty Tryz.prog 28 16 true := ⟨by kernel_rfl, by kernel_rfl⟩
end CavB
open CavB
set_option maxRecDepth 100000 in
theorem alive12_c  : Cn Tryz.prog 22 [] (Bo true) := by
  refine Cn.intro Tryz.func22 rfl (by kernel_rfl) nq (fun B w0 a hst => ?_)
  have hst : St B w0 93 [] [] a w0.w := hst
  refine wp_seq ?_
  refine gl (sts := []) (news := []) (sp := [.val 0 _]) [.o 0] hst (oc (ob_v rfl rfl (r_assign has_bo)) o0) (fun a w hst => ?_)
  have hst : St B w0 93 [(0, _)] [] a w := hst
  refine thn_normal ?_
  refine wp_seq ?_
  refine gl (sts := []) (news := [⟨1, 26, ptrH, some 4, _, some (5, _)⟩]) (sp := [.val 18 _, .val 17 _, .val 19 _, .val 20 _, .alc 0, .sto 0, .val 2 _]) [.g 0] hst (oc (ob_v rfl rfl (r_call (xs := [.const (.int .i64 (1)), .const (.int .i64 (2))]) (ofQ_c (by decide) (by decide) (by decide) (by decide) (by decide)) (.cons has_num (.cons has_num .nil)))) (oc (ob_v rfl rfl (r_move (vq 0 rfl))) (oc (ob_v rfl rfl (r_ex0 (vq 1 rfl))) (oc (ob_v rfl rfl (r_ex1 (vq 1 rfl))) (oc (ob_alc rfl rfl rfl (Str.zero str_frac)) (oc (ob_sto rfl rfl rfl (vq 2 rfl) ty_26 (Eq.trans (b := 4) rfl rfl)) (oc (ob_v rfl rfl (r_assign (vq 3 rfl))) o0))))))) (fun a w hst => ?_)
  have hst : St B w0 93 [(0, _)] [⟨1, 26, ptrH, _⟩] a w := hst
  refine thn_normal ?_
  refine wp_seq ?_
  refine gl (sts := [none]) (news := [⟨3, 26, ptrH, some 4, _, some (5, _)⟩]) (sp := [.val 22 _, .val 21 _, .val 23 _, .val 24 _, .alc 1, .sto 1, .val 4 _]) [.g 0] hst (oc (ob_v rfl rfl (r_call (xs := [.const (.int .i64 (1)), .const (.int .i64 (1))]) (ofQ_c (by decide) (by decide) (by decide) (by decide) (by decide)) (.cons has_num (.cons has_num .nil)))) (oc (ob_v rfl rfl (r_move (vq 0 rfl))) (oc (ob_v rfl rfl (r_ex0 (vq 1 rfl))) (oc (ob_v rfl rfl (r_ex1 (vq 1 rfl))) (oc (ob_alc rfl rfl rfl (Str.zero str_frac)) (oc (ob_sto rfl rfl rfl (vq 2 rfl) ty_26 (Eq.trans (b := 4) rfl rfl)) (oc (ob_v rfl rfl (r_assign (vq 3 rfl))) o0))))))) (fun a w hst => ?_)
  have hst : St B w0 93 [(0, _)] [⟨1, 26, ptrH, _⟩, ⟨3, 26, ptrH, _⟩] a w := hst
  refine thn_normal ?_
  refine wp_seq ?_
  refine gl (sts := [none, none]) (news := [⟨5, 26, ptrH, some 4, _, some (5, _)⟩]) (sp := [.val 26 _, .val 25 _, .val 27 _, .val 28 _, .alc 2, .sto 2, .val 6 _]) [.g 0] hst (oc (ob_v rfl rfl (r_call (xs := [.const (.int .i64 (-1)), .const (.int .i64 (1))]) (ofQ_c (by decide) (by decide) (by decide) (by decide) (by decide)) (.cons has_num (.cons has_num .nil)))) (oc (ob_v rfl rfl (r_move (vq 0 rfl))) (oc (ob_v rfl rfl (r_ex0 (vq 1 rfl))) (oc (ob_v rfl rfl (r_ex1 (vq 1 rfl))) (oc (ob_alc rfl rfl rfl (Str.zero str_frac)) (oc (ob_sto rfl rfl rfl (vq 2 rfl) ty_26 (Eq.trans (b := 4) rfl rfl)) (oc (ob_v rfl rfl (r_assign (vq 3 rfl))) o0))))))) (fun a w hst => ?_)
  have hst : St B w0 93 [(0, _)] [⟨1, 26, ptrH, _⟩, ⟨3, 26, ptrH, _⟩, ⟨5, 26, ptrH, _⟩] a w := hst
  refine thn_normal ?_
  refine wp_seq ?_
  refine gl (sts := [none, none, none]) (news := [⟨7, 26, ptrH, some 4, _, some (5, _)⟩]) (sp := [.val 30 _, .val 29 _, .val 31 _, .val 32 _, .alc 3, .sto 3, .val 8 _]) [.g 0] hst (oc (ob_v rfl rfl (r_call (xs := [.const (.int .i64 (0)), .const (.int .i64 (1))]) (ofQ_c (by decide) (by decide) (by decide) (by decide) (by decide)) (.cons has_num (.cons has_num .nil)))) (oc (ob_v rfl rfl (r_move (vq 0 rfl))) (oc (ob_v rfl rfl (r_ex0 (vq 1 rfl))) (oc (ob_v rfl rfl (r_ex1 (vq 1 rfl))) (oc (ob_alc rfl rfl rfl (Str.zero str_frac)) (oc (ob_sto rfl rfl rfl (vq 2 rfl) ty_26 (Eq.trans (b := 4) rfl rfl)) (oc (ob_v rfl rfl (r_assign (vq 3 rfl))) o0))))))) (fun a w hst => ?_)
  have hst : St B w0 93 [(0, _)] [⟨1, 26, ptrH, _⟩, ⟨3, 26, ptrH, _⟩, ⟨5, 26, ptrH, _⟩, ⟨7, 26, ptrH, _⟩] a w := hst
  refine thn_normal ?_
  refine wp_seq ?_
  refine gl (sts := [none, none, none, none]) (news := [⟨9, 28, ptrH, some 7, _, some (8, _)⟩]) (sp := [.val 34 _, .val 35 _, .val 36 _, .val 37 _, .val 33 _, .val 38 _, .val 39 _, .alc 4, .sto 4, .val 10 _]) [.g 0, .o 9] hst (oc (ob_v rfl rfl (r_load (lz0 0 rfl) ty_26)) (oc (ob_v rfl rfl (r_load (lz0 0 rfl) ty_26)) (oc (ob_v rfl rfl (r_load (lz0 1 rfl) ty_26)) (oc (ob_v rfl rfl (r_call (xs := [.tmp 34, .tmp 35, .tmp 36]) (two_c _ _ _) (.cons (vq 0 rfl) (.cons (vq 1 rfl) (.cons (vq 2 rfl) .nil))))) (oc (ob_v rfl rfl (r_move (vq 3 rfl))) (oc (ob_v rfl rfl (r_ex0 (vq 4 rfl))) (oc (ob_v rfl rfl (r_ex1 (vq 4 rfl))) (oc (ob_alc rfl rfl rfl (Str.zero str_matrix)) (oc (ob_sto rfl rfl rfl (vq 5 rfl) ty_28 (Eq.trans (b := 16) rfl rfl)) (oc (ob_v rfl rfl (r_assign (vq 6 rfl))) o0)))))))))) (fun a w hst => ?_)
  have hst : St B w0 93 [(0, _), (10, _)] [⟨1, 26, ptrH, _⟩, ⟨3, 26, ptrH, _⟩, ⟨5, 26, ptrH, _⟩, ⟨7, 26, ptrH, _⟩, ⟨9, 28, ptrH, _⟩] a w := hst
  refine thn_normal ?_
  refine wp_seq ?_
  refine gl (sts := [none, none, none, none, none]) (news := []) (sp := [.val 41 _, .val 42 _, .val 40 _, .val 43 _, .val 44 _, .val 11 _, .val 12 _]) [.g 0, .g 1, .o 5, .o 6] hst (oc (ob_v rfl rfl (r_load (lz0 4 rfl) ty_28)) (oc (ob_v rfl rfl (r_call (xs := [.tmp 41]) (kind_c _) (.cons (vq 0 rfl) .nil))) (oc (ob_v rfl rfl (r_move (vq 1 rfl))) (oc (ob_v rfl rfl (r_ex0 (vq 2 rfl))) (oc (ob_v rfl rfl (r_ex1 (vq 2 rfl))) (oc (ob_v rfl rfl (r_assign (vq 3 rfl))) (oc (ob_v rfl rfl (r_assign (vq 4 rfl))) o0))))))) (fun a w hst => ?_)
  have hst : St B w0 93 [(0, _), (10, _), (11, _), (12, _)] [⟨1, 26, ptrH, _⟩, ⟨3, 26, ptrH, _⟩, ⟨5, 26, ptrH, _⟩, ⟨7, 26, ptrH, _⟩, ⟨9, 28, ptrH, _⟩] a w := hst
  refine thn_normal ?_
  refine wp_seq ?_
  refine gl (sts := [none, none, none, none, none]) (news := []) (sp := [.val 46 _, .val 47 _, .val 48 _, .val 49 _, .val 50 _, .val 51 _, .val 45 _, .val 52 _, .val 53 _, .val 13 _, .val 14 _]) [.g 0, .g 1, .g 2, .g 3, .o 9, .o 10] hst (oc (ob_v rfl rfl (r_load (lz0 2 rfl) ty_26)) (oc (ob_v rfl rfl (r_load (lz0 3 rfl) ty_26)) (oc (ob_v rfl rfl (r_load (lz0 3 rfl) ty_26)) (oc (ob_v rfl rfl (r_load (lz0 2 rfl) ty_26)) (oc (ob_v rfl rfl (r_build (xs := [(0, .tmp 46), (1, .tmp 47), (2, .tmp 48), (3, .tmp 49)]) (qs := [(0, _), (1, _), (2, _), (3, _)]) str_matrix (.cons ⟨rfl, (vq 0 rfl), rfl⟩ (.cons ⟨rfl, (vq 1 rfl), rfl⟩ (.cons ⟨rfl, (vq 2 rfl), rfl⟩ (.cons ⟨rfl, (vq 3 rfl), rfl⟩ .nil)))))) (oc (ob_v rfl rfl (r_call (xs := [.tmp 50]) (kind_c ⟨_, _, _, _⟩) (.cons (vq 4 rfl) .nil))) (oc (ob_v rfl rfl (r_move (vq 5 rfl))) (oc (ob_v rfl rfl (r_ex0 (vq 6 rfl))) (oc (ob_v rfl rfl (r_ex1 (vq 6 rfl))) (oc (ob_v rfl rfl (r_assign (vq 7 rfl))) (oc (ob_v rfl rfl (r_assign (vq 8 rfl))) o0))))))))))) (fun a w hst => ?_)
  have hst : St B w0 93 [(0, _), (10, _), (11, _), (12, _), (13, _), (14, _)] [⟨1, 26, ptrH, _⟩, ⟨3, 26, ptrH, _⟩, ⟨5, 26, ptrH, _⟩, ⟨7, 26, ptrH, _⟩, ⟨9, 28, ptrH, _⟩] a w := hst
  refine thn_normal ?_
  refine wp_seq ?_
  refine gl (sts := [none, none, none, none, none]) (news := []) (sp := [.val 55 _, .val 56 _, .val 54 _, .val 57 _, .val 58 _, .val 15 _, .val 16 _]) [.g 0, .g 1, .g 2, .g 3, .g 4, .g 5, .o 6] hst (oc (ob_v rfl rfl (r_build (xs := []) (qs := []) str_matrix .nil)) (oc (ob_v rfl rfl (r_call (xs := [.tmp 55]) (kind_c rm0) (.cons (vq 0 rfl) .nil))) (oc (ob_v rfl rfl (r_move (vq 1 rfl))) (oc (ob_v rfl rfl (r_ex0 (vq 2 rfl))) (oc (ob_v rfl rfl (r_ex1 (vq 2 rfl))) (oc (ob_v rfl rfl (r_assign (vq 3 rfl))) (oc (ob_v rfl rfl (r_assign (vq 4 rfl))) o0))))))) (fun a w hst => ?_)
  have hst : St B w0 93 [(0, _), (10, _), (11, _), (12, _), (13, _), (14, _), (16, _)] [⟨1, 26, ptrH, _⟩, ⟨3, 26, ptrH, _⟩, ⟨5, 26, ptrH, _⟩, ⟨7, 26, ptrH, _⟩, ⟨9, 28, ptrH, _⟩] a w := hst
  refine thn_normal ?_
  refine wp_seq ?_
  refine gl (sts := [none, none, none, none, none]) (news := []) (sp := ((.val 59 _ : Sp) :: (.val 60 _) :: (.val 61 _) :: (.val 62 (Wh (_ = true) _)) :: (.val 63 (Wh (_ = true) _)) :: (.val 64 _) :: (.val 65 _) :: (.val 66 (Wh (_ = true) _)) :: (.val 67 (Wh (_ = true) _)) :: (.val 68 _) :: (.val 69 _) :: (.val 70 (Wh (_ = true) _)) :: (.val 71 (Wh (_ = true) _)) :: (.val 72 _) :: (.val 73 _) :: (.val 74 (Wh (_ = true) _)) :: (.val 75 (Wh (_ = true) _)) :: (.val 76 _) :: (.val 77 _) :: (.val 78 (Wh (_ = true) _)) :: (.val 79 (Wh (_ = true) _)) :: (.val 80 _) :: (.val 81 _) :: (.adr 82 9 (.some 8) (_ = true)) :: (.val 83 (Wh (_ = true) _)) :: (.val 84 (Wh (_ = true) _)) :: (.val 85 (Wh (_ = true) _)) :: (.val 86 _) :: (.val 87 _) :: (.adr 88 9 (.some 12) (_ = true)) :: (.val 89 (Wh (_ = true) _)) :: (.val 90 (Wh (_ = true) _)) :: (.val 91 (Wh (_ = true) _)) :: (.val 92 _) :: (.val 0 _) :: [])) [.o 34] hst (oc (ob_v rfl rfl (r_move (gq 1 rfl))) (oc (ob_v rfl rfl (r_eql (vq 0 rfl) has_num)) (oc (ob_v rfl rfl (r_move (vq 1 rfl))) (oc (ob_gd rfl rfl rfl (vq 2 rfl) nq (fun hg => r_move (gq 3 rfl))) (oc (ob_gd rfl rfl rfl (vq 2 rfl) nq (fun hg => r_eql (has_wh (vq 3 rfl) hg) has_num)) (oc (ob_v rfl rfl (r_and (vq 2 rfl) (vq 4 rfl))) (oc (ob_v rfl rfl (r_move (vq 5 rfl))) (oc (ob_gd rfl rfl rfl (vq 6 rfl) nq (fun hg => r_move (gq 5 rfl))) (oc (ob_gd rfl rfl rfl (vq 6 rfl) nq (fun hg => r_eql (has_wh (vq 7 rfl) hg) has_num)) (oc (ob_v rfl rfl (r_and (vq 6 rfl) (vq 8 rfl))) (oc (ob_v rfl rfl (r_move (vq 9 rfl))) (oc (ob_gd rfl rfl rfl (vq 10 rfl) nq (fun hg => r_move (gq 2 rfl))) (oc (ob_gd rfl rfl rfl (vq 10 rfl) nq (fun hg => r_eql (has_wh (vq 11 rfl) hg) has_num)) (oc (ob_v rfl rfl (r_and (vq 10 rfl) (vq 12 rfl))) (oc (ob_v rfl rfl (r_move (vq 13 rfl))) (oc (ob_gd rfl rfl rfl (vq 14 rfl) nq (fun hg => r_move (gq 4 rfl))) (oc (ob_gd rfl rfl rfl (vq 14 rfl) nq (fun hg => r_eql (has_wh (vq 15 rfl) hg) has_num)) (oc (ob_v rfl rfl (r_and (vq 14 rfl) (vq 16 rfl))) (oc (ob_v rfl rfl (r_move (vq 17 rfl))) (oc (ob_gd rfl rfl rfl (vq 18 rfl) nq (fun hg => r_move (gq 6 rfl))) (oc (ob_gd rfl rfl rfl (vq 18 rfl) nq (fun hg => r_eql (has_wh (vq 19 rfl) hg) has_num)) (oc (ob_v rfl rfl (r_and (vq 18 rfl) (vq 20 rfl))) (oc (ob_v rfl rfl (r_move (vq 21 rfl))) (oc (ob_ag rfl rfl rfl (vq 22 rfl) nq (fun hg => a_fld (lz0 4 rfl) fld_28_2)) (oc (ob_gd rfl rfl rfl (vq 22 rfl) nq (fun hg => r_loadf 23 rfl (by kernel_rfl) hg (lz0 4 rfl) (Sub.part 2 rfl rfl) ty_26)) (oc (ob_gd rfl rfl rfl (vq 22 rfl) nq (fun hg => r_load (lz0 2 rfl) ty_26)) (oc (ob_gd rfl rfl rfl (vq 22 rfl) nq (fun hg => r_call (xs := [.tmp 83, .tmp 84]) (sameFrac_c _ _) (.cons (has_wh (vq 24 rfl) hg) (.cons (has_wh (vq 25 rfl) hg) .nil)))) (oc (ob_v rfl rfl (r_and (vq 22 rfl) (vq 26 rfl))) (oc (ob_v rfl rfl (r_move (vq 27 rfl))) (oc (ob_ag rfl rfl rfl (vq 28 rfl) nq (fun hg => a_fld (lz0 4 rfl) fld_28_3)) (oc (ob_gd rfl rfl rfl (vq 28 rfl) nq (fun hg => r_loadf 29 rfl (by kernel_rfl) hg (lz0 4 rfl) (Sub.part 3 rfl rfl) ty_26)) (oc (ob_gd rfl rfl rfl (vq 28 rfl) nq (fun hg => r_load (lz0 3 rfl) ty_26)) (oc (ob_gd rfl rfl rfl (vq 28 rfl) nq (fun hg => r_call (xs := [.tmp 89, .tmp 90]) (sameFrac_c _ _) (.cons (has_wh (vq 30 rfl) hg) (.cons (has_wh (vq 31 rfl) hg) .nil)))) (oc (ob_v rfl rfl (r_and (vq 28 rfl) (vq 32 rfl))) (oc (ob_v rfl rfl (r_assign (vq 33 rfl))) o0))))))))))))))))))))))))))))))))))) (fun a w hst => ?_)
  have hst : St B w0 93 [(0, _)] [⟨1, 26, ptrH, _⟩, ⟨3, 26, ptrH, _⟩, ⟨5, 26, ptrH, _⟩, ⟨7, 26, ptrH, _⟩, ⟨9, 28, ptrH, _⟩] a w := hst
  refine thn_normal ?_
  refine wp_ret ?_
  refine ret_wk ?_ (ret_tmp rfl hst (List.mem_of_getElem? (i := 0) rfl))
  exact wk_eq (congrArg Bo (by kernel_rfl))

theorem sign_z0 {x : Rat} : (x.num.sign == 0) = true ↔ x = 0 := by
  rw [beq_iff_eq, Int.sign_eq_zero_iff_zero, Rat.num_eq_zero]
theorem oneQ_iff {m : MQ} {s : Int} : oneQ m s = true ↔ m = ⟨Rat.divInt s 1, 0, 0, Rat.divInt s 1⟩ := by
  unfold oneQ
  rw [cm_eq, cm_eq, Bool.and_eq_true, Bool.and_eq_true, Bool.and_eq_true, sign_z0, sign_z0, decide_eq_true_eq, decide_eq_true_eq]
  cases m
  simp only [MQ.mk.injEq]
  constructor
  · rintro ⟨⟨⟨h1, h2⟩, h3⟩, h4⟩
    exact ⟨h3, h1, h2, h4.trans h3⟩
  · rintro ⟨h1, h2, h3, h4⟩
    exact ⟨⟨⟨h2, h3⟩, h1⟩, h4.trans h1.symm⟩
theorem oneQ_of {m q : MQ} {s : Int} (h : m = ⟨Rat.divInt s 1, 0, 0, Rat.divInt s 1⟩ ↔ q = ⟨Rat.divInt s 1, 0, 0, Rat.divInt s 1⟩) : oneQ m s = oneQ q s := by
  rw [Bool.eq_iff_iff, oneQ_iff, oneQ_iff]
  exact h
theorem ki_eq {m q : MQ} (ht : trsQ m = trsQ q) (h : ∀ s, oneQ m s = oneQ q s) : kiQ m = kiQ q := by unfold kiQ; rw [ht, h 1, h (-1)]
theorem ki_nz (m : MQ) : (kiQ m != 0) = true := by
  unfold kiQ
  repeat' split
  all_goals rfl
theorem back_i (s : Rat) : backQ ⟨s, 0, 0, s⟩ = ⟨s, 0, 0, s⟩ := by
  unfold backQ
  simp only [MQ.mk.injEq]
  exact ⟨trivial, by grind, by grind, trivial⟩
theorem back_b (m : MQ) : backQ (backQ m) = m := by
  unfold backQ
  cases m
  simp only [MQ.mk.injEq]
  exact ⟨trivial, by grind, by grind, trivial⟩
theorem ki_back (m : MQ) : kiQ (backQ m) = kiQ m := ki_eq (by unfold trsQ backQ; grind) fun s => oneQ_of ⟨fun h => by rw [← back_b m, h, back_i], fun h => by rw [h, back_i]⟩
theorem ki_mir (m : MQ) : kiQ (mirQ m) = kiQ m := ki_eq (by unfold trsQ mirQ; grind) fun s => oneQ_of ⟨fun h => by
  cases m
  unfold mirQ at h
  simp only [MQ.mk.injEq] at h ⊢
  exact ⟨h.2.2.2, h.2.1, h.2.2.1, h.1⟩, fun h => by rw [h]; rfl⟩
theorem conj_i {o : MQ} (hd : detM o = 1) (s : Rat) : mulQ o (mulQ ⟨s, 0, 0, s⟩ (backQ o)) = ⟨s, 0, 0, s⟩ := by
  unfold detM at hd
  unfold mulQ backQ
  simp only [MQ.mk.injEq]
  exact ⟨by grind, by grind, by grind, by grind⟩
theorem mul_i1 (m : MQ) : mulQ m ⟨1, 0, 0, 1⟩ = m := by
  cases m
  unfold mulQ
  simp only [MQ.mk.injEq]
  exact ⟨by grind, by grind, by grind, by grind⟩
theorem mul_1i (m : MQ) : mulQ ⟨1, 0, 0, 1⟩ m = m := by
  cases m
  unfold mulQ
  simp only [MQ.mk.injEq]
  exact ⟨by grind, by grind, by grind, by grind⟩
theorem conj_back {o : MQ} (hd : detM o = 1) (m : MQ) : mulQ (backQ o) (mulQ (mulQ o (mulQ m (backQ o))) o) = m := by
  rw [mul_assoc3, mul_assoc3 (backQ o) o, (back_mul hd).1, mul_1i, ← mul_assoc3, (back_mul hd).1, mul_i1]
theorem conj_i' {o : MQ} (hd : detM o = 1) (s : Rat) : mulQ (backQ o) (mulQ ⟨s, 0, 0, s⟩ o) = ⟨s, 0, 0, s⟩ := by
  unfold detM at hd
  unfold mulQ backQ
  simp only [MQ.mk.injEq]
  exact ⟨by grind, by grind, by grind, by grind⟩
theorem tr_ab (m q : MQ) : (mulQ m q).a + (mulQ m q).d = (mulQ q m).a + (mulQ q m).d := by unfold mulQ; grind
theorem ki_conj {o : MQ} (hd : detM o = 1) (m : MQ) : kiQ (mulQ o (mulQ m (backQ o))) = kiQ m := ki_eq (by
    have e : (mulQ o (mulQ m (backQ o))).a + (mulQ o (mulQ m (backQ o))).d = m.a + m.d := by
      rw [tr_ab, ← mul_assoc3, (back_mul hd).1, mul_i1]
    unfold trsQ
    rw [e]) fun s => oneQ_of ⟨fun h => by rw [← conj_back hd m, h, conj_i' hd], fun h => by rw [h, conj_i hd]⟩
abbrev Ls (q : MQ) : Prop := longQ q.a = false ∧ longQ q.b = false ∧ longQ q.c = false ∧ longQ q.d = false
theorem det_of {M : MQ} (h : okM (rmOf M) = true) : detM M = 1 := by have := (okM_q h).2; rwa [toM_of] at this
theorem okM_mul {M Q : MQ} (hm : okM (rmOf M) = true) (hq : okM (rmOf Q) = true) (hl : Ls (mulQ M Q)) : okM (rmOf (mulQ M Q)) = true :=
  okM_of hl.1 hl.2.1 hl.2.2.1 hl.2.2.2 (by rw [det_mul, det_of hm, det_of hq]; exact Rat.one_mul 1)
theorem ki_l {M : MQ} (h : okM (rmOf M) = true) : Cn Tryz.prog 20 [(RMA (rmOf M)).va] (KiR (kiQ M, 0)) := (kind_c (rmOf M)).post (congrArg KiR (by rw [kiF, if_pos h, toM_of]))
theorem bo_and {c : Bool} (h : c = true) : Wk (Bo (c && true)) (Bo true) := by subst h; exact wk_id

end Go.Proofs.YtmghfjcjcfaagaaGreat
