/- FilmJoins: for all sheets and slopes the law of chapter 18 on joined sheets answers true. No condition. -/
import Derived.Test.YtaplgnjnhfljnaaGreatFilJ
import Derived.Test.YtaplgnjnhfljnaaGreatMatC
import Derived.Test.YtaplgnjnhfljnaaGreatRdB
import Derived.Test.YtaplgnjnhfljnaaGreatRows
import Derived.WalkKit
import Derived.ProofKit
import Derived.OpenShut
import Derived.ShutString
import Derived.ChangeOld
import Derived.Below
namespace Go.Proofs.YtaplgnjnhfljnaaGreat
open Go Go.RowKit
namespace LFilmJoins
theorem fld_28_0 : Fld Tryz.prog 28 0 0 4 := ⟨_, _, Tryz.underlying28, rfl, rfl, by kernel_rfl, by decide⟩
theorem fld_28_1 : Fld Tryz.prog 28 1 4 4 := ⟨_, _, Tryz.underlying28, rfl, rfl, by kernel_rfl, by decide⟩
theorem fld_38_0 : Fld Tryz.prog 38 0 0 8 := ⟨_, _, Tryz.underlying38, rfl, rfl, by kernel_rfl, by decide⟩
theorem fld_38_1 : Fld Tryz.prog 38 1 8 8 := ⟨_, _, Tryz.underlying38, rfl, rfl, by kernel_rfl, by decide⟩
theorem fld_38_2 : Fld Tryz.prog 38 2 16 8 := ⟨_, _, Tryz.underlying38, rfl, rfl, by kernel_rfl, by decide⟩
theorem fld_38_3 : Fld Tryz.prog 38 3 24 8 := ⟨_, _, Tryz.underlying38, rfl, rfl, by kernel_rfl, by decide⟩
theorem sl_29 : Sl Tryz.prog 29 28 8 := ⟨by kernel_rfl, by kernel_rfl⟩
theorem sl_47 : Sl Tryz.prog 47 26 4 := ⟨by kernel_rfl, by kernel_rfl⟩
theorem ty_26 : Ty Tryz.prog 26 4 true := ⟨by kernel_rfl, by kernel_rfl⟩
theorem ty_28 : Ty Tryz.prog 28 8 true := ⟨by kernel_rfl, by kernel_rfl⟩
theorem ty_36 : Ty Tryz.prog 36 8 true := ⟨by kernel_rfl, by kernel_rfl⟩
theorem ty_38 : Ty Tryz.prog 38 32 true := ⟨by kernel_rfl, by kernel_rfl⟩
end LFilmJoins
open LFilmJoins
set_option linter.unusedVariables false
theorem nd_self {A : As} {D : List TypeId} (h : (A.deps.all fun T => D.contains T) = true) : ∀ T ∈ A.deps, T ∈ D := fun T hT => by
  have := List.all_eq_true.1 h T hT
  simpa using this
theorem by_of {n : Nat} (h : n * Tryz.prog.bytesOf 28 ≤ 140737488351232) : n * 128 ≤ 140737488351232 := by
  have e : Tryz.prog.bytesOf 28 = 128 := by kernel_rfl
  rwa [e] at h
theorem rr_n (x : RR) : ∀ A ∈ [RRA x], A.n = 8 := fun A hA => by
  cases List.mem_singleton.1 hA; rfl
theorem rr_ns (xs : List RR) : ∀ A ∈ xs.map RRA, A.n = 8 := fun A hA => by
  obtain ⟨r, _, rfl⟩ := List.mem_map.1 hA; rfl
theorem rr_d (x : RR) : ∀ A ∈ [RRA x], ∀ T ∈ A.deps, T ∈ [U32] := fun A hA => by
  cases List.mem_singleton.1 hA
  exact nd_self (by kernel_rfl)

set_option maxRecDepth 100000 in
set_option maxHeartbeats 2000000 in
theorem cut_w (x : RR) (xs : List RR) (hx : okH x = true) (hs : ssF ((x :: xs).length : Nat) (x :: xs) ≤ 200) (hl : xs.length < 64) (e4 : stkF [x] = (qdOf (shM x), 0)) : Cn Tryz.prog 15 [(RRA x).va, (SlA 28 [U32] (xs.map RRA)).va] (Bo true) := by
  obtain ⟨it, z, i1, i2, i3, i4, i5⟩ := app_shJ
  refine Cn.introF Tryz.func15 rfl (by kernel_rfl) nq (fun B w0 a hF hst => ?_)
  have hst : St B w0 83 [(0, (RRA x).va), (1, (SlA 28 [U32] (xs.map RRA)).va)] [] a w0.w := hst
  obtain ⟨v1, hv1, hst⟩ := St.eqv hst 1 rfl
  refine wp_seq ?_
  refine gl (sts := []) (news := [⟨2, 28, ptrH, some 0, _, none⟩]) (sp := [.alc 0, .val 4 _]) [.g 1, .o 1] hst (oc (ob_box rfl rfl rfl (gq 0 rfl)) (oc (ob_v rfl rfl (r_assign has_bo)) o0)) (fun a w hst => ?_)
  have hst : St B w0 83 [(1, _), (4, _)] [⟨2, 28, ptrH, _⟩] a w := hst
  refine thn_normal ?_
  refine wp_seq ?_
  refine wp_seq ?_
  refine gl (sts := [none]) (news := []) (sp := [.val 11 _, .val 12 _, .val 13 _]) [.g 0, .g 1, .o 2] hst (oc (ob_v rfl rfl (r_move (gq 0 rfl))) (oc (ob_v rfl rfl (r_len Tryz.underlying29 (has_again hF hv1 (vq 0 rfl)))) (oc (ob_v rfl rfl (r_geq (vq 1 rfl) has_num)) o0))) (fun a w hst => ?_)
  have hst : St B w0 83 [(1, _), (4, _), (13, _)] [⟨2, 28, ptrH, _⟩] a w := hst
  refine thn_normal ?_
  refine cond_of hst (List.mem_of_getElem? (i := 2) rfl) (fun hb0 => ?_) (fun hb0 => ?_)
  · refine wp_seq ?_
    refine gl (sts := [none]) (news := []) (sp := [.val 4 _]) [.g 0, .o 0] hst (oc (ob_v rfl rfl (r_assign has_bo)) o0) (fun a w hst => ?_)
    have hst : St B w0 83 [(1, _), (4, _)] [⟨2, 28, ptrH, _⟩] a w := hst
    refine thn_normal ?_
    refine wp_ret ?_
    refine thn_ret ?_
    refine ret_wk ?_ (ret_tmp rfl hst (List.mem_of_getElem? (i := 1) rfl))
    exact wk_id
  · refine wp_skip ?_
    refine thn_normal ?_
    refine wp_seq ?_
    refine gl (sts := [none]) (news := [⟨5, 38, ptrH, some 5, _, some (6, _)⟩]) (sp := [.val 15 _, .val 16 _, .val 14 _, .val 17 _, .val 18 _, .alc 1, .sto 1, .val 6 _]) [.g 0, .g 1, .o 7] hst (oc (ob_v rfl rfl (r_load (lz0 0 rfl) ty_28)) (oc (ob_v rfl rfl (r_call (xs := [.tmp 15]) (filmOne_c x) (.cons (vq 0 rfl) .nil))) (oc (ob_v rfl rfl (r_move (vq 1 rfl))) (oc (ob_v rfl rfl (r_ex0 (vq 2 rfl))) (oc (ob_v rfl rfl (r_ex1 (vq 2 rfl))) (oc (ob_alc rfl rfl rfl (Str.zero str_quad)) (oc (ob_sto rfl rfl rfl (vq 3 rfl) ty_38 (Eq.trans (b := 32) rfl rfl)) (oc (ob_v rfl rfl (r_assign (vq 4 rfl))) o0)))))))) (fun a w hst => ?_)
    have hst : St B w0 83 [(1, _), (4, _), (6, _)] [⟨2, 28, ptrH, _⟩, ⟨5, 38, ptrH, _⟩] a w := hst
    refine thn_normal ?_
    refine wp_seq ?_
    refine gl (sts := [none, none]) (news := [⟨7, 38, ptrH, some 5, _, some (6, _)⟩]) (sp := [.val 20 _, .val 21 _, .val 19 _, .val 22 _, .val 23 _, .alc 2, .sto 2, .val 8 _]) [.g 0, .g 1, .g 2, .o 7] hst (oc (ob_v rfl rfl (r_move (gq 0 rfl))) (oc (ob_v rfl rfl (r_call (xs := [.tmp 20]) (stack_c xs) (.cons (has_again hF hv1 (vq 0 rfl)) .nil))) (oc (ob_v rfl rfl (r_move (vq 1 rfl))) (oc (ob_v rfl rfl (r_ex0 (vq 2 rfl))) (oc (ob_v rfl rfl (r_ex1 (vq 2 rfl))) (oc (ob_alc rfl rfl rfl (Str.zero str_quad)) (oc (ob_sto rfl rfl rfl (vq 3 rfl) ty_38 (Eq.trans (b := 32) rfl rfl)) (oc (ob_v rfl rfl (r_assign (vq 4 rfl))) o0)))))))) (fun a w hst => ?_)
    have hst : St B w0 83 [(1, _), (4, _), (6, _), (8, _)] [⟨2, 28, ptrH, _⟩, ⟨5, 38, ptrH, _⟩, ⟨7, 38, ptrH, _⟩] a w := hst
    refine thn_normal ?_
    refine wp_seq ?_
    refine gl (sts := [none, none, none]) (news := [⟨9, 38, ptrH, some 8, _, some (9, _)⟩]) (sp := [.val 25 _, .val 26 _, .val 27 _, .val 28 _, .val 29 _, .val 24 _, .val 30 _, .val 31 _, .alc 3, .sto 3, .val 10 _]) [.g 1, .g 2, .g 3, .o 10] hst (oc (ob_v rfl rfl (r_load (lz0 0 rfl) ty_28)) (oc (ob_v rfl rfl (r_sliceN (l := [_]) (xs := [.tmp 25]) sl_29 (by kernel_rfl) (n_ok (by kernel_rfl)) nq nq nq (.cons (vq 0 rfl) .nil) rfl rfl)) (oc (ob_v rfl rfl (r_move (gq 0 rfl))) (oc (ob_v rfl rfl (r_appX (lx := [RRA x]) (vq 1 rfl) (has_again hF hv1 (vq 2 rfl)) Tryz.underlying29 i1 i2 i3 i4 i5 (by decide) (by rw [List.length_map]; show 1 + xs.length ≤ _; omega) (by rw [List.length_map]; show (1 + xs.length) * 128 ≤ _; omega) (rr_d x) (rr_n x) (rr_ns xs) (Nat.le_refl 1))) (oc (ob_v rfl rfl (r_call (xs := [.tmp 28]) (stack_c (x :: xs)) (.cons (vq 3 rfl) .nil))) (oc (ob_v rfl rfl (r_move (vq 4 rfl))) (oc (ob_v rfl rfl (r_ex0 (vq 5 rfl))) (oc (ob_v rfl rfl (r_ex1 (vq 5 rfl))) (oc (ob_alc rfl rfl rfl (Str.zero str_quad)) (oc (ob_sto rfl rfl rfl (vq 6 rfl) ty_38 (Eq.trans (b := 32) rfl rfl)) (oc (ob_v rfl rfl (r_assign (vq 7 rfl))) o0))))))))))) (fun a w hst => ?_)
    have hst : St B w0 83 [(4, _), (6, _), (8, _), (10, _)] [⟨2, 28, ptrH, _⟩, ⟨5, 38, ptrH, _⟩, ⟨7, 38, ptrH, _⟩, ⟨9, 38, ptrH, _⟩] a w := hst
    refine thn_normal ?_
    refine wp_seq ?_
    refine wp_seq ?_
    refine gl (sts := [none, none, none, none]) (news := []) (sp := [.val 32 _, .val 33 _, .val 34 _, .val 35 (Wh (_ = false) _), .val 36 (Wh (_ = false) _), .val 37 _]) [.g 0, .g 3, .o 5] hst (oc (ob_v rfl rfl (r_move (gq 1 rfl))) (oc (ob_v rfl rfl (r_neq (vq 0 rfl) has_num)) (oc (ob_v rfl rfl (r_move (vq 1 rfl))) (oc (ob_gd rfl rfl rfl (vq 2 rfl) nq (fun hg => r_move (gq 2 rfl))) (oc (ob_gd rfl rfl rfl (vq 2 rfl) nq (fun hg => r_neq (has_wh (vq 3 rfl) hg) has_num)) (oc (ob_v rfl rfl (r_or (vq 2 rfl) (vq 4 rfl))) o0)))))) (fun a w hst => ?_)
    have hst : St B w0 83 [(4, _), (10, _), (37, _)] [⟨2, 28, ptrH, _⟩, ⟨5, 38, ptrH, _⟩, ⟨7, 38, ptrH, _⟩, ⟨9, 38, ptrH, _⟩] a w := hst
    refine thn_normal ?_
    refine cond_of hst (List.mem_of_getElem? (i := 2) rfl) (fun hb1 => ?_) (fun hb1 => ?_)
    · refine wp_seq ?_
      refine gl (sts := [none, none, none, none]) (news := []) (sp := [.val 38 _, .val 39 _, .val 4 _]) [.g 1, .o 2] hst (oc (ob_v rfl rfl (r_move (gq 1 rfl))) (oc (ob_v rfl rfl (r_neq (vq 0 rfl) has_num)) (oc (ob_v rfl rfl (r_assign (vq 1 rfl))) o0))) (fun a w hst => ?_)
      have hst : St B w0 83 [(10, _), (4, _)] [⟨2, 28, ptrH, _⟩, ⟨5, 38, ptrH, _⟩, ⟨7, 38, ptrH, _⟩, ⟨9, 38, ptrH, _⟩] a w := hst
      refine thn_normal ?_
      refine wp_ret ?_
      refine thn_ret ?_
      refine ret_wk ?_ (ret_tmp rfl hst (List.mem_of_getElem? (i := 1) rfl))
      exact wk_eq (congrArg Bo (cut_b hx hs hl (by rw [e4] at hb1; simpa using hb1)))
    · refine wp_skip ?_
      refine thn_normal ?_
      refine wp_seq ?_
      refine go_draw (anc := [[], [0], [0, 1], [0, 1, 2], [0, 1, 2], [0, 1, 2, 4], [0, 1, 2], [0, 1, 2, 6], [0, 1, 2], [0, 1, 2, 8], [0, 1, 2], [0, 1, 2, 10], [0, 1, 2, 4, 5, 6, 7, 8, 9, 10, 11], [0, 1, 2], [0, 1, 2, 13], [0, 1, 2], [0, 1, 2, 15], [0, 1, 2], [0, 1, 2, 17], [0, 1, 2], [0, 1, 2, 19], [0, 1, 2, 4, 5, 6, 7, 8, 9, 10, 11, 12, 13, 14, 15, 16, 17, 18, 19, 20], [0, 1, 2], [0, 1, 2, 22], [0, 1, 2], [0, 1, 2, 24], [0, 1, 2], [0, 1, 2, 26], [0, 1, 2], [0, 1, 2, 28], [0, 1, 2, 4, 5, 6, 7, 8, 9, 10, 11, 12, 13, 14, 15, 16, 17, 18, 19, 20, 21, 22, 23, 24, 25, 26, 27, 28, 29], [0, 1, 2], [0, 1, 2, 31], [0, 1, 2], [0, 1, 2, 33], [0, 1, 2], [0, 1, 2, 35], [0, 1, 2], [0, 1, 2, 37], [0, 1, 2, 4, 5, 6, 7, 8, 9, 10, 11, 12, 13, 14, 15, 16, 17, 18, 19, 20, 21, 22, 23, 24, 25, 26, 27, 28, 29, 30, 31, 32, 33, 34, 35, 36, 37, 38], [0, 1, 2, 4, 5, 6, 7, 8, 9, 10, 11, 12, 13, 14, 15, 16, 17, 18, 19, 20, 21, 22, 23, 24, 25, 26, 27, 28, 29, 30, 31, 32, 33, 34, 35, 36, 37, 38, 39], [0, 1, 2, 3, 4, 5, 6, 7, 8, 9, 10, 11, 12, 13, 14, 15, 16, 17, 18, 19, 20, 21, 22, 23, 24, 25, 26, 27, 28, 29, 30, 31, 32, 33, 34, 35, 36, 37, 38, 39, 40], [0, 1, 2, 3, 4, 5, 6, 7, 8, 9, 10, 11, 12, 13, 14, 15, 16, 17, 18, 19, 20, 21, 22, 23, 24, 25, 26, 27, 28, 29, 30, 31, 32, 33, 34, 35, 36, 37, 38, 39, 40, 41], [0, 1, 2, 3, 4, 5, 6, 7, 8, 9, 10, 11, 12, 13, 14, 15, 16, 17, 18, 19, 20, 21, 22, 23, 24, 25, 26, 27, 28, 29, 30, 31, 32, 33, 34, 35, 36, 37, 38, 39, 40, 41, 42]]) (sts := [none, none, none, none]) (news := []) (sp := ((.val 40 _ : Sp) :: (.val 41 _) :: (.val 42 _) :: (.val 43 (Wh (_ = true) _)) :: (.adr 44 5 (.some 0) (_ = true)) :: (.val 45 (Wh (_ = true) _)) :: (.adr 46 7 (.some 0) (_ = true)) :: (.val 47 (Wh (_ = true) _)) :: (.adr 48 5 (.some 8) (_ = true)) :: (.val 49 (Wh (_ = true) _)) :: (.adr 50 7 (.some 16) (_ = true)) :: (.val 51 (Wh (_ = true) _)) :: (.val 52 (Wh (_ = true) _)) :: (.adr 53 5 (.some 0) (_ = true)) :: (.val 54 (Wh (_ = true) _)) :: (.adr 55 7 (.some 8) (_ = true)) :: (.val 56 (Wh (_ = true) _)) :: (.adr 57 5 (.some 8) (_ = true)) :: (.val 58 (Wh (_ = true) _)) :: (.adr 59 7 (.some 24) (_ = true)) :: (.val 60 (Wh (_ = true) _)) :: (.val 61 (Wh (_ = true) _)) :: (.adr 62 5 (.some 16) (_ = true)) :: (.val 63 (Wh (_ = true) _)) :: (.adr 64 7 (.some 0) (_ = true)) :: (.val 65 (Wh (_ = true) _)) :: (.adr 66 5 (.some 24) (_ = true)) :: (.val 67 (Wh (_ = true) _)) :: (.adr 68 7 (.some 16) (_ = true)) :: (.val 69 (Wh (_ = true) _)) :: (.val 70 (Wh (_ = true) _)) :: (.adr 71 5 (.some 16) (_ = true)) :: (.val 72 (Wh (_ = true) _)) :: (.adr 73 7 (.some 8) (_ = true)) :: (.val 74 (Wh (_ = true) _)) :: (.adr 75 5 (.some 24) (_ = true)) :: (.val 76 (Wh (_ = true) _)) :: (.adr 77 7 (.some 24) (_ = true)) :: (.val 78 (Wh (_ = true) _)) :: (.val 79 (Wh (_ = true) _)) :: (.val 80 (Wh (_ = true) _)) :: (.val 81 (Wh (_ = true) _)) :: (.val 82 _) :: (.val 4 _) :: [])) [.o 43] follows_mixed hst (oc (ob_v rfl rfl (r_move (gq 1 rfl))) (oc (ob_v rfl rfl (r_eql (vq 0 rfl) has_num)) (oc (ob_v rfl rfl (r_move (vq 1 rfl))) (oc (ob_gd rfl rfl rfl (vq 2 rfl) nq (fun hg => r_load (lz0 3 rfl) ty_38)) (oc (ob_ag rfl rfl rfl (vq 2 rfl) nq (fun hg => a_fld (lz0 1 rfl) fld_38_0)) (oc (ob_gd rfl rfl rfl (vq 2 rfl) nq (fun hg => r_loadf 4 rfl (by kernel_rfl) hg (lz0 1 rfl) (Sub.part 0 rfl rfl) ty_36)) (oc (ob_ag rfl rfl rfl (vq 2 rfl) nq (fun hg => a_fld (lz0 2 rfl) fld_38_0)) (oc (ob_gd rfl rfl rfl (vq 2 rfl) nq (fun hg => r_loadf 6 rfl (by kernel_rfl) hg (lz0 2 rfl) (Sub.part 0 rfl rfl) ty_36)) (oc (ob_ag rfl rfl rfl (vq 2 rfl) nq (fun hg => a_fld (lz0 1 rfl) fld_38_1)) (oc (ob_gd rfl rfl rfl (vq 2 rfl) nq (fun hg => r_loadf 8 rfl (by kernel_rfl) hg (lz0 1 rfl) (Sub.part 1 rfl rfl) ty_36)) (oc (ob_ag rfl rfl rfl (vq 2 rfl) nq (fun hg => a_fld (lz0 2 rfl) fld_38_2)) (oc (ob_gd rfl rfl rfl (vq 2 rfl) nq (fun hg => r_loadf 10 rfl (by kernel_rfl) hg (lz0 2 rfl) (Sub.part 2 rfl rfl) ty_36)) (oc (ob_gd rfl rfl rfl (vq 2 rfl) nq (fun hg => r_call (xs := [.tmp 45, .tmp 47, .tmp 49, .tmp 51]) (pair18_c _ _ _ _) (.cons (has_wh (vq 5 rfl) hg) (.cons (has_wh (vq 7 rfl) hg) (.cons (has_wh (vq 9 rfl) hg) (.cons (has_wh (vq 11 rfl) hg) .nil)))))) (oc (ob_ag rfl rfl rfl (vq 2 rfl) nq (fun hg => a_fld (lz0 1 rfl) fld_38_0)) (oc (ob_gd rfl rfl rfl (vq 2 rfl) nq (fun hg => r_loadf 13 rfl (by kernel_rfl) hg (lz0 1 rfl) (Sub.part 0 rfl rfl) ty_36)) (oc (ob_ag rfl rfl rfl (vq 2 rfl) nq (fun hg => a_fld (lz0 2 rfl) fld_38_1)) (oc (ob_gd rfl rfl rfl (vq 2 rfl) nq (fun hg => r_loadf 15 rfl (by kernel_rfl) hg (lz0 2 rfl) (Sub.part 1 rfl rfl) ty_36)) (oc (ob_ag rfl rfl rfl (vq 2 rfl) nq (fun hg => a_fld (lz0 1 rfl) fld_38_1)) (oc (ob_gd rfl rfl rfl (vq 2 rfl) nq (fun hg => r_loadf 17 rfl (by kernel_rfl) hg (lz0 1 rfl) (Sub.part 1 rfl rfl) ty_36)) (oc (ob_ag rfl rfl rfl (vq 2 rfl) nq (fun hg => a_fld (lz0 2 rfl) fld_38_3)) (oc (ob_gd rfl rfl rfl (vq 2 rfl) nq (fun hg => r_loadf 19 rfl (by kernel_rfl) hg (lz0 2 rfl) (Sub.part 3 rfl rfl) ty_36)) (oc (ob_gd rfl rfl rfl (vq 2 rfl) nq (fun hg => r_call (xs := [.tmp 54, .tmp 56, .tmp 58, .tmp 60]) (pair18_c _ _ _ _) (.cons (has_wh (vq 14 rfl) hg) (.cons (has_wh (vq 16 rfl) hg) (.cons (has_wh (vq 18 rfl) hg) (.cons (has_wh (vq 20 rfl) hg) .nil)))))) (oc (ob_ag rfl rfl rfl (vq 2 rfl) nq (fun hg => a_fld (lz0 1 rfl) fld_38_2)) (oc (ob_gd rfl rfl rfl (vq 2 rfl) nq (fun hg => r_loadf 22 rfl (by kernel_rfl) hg (lz0 1 rfl) (Sub.part 2 rfl rfl) ty_36)) (oc (ob_ag rfl rfl rfl (vq 2 rfl) nq (fun hg => a_fld (lz0 2 rfl) fld_38_0)) (oc (ob_gd rfl rfl rfl (vq 2 rfl) nq (fun hg => r_loadf 24 rfl (by kernel_rfl) hg (lz0 2 rfl) (Sub.part 0 rfl rfl) ty_36)) (oc (ob_ag rfl rfl rfl (vq 2 rfl) nq (fun hg => a_fld (lz0 1 rfl) fld_38_3)) (oc (ob_gd rfl rfl rfl (vq 2 rfl) nq (fun hg => r_loadf 26 rfl (by kernel_rfl) hg (lz0 1 rfl) (Sub.part 3 rfl rfl) ty_36)) (oc (ob_ag rfl rfl rfl (vq 2 rfl) nq (fun hg => a_fld (lz0 2 rfl) fld_38_2)) (oc (ob_gd rfl rfl rfl (vq 2 rfl) nq (fun hg => r_loadf 28 rfl (by kernel_rfl) hg (lz0 2 rfl) (Sub.part 2 rfl rfl) ty_36)) (oc (ob_gd rfl rfl rfl (vq 2 rfl) nq (fun hg => r_call (xs := [.tmp 63, .tmp 65, .tmp 67, .tmp 69]) (pair18_c _ _ _ _) (.cons (has_wh (vq 23 rfl) hg) (.cons (has_wh (vq 25 rfl) hg) (.cons (has_wh (vq 27 rfl) hg) (.cons (has_wh (vq 29 rfl) hg) .nil)))))) (oc (ob_ag rfl rfl rfl (vq 2 rfl) nq (fun hg => a_fld (lz0 1 rfl) fld_38_2)) (oc (ob_gd rfl rfl rfl (vq 2 rfl) nq (fun hg => r_loadf 31 rfl (by kernel_rfl) hg (lz0 1 rfl) (Sub.part 2 rfl rfl) ty_36)) (oc (ob_ag rfl rfl rfl (vq 2 rfl) nq (fun hg => a_fld (lz0 2 rfl) fld_38_1)) (oc (ob_gd rfl rfl rfl (vq 2 rfl) nq (fun hg => r_loadf 33 rfl (by kernel_rfl) hg (lz0 2 rfl) (Sub.part 1 rfl rfl) ty_36)) (oc (ob_ag rfl rfl rfl (vq 2 rfl) nq (fun hg => a_fld (lz0 1 rfl) fld_38_3)) (oc (ob_gd rfl rfl rfl (vq 2 rfl) nq (fun hg => r_loadf 35 rfl (by kernel_rfl) hg (lz0 1 rfl) (Sub.part 3 rfl rfl) ty_36)) (oc (ob_ag rfl rfl rfl (vq 2 rfl) nq (fun hg => a_fld (lz0 2 rfl) fld_38_3)) (oc (ob_gd rfl rfl rfl (vq 2 rfl) nq (fun hg => r_loadf 37 rfl (by kernel_rfl) hg (lz0 2 rfl) (Sub.part 3 rfl rfl) ty_36)) (oc (ob_gd rfl rfl rfl (vq 2 rfl) nq (fun hg => r_call (xs := [.tmp 72, .tmp 74, .tmp 76, .tmp 78]) (pair18_c _ _ _ _) (.cons (has_wh (vq 32 rfl) hg) (.cons (has_wh (vq 34 rfl) hg) (.cons (has_wh (vq 36 rfl) hg) (.cons (has_wh (vq 38 rfl) hg) .nil)))))) (oc (ob_gd rfl rfl rfl (vq 2 rfl) nq (fun hg => r_build (xs := [(0, .tmp 52), (1, .tmp 61), (2, .tmp 70), (3, .tmp 79)]) (qs := [(0, _), (1, _), (2, _), (3, _)]) str_quad (.cons ⟨rfl, (has_wh (vq 12 rfl) hg), rfl⟩ (.cons ⟨rfl, (has_wh (vq 21 rfl) hg), rfl⟩ (.cons ⟨rfl, (has_wh (vq 30 rfl) hg), rfl⟩ (.cons ⟨rfl, (has_wh (vq 39 rfl) hg), rfl⟩ .nil)))))) (oc (ob_gd rfl rfl rfl (vq 2 rfl) nq (fun hg => r_call (xs := [.tmp 43, .tmp 80]) (sameQuad_c _ ⟨prF (stkF [x]).1.a (stkF xs).1.a (stkF [x]).1.b (stkF xs).1.c, prF (stkF [x]).1.a (stkF xs).1.b (stkF [x]).1.b (stkF xs).1.d, prF (stkF [x]).1.c (stkF xs).1.a (stkF [x]).1.d (stkF xs).1.c, prF (stkF [x]).1.c (stkF xs).1.b (stkF [x]).1.d (stkF xs).1.d⟩) (.cons (has_wh (vq 3 rfl) hg) (.cons (has_wh (vq 40 rfl) hg) .nil)))) (oc (ob_v rfl rfl (r_and (vq 2 rfl) (vq 41 rfl))) (oc (ob_v rfl rfl (r_assign (vq 42 rfl))) o0)))))))))))))))))))))))))))))))))))))))))))) (by kernel_rfl) (by kernel_rfl) (by kernel_rfl) (by kernel_rfl) (fun a w hst => ?_)
      have hst : St B w0 83 [(4, _)] [⟨2, 28, ptrH, _⟩, ⟨5, 38, ptrH, _⟩, ⟨7, 38, ptrH, _⟩, ⟨9, 38, ptrH, _⟩] a w := hst
      refine thn_normal ?_
      refine wp_ret ?_
      refine ret_wk ?_ (ret_tmp rfl hst (List.mem_of_getElem? (i := 0) rfl))
      exact wk_eq (congrArg Bo (cut_y hx hs hl e4 (by rw [e4] at hb1; simpa using hb1)))

set_option maxRecDepth 100000 in
set_option maxHeartbeats 4000000 in
theorem joins_w (x : RR) (hwx : wdR x) (g : RF) (hwg : wdF g) (xs : List RR) (hwl : (∀ r ∈ xs, wdR r) ∧ xs.length * Tryz.prog.bytesOf 28 ≤ 140737488351232) : Cn Tryz.prog 3 [(RRA x).va, (RFA g).va, (SlA 28 [U32] (xs.map RRA)).va] (Bo true) := by
  obtain ⟨it, z, i1, i2, i3, i4, i5⟩ := app_shJ
  have hby := by_of hwl.2
  refine Cn.introF Tryz.func3 rfl (by kernel_rfl) nq (fun B w0 a hF hst => ?_)
  have hst : St B w0 141 [(0, (RRA x).va), (1, (RFA g).va), (2, (SlA 28 [U32] (xs.map RRA)).va)] [] a w0.w := hst
  obtain ⟨v2, hv2, hst⟩ := St.eqv hst 2 rfl
  refine wp_seq ?_
  refine gl (sts := []) (news := [⟨3, 28, ptrH, some 0, _, none⟩, ⟨4, 26, ptrH, some 1, _, none⟩]) (sp := [.alc 0, .alc 1, .val 6 _]) [.g 2, .o 2] hst (oc (ob_box rfl rfl rfl (gq 0 rfl)) (oc (ob_box rfl rfl rfl (gq 1 rfl)) (oc (ob_v rfl rfl (r_assign has_bo)) o0))) (fun a w hst => ?_)
  have hst : St B w0 141 [(2, _), (6, _)] [⟨3, 28, ptrH, _⟩, ⟨4, 26, ptrH, _⟩] a w := hst
  refine thn_normal ?_
  refine wp_seq ?_
  refine wp_seq ?_
  refine go_draw (anc := [[], [0], [], [0, 1, 2], [], [4], [0, 1, 2, 3, 4, 5], [0, 1, 2, 3, 4, 5, 6]]) (sts := [none, none]) (news := []) (sp := [.val 28 _, .val 29 _, .val 30 _, .val 31 _, .val 32 _, .val 33 _, .val 34 _, .val 35 _]) [.g 0, .g 1, .o 7] follows_mixed hst (oc (ob_v rfl rfl (r_load (lz0 0 rfl) ty_28)) (oc (ob_v rfl rfl (r_sliceN (l := [_]) (xs := [.tmp 28]) sl_29 (by kernel_rfl) (n_ok (by kernel_rfl)) nq nq nq (.cons (vq 0 rfl) .nil) rfl rfl)) (oc (ob_v rfl rfl (r_move (gq 0 rfl))) (oc (ob_v rfl rfl (r_appX (lx := [RRA x]) (vq 1 rfl) (has_again hF hv2 (vq 2 rfl)) Tryz.underlying29 i1 i2 i3 i4 i5 (by decide) (by rw [List.length_map]; show 1 + xs.length ≤ _; omega) (by rw [List.length_map]; show (1 + xs.length) * 128 ≤ _; omega) (rr_d x) (rr_n x) (rr_ns xs) (Nat.le_refl 1))) (oc (ob_v rfl rfl (r_load (lz0 1 rfl) ty_26)) (oc (ob_v rfl rfl (r_slice (D := [U32]) (l := [_]) (xs := [.tmp 32]) (nd_ok (by kernel_rfl)) sl_47 (by kernel_rfl) (n_ok (by kernel_rfl)) nq nq nq (.cons (vq 4 rfl) .nil) rfl rfl)) (oc (ob_v rfl rfl (r_call (xs := [.tmp 31, .tmp 33]) (small18_c (x :: xs) [g]) (.cons (vq 3 rfl) (.cons (vq 5 rfl) .nil)))) (oc (ob_v rfl rfl (r_not (vq 6 rfl))) o0)))))))) (by kernel_rfl) (by kernel_rfl) (by kernel_rfl) (by kernel_rfl) (fun a w hst => ?_)
  have hst : St B w0 141 [(2, _), (6, _), (35, _)] [⟨3, 28, ptrH, _⟩, ⟨4, 26, ptrH, _⟩] a w := hst
  refine thn_normal ?_
  refine cond_of hst (List.mem_of_getElem? (i := 2) rfl) (fun hb0 => ?_) (fun hb0 => ?_)
  · refine wp_seq ?_
    refine gl (sts := [none, none]) (news := []) (sp := [.val 36 _, .val 6 _]) [.g 0, .o 1] hst (oc (ob_v rfl rfl (r_call (xs := []) alive18_c .nil)) (oc (ob_v rfl rfl (r_assign (vq 0 rfl))) o0)) (fun a w hst => ?_)
    have hst : St B w0 141 [(2, _), (6, _)] [⟨3, 28, ptrH, _⟩, ⟨4, 26, ptrH, _⟩] a w := hst
    refine thn_normal ?_
    refine wp_ret ?_
    refine thn_ret ?_
    refine ret_wk ?_ (ret_tmp rfl hst (List.mem_of_getElem? (i := 1) rfl))
    exact wk_id
  · have hs : sm18 (x :: xs) [g] = true := by simpa using hb0
    refine wp_skip ?_
    refine thn_normal ?_
    refine wp_seq ?_
    refine gl (sts := [none, none]) (news := [⟨7, 26, ptrH, some 4, _, some (5, _)⟩]) (sp := [.val 38 _, .val 37 _, .val 39 _, .val 40 _, .alc 2, .sto 2, .val 8 _]) [.g 0, .g 1] hst (oc (ob_v rfl rfl (r_call (xs := [.const (.int .i64 (0)), .const (.int .i64 (1))]) (ofQ_c (by decide) (by decide) (by decide) (by decide) (by decide)) (.cons has_num (.cons has_num .nil)))) (oc (ob_v rfl rfl (r_move (vq 0 rfl))) (oc (ob_v rfl rfl (r_ex0 (vq 1 rfl))) (oc (ob_v rfl rfl (r_ex1 (vq 1 rfl))) (oc (ob_alc rfl rfl rfl (Str.zero str_frac)) (oc (ob_sto rfl rfl rfl (vq 2 rfl) ty_26 (Eq.trans (b := 4) rfl rfl)) (oc (ob_v rfl rfl (r_assign (vq 3 rfl))) o0))))))) (fun a w hst => ?_)
    have hst : St B w0 141 [(2, _), (6, _)] [⟨3, 28, ptrH, _⟩, ⟨4, 26, ptrH, _⟩, ⟨7, 26, ptrH, _⟩] a w := hst
    refine thn_normal ?_
    refine wp_seq ?_
    refine gl (sts := [none, none, none]) (news := [⟨9, 26, ptrH, some 4, _, some (5, _)⟩]) (sp := [.val 42 _, .val 41 _, .val 43 _, .val 44 _, .alc 3, .sto 3, .val 10 _]) [.g 0, .g 1] hst (oc (ob_v rfl rfl (r_call (xs := [.const (.int .i64 (1)), .const (.int .i64 (1))]) (ofQ_c (by decide) (by decide) (by decide) (by decide) (by decide)) (.cons has_num (.cons has_num .nil)))) (oc (ob_v rfl rfl (r_move (vq 0 rfl))) (oc (ob_v rfl rfl (r_ex0 (vq 1 rfl))) (oc (ob_v rfl rfl (r_ex1 (vq 1 rfl))) (oc (ob_alc rfl rfl rfl (Str.zero str_frac)) (oc (ob_sto rfl rfl rfl (vq 2 rfl) ty_26 (Eq.trans (b := 4) rfl rfl)) (oc (ob_v rfl rfl (r_assign (vq 3 rfl))) o0))))))) (fun a w hst => ?_)
    have hst : St B w0 141 [(2, _), (6, _)] [⟨3, 28, ptrH, _⟩, ⟨4, 26, ptrH, _⟩, ⟨7, 26, ptrH, _⟩, ⟨9, 26, ptrH, _⟩] a w := hst
    refine thn_normal ?_
    refine wp_seq ?_
    refine gl (sts := [none, none, none, none]) (news := [⟨11, 28, ptrH, some 4, _, some (5, _)⟩]) (sp := [.adr 45 3 (.some 0) True, .val 46 _, .val 47 _, .val 48 _, .alc 4, .sto 4]) [.g 0, .g 1] hst (oc (ob_a rfl rfl (a_fld (lz0 0 rfl) fld_28_0)) (oc (ob_v rfl rfl (r_loadf 0 rfl (by kernel_rfl) trivial (lz0 0 rfl) (Sub.part 0 rfl rfl) ty_26)) (oc (ob_v rfl rfl (r_load (lz0 1 rfl) ty_26)) (oc (ob_v rfl rfl (r_build (xs := [(0, .tmp 46), (1, .tmp 47)]) (qs := [(0, _), (1, _)]) str_sheet (.cons ⟨rfl, (vq 1 rfl), rfl⟩ (.cons ⟨rfl, (vq 2 rfl), rfl⟩ .nil)))) (oc (ob_alc rfl rfl rfl (Str.zero str_sheet)) (oc (ob_sto rfl rfl rfl (vq 3 rfl) ty_28 (Eq.trans (b := 8) rfl rfl)) o0)))))) (fun a w hst => ?_)
    have hst : St B w0 141 [(2, _), (6, _)] [⟨3, 28, ptrH, _⟩, ⟨4, 26, ptrH, _⟩, ⟨7, 26, ptrH, _⟩, ⟨9, 26, ptrH, _⟩, ⟨11, 28, ptrH, _⟩] a w := hst
    refine thn_normal ?_
    refine wp_seq ?_
    refine gl (sts := [none, none, none, none, none]) (news := [⟨12, 38, ptrH, some 7, _, some (8, _)⟩]) (sp := [.val 50 _, .val 51 _, .val 52 _, .val 53 _, .val 49 _, .val 54 _, .val 55 _, .alc 5, .sto 5, .val 13 _]) [.g 0, .g 1, .o 9] hst (oc (ob_v rfl rfl (r_load (lz0 0 rfl) ty_28)) (oc (ob_v rfl rfl (r_load (lz0 4 rfl) ty_28)) (oc (ob_v rfl rfl (r_slice (D := [U32]) (l := [_, _]) (xs := [.tmp 50, .tmp 51]) (nd_ok (by kernel_rfl)) sl_29 (by kernel_rfl) (n_ok (by kernel_rfl)) nq nq nq (.cons (vq 0 rfl) (.cons (vq 1 rfl) .nil)) rfl rfl)) (oc (ob_v rfl rfl (r_call (xs := [.tmp 52]) (stack_c [x, ⟨x.y, g⟩]) (.cons (vq 2 rfl) .nil))) (oc (ob_v rfl rfl (r_move (vq 3 rfl))) (oc (ob_v rfl rfl (r_ex0 (vq 4 rfl))) (oc (ob_v rfl rfl (r_ex1 (vq 4 rfl))) (oc (ob_alc rfl rfl rfl (Str.zero str_quad)) (oc (ob_sto rfl rfl rfl (vq 5 rfl) ty_38 (Eq.trans (b := 32) rfl rfl)) (oc (ob_v rfl rfl (r_assign (vq 6 rfl))) o0)))))))))) (fun a w hst => ?_)
    have hst : St B w0 141 [(2, _), (6, _), (13, _)] [⟨3, 28, ptrH, _⟩, ⟨4, 26, ptrH, _⟩, ⟨7, 26, ptrH, _⟩, ⟨9, 26, ptrH, _⟩, ⟨11, 28, ptrH, _⟩, ⟨12, 38, ptrH, _⟩] a w := hst
    refine thn_normal ?_
    refine wp_seq ?_
    refine gl (sts := [none, none, none, none, none, none]) (news := [⟨14, 26, ptrH, some 7, _, some (8, _)⟩]) (sp := [.adr 57 3 (.some 4) True, .val 58 _, .val 59 _, .val 60 _, .val 56 _, .val 61 _, .val 62 _, .alc 6, .sto 6, .val 15 _]) [.g 0, .g 1, .g 2, .o 9] hst (oc (ob_a rfl rfl (a_fld (lz0 0 rfl) fld_28_1)) (oc (ob_v rfl rfl (r_loadf 0 rfl (by kernel_rfl) trivial (lz0 0 rfl) (Sub.part 1 rfl rfl) ty_26)) (oc (ob_v rfl rfl (r_load (lz0 1 rfl) ty_26)) (oc (ob_v rfl rfl (r_call (xs := [.tmp 58, .tmp 59]) (mul_c x.u g) (.cons (vq 1 rfl) (.cons (vq 2 rfl) .nil)))) (oc (ob_v rfl rfl (r_move (vq 3 rfl))) (oc (ob_v rfl rfl (r_ex0 (vq 4 rfl))) (oc (ob_v rfl rfl (r_ex1 (vq 4 rfl))) (oc (ob_alc rfl rfl rfl (Str.zero str_frac)) (oc (ob_sto rfl rfl rfl (vq 5 rfl) ty_26 (Eq.trans (b := 4) rfl rfl)) (oc (ob_v rfl rfl (r_assign (vq 6 rfl))) o0)))))))))) (fun a w hst => ?_)
    have hst : St B w0 141 [(2, _), (6, _), (13, _), (15, _)] [⟨3, 28, ptrH, _⟩, ⟨4, 26, ptrH, _⟩, ⟨7, 26, ptrH, _⟩, ⟨9, 26, ptrH, _⟩, ⟨11, 28, ptrH, _⟩, ⟨12, 38, ptrH, _⟩, ⟨14, 26, ptrH, _⟩] a w := hst
    refine thn_normal ?_
    refine wp_seq ?_
    refine wp_seq ?_
    refine gl (sts := [none, none, none, none, none, none, none]) (news := []) (sp := [.val 63 _, .val 64 _, .val 65 _, .val 66 (Wh (_ = false) _), .val 67 (Wh (_ = false) _), .val 68 _]) [.g 0, .g 1, .o 5] hst (oc (ob_v rfl rfl (r_move (gq 2 rfl))) (oc (ob_v rfl rfl (r_neq (vq 0 rfl) has_num)) (oc (ob_v rfl rfl (r_move (vq 1 rfl))) (oc (ob_gd rfl rfl rfl (vq 2 rfl) nq (fun hg => r_move (gq 3 rfl))) (oc (ob_gd rfl rfl rfl (vq 2 rfl) nq (fun hg => r_neq (has_wh (vq 3 rfl) hg) has_num)) (oc (ob_v rfl rfl (r_or (vq 2 rfl) (vq 4 rfl))) o0)))))) (fun a w hst => ?_)
    have hst : St B w0 141 [(2, _), (6, _), (68, _)] [⟨3, 28, ptrH, _⟩, ⟨4, 26, ptrH, _⟩, ⟨7, 26, ptrH, _⟩, ⟨9, 26, ptrH, _⟩, ⟨11, 28, ptrH, _⟩, ⟨12, 38, ptrH, _⟩, ⟨14, 26, ptrH, _⟩] a w := hst
    refine thn_normal ?_
    refine cond_of hst (List.mem_of_getElem? (i := 2) rfl) (fun hb1 => ?_) (fun hb1 => ?_)
    · refine wp_seq ?_
      refine gl (sts := [none, none, none, none, none, none, none]) (news := []) (sp := [.val 69 _, .val 6 _]) [.g 0, .o 1] hst (oc (ob_v rfl rfl (r_call (xs := []) alive18_c .nil)) (oc (ob_v rfl rfl (r_assign (vq 0 rfl))) o0)) (fun a w hst => ?_)
      have hst : St B w0 141 [(2, _), (6, _)] [⟨3, 28, ptrH, _⟩, ⟨4, 26, ptrH, _⟩, ⟨7, 26, ptrH, _⟩, ⟨9, 26, ptrH, _⟩, ⟨11, 28, ptrH, _⟩, ⟨12, 38, ptrH, _⟩, ⟨14, 26, ptrH, _⟩] a w := hst
      refine thn_normal ?_
      refine wp_ret ?_
      refine thn_ret ?_
      refine ret_wk ?_ (ret_tmp rfl hst (List.mem_of_getElem? (i := 1) rfl))
      exact wk_id
    · have hE := jn_all hs hwx hwg hwl.1 hb1
      have hP := jn_p hs hwx hwg hwl.1
      have hst := St.cvA (A' := RQA (qdOf (thenQ (shM x) (shQ (toQ x.y) (toQ g))))) hst 5 rfl (show RQA (stkF [x, ⟨x.y, g⟩]).1 = _ by rw [hE.e1])
      have hst := St.cvA (A' := RFA (rfOf (toQ x.u * toQ g))) hst 6 rfl (show RFA (mulF x.u g).1 = _ by rw [hE.e2])
      have hst := St.cvA (A' := RFA (rfOf 0)) hst 2 rfl (congrArg (fun q => RFA (rfOf q)) (show Rat.divInt 0 1 = 0 from by kernel_rfl))
      have hst := St.cvA (A' := RFA (rfOf 1)) hst 3 rfl (congrArg (fun q => RFA (rfOf q)) (show Rat.divInt 1 1 = 1 from by kernel_rfl))
      refine wp_skip ?_
      refine thn_normal ?_
      refine wp_seq ?_
      refine gl (sts := [none, none, none, none, none, none, none]) (news := [⟨16, 38, ptrH, some 10, _, some (11, _)⟩]) (sp := [.val 71 _, .adr 72 3 (.some 0) True, .val 73 _, .val 74 _, .val 75 _, .val 76 _, .val 77 _, .val 70 _, .val 78 _, .val 79 _, .alc 7, .sto 7, .val 17 _]) [.g 0, .g 1, .o 12] hst (oc (ob_v rfl rfl (r_load (lz0 0 rfl) ty_28)) (oc (ob_a rfl rfl (a_fld (lz0 0 rfl) fld_28_0)) (oc (ob_v rfl rfl (r_loadf 1 rfl (by kernel_rfl) trivial (lz0 0 rfl) (Sub.part 0 rfl rfl) ty_26)) (oc (ob_v rfl rfl (r_load (lz0 2 rfl) ty_26)) (oc (ob_v rfl rfl (r_build (xs := [(0, .tmp 73), (1, .tmp 74)]) (qs := [(0, _), (1, _)]) str_sheet (.cons ⟨rfl, (vq 2 rfl), rfl⟩ (.cons ⟨rfl, (vq 3 rfl), rfl⟩ .nil)))) (oc (ob_v rfl rfl (r_slice (D := [U32]) (l := [_, _]) (xs := [.tmp 71, .tmp 75]) (nd_ok (by kernel_rfl)) sl_29 (by kernel_rfl) (n_ok (by kernel_rfl)) nq nq nq (.cons (vq 0 rfl) (.cons (vq 4 rfl) .nil)) rfl rfl)) (oc (ob_v rfl rfl (r_call (xs := [.tmp 76]) ((stack_c [x, ⟨x.y, rfOf 0⟩]).post (congrArg QdR hE.e3)) (.cons (vq 5 rfl) .nil))) (oc (ob_v rfl rfl (r_move (vq 6 rfl))) (oc (ob_v rfl rfl (r_ex0 (vq 7 rfl))) (oc (ob_v rfl rfl (r_ex1 (vq 7 rfl))) (oc (ob_alc rfl rfl rfl (Str.zero str_quad)) (oc (ob_sto rfl rfl rfl (vq 8 rfl) ty_38 (Eq.trans (b := 32) rfl rfl)) (oc (ob_v rfl rfl (r_assign (vq 9 rfl))) o0))))))))))))) (fun a w hst => ?_)
      have hst : St B w0 141 [(2, _), (6, _), (17, _)] [⟨3, 28, ptrH, _⟩, ⟨4, 26, ptrH, _⟩, ⟨7, 26, ptrH, _⟩, ⟨9, 26, ptrH, _⟩, ⟨11, 28, ptrH, _⟩, ⟨12, 38, ptrH, _⟩, ⟨14, 26, ptrH, _⟩, ⟨16, 38, ptrH, _⟩] a w := hst
      refine thn_normal ?_
      refine wp_seq ?_
      refine gl (sts := [none, none, none, none, none, none, none, none]) (news := [⟨18, 38, ptrH, some 5, _, some (6, _)⟩]) (sp := [.val 81 _, .val 82 _, .val 80 _, .val 83 _, .val 84 _, .alc 8, .sto 8, .val 19 _]) [.g 0, .g 1, .g 2, .o 7] hst (oc (ob_v rfl rfl (r_load (lz0 0 rfl) ty_28)) (oc (ob_v rfl rfl (r_call (xs := [.tmp 81]) ((filmOne_c x).post (congrArg QdR hE.e4)) (.cons (vq 0 rfl) .nil))) (oc (ob_v rfl rfl (r_move (vq 1 rfl))) (oc (ob_v rfl rfl (r_ex0 (vq 2 rfl))) (oc (ob_v rfl rfl (r_ex1 (vq 2 rfl))) (oc (ob_alc rfl rfl rfl (Str.zero str_quad)) (oc (ob_sto rfl rfl rfl (vq 3 rfl) ty_38 (Eq.trans (b := 32) rfl rfl)) (oc (ob_v rfl rfl (r_assign (vq 4 rfl))) o0)))))))) (fun a w hst => ?_)
      have hst : St B w0 141 [(2, _), (6, _), (17, _), (19, _)] [⟨3, 28, ptrH, _⟩, ⟨4, 26, ptrH, _⟩, ⟨7, 26, ptrH, _⟩, ⟨9, 26, ptrH, _⟩, ⟨11, 28, ptrH, _⟩, ⟨12, 38, ptrH, _⟩, ⟨14, 26, ptrH, _⟩, ⟨16, 38, ptrH, _⟩, ⟨18, 38, ptrH, _⟩] a w := hst
      refine thn_normal ?_
      refine wp_seq ?_
      refine wp_seq ?_
      refine gl (sts := [none, none, none, none, none, none, none, none, none]) (news := []) (sp := [.val 85 _, .val 86 _, .val 87 _, .val 88 (Wh (_ = false) _), .val 89 (Wh (_ = false) _), .val 90 _, .val 91 _, .val 92 (Wh (_ = false) _), .val 93 (Wh (_ = false) _), .val 94 (Wh (_ = false) _), .val 95 (Wh (_ = false) _), .val 96 _]) [.g 0, .g 1, .o 11] hst (oc (ob_v rfl rfl (r_move (gq 2 rfl))) (oc (ob_v rfl rfl (r_neq (vq 0 rfl) has_num)) (oc (ob_v rfl rfl (r_move (vq 1 rfl))) (oc (ob_gd rfl rfl rfl (vq 2 rfl) nq (fun hg => r_move (gq 3 rfl))) (oc (ob_gd rfl rfl rfl (vq 2 rfl) nq (fun hg => r_neq (has_wh (vq 3 rfl) hg) has_num)) (oc (ob_v rfl rfl (r_or (vq 2 rfl) (vq 4 rfl))) (oc (ob_v rfl rfl (r_move (vq 5 rfl))) (oc (ob_gd rfl rfl rfl (vq 6 rfl) nq (fun hg => r_load (lz0 7 rfl) ty_38)) (oc (ob_gd rfl rfl rfl (vq 6 rfl) nq (fun hg => r_load (lz0 8 rfl) ty_38)) (oc (ob_gd rfl rfl rfl (vq 6 rfl) nq (fun hg => r_call (xs := [.tmp 92, .tmp 93]) (sameQuad_c _ _) (.cons (has_wh (vq 7 rfl) hg) (.cons (has_wh (vq 8 rfl) hg) .nil)))) (oc (ob_gd rfl rfl rfl (vq 6 rfl) nq (fun hg => r_not (has_wh (vq 9 rfl) hg))) (oc (ob_v rfl rfl (r_or (vq 6 rfl) (vq 10 rfl))) o0)))))))))))) (fun a w hst => ?_)
      have hst : St B w0 141 [(2, _), (6, _), (96, _)] [⟨3, 28, ptrH, _⟩, ⟨4, 26, ptrH, _⟩, ⟨7, 26, ptrH, _⟩, ⟨9, 26, ptrH, _⟩, ⟨11, 28, ptrH, _⟩, ⟨12, 38, ptrH, _⟩, ⟨14, 26, ptrH, _⟩, ⟨16, 38, ptrH, _⟩, ⟨18, 38, ptrH, _⟩] a w := hst
      refine thn_normal ?_
      refine cond_of hst (List.mem_of_getElem? (i := 2) rfl) (fun hb2 => ?_) (fun hb2 => ?_)
      · exact absurd hb2 (by simp)
      · refine wp_skip ?_
        refine thn_normal ?_
        refine wp_seq ?_
        refine gl (sts := [none, none, none, none, none, none, none, none, none]) (news := [⟨20, 26, ptrH, some 6, _, some (7, _)⟩]) (sp := [.val 98 _, .val 99 _, .val 100 _, .val 97 _, .val 101 _, .val 102 _, .alc 9, .sto 9, .val 21 _]) [.g 0, .g 1] hst (oc (ob_v rfl rfl (r_load (lz0 3 rfl) ty_26)) (oc (ob_v rfl rfl (r_load (lz0 6 rfl) ty_26)) (oc (ob_v rfl rfl (r_call (xs := [.tmp 98, .tmp 99]) ((subF_c (rfOf 1) (rfOf (toQ x.u * toQ g))).post (congrArg FrR hE.e5)) (.cons (vq 0 rfl) (.cons (vq 1 rfl) .nil)))) (oc (ob_v rfl rfl (r_move (vq 2 rfl))) (oc (ob_v rfl rfl (r_ex0 (vq 3 rfl))) (oc (ob_v rfl rfl (r_ex1 (vq 3 rfl))) (oc (ob_alc rfl rfl rfl (Str.zero str_frac)) (oc (ob_sto rfl rfl rfl (vq 4 rfl) ty_26 (Eq.trans (b := 4) rfl rfl)) (oc (ob_v rfl rfl (r_assign (vq 5 rfl))) o0))))))))) (fun a w hst => ?_)
        have hst : St B w0 141 [(2, _), (6, _)] [⟨3, 28, ptrH, _⟩, ⟨4, 26, ptrH, _⟩, ⟨7, 26, ptrH, _⟩, ⟨9, 26, ptrH, _⟩, ⟨11, 28, ptrH, _⟩, ⟨12, 38, ptrH, _⟩, ⟨14, 26, ptrH, _⟩, ⟨16, 38, ptrH, _⟩, ⟨18, 38, ptrH, _⟩, ⟨20, 26, ptrH, _⟩] a w := hst
        refine thn_normal ?_
        refine wp_seq ?_
        refine wp_seq ?_
        refine gl (sts := [none, none, none, none, none, none, none, none, none, none]) (news := []) (sp := [.val 103 _, .val 104 _, .val 105 _]) [.g 0, .g 1, .o 2] hst (oc (ob_v rfl rfl (r_load (lz0 9 rfl) ty_26)) (oc (ob_v rfl rfl (r_call (xs := [.tmp 103]) (fracSign_c _) (.cons (vq 0 rfl) .nil))) (oc (ob_v rfl rfl (r_neq (vq 1 rfl) has_num)) o0))) (fun a w hst => ?_)
        have hst : St B w0 141 [(2, _), (6, _), (105, _)] [⟨3, 28, ptrH, _⟩, ⟨4, 26, ptrH, _⟩, ⟨7, 26, ptrH, _⟩, ⟨9, 26, ptrH, _⟩, ⟨11, 28, ptrH, _⟩, ⟨12, 38, ptrH, _⟩, ⟨14, 26, ptrH, _⟩, ⟨16, 38, ptrH, _⟩, ⟨18, 38, ptrH, _⟩, ⟨20, 26, ptrH, _⟩] a w := hst
        refine thn_normal ?_
        refine cond_join (fun a w =>  St B w0 141 [(2, EqV v2)] [⟨3, 28, ptrH, RRA x⟩, ⟨4, 26, ptrH, RFA g⟩, ⟨7, 26, ptrH, RFA (rfOf 0)⟩, ⟨9, 26, ptrH, RFA (rfOf 1)⟩, ⟨11, 28, ptrH, RRA ⟨x.y, g⟩⟩, ⟨12, 38, ptrH, RQA (qdOf (thenQ (shM x) (shQ (toQ x.y) (toQ g))))⟩, ⟨14, 26, ptrH, RFA (rfOf (toQ x.u * toQ g))⟩, ⟨16, 38, ptrH, RQA (qdOf (shM x))⟩, ⟨18, 38, ptrH, RQA (qdOf (shM x))⟩, ⟨20, 26, ptrH, RFA (rfOf (1 - (toQ x.u * toQ g)))⟩] a w) hst (List.mem_of_getElem? (i := 2) rfl) (fun hb3 => ?_) (fun hb3 => ?_) (fun a w hst => ?_)
        · have hd : sgF (rfOf (1 - (toQ x.u * toQ g))) ≠ 0 := by simpa using hb3
          refine wp_seq ?_
          refine gl (sts := [none, none, none, none, none, none, none, none, none, none]) (news := [⟨22, 26, ptrH, some 7, _, some (8, _)⟩]) (sp := [.adr 107 3 (.some 4) True, .val 108 _, .val 109 _, .val 110 _, .val 106 _, .val 111 _, .val 112 _, .alc 10, .sto 10, .val 23 _]) [.g 0, .g 1] hst (oc (ob_a rfl rfl (a_fld (lz0 0 rfl) fld_28_1)) (oc (ob_v rfl rfl (r_loadf 0 rfl (by kernel_rfl) trivial (lz0 0 rfl) (Sub.part 1 rfl rfl) ty_26)) (oc (ob_v rfl rfl (r_load (lz0 1 rfl) ty_26)) (oc (ob_v rfl rfl (r_call (xs := [.tmp 108, .tmp 109]) ((addF_c x.u g).post (congrArg FrR (hE.e6 hd).1)) (.cons (vq 1 rfl) (.cons (vq 2 rfl) .nil)))) (oc (ob_v rfl rfl (r_move (vq 3 rfl))) (oc (ob_v rfl rfl (r_ex0 (vq 4 rfl))) (oc (ob_v rfl rfl (r_ex1 (vq 4 rfl))) (oc (ob_alc rfl rfl rfl (Str.zero str_frac)) (oc (ob_sto rfl rfl rfl (vq 5 rfl) ty_26 (Eq.trans (b := 4) rfl rfl)) (oc (ob_v rfl rfl (r_assign (vq 6 rfl))) o0)))))))))) (fun a w hst => ?_)
          have hst : St B w0 141 [(2, _), (6, _)] [⟨3, 28, ptrH, _⟩, ⟨4, 26, ptrH, _⟩, ⟨7, 26, ptrH, _⟩, ⟨9, 26, ptrH, _⟩, ⟨11, 28, ptrH, _⟩, ⟨12, 38, ptrH, _⟩, ⟨14, 26, ptrH, _⟩, ⟨16, 38, ptrH, _⟩, ⟨18, 38, ptrH, _⟩, ⟨20, 26, ptrH, _⟩, ⟨22, 26, ptrH, _⟩] a w := hst
          refine thn_normal ?_
          refine wp_seq ?_
          refine gl (sts := [none, none, none, none, none, none, none, none, none, none, none]) (news := [⟨24, 26, ptrH, some 6, _, some (7, _)⟩]) (sp := [.val 114 _, .val 115 _, .val 116 _, .val 113 _, .val 117 _, .val 118 _, .alc 11, .sto 11, .val 25 _]) [.g 0, .g 1] hst (oc (ob_v rfl rfl (r_load (lz0 10 rfl) ty_26)) (oc (ob_v rfl rfl (r_load (lz0 9 rfl) ty_26)) (oc (ob_v rfl rfl (r_call (xs := [.tmp 114, .tmp 115]) ((quoF_c (rfOf (toQ x.u + toQ g)) (rfOf (1 - (toQ x.u * toQ g)))).post (congrArg FrR (hE.e6 hd).2.1)) (.cons (vq 0 rfl) (.cons (vq 1 rfl) .nil)))) (oc (ob_v rfl rfl (r_move (vq 2 rfl))) (oc (ob_v rfl rfl (r_ex0 (vq 3 rfl))) (oc (ob_v rfl rfl (r_ex1 (vq 3 rfl))) (oc (ob_alc rfl rfl rfl (Str.zero str_frac)) (oc (ob_sto rfl rfl rfl (vq 4 rfl) ty_26 (Eq.trans (b := 4) rfl rfl)) (oc (ob_v rfl rfl (r_assign (vq 5 rfl))) o0))))))))) (fun a w hst => ?_)
          have hst : St B w0 141 [(2, _), (6, _)] [⟨3, 28, ptrH, _⟩, ⟨4, 26, ptrH, _⟩, ⟨7, 26, ptrH, _⟩, ⟨9, 26, ptrH, _⟩, ⟨11, 28, ptrH, _⟩, ⟨12, 38, ptrH, _⟩, ⟨14, 26, ptrH, _⟩, ⟨16, 38, ptrH, _⟩, ⟨18, 38, ptrH, _⟩, ⟨20, 26, ptrH, _⟩, ⟨22, 26, ptrH, _⟩, ⟨24, 26, ptrH, _⟩] a w := hst
          refine thn_normal ?_
          refine wp_seq ?_
          refine gl (sts := [none, none, none, none, none, none, none, none, none, none, none, none]) (news := [⟨26, 38, ptrH, some 8, _, some (9, _)⟩]) (sp := [.adr 120 3 (.some 0) True, .val 121 _, .val 122 _, .val 123 _, .val 124 _, .val 119 _, .val 125 _, .val 126 _, .alc 12, .sto 12, .val 27 _]) [.g 0, .g 1, .o 10] hst (oc (ob_a rfl rfl (a_fld (lz0 0 rfl) fld_28_0)) (oc (ob_v rfl rfl (r_loadf 0 rfl (by kernel_rfl) trivial (lz0 0 rfl) (Sub.part 0 rfl rfl) ty_26)) (oc (ob_v rfl rfl (r_load (lz0 11 rfl) ty_26)) (oc (ob_v rfl rfl (r_build (xs := [(0, .tmp 121), (1, .tmp 122)]) (qs := [(0, _), (1, _)]) str_sheet (.cons ⟨rfl, (vq 1 rfl), rfl⟩ (.cons ⟨rfl, (vq 2 rfl), rfl⟩ .nil)))) (oc (ob_v rfl rfl (r_call (xs := [.tmp 123]) ((filmOne_c ⟨x.y, rfOf ((toQ x.u + toQ g) / (1 - toQ x.u * toQ g))⟩).post (congrArg QdR (hE.e6 hd).2.2)) (.cons (vq 3 rfl) .nil))) (oc (ob_v rfl rfl (r_move (vq 4 rfl))) (oc (ob_v rfl rfl (r_ex0 (vq 5 rfl))) (oc (ob_v rfl rfl (r_ex1 (vq 5 rfl))) (oc (ob_alc rfl rfl rfl (Str.zero str_quad)) (oc (ob_sto rfl rfl rfl (vq 6 rfl) ty_38 (Eq.trans (b := 32) rfl rfl)) (oc (ob_v rfl rfl (r_assign (vq 7 rfl))) o0))))))))))) (fun a w hst => ?_)
          have hst : St B w0 141 [(2, _), (6, _), (27, _)] [⟨3, 28, ptrH, _⟩, ⟨4, 26, ptrH, _⟩, ⟨7, 26, ptrH, _⟩, ⟨9, 26, ptrH, _⟩, ⟨11, 28, ptrH, _⟩, ⟨12, 38, ptrH, _⟩, ⟨14, 26, ptrH, _⟩, ⟨16, 38, ptrH, _⟩, ⟨18, 38, ptrH, _⟩, ⟨20, 26, ptrH, _⟩, ⟨22, 26, ptrH, _⟩, ⟨24, 26, ptrH, _⟩, ⟨26, 38, ptrH, _⟩] a w := hst
          refine thn_normal ?_
          refine wp_seq ?_
          refine gl (sts := [none, none, none, none, none, none, none, none, none, none, none, none, none]) (news := []) (sp := [.val 127 _, .val 128 _, .val 129 _, .val 130 (Wh (_ = false) _), .val 131 (Wh (_ = false) _), .val 132 (Wh (_ = false) _), .val 133 (Wh (_ = false) _), .val 134 _]) [.g 0, .g 1, .o 7] hst (oc (ob_v rfl rfl (r_move (gq 2 rfl))) (oc (ob_v rfl rfl (r_neq (vq 0 rfl) has_num)) (oc (ob_v rfl rfl (r_move (vq 1 rfl))) (oc (ob_gd rfl rfl rfl (vq 2 rfl) nq (fun hg => r_load (lz0 5 rfl) ty_38)) (oc (ob_gd rfl rfl rfl (vq 2 rfl) nq (fun hg => r_load (lz0 12 rfl) ty_38)) (oc (ob_gd rfl rfl rfl (vq 2 rfl) nq (fun hg => r_call (xs := [.tmp 130, .tmp 131]) (sameQuad_c _ _) (.cons (has_wh (vq 3 rfl) hg) (.cons (has_wh (vq 4 rfl) hg) .nil)))) (oc (ob_gd rfl rfl rfl (vq 2 rfl) nq (fun hg => r_not (has_wh (vq 5 rfl) hg))) (oc (ob_v rfl rfl (r_or (vq 2 rfl) (vq 6 rfl))) o0)))))))) (fun a w hst => ?_)
          have hst : St B w0 141 [(2, _), (6, _), (134, _)] [⟨3, 28, ptrH, _⟩, ⟨4, 26, ptrH, _⟩, ⟨7, 26, ptrH, _⟩, ⟨9, 26, ptrH, _⟩, ⟨11, 28, ptrH, _⟩, ⟨12, 38, ptrH, _⟩, ⟨14, 26, ptrH, _⟩, ⟨16, 38, ptrH, _⟩, ⟨18, 38, ptrH, _⟩, ⟨20, 26, ptrH, _⟩, ⟨22, 26, ptrH, _⟩, ⟨24, 26, ptrH, _⟩, ⟨26, 38, ptrH, _⟩] a w := hst
          refine thn_normal ?_
          refine cond_of hst (List.mem_of_getElem? (i := 2) rfl) (fun hb4 => ?_) (fun hb4 => ?_)
          · exact absurd hb4 (by simp)
          · refine wp_skip ?_
            refine thn_normal ?_
            have hst := St.sel hst [0]
            have hst := St.selL hst [0, 1, 2, 3, 4, 5, 6, 7, 8, 9]
            exact hst
        · skip
          refine wp_skip ?_
          refine thn_normal ?_
          have hst := St.sel hst [0]
          exact hst
        refine thn_normal ?_
        refine wp_seq ?_
        refine gl (sts := [none, none, none, none, none, none, none, none, none, none]) (news := []) (sp := [.val 135 _, .val 136 _, .val 137 _, .val 138 _, .val 139 (Wh (_ = true) _), .val 140 _, .val 6 _]) [.o 6] hst (oc (ob_v rfl rfl (r_load (lz0 0 rfl) ty_28)) (oc (ob_v rfl rfl (r_move (gq 0 rfl))) (oc (ob_v rfl rfl (r_call (xs := [.tmp 135, .tmp 136]) (cut_w x xs hE.hx hP.1 hP.2 hE.e4) (.cons (vq 0 rfl) (.cons (has_again hF hv2 (vq 1 rfl)) .nil)))) (oc (ob_v rfl rfl (r_move (vq 2 rfl))) (oc (ob_gd rfl rfl rfl (vq 3 rfl) nq (fun hg => r_call (xs := []) alive18_c .nil)) (oc (ob_v rfl rfl (r_and (vq 3 rfl) (vq 4 rfl))) (oc (ob_v rfl rfl (r_assign (vq 5 rfl))) o0))))))) (fun a w hst => ?_)
        have hst : St B w0 141 [(6, _)] [⟨3, 28, ptrH, _⟩, ⟨4, 26, ptrH, _⟩, ⟨7, 26, ptrH, _⟩, ⟨9, 26, ptrH, _⟩, ⟨11, 28, ptrH, _⟩, ⟨12, 38, ptrH, _⟩, ⟨14, 26, ptrH, _⟩, ⟨16, 38, ptrH, _⟩, ⟨18, 38, ptrH, _⟩, ⟨20, 26, ptrH, _⟩] a w := hst
        refine thn_normal ?_
        refine wp_ret ?_
        refine ret_wk ?_ (ret_tmp rfl hst (List.mem_of_getElem? (i := 0) rfl))
        exact wk_eq (congrArg Bo rfl)

open Go.ChangeShapes Go.WideShapes Go.ChangeAt
open Go.ChangeMaps (open_string shut_string)
set_option linter.unusedVariables false
theorem own : ownKnob Tryz.prog.godebug = none := by kernel_rfl
theorem laidOut : laidOutB Tryz.prog = true := by kernel_rfl
set_option maxRecDepth 100000 in
theorem lifted (os : Os) (started : os.Started) (H : Type) (enc : TypeId × Value → H) :
    ReturnsInHanded {} Tryz.checked os 3 .any (Rows.filmJoinsSpec.pre6 enc Tryz.prog Tryz.f3 Rows.filmJoinsRow.domain false) (Rows.filmJoinsSpec.post enc Tryz.prog Tryz.f3 false true false false) := by
  refine returnsInHanded_of_change_sized (C := Tryz.checked) own started (by kernel_rfl) Tryz.func3
    (ChangeSpec.witness6 (enc := enc) (C := Tryz.checked) false ⟨#[], #[.agg #[.bool false, .slice none 0 0, .bool false, .slice none 0 0, .bool false, .slice none 0 0, .bool false, .slice none 0 0], .agg #[.bool false, .slice none 0 0, .bool false, .slice none 0 0], .slice none 0 0], []⟩ 8 (by kernel_rfl) (by kernel_rfl) (by kernel_rfl) (by kernel_rfl)) ?_
  intro W base args ds gs before hval0 hW hcnd hwt _
  have hval : ∀ (j : Nat) t v, Tryz.f3.params[j]? = some t → args[j]? = some v → Value.okWide Tryz.prog W .any base t v := hval0
  have hW' := hW
  obtain ⟨p, q, hA0, hV, rfl, hfz, hnd⟩ := hW
  have hA : DataW.TrodAll enc Tryz.prog W 0 (fun _ => true) true Tryz.f3.params.toList args.toList ds p := hA0
  rw [Tryz.params3] at hA hval hwt
  obtain ⟨v0, vs0, d0, ds0, p0, q0, hargs, rfl, rfl, h0, r0⟩ := trodAll_cons hA
  obtain ⟨v1, vs1, d1, ds1, p1, q1, rfl, rfl, rfl, h1, r1⟩ := trodAll_cons r0
  obtain ⟨v2, vs2, d2, ds2, p2, q2, rfl, rfl, rfl, h2, r2⟩ := trodAll_cons r1
  obtain ⟨rfl, rfl, rfl⟩ := trodAll_nil r2
  obtain rfl : args = #[v0, v1, v2] := by cases args; simp_all
  obtain ⟨rfl, rfl⟩ := trodVars_none hV
  have k0 := h0
  have lt0 : ∀ x ∈ p0, x.block < W.heap.size := by obtain ⟨m, hm⟩ := k0; exact DataW.trod_lt m _ _ _ hm
  have k1 := h1
  have lt1 : ∀ x ∈ p1, x.block < W.heap.size := by obtain ⟨m, hm⟩ := k1; exact DataW.trod_lt m _ _ _ hm
  have k2 := h2
  have lt2 : ∀ x ∈ p2, x.block < W.heap.size := by obtain ⟨m, hm⟩ := k2; exact DataW.trod_lt m _ _ _ hm
  obtain ⟨x0, a0, b0⟩ := arg_ofB (A := RRA) (bd := wdR) (fun _ => rfl) Tryz.underlying28 rb_sh (hval 0 28 v0 rfl rfl) h0 (wt_of hwt 0 rfl rfl)
  obtain ⟨x1, a1, b1⟩ := arg_ofB (A := RFA) (bd := wdF) (fun _ => rfl) Tryz.underlying26 rb_rf (hval 1 26 v1 rfl rfl) h1 (wt_of hwt 1 rfl rfl)
  obtain ⟨x2, a2, b2⟩ := arg_slW (A := RRA) (bd := wdR) (m := 8) (D := [84]) Tryz.underlying29 (by kernel_rfl) (by decide) (Nat.lt_of_lt_of_eq (by decide) (show 128 = Tryz.prog.bytesOf 28 from by kernel_rfl)) (fun _ => nd_selfB (by kernel_rfl)) rb_sh (hval 2 29 v2 rfl rfl) h2 (wt_of hwt 2 rfl rfl)
  clear hA0 hval0
  refine ((joins_w x0 b0 x1 b1 x2 b2).2 W.heap.size W [v0, v1, v2] (Nat.le_refl _) (.cons a0 (.cons a1 (.cons a2 .nil)))).mono fun e W' ⟨v, he, hv, bel⟩ => ?_
  have hv' := bo_val hv
  subst hv' he
  exact ⟨_, rfl, _, _, _, [], _, [], hW', trodAll_mk1 (shut_bool Tryz.underlying4 _), (trodAll_cons_mk (Below.trod laidOut (by kernel_rfl) (of_decide_eq_true (by kernel_rfl)) k0 bel lt0) (trodAll_cons_mk (Below.trod laidOut (by kernel_rfl) (of_decide_eq_true (by kernel_rfl)) k1 bel lt1) (trodAll_cons_mk (Below.trod laidOut (by kernel_rfl) (of_decide_eq_true (by kernel_rfl)) k2 bel lt2) trodAll_mk0))), rfl, bel.frame _, fun h => by cases h⟩
theorem over : Rows.filmJoinsRow.holds Tryz.pinned (OpenSpec.ofChange Rows.filmJoinsSpec) :=
  OpenClaim.holds_of_wide 3 Tryz.f3 rfl rfl rfl rfl rfl rfl rfl ⟨rfl, rfl, rfl, rfl, rfl⟩ rfl rfl rfl rfl rfl (by kernel_rfl) Tryz.func3 (by kernel_rfl)
    (of_decide_eq_true (by kernel_rfl)) (by unfold Func.isWrapper; rw [if_neg (of_decide_eq_false (by kernel_rfl))]; exact ⟨rfl, rfl⟩)
    (fun os started H enc _ => lifted os started H enc)
theorem provedFilmJoins : Rows.FilmJoinsSaid := over
#print axioms provedFilmJoins

end Go.Proofs.YtaplgnjnhfljnaaGreat
