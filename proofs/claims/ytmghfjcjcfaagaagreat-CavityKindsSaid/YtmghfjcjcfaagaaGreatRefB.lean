/- The reference of layer 1: Check, Sign, Cmp, Below, Of, Turned, Size; limbs added and taken away by appending. -/
import Derived.Test.YtmghfjcjcfaagaaGreatRefA
import Derived.Test.YtmghfjcjcfaagaaGreatRayE
namespace Go.Proofs.YtmghfjcjcfaagaaGreat
open Go Go.RowKit
namespace RefB
theorem fld_24_0 : Fld Tryz.prog 24 0 0 1 := ⟨_, _, Tryz.underlying24, rfl, rfl, by kernel_rfl, by decide⟩
theorem fld_24_1 : Fld Tryz.prog 24 1 1 1 := ⟨_, _, Tryz.underlying24, rfl, rfl, by kernel_rfl, by decide⟩
theorem sl_22 : Sl Tryz.prog 22 122 1 := ⟨by kernel_rfl, by kernel_rfl⟩
theorem ty_122 : Ty Tryz.prog 122 1 false := ⟨by kernel_rfl, by kernel_rfl⟩
theorem ty_22 : Ty Tryz.prog 22 1 false := ⟨by kernel_rfl, by kernel_rfl⟩
theorem ty_24 : Ty Tryz.prog 24 2 true := ⟨by kernel_rfl, by kernel_rfl⟩
theorem ty_4 : Ty Tryz.prog 4 1 false := ⟨by kernel_rfl, by kernel_rfl⟩
end RefB
open RefB
set_option maxRecDepth 100000 in
theorem rcheck_c (x : RI) : Cn Tryz.prog 105 [(RIA x).va] (In (if okRI x then 0 else 1)) := by
  refine Cn.intro Tryz.func105 rfl (by kernel_rfl) nq (fun B w0 a hst => ?_)
  have hst : St B w0 34 [(0, (RIA x).va)] [] a w0.w := hst
  have hk := (ri_know (hst.vals _ (List.mem_of_getElem? (i := 0) rfl))).2
  refine wp_seq ?_
  refine gl (sts := []) (news := [⟨1, 24, ptrH, some 0, _, none⟩]) (sp := [.alc 0, .val 2 _]) [.o 1] hst (oc (ob_box rfl rfl rfl (gq 0 rfl)) (oc (ob_v rfl rfl (r_assign has_num)) o0)) (fun a w hst => ?_)
  have hst : St B w0 34 [(2, _)] [⟨1, 24, ptrH, _⟩] a w := hst
  refine thn_normal ?_
  refine wp_seq ?_
  refine wp_seq ?_
  refine gl (sts := [none]) (news := []) (sp := ((.adr 3 1 (.some 1) True : Sp) :: (.val 4 _) :: (.val 5 _) :: (.val 6 _) :: (.val 7 _) :: (.adr 8 1 (.some 1) (_ = false)) :: (.val 9 (Wh (_ = false) _)) :: (.val 10 (Wh (_ = false) _)) :: (.val 11 (Wh (_ = false) _)) :: (.val 12 (Wh (_ = false) _)) :: (.adr 13 1 (.some 1) ((_ = false) ∧ _ = true)) :: (.val 14 (Wh ((_ = false) ∧ _ = true) _)) :: (.adr 15 1 (.some 1) ((_ = false) ∧ _ = true)) :: (.val 16 (Wh ((_ = false) ∧ _ = true) _)) :: (.val 17 (Wh ((_ = false) ∧ _ = true) _)) :: (.val 18 (Wh ((_ = false) ∧ _ = true) _)) :: (.val 19 (Wh ((_ = false) ∧ _ = true) _)) :: (.val 20 (Wh ((_ = false) ∧ _ = true) _)) :: (.val 21 (Wh ((_ = false) ∧ _ = true) _)) :: (.val 22 (Wh (_ = false) _)) :: (.val 23 _) :: (.val 24 _) :: (.adr 25 1 (.some 1) (_ = false)) :: (.val 26 (Wh (_ = false) _)) :: (.val 27 (Wh (_ = false) _)) :: (.val 28 (Wh (_ = false) _)) :: (.val 29 (Wh (_ = false) _)) :: (.adr 30 1 (.some 0) ((_ = false) ∧ _ = true)) :: (.val 31 (Wh ((_ = false) ∧ _ = true) _)) :: (.val 32 (Wh (_ = false) _)) :: (.val 33 _) :: [])) [.g 0, .o 30] hst (oc (ob_a rfl rfl (a_fld (lz0 0 rfl) fld_24_1)) (oc (ob_v rfl rfl (r_loadf 0 rfl (by kernel_rfl) trivial (lz0 0 rfl) (Sub.part 1 rfl rfl) ty_22)) (oc (ob_v rfl rfl (r_lenm Tryz.underlying22 (vq 1 rfl))) (oc (ob_v rfl rfl (r_gtr (vq 2 rfl) has_num)) (oc (ob_v rfl rfl (r_move (vq 3 rfl))) (oc (ob_ag rfl rfl rfl (vq 4 rfl) nq (fun hg => a_fld (lz0 0 rfl) fld_24_1)) (oc (ob_gd rfl rfl rfl (vq 4 rfl) nq (fun hg => r_loadf 5 rfl (by kernel_rfl) hg (lz0 0 rfl) (Sub.part 1 rfl rfl) ty_22)) (oc (ob_gd rfl rfl rfl (vq 4 rfl) nq (fun hg => r_lenm Tryz.underlying22 (has_wh (vq 6 rfl) hg))) (oc (ob_gd rfl rfl rfl (vq 4 rfl) nq (fun hg => r_gtr (has_wh (vq 7 rfl) hg) has_num)) (oc (ob_gd rfl rfl rfl (vq 4 rfl) nq (fun hg => r_move (has_wh (vq 8 rfl) hg))) (oc (ob_ag2 rfl rfl rfl (vq 9 rfl) nq (fun hg => a_fld (lz0 0 rfl) fld_24_1)) (oc (ob_gd2 rfl rfl rfl (vq 9 rfl) nq (fun hg => r_loadf 10 rfl (by kernel_rfl) hg (lz0 0 rfl) (Sub.part 1 rfl rfl) ty_22)) (oc (ob_ag2 rfl rfl rfl (vq 9 rfl) nq (fun hg => a_fld (lz0 0 rfl) fld_24_1)) (oc (ob_gd2 rfl rfl rfl (vq 9 rfl) nq (fun hg => r_loadf 12 rfl (by kernel_rfl) hg (lz0 0 rfl) (Sub.part 1 rfl rfl) ty_22)) (oc (ob_gd2 rfl rfl rfl (vq 9 rfl) nq (fun hg => r_lenm Tryz.underlying22 (has_wh (vq 13 rfl) hg))) (oc (ob_gd2 rfl rfl rfl (vq 9 rfl) nq (fun hg => r_sub (has_wh (vq 14 rfl) hg) has_num (wi_pm (by have h := hg.2; simp at h; omega) hk))) (oc (ob_gd2 rfl rfl rfl (vq 9 rfl) nq (fun hg => r_idxmd sl_22 (has_wh (vq 11 rfl) hg) (has_wh (vq 15 rfl) hg) (by have h := hg.2; simp at h; omega))) (oc (ob_gd2 rfl rfl rfl (vq 9 rfl) nq (fun hg => r_loade (has_wh (vq 16 rfl) hg) ty_122)) (oc (ob_gd2 rfl rfl rfl (vq 9 rfl) nq (fun hg => r_eql (has_wh (vq 17 rfl) hg) (has_nat 0 rfl))) (oc (ob_gd rfl rfl rfl (vq 4 rfl) nq (fun hg => r_and (has_wh (vq 9 rfl) hg) (has_wh2 (vq 18 rfl) hg))) (oc (ob_v rfl rfl (r_or (vq 4 rfl) (vq 19 rfl))) (oc (ob_v rfl rfl (r_move (vq 20 rfl))) (oc (ob_ag rfl rfl rfl (vq 21 rfl) nq (fun hg => a_fld (lz0 0 rfl) fld_24_1)) (oc (ob_gd rfl rfl rfl (vq 21 rfl) nq (fun hg => r_loadf 22 rfl (by kernel_rfl) hg (lz0 0 rfl) (Sub.part 1 rfl rfl) ty_22)) (oc (ob_gd rfl rfl rfl (vq 21 rfl) nq (fun hg => r_lenm Tryz.underlying22 (has_wh (vq 23 rfl) hg))) (oc (ob_gd rfl rfl rfl (vq 21 rfl) nq (fun hg => r_eql (has_wh (vq 24 rfl) hg) has_num)) (oc (ob_gd rfl rfl rfl (vq 21 rfl) nq (fun hg => r_move (has_wh (vq 25 rfl) hg))) (oc (ob_ag2 rfl rfl rfl (vq 26 rfl) nq (fun hg => a_fld (lz0 0 rfl) fld_24_0)) (oc (ob_gd2 rfl rfl rfl (vq 26 rfl) nq (fun hg => r_loadf 27 rfl (by kernel_rfl) hg (lz0 0 rfl) (Sub.part 0 rfl rfl) ty_4)) (oc (ob_gd rfl rfl rfl (vq 21 rfl) nq (fun hg => r_and (has_wh (vq 26 rfl) hg) (has_wh2 (vq 28 rfl) hg))) (oc (ob_v rfl rfl (r_or (vq 21 rfl) (vq 29 rfl))) o0))))))))))))))))))))))))))))))) (fun a w hst => ?_)
  have hst : St B w0 34 [(2, _), (33, _)] [⟨1, 24, ptrH, _⟩] a w := hst
  refine thn_normal ?_
  refine cond_of hst (List.mem_of_getElem? (i := 1) rfl) (fun hb0 => ?_) (fun hb0 => ?_)
  · refine wp_seq ?_
    refine gl (sts := [none]) (news := []) (sp := [.val 2 _]) [.o 0] hst (oc (ob_v rfl rfl (r_assign has_num)) o0) (fun a w hst => ?_)
    have hst : St B w0 34 [(2, _)] [⟨1, 24, ptrH, _⟩] a w := hst
    refine thn_normal ?_
    refine wp_ret ?_
    refine thn_ret ?_
    refine ret_cast ?_ (ret_tmp rfl hst (List.mem_of_getElem? (i := 0) rfl))
    exact nu (check_e0 hb0)
  · refine wp_skip ?_
    refine thn_normal ?_
    refine wp_seq ?_
    refine gl (sts := [none]) (news := []) (sp := [.val 2 _]) [.o 0] hst (oc (ob_v rfl rfl (r_assign has_num)) o0) (fun a w hst => ?_)
    have hst : St B w0 34 [(2, _)] [⟨1, 24, ptrH, _⟩] a w := hst
    refine thn_normal ?_
    refine wp_ret ?_
    refine ret_cast ?_ (ret_tmp rfl hst (List.mem_of_getElem? (i := 0) rfl))
    exact nu (check_e1 hb0)

set_option maxRecDepth 100000 in
theorem rsign_c (x : RI) : Cn Tryz.prog 106 [(RIA x).va] (In (sgI x)) := by
  refine Cn.intro Tryz.func106 rfl (by kernel_rfl) nq (fun B w0 a hst => ?_)
  have hst : St B w0 9 [(0, (RIA x).va)] [] a w0.w := hst
  refine wp_seq ?_
  refine gl (sts := []) (news := [⟨1, 24, ptrH, some 0, _, none⟩]) (sp := [.alc 0, .val 2 _]) [.o 1] hst (oc (ob_box rfl rfl rfl (gq 0 rfl)) (oc (ob_v rfl rfl (r_assign has_num)) o0)) (fun a w hst => ?_)
  have hst : St B w0 9 [(2, _)] [⟨1, 24, ptrH, _⟩] a w := hst
  refine thn_normal ?_
  refine wp_seq ?_
  refine wp_seq ?_
  refine gl (sts := [none]) (news := []) (sp := [.adr 3 1 (.some 1) True, .val 4 _, .val 5 _, .val 6 _]) [.g 0, .o 3] hst (oc (ob_a rfl rfl (a_fld (lz0 0 rfl) fld_24_1)) (oc (ob_v rfl rfl (r_loadf 0 rfl (by kernel_rfl) trivial (lz0 0 rfl) (Sub.part 1 rfl rfl) ty_22)) (oc (ob_v rfl rfl (r_lenm Tryz.underlying22 (vq 1 rfl))) (oc (ob_v rfl rfl (r_eql (vq 2 rfl) has_num)) o0)))) (fun a w hst => ?_)
  have hst : St B w0 9 [(2, _), (6, _)] [⟨1, 24, ptrH, _⟩] a w := hst
  refine thn_normal ?_
  refine cond_of hst (List.mem_of_getElem? (i := 1) rfl) (fun hb0 => ?_) (fun hb0 => ?_)
  · refine wp_seq ?_
    refine gl (sts := [none]) (news := []) (sp := [.val 2 _]) [.o 0] hst (oc (ob_v rfl rfl (r_assign has_num)) o0) (fun a w hst => ?_)
    have hst : St B w0 9 [(2, _)] [⟨1, 24, ptrH, _⟩] a w := hst
    refine thn_normal ?_
    refine wp_ret ?_
    refine thn_ret ?_
    refine ret_cast ?_ (ret_tmp rfl hst (List.mem_of_getElem? (i := 0) rfl))
    exact nu (sign_e0 hb0)
  · refine wp_skip ?_
    refine thn_normal ?_
    refine wp_seq ?_
    refine wp_seq ?_
    refine gl (sts := [none]) (news := []) (sp := [.adr 7 1 (.some 0) True, .val 8 _]) [.g 0, .o 1] hst (oc (ob_a rfl rfl (a_fld (lz0 0 rfl) fld_24_0)) (oc (ob_v rfl rfl (r_loadf 0 rfl (by kernel_rfl) trivial (lz0 0 rfl) (Sub.part 0 rfl rfl) ty_4)) o0)) (fun a w hst => ?_)
    have hst : St B w0 9 [(2, _), (8, _)] [⟨1, 24, ptrH, _⟩] a w := hst
    refine thn_normal ?_
    refine cond_of hst (List.mem_of_getElem? (i := 1) rfl) (fun hb1 => ?_) (fun hb1 => ?_)
    · refine wp_seq ?_
      refine gl (sts := [none]) (news := []) (sp := [.val 2 _]) [.o 0] hst (oc (ob_v rfl rfl (r_assign has_num)) o0) (fun a w hst => ?_)
      have hst : St B w0 9 [(2, _)] [⟨1, 24, ptrH, _⟩] a w := hst
      refine thn_normal ?_
      refine wp_ret ?_
      refine thn_ret ?_
      refine ret_cast ?_ (ret_tmp rfl hst (List.mem_of_getElem? (i := 0) rfl))
      exact nu (sign_e1 hb0 hb1)
    · refine wp_skip ?_
      refine thn_normal ?_
      refine wp_seq ?_
      refine gl (sts := [none]) (news := []) (sp := [.val 2 _]) [.o 0] hst (oc (ob_v rfl rfl (r_assign has_num)) o0) (fun a w hst => ?_)
      have hst : St B w0 9 [(2, _)] [⟨1, 24, ptrH, _⟩] a w := hst
      refine thn_normal ?_
      refine wp_ret ?_
      refine ret_cast ?_ (ret_tmp rfl hst (List.mem_of_getElem? (i := 0) rfl))
      exact nu (sign_e2 hb0 hb1)

set_option linter.unusedVariables false
theorem cmL_limbs {m n : Nat} : cmL (limbs m) (limbs n) = if m < n then -1 else if n < m then 1 else 0 := by
  unfold cmL
  rw [val_limbs, val_limbs]
  by_cases h : (limbs m).length = (limbs n).length
  · rw [if_neg (by omega)]
  · rw [if_pos h]
    by_cases h2 : m ≤ n
    · have := len_mono h2
      have : m ≠ n := fun e => h (by rw [e])
      rw [if_pos (by omega), if_pos (by omega)]
    · have := len_mono (Nat.le_of_lt (Nat.lt_of_not_le h2))
      rw [if_neg (by omega), if_neg (by omega), if_pos (by omega)]
theorem sgn_c (p : Int) : p.sign = if p < 0 then -1 else if p = 0 then 0 else 1 := by
  rcases Int.lt_trichotomy p 0 with h | h | h
  · rw [if_pos h, Int.sign_eq_neg_one_of_neg h]
  · subst h; rfl
  · rw [if_neg (by omega), if_neg (by omega), Int.sign_eq_one_of_pos h]
theorem rc_e0 {p q : Int} (h : (sgI (riOf p) != sgI (riOf q)) = true) (h2 : decide (sgI (riOf p) < sgI (riOf q)) = true) : (-1 : Int) = sg3 p q := by
  rw [decide_eq_true_eq, sgI_ri, sgI_ri, sgn_c, sgn_c] at h2
  unfold sg3
  rw [if_pos]
  split at h2 <;> split at h2 <;> (try split at h2) <;> (try split at h2) <;> omega
theorem rc_e1 {p q : Int} (h : (sgI (riOf p) != sgI (riOf q)) = true) (h2 : decide (sgI (riOf p) < sgI (riOf q)) = false) : (1 : Int) = sg3 p q := by
  rw [decide_eq_false_iff_not, sgI_ri, sgI_ri, sgn_c, sgn_c] at h2
  have h3 : sgI (riOf p) ≠ sgI (riOf q) := by simpa using h
  rw [sgI_ri, sgI_ri, sgn_c, sgn_c] at h3
  unfold sg3
  rw [if_neg, if_pos] <;> (split at h2 <;> split at h2 <;> (try split at h2) <;> (try split at h2) <;> (try split at h3) <;> (try split at h3) <;> (try split at h3) <;> omega)
theorem rc_sg {p q : Int} (h : (sgI (riOf p) != sgI (riOf q)) = false) : (p < 0 ↔ q < 0) ∧ (p = 0 ↔ q = 0) := by
  have h3 : sgI (riOf p) = sgI (riOf q) := by simpa using h
  rw [sgI_ri, sgI_ri, sgn_c, sgn_c] at h3
  split at h3 <;> split at h3 <;> (try split at h3) <;> (try split at h3) <;> omega
theorem rc_e2 {p q : Int} (h : (sgI (riOf p) != sgI (riOf q)) = false) (h2 : decide (sgI (riOf p) < 0) = true) : -(cmL (riOf p).mag (riOf q).mag) = sg3 p q := by
  have h1 := rc_sg h
  rw [decide_eq_true_eq, sgI_ri, sgn_c] at h2
  have hp : p < 0 := by split at h2 <;> (try split at h2) <;> omega
  show -(cmL (limbs p.natAbs) (limbs q.natAbs)) = _
  rw [cmL_limbs]
  unfold sg3
  split <;> split <;> (try split) <;> omega
theorem rc_e3 {p q : Int} (h : (sgI (riOf p) != sgI (riOf q)) = false) (h2 : decide (sgI (riOf p) < 0) = false) : cmL (riOf p).mag (riOf q).mag = sg3 p q := by
  have h1 := rc_sg h
  rw [decide_eq_false_iff_not, sgI_ri, sgn_c] at h2
  have hp : ¬ p < 0 := by intro hp; rw [if_pos hp] at h2; omega
  show cmL (limbs p.natAbs) (limbs q.natAbs) = _
  rw [cmL_limbs]
  unfold sg3
  split <;> split <;> (try split) <;> omega
theorem cmL_bd (l m : List Nat) : -1 ≤ cmL l m ∧ cmL l m ≤ 1 := by
  unfold cmL
  split <;> split <;> (try split) <;> omega
theorem turn_e {p : Int} : (RIA (rsig (!(riOf p).neg) (riOf p).mag)).va = Zi (-p) := by
  rw [rsig_of (ok_ri p) (z := -p) (by rw [val_ri]; omega) (fun hz => by show (!decide (p < 0)) = _; by_cases h : p < 0 <;> simp [h] <;> omega)]
theorem size_e {p : Int} : (RIA (rsig false (riOf p).mag)).va = Zi ((p.natAbs : Nat) : Int) := by
  rw [rsig_of (ok_ri p) (z := ((p.natAbs : Nat) : Int)) (by rw [val_ri]; omega) (fun hz => by simp)]

set_option maxRecDepth 100000 in
theorem rcmpZ_c (p q : Int) : Cn Tryz.prog 164 [Zi p, Zi q] (In (sg3 p q)) := by
  refine Cn.intro Tryz.func164 rfl (by kernel_rfl) nq (fun B w0 a hst => ?_)
  have hst : St B w0 28 [(0, Zi p), (1, Zi q)] [] a w0.w := hst
  have hbd := cmL_bd (riOf p).mag (riOf q).mag
  refine wp_seq ?_
  refine gl (sts := []) (news := [⟨2, 24, ptrH, some 0, _, none⟩, ⟨3, 24, ptrH, some 1, _, none⟩]) (sp := [.alc 0, .alc 1, .val 4 _]) [.o 2] hst (oc (ob_box rfl rfl rfl (gq 0 rfl)) (oc (ob_box rfl rfl rfl (gq 1 rfl)) (oc (ob_v rfl rfl (r_assign has_num)) o0))) (fun a w hst => ?_)
  have hst : St B w0 28 [(4, _)] [⟨2, 24, ptrH, _⟩, ⟨3, 24, ptrH, _⟩] a w := hst
  refine thn_normal ?_
  refine wp_seq ?_
  refine gl (sts := [none, none]) (news := []) (sp := [.val 8 _, .val 9 _, .val 5 _]) [.g 0, .o 2] hst (oc (ob_v rfl rfl (r_load (lz0 0 rfl) ty_24)) (oc (ob_v rfl rfl (r_call (xs := [.tmp 8]) (rsign_c (riOf p)) (.cons (vq 0 rfl) .nil))) (oc (ob_v rfl rfl (r_assign (vq 1 rfl))) o0))) (fun a w hst => ?_)
  have hst : St B w0 28 [(4, _), (5, _)] [⟨2, 24, ptrH, _⟩, ⟨3, 24, ptrH, _⟩] a w := hst
  refine thn_normal ?_
  refine wp_seq ?_
  refine gl (sts := [none, none]) (news := []) (sp := [.val 10 _, .val 11 _, .val 6 _]) [.g 0, .g 1, .o 2] hst (oc (ob_v rfl rfl (r_load (lz0 1 rfl) ty_24)) (oc (ob_v rfl rfl (r_call (xs := [.tmp 10]) (rsign_c (riOf q)) (.cons (vq 0 rfl) .nil))) (oc (ob_v rfl rfl (r_assign (vq 1 rfl))) o0))) (fun a w hst => ?_)
  have hst : St B w0 28 [(4, _), (5, _), (6, _)] [⟨2, 24, ptrH, _⟩, ⟨3, 24, ptrH, _⟩] a w := hst
  refine thn_normal ?_
  refine wp_seq ?_
  refine wp_seq ?_
  refine gl (sts := [none, none]) (news := []) (sp := [.val 12 _, .val 13 _, .val 14 _]) [.g 0, .g 1, .g 2, .o 2] hst (oc (ob_v rfl rfl (r_move (gq 1 rfl))) (oc (ob_v rfl rfl (r_move (gq 2 rfl))) (oc (ob_v rfl rfl (r_neq (vq 0 rfl) (vq 1 rfl))) o0))) (fun a w hst => ?_)
  have hst : St B w0 28 [(4, _), (5, _), (6, _), (14, _)] [⟨2, 24, ptrH, _⟩, ⟨3, 24, ptrH, _⟩] a w := hst
  refine thn_normal ?_
  refine cond_of hst (List.mem_of_getElem? (i := 3) rfl) (fun hb0 => ?_) (fun hb0 => ?_)
  · refine wp_seq ?_
    refine wp_seq ?_
    refine gl (sts := [none, none]) (news := []) (sp := [.val 15 _, .val 16 _, .val 17 _]) [.g 0, .g 1, .o 2] hst (oc (ob_v rfl rfl (r_move (gq 1 rfl))) (oc (ob_v rfl rfl (r_move (gq 2 rfl))) (oc (ob_v rfl rfl (r_lss (vq 0 rfl) (vq 1 rfl))) o0))) (fun a w hst => ?_)
    have hst : St B w0 28 [(4, _), (5, _), (17, _)] [⟨2, 24, ptrH, _⟩, ⟨3, 24, ptrH, _⟩] a w := hst
    refine thn_normal ?_
    refine cond_of hst (List.mem_of_getElem? (i := 2) rfl) (fun hb1 => ?_) (fun hb1 => ?_)
    · refine wp_seq ?_
      refine gl (sts := [none, none]) (news := []) (sp := [.val 4 _]) [.g 1, .o 0] hst (oc (ob_v rfl rfl (r_assign has_num)) o0) (fun a w hst => ?_)
      have hst : St B w0 28 [(5, _), (4, _)] [⟨2, 24, ptrH, _⟩, ⟨3, 24, ptrH, _⟩] a w := hst
      refine thn_normal ?_
      refine wp_ret ?_
      refine thn_ret ?_
      refine thn_ret ?_
      refine ret_cast ?_ (ret_tmp rfl hst (List.mem_of_getElem? (i := 1) rfl))
      exact nu (rc_e0 hb0 hb1)
    · refine wp_skip ?_
      refine thn_normal ?_
      refine wp_seq ?_
      refine gl (sts := [none, none]) (news := []) (sp := [.val 4 _]) [.g 1, .o 0] hst (oc (ob_v rfl rfl (r_assign has_num)) o0) (fun a w hst => ?_)
      have hst : St B w0 28 [(5, _), (4, _)] [⟨2, 24, ptrH, _⟩, ⟨3, 24, ptrH, _⟩] a w := hst
      refine thn_normal ?_
      refine wp_ret ?_
      refine thn_ret ?_
      refine ret_cast ?_ (ret_tmp rfl hst (List.mem_of_getElem? (i := 1) rfl))
      exact nu (rc_e1 hb0 hb1)
  · refine wp_skip ?_
    refine thn_normal ?_
    refine wp_seq ?_
    refine gl (sts := [none, none]) (news := []) (sp := [.adr 18 2 (.some 1) True, .val 19 _, .adr 20 3 (.some 1) True, .val 21 _, .val 22 _, .val 7 _]) [.g 0, .g 1, .o 5] hst (oc (ob_a rfl rfl (a_fld (lz0 0 rfl) fld_24_1)) (oc (ob_v rfl rfl (r_loadf 0 rfl (by kernel_rfl) trivial (lz0 0 rfl) (Sub.part 1 rfl rfl) ty_22)) (oc (ob_a rfl rfl (a_fld (lz0 1 rfl) fld_24_1)) (oc (ob_v rfl rfl (r_loadf 2 rfl (by kernel_rfl) trivial (lz0 1 rfl) (Sub.part 1 rfl rfl) ty_22)) (oc (ob_v rfl rfl (r_call (xs := [.tmp 19, .tmp 21]) (rcmp_c _ _) (.cons (vq 1 rfl) (.cons (vq 3 rfl) .nil)))) (oc (ob_v rfl rfl (r_assign (vq 4 rfl))) o0)))))) (fun a w hst => ?_)
    have hst : St B w0 28 [(4, _), (5, _), (7, _)] [⟨2, 24, ptrH, _⟩, ⟨3, 24, ptrH, _⟩] a w := hst
    refine thn_normal ?_
    refine wp_seq ?_
    refine wp_seq ?_
    refine gl (sts := [none, none]) (news := []) (sp := [.val 23 _, .val 24 _]) [.g 0, .g 2, .o 1] hst (oc (ob_v rfl rfl (r_move (gq 1 rfl))) (oc (ob_v rfl rfl (r_lss (vq 0 rfl) has_num)) o0)) (fun a w hst => ?_)
    have hst : St B w0 28 [(4, _), (7, _), (24, _)] [⟨2, 24, ptrH, _⟩, ⟨3, 24, ptrH, _⟩] a w := hst
    refine thn_normal ?_
    refine cond_of hst (List.mem_of_getElem? (i := 2) rfl) (fun hb2 => ?_) (fun hb2 => ?_)
    · refine wp_seq ?_
      refine gl (sts := [none, none]) (news := []) (sp := [.val 25 _, .val 26 _, .val 4 _]) [.g 1, .o 2] hst (oc (ob_v rfl rfl (r_move (gq 1 rfl))) (oc (ob_v rfl rfl (r_neg (vq 0 rfl) ((wi64 (by omega) (by omega)).trans (Int.zero_sub _)))) (oc (ob_v rfl rfl (r_assign (vq 1 rfl))) o0))) (fun a w hst => ?_)
      have hst : St B w0 28 [(7, _), (4, _)] [⟨2, 24, ptrH, _⟩, ⟨3, 24, ptrH, _⟩] a w := hst
      refine thn_normal ?_
      refine wp_ret ?_
      refine thn_ret ?_
      refine ret_cast ?_ (ret_tmp rfl hst (List.mem_of_getElem? (i := 1) rfl))
      exact nu (rc_e2 hb0 hb2)
    · refine wp_skip ?_
      refine thn_normal ?_
      refine wp_seq ?_
      refine gl (sts := [none, none]) (news := []) (sp := [.val 27 _, .val 4 _]) [.o 1] hst (oc (ob_v rfl rfl (r_move (gq 1 rfl))) (oc (ob_v rfl rfl (r_assign (vq 0 rfl))) o0)) (fun a w hst => ?_)
      have hst : St B w0 28 [(4, _)] [⟨2, 24, ptrH, _⟩, ⟨3, 24, ptrH, _⟩] a w := hst
      refine thn_normal ?_
      refine wp_ret ?_
      refine ret_cast ?_ (ret_tmp rfl hst (List.mem_of_getElem? (i := 0) rfl))
      exact nu (rc_e3 hb0 hb2)

theorem below_e {p q : Int} : decide (sg3 p q < 0) = decide (p < q) := by
  unfold sg3
  split
  · rename_i h; rw [decide_eq_true h]; rfl
  · rename_i h; rw [decide_eq_false h]; split <;> rfl

set_option maxRecDepth 100000 in
theorem rbelow_c (p q : Int) : Cn Tryz.prog 108 [Zi p, Zi q] (Bo (decide (p < q))) := by
  refine Cn.intro Tryz.func108 rfl (by kernel_rfl) nq (fun B w0 a hst => ?_)
  have hst : St B w0 9 [(0, Zi p), (1, Zi q)] [] a w0.w := hst
  refine wp_seq ?_
  refine gl (sts := []) (news := [⟨2, 24, ptrH, some 0, _, none⟩, ⟨3, 24, ptrH, some 1, _, none⟩]) (sp := [.alc 0, .alc 1, .val 4 _]) [.o 2] hst (oc (ob_box rfl rfl rfl (gq 0 rfl)) (oc (ob_box rfl rfl rfl (gq 1 rfl)) (oc (ob_v rfl rfl (r_assign has_bo)) o0))) (fun a w hst => ?_)
  have hst : St B w0 9 [(4, _)] [⟨2, 24, ptrH, _⟩, ⟨3, 24, ptrH, _⟩] a w := hst
  refine thn_normal ?_
  refine wp_seq ?_
  refine gl (sts := [none, none]) (news := []) (sp := [.val 5 _, .val 6 _, .val 7 _, .val 8 _, .val 4 _]) [.o 4] hst (oc (ob_v rfl rfl (r_load (lz0 0 rfl) ty_24)) (oc (ob_v rfl rfl (r_load (lz0 1 rfl) ty_24)) (oc (ob_v rfl rfl (r_call (xs := [.tmp 5, .tmp 6]) (rcmpZ_c p q) (.cons (vq 0 rfl) (.cons (vq 1 rfl) .nil)))) (oc (ob_v rfl rfl (r_lss (vq 2 rfl) has_num)) (oc (ob_v rfl rfl (r_assign (vq 3 rfl))) o0))))) (fun a w hst => ?_)
  have hst : St B w0 9 [(4, _)] [⟨2, 24, ptrH, _⟩, ⟨3, 24, ptrH, _⟩] a w := hst
  refine thn_normal ?_
  refine wp_ret ?_
  refine ret_cast ?_ (ret_tmp rfl hst (List.mem_of_getElem? (i := 0) rfl))
  exact congrArg Bo below_e

set_option maxRecDepth 100000 in
theorem rof_c (n : Int) (h0 : -9223372036854775808 ≤ n) (h1 : n < 9223372036854775808) : Cn Tryz.prog 109 [In n] (Zi n) := by
  refine Cn.intro Tryz.func109 rfl (by kernel_rfl) nq (fun B w0 a hst => ?_)
  have hst : St B w0 20 [(0, In n)] [] a w0.w := hst
  refine wp_seq ?_
  refine gl (sts := []) (news := [⟨2, 24, ptrH, some 0, _, none⟩]) (sp := [.alc 0]) [.g 0] hst (oc (ob_alc rfl rfl rfl (Str.zero str_int)) o0) (fun a w hst => ?_)
  have hst : St B w0 20 [(0, _)] [⟨2, 24, ptrH, _⟩] a w := hst
  refine thn_normal ?_
  refine wp_seq ?_
  refine gl (sts := [none]) (news := []) (sp := [.val 4 _, .val 5 _, .val 3 _]) [.g 0, .o 2] hst (oc (ob_v rfl rfl (r_move (gq 0 rfl))) (oc (ob_v rfl rfl (r_convk .u64 (by kernel_rfl) (by kernel_rfl) (vq 0 rfl) (rfl))) (oc (ob_v rfl rfl (r_assign (vq 1 rfl))) o0))) (fun a w hst => ?_)
  have hst : St B w0 20 [(0, _), (3, _)] [⟨2, 24, ptrH, _⟩] a w := hst
  refine thn_normal ?_
  refine wp_seq ?_
  refine wp_seq ?_
  refine gl (sts := [none]) (news := []) (sp := [.val 6 _, .val 7 _]) [.g 0, .g 1, .o 1] hst (oc (ob_v rfl rfl (r_move (gq 0 rfl))) (oc (ob_v rfl rfl (r_lss (vq 0 rfl) has_num)) o0)) (fun a w hst => ?_)
  have hst : St B w0 20 [(0, _), (3, _), (7, _)] [⟨2, 24, ptrH, _⟩] a w := hst
  refine thn_normal ?_
  refine cond_join (fun a w =>  St B w0 20 [(0, In n), (3, (NumA .u64 (n.natAbs : Nat)).va)] [⟨2, 24, ptrH, cat [BoA false, MgA []]⟩] a w) hst (List.mem_of_getElem? (i := 2) rfl) (fun hb0 => ?_) (fun hb0 => ?_) (fun a w hst => ?_)
  · refine gl (sts := [none]) (news := []) (sp := [.val 8 _, .val 9 _, .val 3 _]) [.g 0, .o 2] hst (oc (ob_v rfl rfl (r_move (gq 1 rfl))) (oc (ob_v rfl rfl (r_sub (has_nat 0 rfl) (vq 0 rfl) (rfl))) (oc (ob_v rfl rfl (r_assign (vq 1 rfl))) o0))) (fun a w hst => ?_)
    have hst : St B w0 20 [(0, _), (3, _)] [⟨2, 24, ptrH, _⟩] a w := hst
    refine thn_normal ?_
    have hst := St.sel hst [0, 1]
    rw [show IntKind.u64.wrap (((0 : Nat) : Int) - IntKind.u64.wrap n) = _ from of_e0 h0 hb0] at hst; exact hst
  · refine wp_skip ?_
    refine thn_normal ?_
    have hst := St.sel hst [0, 1]
    rw [of_e1 h1 hb0] at hst; exact hst
  refine thn_normal ?_
  refine wp_seq ?_
  refine gl (sts := [some (10, _)]) (news := []) (sp := [.val 10 _, .val 11 _, .val 12 _, .val 13 _, .val 14 _, .val 15 _, .val 16 _, .val 17 _, .val 18 _, .val 19 _, .sto 0]) [] hst (oc (ob_v rfl rfl (r_move (gq 0 rfl))) (oc (ob_v rfl rfl (r_lss (vq 0 rfl) has_num)) (oc (ob_v rfl rfl (r_move (gq 1 rfl))) (oc (ob_v rfl rfl (r_rem (vq 2 rfl) (has_nat 4294967296 rfl) (by decide) (nrem))) (oc (ob_v rfl rfl (r_convk .u32 (by kernel_rfl) (by kernel_rfl) (vq 3 rfl) (wu32 (Nat.mod_lt _ (by decide))))) (oc (ob_v rfl rfl (r_move (gq 1 rfl))) (oc (ob_v rfl rfl (r_quo (vq 5 rfl) (has_nat 4294967296 rfl) (by decide) (nquo (by omega)))) (oc (ob_v rfl rfl (r_convk .u32 (by kernel_rfl) (by kernel_rfl) (vq 6 rfl) (wu32 (by omega)))) (oc (ob_v rfl rfl (r_slicem (l := [_, _]) (xs := [.tmp 14, .tmp 17]) sl_22 (by kernel_rfl) nq nq (of_ok h0 h1) (.cons (vq 4 rfl) (.cons (vq 7 rfl) .nil)) rfl rfl)) (oc (ob_v rfl rfl (r_call (xs := [.tmp 11, .tmp 18]) (rsignedA_c _ _) (.cons (vq 1 rfl) (.cons (vq 8 rfl) .nil)))) (oc (ob_sto rfl rfl rfl (vq 9 rfl) ty_24 (Eq.trans (b := 2) rfl rfl)) o0))))))))))) (fun a w hst => ?_)
  have hst : St B w0 20 [] [⟨2, 24, ptrH, _⟩] a w := hst
  refine thn_normal ?_
  refine wp_ret ?_
  refine ret_cast ?_ (ret_cell rfl hst (List.mem_of_getElem? (i := 0) rfl) ty_24)
  exact of_e2 h0 h1

set_option maxRecDepth 100000 in
theorem rturned_c (p : Int) : Cn Tryz.prog 172 [Zi p] (Zi (-p)) := by
  refine Cn.intro Tryz.func172 rfl (by kernel_rfl) nq (fun B w0 a hst => ?_)
  have hst : St B w0 9 [(0, Zi p)] [] a w0.w := hst
  refine wp_seq ?_
  refine gl (sts := []) (news := [⟨1, 24, ptrH, some 0, _, none⟩, ⟨2, 24, ptrH, some 1, _, none⟩]) (sp := [.alc 0, .alc 1]) [] hst (oc (ob_box rfl rfl rfl (gq 0 rfl)) (oc (ob_alc rfl rfl rfl (Str.zero str_int)) o0)) (fun a w hst => ?_)
  have hst : St B w0 9 [] [⟨1, 24, ptrH, _⟩, ⟨2, 24, ptrH, _⟩] a w := hst
  refine thn_normal ?_
  refine wp_seq ?_
  refine gl (sts := [none, some (6, _)]) (news := []) (sp := [.adr 3 1 (.some 0) True, .val 4 _, .val 5 _, .adr 6 1 (.some 1) True, .val 7 _, .val 8 _, .sto 1]) [] hst (oc (ob_a rfl rfl (a_fld (lz0 0 rfl) fld_24_0)) (oc (ob_v rfl rfl (r_loadf 0 rfl (by kernel_rfl) trivial (lz0 0 rfl) (Sub.part 0 rfl rfl) ty_4)) (oc (ob_v rfl rfl (r_not (vq 1 rfl))) (oc (ob_a rfl rfl (a_fld (lz0 0 rfl) fld_24_1)) (oc (ob_v rfl rfl (r_loadf 3 rfl (by kernel_rfl) trivial (lz0 0 rfl) (Sub.part 1 rfl rfl) ty_22)) (oc (ob_v rfl rfl (r_call (xs := [.tmp 5, .tmp 7]) (rsignedA_c _ _) (.cons (vq 2 rfl) (.cons (vq 4 rfl) .nil)))) (oc (ob_sto rfl rfl rfl (vq 5 rfl) ty_24 (Eq.trans (b := 2) rfl rfl)) o0))))))) (fun a w hst => ?_)
  have hst : St B w0 9 [] [⟨1, 24, ptrH, _⟩, ⟨2, 24, ptrH, _⟩] a w := hst
  refine thn_normal ?_
  refine wp_ret ?_
  refine ret_cast ?_ (ret_cell rfl hst (List.mem_of_getElem? (i := 1) rfl) ty_24)
  exact turn_e

set_option maxRecDepth 100000 in
theorem rsize_c (p : Int) : Cn Tryz.prog 113 [Zi p] (Zi ((p.natAbs : Nat) : Int)) := by
  refine Cn.intro Tryz.func113 rfl (by kernel_rfl) nq (fun B w0 a hst => ?_)
  have hst : St B w0 6 [(0, Zi p)] [] a w0.w := hst
  refine wp_seq ?_
  refine gl (sts := []) (news := [⟨1, 24, ptrH, some 0, _, none⟩, ⟨2, 24, ptrH, some 1, _, none⟩]) (sp := [.alc 0, .alc 1]) [] hst (oc (ob_box rfl rfl rfl (gq 0 rfl)) (oc (ob_alc rfl rfl rfl (Str.zero str_int)) o0)) (fun a w hst => ?_)
  have hst : St B w0 6 [] [⟨1, 24, ptrH, _⟩, ⟨2, 24, ptrH, _⟩] a w := hst
  refine thn_normal ?_
  refine wp_seq ?_
  refine gl (sts := [none, some (3, _)]) (news := []) (sp := [.adr 3 1 (.some 1) True, .val 4 _, .val 5 _, .sto 1]) [] hst (oc (ob_a rfl rfl (a_fld (lz0 0 rfl) fld_24_1)) (oc (ob_v rfl rfl (r_loadf 0 rfl (by kernel_rfl) trivial (lz0 0 rfl) (Sub.part 1 rfl rfl) ty_22)) (oc (ob_v rfl rfl (r_call (xs := [.const (.bool false), .tmp 4]) (rsignedA_c _ _) (.cons has_bo (.cons (vq 1 rfl) .nil)))) (oc (ob_sto rfl rfl rfl (vq 2 rfl) ty_24 (Eq.trans (b := 2) rfl rfl)) o0)))) (fun a w hst => ?_)
  have hst : St B w0 6 [] [⟨1, 24, ptrH, _⟩, ⟨2, 24, ptrH, _⟩] a w := hst
  refine thn_normal ?_
  refine wp_ret ?_
  refine ret_cast ?_ (ret_cell rfl hst (List.mem_of_getElem? (i := 1) rfl) ty_24)
  exact size_e

end Go.Proofs.YtmghfjcjcfaagaaGreat
