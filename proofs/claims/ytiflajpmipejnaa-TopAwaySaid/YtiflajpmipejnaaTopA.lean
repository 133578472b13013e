/- Contracts of period.Order; helpers of the laws through the layers: of, third, known14. -/
import Derived.Test.YtiflajpmipejnaaOrbK
import Derived.Test.YtiflajpmipejnaaCavA
namespace Go.Proofs.Ytiflajpmipejnaa
open Go Go.RowKit
namespace TopA
theorem fld_29_0 : Fld Try.prog 29 0 0 2 := ⟨_, _, Try.underlying29, rfl, rfl, by kernel_rfl, by decide⟩
theorem fld_29_1 : Fld Try.prog 29 1 2 2 := ⟨_, _, Try.underlying29, rfl, rfl, by kernel_rfl, by decide⟩
theorem fld_32_0 : Fld Try.prog 32 0 0 4 := ⟨_, _, Try.underlying32, rfl, rfl, by kernel_rfl, by decide⟩
theorem fld_32_1 : Fld Try.prog 32 1 4 4 := ⟨_, _, Try.underlying32, rfl, rfl, by kernel_rfl, by decide⟩
theorem fld_32_2 : Fld Try.prog 32 2 8 4 := ⟨_, _, Try.underlying32, rfl, rfl, by kernel_rfl, by decide⟩
theorem fld_32_3 : Fld Try.prog 32 3 12 4 := ⟨_, _, Try.underlying32, rfl, rfl, by kernel_rfl, by decide⟩
theorem ty_27 : Ty Try.prog 27 2 true := ⟨by kernel_rfl, by kernel_rfl⟩
theorem ty_29 : Ty Try.prog 29 4 true := ⟨by kernel_rfl, by kernel_rfl⟩
theorem ty_32 : Ty Try.prog 32 16 true := ⟨by kernel_rfl, by kernel_rfl⟩
end TopA
open TopA
def trI (q : Rat) : Int × Bool := if q.den = 1 ∧ -2 ≤ q.num ∧ q.num ≤ 2 then (q.num, true) else (0, false)
def plQ (m : MQ) : Bool := ((m.b.num.sign == 0) && (m.c.num.sign == 0)) && (cmQ m.a m.d == 0)
def orQ (m : MQ) : Int := if (!(trI (m.a + m.d)).2) || ((((trI (m.a + m.d)).1 == 2) || ((trI (m.a + m.d)).1 == -2)) && (!plQ m)) then 0 else if (trI (m.a + m.d)).1 == 2 then 1 else if (trI (m.a + m.d)).1 == -2 then 2 else if (trI (m.a + m.d)).1 == -1 then 3 else if (trI (m.a + m.d)).1 == 0 then 4 else 6
def orF (m : RM) : Int × Int := if okM m then (orQ (toM m), 0) else (0, 1)
theorem sg3_0 {p q : Int} : (sg3 p q == 0) = true ↔ p = q := by
  rw [beq_iff_eq]
  unfold sg3
  split
  · constructor <;> intro h <;> omega
  · split <;> constructor <;> intro h <;> omega
theorem tr_yes {q : Rat} {k : Int} (h : ((sg3 (q.den : Int) 1 == 0) && (sg3 q.num k == 0)) = true) (h1 : -2 ≤ k) (h2 : k ≤ 2) : trI q = (k, true) := by
  rw [Bool.and_eq_true, sg3_0, sg3_0] at h
  obtain ⟨h3, h4⟩ := h
  rw [trI, if_pos ⟨by omega, by omega, by omega⟩, h4]
theorem tr_no {q : Rat} {j : Nat} (h : ((sg3 (q.den : Int) 1 == 0) && (sg3 q.num ((j : Int) - 2) == 0)) = false) (ha : ∀ i : Nat, i < j → ¬ (q.den = 1 ∧ q.num = (i : Int) - 2)) : ∀ i : Nat, i < j + 1 → ¬ (q.den = 1 ∧ q.num = (i : Int) - 2) := fun i hi hq => by
  by_cases e : i = j
  · subst e
    have h2 : ((sg3 (q.den : Int) 1 == 0) && (sg3 q.num ((i : Int) - 2) == 0)) = true := by
      rw [Bool.and_eq_true, sg3_0, sg3_0]
      exact ⟨by omega, hq.2⟩
    rw [h2] at h
    cases h
  · exact ha i (by omega) hq
theorem tr_out {q : Rat} (ha : ∀ i : Nat, i < 5 → ¬ (q.den = 1 ∧ q.num = (i : Int) - 2)) : trI q = (0, false) := by
  rw [trI, if_neg]
  rintro ⟨h1, h2, h3⟩
  exact ha (q.num + 2).toNat (by omega) ⟨h1, by omega⟩

set_option maxRecDepth 100000 in
theorem perTrace_q {m : MQ} : Cn Try.prog 97 [(QMA 2048 m).va] (Tu [In (trI (m.a + m.d)).1, Bo (trI (m.a + m.d)).2]) := by
  refine Cn.intro Try.func97 rfl (by kernel_rfl) nq (fun B w0 a hst => ?_)
  have hst : St B w0 29 [(0, (QMA 2048 m).va)] [] a w0.w := hst
  refine wp_seq ?_
  refine gl (sts := []) (news := [⟨1, 32, ptrH, some 0, _, none⟩]) (sp := [.alc 0, .val 2 _, .val 3 _]) [.o 1, .o 2] hst (oc (ob_box rfl rfl rfl (gq 0 rfl)) (oc (ob_v rfl rfl (r_assign has_num)) (oc (ob_v rfl rfl (r_assign has_bo)) o0))) (fun a w hst => ?_)
  have hst : St B w0 29 [(2, _), (3, _)] [⟨1, 32, ptrH, _⟩] a w := hst
  refine thn_normal ?_
  refine wp_seq ?_
  refine gl (sts := [none]) (news := [⟨4, 29, ptrH, some 5, _, some (6, _)⟩]) (sp := [.adr 6 1 (.some 0) True, .val 7 _, .adr 8 1 (.some 12) True, .val 9 _, .val 10 _, .alc 1, .sto 1]) [.g 0, .g 1] hst (oc (ob_a rfl rfl (a_fld (lz0 0 rfl) fld_32_0)) (oc (ob_v rfl rfl (r_loadf 0 rfl (by kernel_rfl) trivial (lz0 0 rfl) (Sub.part 0 rfl rfl) ty_29)) (oc (ob_a rfl rfl (a_fld (lz0 0 rfl) fld_32_3)) (oc (ob_v rfl rfl (r_loadf 2 rfl (by kernel_rfl) trivial (lz0 0 rfl) (Sub.part 3 rfl rfl) ty_29)) (oc (ob_v rfl rfl (r_call (xs := [.tmp 7, .tmp 9]) (plus_q (by omega)) (.cons (vq 1 rfl) (.cons (vq 3 rfl) .nil)))) (oc (ob_alc rfl rfl rfl (Str.zero str_frac)) (oc (ob_sto rfl rfl rfl (vq 4 rfl) ty_29 (Eq.trans (b := 4) rfl rfl)) o0))))))) (fun a w hst => ?_)
  have hst : St B w0 29 [(2, _), (3, _)] [⟨1, 32, ptrH, _⟩, ⟨4, 29, ptrH, _⟩] a w := hst
  refine thn_normal ?_
  refine wp_seq ?_
  refine wp_seq ?_
  refine gl (sts := [none, none]) (news := []) (sp := [.val 5 _]) [.g 0, .g 1, .o 0] hst (oc (ob_v rfl rfl (r_assign has_num)) o0) (fun a w hst => ?_)
  have hst : St B w0 29 [(2, _), (3, _), (5, _)] [⟨1, 32, ptrH, _⟩, ⟨4, 29, ptrH, _⟩] a w := hst
  refine thn_normal ?_
  refine wp_block ?_
  have hst := St.sel hst [2]
  refine wp_loop_ghost (fun n a w => ∃ j : Nat, (n + j = 5 ∧ ∀ i : Nat, i < j → ¬ ((m.a + m.d).den = 1 ∧ (m.a + m.d).num = (i : Int) - 2)) ∧ St B w0 29 [(5, In ((j : Int) - 2))] [⟨1, 32, ptrH, QMA 2048 m⟩, ⟨4, 29, ptrH, QA (2048 + 2048 + 1) (m.a + m.d)⟩] a w) (5) ?_ ?_
  · exact ⟨0, ⟨rfl, fun i hi => absurd hi (Nat.not_lt_zero _)⟩, hst⟩
  intro n a w hI
  obtain ⟨j, ⟨hn, hall⟩, hst⟩ := hI
  refine wp_seq ?_
  refine wp_seq ?_
  refine gl (sts := [none, none]) (news := []) (sp := [.val 11 _, .val 12 _]) [.g 0, .o 1] hst (oc (ob_v rfl rfl (r_move (gq 0 rfl))) (oc (ob_v rfl rfl (r_leq (vq 0 rfl) has_num)) o0)) (fun a w hst => ?_)
  have hst : St B w0 29 [(5, _), (12, _)] [⟨1, 32, ptrH, _⟩, ⟨4, 29, ptrH, _⟩] a w := hst
  refine thn_normal ?_
  refine cond_of hst (List.mem_of_getElem? (i := 1) rfl) (fun hb0 => ?_) (fun hb0 => ?_)
  · have hj : j < 5 := by have := of_decide_eq_true hb0; omega
    refine wp_skip ?_
    refine thn_normal ?_
    refine wp_seq ?_
    refine wp_block ?_
    refine wp_seq ?_
    refine go_draw (anc := [[], [0], [], [0, 1, 2], [0, 1, 2, 3], [0, 1, 2, 3, 4], [0, 1, 2, 3, 4, 5], [0, 1, 2, 3, 4, 5, 6], [0, 1, 2, 3, 4, 5], [0, 1, 2, 3, 4, 5, 8], [0, 1, 2, 3, 4, 5, 6, 7, 8, 9], [0, 1, 2, 3, 4, 5, 6, 7, 8, 9, 10], [0, 1, 2, 3, 4, 5, 6, 7, 8, 9, 10, 11]]) (sts := [none, none]) (news := []) (sp := [.adr 15 4 (.some 2) True, .val 16 _, .val 17 _, .val 18 _, .val 19 _, .val 20 _, .adr 21 4 (.some 0) (_ = true), .val 22 (Wh (_ = true) _), .val 23 (Wh (_ = true) _), .val 24 (Wh (_ = true) _), .val 25 (Wh (_ = true) _), .val 26 (Wh (_ = true) _), .val 27 _]) [.g 0, .o 12] follows_mixed hst (oc (ob_a rfl rfl (a_fld (lz0 1 rfl) fld_29_1)) (oc (ob_v rfl rfl (r_loadf 0 rfl (by kernel_rfl) trivial (lz0 1 rfl) (Sub.part 1 rfl rfl) ty_27)) (oc (ob_v rfl rfl (r_call (xs := [.const (.int .i64 (1))]) (of_z (by decide) (by decide)) (.cons has_num .nil))) (oc (ob_v rfl rfl (r_call (xs := [.tmp 16, .tmp 17]) (cmp_z (by omega) (by omega)) (.cons (vq 1 rfl) (.cons (vq 2 rfl) .nil)))) (oc (ob_v rfl rfl (r_eql (vq 3 rfl) has_num)) (oc (ob_v rfl rfl (r_move (vq 4 rfl))) (oc (ob_ag rfl rfl rfl (vq 5 rfl) nq (fun hg => a_fld (lz0 1 rfl) fld_29_0)) (oc (ob_gd rfl rfl rfl (vq 5 rfl) nq (fun hg => r_loadf 6 rfl (by kernel_rfl) hg (lz0 1 rfl) (Sub.part 0 rfl rfl) ty_27)) (oc (ob_gd rfl rfl rfl (vq 5 rfl) nq (fun hg => r_move (gq 0 rfl))) (oc (ob_gd rfl rfl rfl (vq 5 rfl) nq (fun hg => r_call (xs := [.tmp 23]) (of_z (by omega) (by omega)) (.cons (has_wh (vq 8 rfl) hg) .nil))) (oc (ob_gd rfl rfl rfl (vq 5 rfl) nq (fun hg => r_call (xs := [.tmp 22, .tmp 24]) (cmp_z (by omega) (by omega)) (.cons (has_wh (vq 7 rfl) hg) (.cons (has_wh (vq 9 rfl) hg) .nil)))) (oc (ob_gd rfl rfl rfl (vq 5 rfl) nq (fun hg => r_eql (has_wh (vq 10 rfl) hg) has_num)) (oc (ob_v rfl rfl (r_and (vq 5 rfl) (vq 11 rfl))) o0))))))))))))) (by kernel_rfl) (by kernel_rfl) (by kernel_rfl) (by kernel_rfl) (fun a w hst => ?_)
    have hst : St B w0 29 [(5, _), (27, _)] [⟨1, 32, ptrH, _⟩, ⟨4, 29, ptrH, _⟩] a w := hst
    refine thn_normal ?_
    refine cond_of hst (List.mem_of_getElem? (i := 1) rfl) (fun hb1 => ?_) (fun hb1 => ?_)
    · have hq := tr_yes hb1 (by omega) (by omega)
      refine wp_seq ?_
      refine gl (sts := [none, none]) (news := []) (sp := [.val 28 _, .val 2 _, .val 3 _]) [.g 0, .o 1, .o 2] hst (oc (ob_v rfl rfl (r_move (gq 0 rfl))) (oc (ob_v rfl rfl (r_assign (vq 0 rfl))) (oc (ob_v rfl rfl (r_assign has_bo)) o0))) (fun a w hst => ?_)
      have hst : St B w0 29 [(5, _), (2, _), (3, _)] [⟨1, 32, ptrH, _⟩, ⟨4, 29, ptrH, _⟩] a w := hst
      refine thn_normal ?_
      refine wp_ret ?_
      refine blk_ret ?_
      refine thn_ret ?_
      refine thn_ret ?_
      refine blk_ret ?_
      refine thn_ret ?_
      refine ret_wk ?_ (ret_many (rs := [.tmp 2, .tmp 3]) rfl hst (.tmp (List.mem_of_getElem? (i := 1) rfl) (.tmp (List.mem_of_getElem? (i := 2) rfl) .nil)) (by decide))
      rw [hq]; exact wk_id
    · have hall2 := tr_no hb1 hall
      refine wp_skip ?_
      refine blk_normal ?_
      refine thn_normal ?_
      refine gl (sts := [none, none]) (news := []) (sp := [.val 13 _, .val 14 _, .val 5 _]) [.o 2] hst (oc (ob_v rfl rfl (r_move (gq 0 rfl))) (oc (ob_v rfl rfl (r_add (vq 0 rfl) has_num ((wi64 (by omega) (by omega)).trans (by omega : (_ : Int) = ((j + 1 : Nat) : Int) - 2)))) (oc (ob_v rfl rfl (r_assign (vq 1 rfl))) o0))) (fun a w hst => ?_)
      have hst : St B w0 29 [(5, _)] [⟨1, 32, ptrH, _⟩, ⟨4, 29, ptrH, _⟩] a w := hst
      refine thn_normal ?_
      have hst := St.sel hst [0]
      exact ⟨4 - j, by omega, j + 1, ⟨by omega, hall2⟩, hst⟩
  · obtain rfl : j = 5 := by have := of_decide_eq_false hb0; omega
    refine wp_exit ?_
    refine thn_exit ?_
    refine thn_exit ?_
    refine blk_exit ?_
    refine thn_normal ?_
    refine wp_seq ?_
    refine gl (sts := [none, none]) (news := []) (sp := [.val 2 _, .val 3 _]) [.o 0, .o 1] hst (oc (ob_v rfl rfl (r_assign has_num)) (oc (ob_v rfl rfl (r_assign has_bo)) o0)) (fun a w hst => ?_)
    have hst : St B w0 29 [(2, _), (3, _)] [⟨1, 32, ptrH, _⟩, ⟨4, 29, ptrH, _⟩] a w := hst
    refine thn_normal ?_
    refine wp_ret ?_
    refine ret_wk ?_ (ret_many (rs := [.tmp 2, .tmp 3]) rfl hst (.tmp (List.mem_of_getElem? (i := 0) rfl) (.tmp (List.mem_of_getElem? (i := 1) rfl) .nil)) (by decide))
    rw [tr_out hall]; exact wk_id

set_option maxRecDepth 100000 in
theorem perPlain_q {m : MQ} : Cn Try.prog 98 [(QMA 2048 m).va] (Bo (plQ m)) := by
  refine Cn.intro Try.func98 rfl (by kernel_rfl) nq (fun B w0 a hst => ?_)
  have hst : St B w0 21 [(0, (QMA 2048 m).va)] [] a w0.w := hst
  refine wp_seq ?_
  refine gl (sts := []) (news := [⟨1, 32, ptrH, some 0, _, none⟩]) (sp := [.alc 0, .val 2 _]) [.o 1] hst (oc (ob_box rfl rfl rfl (gq 0 rfl)) (oc (ob_v rfl rfl (r_assign has_bo)) o0)) (fun a w hst => ?_)
  have hst : St B w0 21 [(2, _)] [⟨1, 32, ptrH, _⟩] a w := hst
  refine thn_normal ?_
  refine wp_seq ?_
  refine gl (sts := [none]) (news := []) (sp := [.adr 3 1 (.some 4) True, .val 4 _, .val 5 _, .val 6 _, .val 7 _, .adr 8 1 (.some 8) (_ = true), .val 9 (Wh (_ = true) _), .val 10 (Wh (_ = true) _), .val 11 (Wh (_ = true) _), .val 12 _, .val 13 _, .adr 14 1 (.some 0) (_ = true), .val 15 (Wh (_ = true) _), .adr 16 1 (.some 12) (_ = true), .val 17 (Wh (_ = true) _), .val 18 (Wh (_ = true) _), .val 19 (Wh (_ = true) _), .val 20 _, .val 2 _]) [.o 18] hst (oc (ob_a rfl rfl (a_fld (lz0 0 rfl) fld_32_1)) (oc (ob_v rfl rfl (r_loadf 0 rfl (by kernel_rfl) trivial (lz0 0 rfl) (Sub.part 1 rfl rfl) ty_29)) (oc (ob_v rfl rfl (r_call (xs := [.tmp 4]) sign_q (.cons (vq 1 rfl) .nil))) (oc (ob_v rfl rfl (r_eql (vq 2 rfl) has_num)) (oc (ob_v rfl rfl (r_move (vq 3 rfl))) (oc (ob_ag rfl rfl rfl (vq 4 rfl) nq (fun hg => a_fld (lz0 0 rfl) fld_32_2)) (oc (ob_gd rfl rfl rfl (vq 4 rfl) nq (fun hg => r_loadf 5 rfl (by kernel_rfl) hg (lz0 0 rfl) (Sub.part 2 rfl rfl) ty_29)) (oc (ob_gd rfl rfl rfl (vq 4 rfl) nq (fun hg => r_call (xs := [.tmp 9]) sign_q (.cons (has_wh (vq 6 rfl) hg) .nil))) (oc (ob_gd rfl rfl rfl (vq 4 rfl) nq (fun hg => r_eql (has_wh (vq 7 rfl) hg) has_num)) (oc (ob_v rfl rfl (r_and (vq 4 rfl) (vq 8 rfl))) (oc (ob_v rfl rfl (r_move (vq 9 rfl))) (oc (ob_ag rfl rfl rfl (vq 10 rfl) nq (fun hg => a_fld (lz0 0 rfl) fld_32_0)) (oc (ob_gd rfl rfl rfl (vq 10 rfl) nq (fun hg => r_loadf 11 rfl (by kernel_rfl) hg (lz0 0 rfl) (Sub.part 0 rfl rfl) ty_29)) (oc (ob_ag rfl rfl rfl (vq 10 rfl) nq (fun hg => a_fld (lz0 0 rfl) fld_32_3)) (oc (ob_gd rfl rfl rfl (vq 10 rfl) nq (fun hg => r_loadf 13 rfl (by kernel_rfl) hg (lz0 0 rfl) (Sub.part 3 rfl rfl) ty_29)) (oc (ob_gd rfl rfl rfl (vq 10 rfl) nq (fun hg => r_call (xs := [.tmp 15, .tmp 17]) (cmp_q (by omega)) (.cons (has_wh (vq 12 rfl) hg) (.cons (has_wh (vq 14 rfl) hg) .nil)))) (oc (ob_gd rfl rfl rfl (vq 10 rfl) nq (fun hg => r_eql (has_wh (vq 15 rfl) hg) has_num)) (oc (ob_v rfl rfl (r_and (vq 10 rfl) (vq 16 rfl))) (oc (ob_v rfl rfl (r_assign (vq 17 rfl))) o0))))))))))))))))))) (fun a w hst => ?_)
  have hst : St B w0 21 [(2, _)] [⟨1, 32, ptrH, _⟩] a w := hst
  refine thn_normal ?_
  refine wp_ret ?_
  refine ret_wk ?_ (ret_tmp rfl hst (List.mem_of_getElem? (i := 0) rfl))
  exact wk_id

set_option maxRecDepth 100000 in
theorem perOrder_q {m : MQ} : Cn Try.prog 71 [(QMA 2048 m).va] (In (orQ m)) := by
  refine Cn.intro Try.func71 rfl (by kernel_rfl) nq (fun B w0 a hst => ?_)
  have hst : St B w0 38 [(0, (QMA 2048 m).va)] [] a w0.w := hst
  refine wp_seq ?_
  refine gl (sts := []) (news := [⟨1, 32, ptrH, some 0, _, none⟩]) (sp := [.alc 0, .val 2 _]) [.o 1] hst (oc (ob_box rfl rfl rfl (gq 0 rfl)) (oc (ob_v rfl rfl (r_assign has_num)) o0)) (fun a w hst => ?_)
  have hst : St B w0 38 [(2, _)] [⟨1, 32, ptrH, _⟩] a w := hst
  refine thn_normal ?_
  refine wp_seq ?_
  refine gl (sts := [none]) (news := []) (sp := [.val 6 _, .val 7 _, .val 5 _, .val 8 _, .val 9 _, .val 3 _, .val 4 _]) [.g 0, .o 5, .o 6] hst (oc (ob_v rfl rfl (r_load (lz0 0 rfl) ty_32)) (oc (ob_v rfl rfl (r_call (xs := [.tmp 6]) (perTrace_q (m := m)) (.cons (vq 0 rfl) .nil))) (oc (ob_v rfl rfl (r_move (vq 1 rfl))) (oc (ob_v rfl rfl (r_ex0 (vq 2 rfl))) (oc (ob_v rfl rfl (r_ex1 (vq 2 rfl))) (oc (ob_v rfl rfl (r_assign (vq 3 rfl))) (oc (ob_v rfl rfl (r_assign (vq 4 rfl))) o0))))))) (fun a w hst => ?_)
  have hst : St B w0 38 [(2, _), (3, _), (4, _)] [⟨1, 32, ptrH, _⟩] a w := hst
  refine thn_normal ?_
  refine wp_seq ?_
  refine wp_block ?_
  refine wp_seq ?_
  refine gl (sts := [none]) (news := []) (sp := [.val 11 _, .val 12 _, .val 13 _, .val 14 (Wh (_ = false) _), .val 15 (Wh (_ = false) _), .val 16 (Wh (_ = false) _), .val 17 (Wh ((_ = false) ∧ _ = false) _), .val 18 (Wh ((_ = false) ∧ _ = false) _), .val 19 (Wh (_ = false) _), .val 20 (Wh (_ = false) _), .val 21 (Wh ((_ = false) ∧ _ = true) _), .val 22 (Wh ((_ = false) ∧ _ = true) _), .val 23 (Wh ((_ = false) ∧ _ = true) _), .val 24 (Wh (_ = false) _), .val 25 _, .val 10 _]) [.g 0, .g 1, .o 15] hst (oc (ob_v rfl rfl (r_move (gq 2 rfl))) (oc (ob_v rfl rfl (r_not (vq 0 rfl))) (oc (ob_v rfl rfl (r_move (vq 1 rfl))) (oc (ob_gd rfl rfl rfl (vq 2 rfl) nq (fun hg => r_move (gq 1 rfl))) (oc (ob_gd rfl rfl rfl (vq 2 rfl) nq (fun hg => r_eql (has_wh (vq 3 rfl) hg) has_num)) (oc (ob_gd rfl rfl rfl (vq 2 rfl) nq (fun hg => r_move (has_wh (vq 4 rfl) hg))) (oc (ob_gd2 rfl rfl rfl (vq 5 rfl) nq (fun hg => r_move (gq 1 rfl))) (oc (ob_gd2 rfl rfl rfl (vq 5 rfl) nq (fun hg => r_eql (has_wh (vq 6 rfl) hg) has_num)) (oc (ob_gd rfl rfl rfl (vq 2 rfl) nq (fun hg => r_or (has_wh (vq 5 rfl) hg) (has_wh2 (vq 7 rfl) hg))) (oc (ob_gd rfl rfl rfl (vq 2 rfl) nq (fun hg => r_move (has_wh (vq 8 rfl) hg))) (oc (ob_gd2 rfl rfl rfl (vq 9 rfl) nq (fun hg => r_load (lz0 0 rfl) ty_32)) (oc (ob_gd2 rfl rfl rfl (vq 9 rfl) nq (fun hg => r_call (xs := [.tmp 21]) (perPlain_q (m := m)) (.cons (has_wh (vq 10 rfl) hg) .nil))) (oc (ob_gd2 rfl rfl rfl (vq 9 rfl) nq (fun hg => r_not (has_wh (vq 11 rfl) hg))) (oc (ob_gd rfl rfl rfl (vq 2 rfl) nq (fun hg => r_and (has_wh (vq 9 rfl) hg) (has_wh2 (vq 12 rfl) hg))) (oc (ob_v rfl rfl (r_or (vq 2 rfl) (vq 13 rfl))) (oc (ob_v rfl rfl (r_assign (vq 14 rfl))) o0)))))))))))))))) (fun a w hst => ?_)
  have hst : St B w0 38 [(2, _), (3, _), (10, _)] [⟨1, 32, ptrH, _⟩] a w := hst
  refine thn_normal ?_
  refine cond_of hst (List.mem_of_getElem? (i := 2) rfl) (fun hb0 => ?_) (fun hb0 => ?_)
  · refine wp_seq ?_
    refine gl (sts := [none]) (news := []) (sp := [.val 2 _]) [.o 0] hst (oc (ob_v rfl rfl (r_assign has_num)) o0) (fun a w hst => ?_)
    have hst : St B w0 38 [(2, _)] [⟨1, 32, ptrH, _⟩] a w := hst
    refine thn_normal ?_
    refine wp_ret ?_
    refine blk_ret ?_
    refine thn_ret ?_
    refine ret_wk ?_ (ret_tmp rfl hst (List.mem_of_getElem? (i := 0) rfl))
    rw [orQ, if_pos hb0]; exact wk_id
  · refine wp_seq ?_
    refine gl (sts := [none]) (news := []) (sp := [.val 27 _, .val 28 _, .val 26 _]) [.g 0, .g 1, .o 2] hst (oc (ob_v rfl rfl (r_move (gq 1 rfl))) (oc (ob_v rfl rfl (r_eql (vq 0 rfl) has_num)) (oc (ob_v rfl rfl (r_assign (vq 1 rfl))) o0))) (fun a w hst => ?_)
    have hst : St B w0 38 [(2, _), (3, _), (26, _)] [⟨1, 32, ptrH, _⟩] a w := hst
    refine thn_normal ?_
    refine cond_of hst (List.mem_of_getElem? (i := 2) rfl) (fun hb1 => ?_) (fun hb1 => ?_)
    · refine wp_seq ?_
      refine gl (sts := [none]) (news := []) (sp := [.val 2 _]) [.o 0] hst (oc (ob_v rfl rfl (r_assign has_num)) o0) (fun a w hst => ?_)
      have hst : St B w0 38 [(2, _)] [⟨1, 32, ptrH, _⟩] a w := hst
      refine thn_normal ?_
      refine wp_ret ?_
      refine blk_ret ?_
      refine thn_ret ?_
      refine ret_wk ?_ (ret_tmp rfl hst (List.mem_of_getElem? (i := 0) rfl))
      rw [orQ, if_neg (by rw [hb0]; decide), if_pos hb1]; exact wk_id
    · refine wp_seq ?_
      refine gl (sts := [none]) (news := []) (sp := [.val 30 _, .val 31 _, .val 29 _]) [.g 0, .g 1, .o 2] hst (oc (ob_v rfl rfl (r_move (gq 1 rfl))) (oc (ob_v rfl rfl (r_eql (vq 0 rfl) has_num)) (oc (ob_v rfl rfl (r_assign (vq 1 rfl))) o0))) (fun a w hst => ?_)
      have hst : St B w0 38 [(2, _), (3, _), (29, _)] [⟨1, 32, ptrH, _⟩] a w := hst
      refine thn_normal ?_
      refine cond_of hst (List.mem_of_getElem? (i := 2) rfl) (fun hb2 => ?_) (fun hb2 => ?_)
      · refine wp_seq ?_
        refine gl (sts := [none]) (news := []) (sp := [.val 2 _]) [.o 0] hst (oc (ob_v rfl rfl (r_assign has_num)) o0) (fun a w hst => ?_)
        have hst : St B w0 38 [(2, _)] [⟨1, 32, ptrH, _⟩] a w := hst
        refine thn_normal ?_
        refine wp_ret ?_
        refine blk_ret ?_
        refine thn_ret ?_
        refine ret_wk ?_ (ret_tmp rfl hst (List.mem_of_getElem? (i := 0) rfl))
        rw [orQ, if_neg (by rw [hb0]; decide), if_neg (by rw [hb1]; decide), if_pos hb2]; exact wk_id
      · refine wp_seq ?_
        refine gl (sts := [none]) (news := []) (sp := [.val 33 _, .val 34 _, .val 32 _]) [.g 0, .g 1, .o 2] hst (oc (ob_v rfl rfl (r_move (gq 1 rfl))) (oc (ob_v rfl rfl (r_eql (vq 0 rfl) has_num)) (oc (ob_v rfl rfl (r_assign (vq 1 rfl))) o0))) (fun a w hst => ?_)
        have hst : St B w0 38 [(2, _), (3, _), (32, _)] [⟨1, 32, ptrH, _⟩] a w := hst
        refine thn_normal ?_
        refine cond_of hst (List.mem_of_getElem? (i := 2) rfl) (fun hb3 => ?_) (fun hb3 => ?_)
        · refine wp_seq ?_
          refine gl (sts := [none]) (news := []) (sp := [.val 2 _]) [.o 0] hst (oc (ob_v rfl rfl (r_assign has_num)) o0) (fun a w hst => ?_)
          have hst : St B w0 38 [(2, _)] [⟨1, 32, ptrH, _⟩] a w := hst
          refine thn_normal ?_
          refine wp_ret ?_
          refine blk_ret ?_
          refine thn_ret ?_
          refine ret_wk ?_ (ret_tmp rfl hst (List.mem_of_getElem? (i := 0) rfl))
          rw [orQ, if_neg (by rw [hb0]; decide), if_neg (by rw [hb1]; decide), if_neg (by rw [hb2]; decide), if_pos hb3]; exact wk_id
        · refine wp_seq ?_
          refine gl (sts := [none]) (news := []) (sp := [.val 36 _, .val 37 _, .val 35 _]) [.g 0, .o 2] hst (oc (ob_v rfl rfl (r_move (gq 1 rfl))) (oc (ob_v rfl rfl (r_eql (vq 0 rfl) has_num)) (oc (ob_v rfl rfl (r_assign (vq 1 rfl))) o0))) (fun a w hst => ?_)
          have hst : St B w0 38 [(2, _), (35, _)] [⟨1, 32, ptrH, _⟩] a w := hst
          refine thn_normal ?_
          refine cond_of hst (List.mem_of_getElem? (i := 1) rfl) (fun hb4 => ?_) (fun hb4 => ?_)
          · refine wp_seq ?_
            refine gl (sts := [none]) (news := []) (sp := [.val 2 _]) [.o 0] hst (oc (ob_v rfl rfl (r_assign has_num)) o0) (fun a w hst => ?_)
            have hst : St B w0 38 [(2, _)] [⟨1, 32, ptrH, _⟩] a w := hst
            refine thn_normal ?_
            refine wp_ret ?_
            refine blk_ret ?_
            refine thn_ret ?_
            refine ret_wk ?_ (ret_tmp rfl hst (List.mem_of_getElem? (i := 0) rfl))
            rw [orQ, if_neg (by rw [hb0]; decide), if_neg (by rw [hb1]; decide), if_neg (by rw [hb2]; decide), if_neg (by rw [hb3]; decide), if_pos hb4]; exact wk_id
          · refine wp_skip ?_
            refine blk_normal ?_
            refine thn_normal ?_
            refine wp_seq ?_
            refine gl (sts := [none]) (news := []) (sp := [.val 2 _]) [.o 0] hst (oc (ob_v rfl rfl (r_assign has_num)) o0) (fun a w hst => ?_)
            have hst : St B w0 38 [(2, _)] [⟨1, 32, ptrH, _⟩] a w := hst
            refine thn_normal ?_
            refine wp_ret ?_
            refine ret_wk ?_ (ret_tmp rfl hst (List.mem_of_getElem? (i := 0) rfl))
            rw [orQ, if_neg (by rw [hb0]; decide), if_neg (by rw [hb1]; decide), if_neg (by rw [hb2]; decide), if_neg (by rw [hb3]; decide), if_neg (by rw [hb4]; decide)]; exact wk_id

set_option maxRecDepth 100000 in
theorem order_c (m : RM) : Cn Try.prog 33 [(RMA m).va] (Tu [In (orF m).1, In (orF m).2]) := by
  refine Cn.intro Try.func33 rfl (by kernel_rfl) nq (fun B w0 a hst => ?_)
  have hst : St B w0 9 [(0, (RMA m).va)] [] a w0.w := hst
  refine wp_seq ?_
  refine gl (sts := []) (news := [⟨1, 32, ptrH, some 0, _, none⟩]) (sp := [.alc 0, .val 2 _, .val 3 _]) [.o 1, .o 2] hst (oc (ob_box rfl rfl rfl (gq 0 rfl)) (oc (ob_v rfl rfl (r_assign has_num)) (oc (ob_v rfl rfl (r_assign has_num)) o0))) (fun a w hst => ?_)
  have hst : St B w0 9 [(2, _), (3, _)] [⟨1, 32, ptrH, _⟩] a w := hst
  refine thn_normal ?_
  refine wp_seq ?_
  refine wp_seq ?_
  refine gl (sts := [none]) (news := []) (sp := [.val 4 _, .val 5 _, .val 6 _]) [.g 0, .g 1, .o 2] hst (oc (ob_v rfl rfl (r_load (lz0 0 rfl) ty_32)) (oc (ob_v rfl rfl (r_call (xs := [.tmp 4]) (rayCheck_c m) (.cons (vq 0 rfl) .nil))) (oc (ob_v rfl rfl (r_neq (vq 1 rfl) has_num)) o0))) (fun a w hst => ?_)
  have hst : St B w0 9 [(2, _), (3, _), (6, _)] [⟨1, 32, ptrH, _⟩] a w := hst
  refine thn_normal ?_
  refine cond_of hst (List.mem_of_getElem? (i := 2) rfl) (fun hb0 => ?_) (fun hb0 => ?_)
  · have hok : ¬ okM m = true := fun e => by rw [if_pos e] at hb0; simp at hb0
    refine wp_seq ?_
    refine gl (sts := [none]) (news := []) (sp := [.val 2 _, .val 3 _]) [.o 0, .o 1] hst (oc (ob_v rfl rfl (r_assign has_num)) (oc (ob_v rfl rfl (r_assign has_num)) o0)) (fun a w hst => ?_)
    have hst : St B w0 9 [(2, _), (3, _)] [⟨1, 32, ptrH, _⟩] a w := hst
    refine thn_normal ?_
    refine wp_ret ?_
    refine thn_ret ?_
    refine ret_wk ?_ (ret_many (rs := [.tmp 2, .tmp 3]) rfl hst (.tmp (List.mem_of_getElem? (i := 0) rfl) (.tmp (List.mem_of_getElem? (i := 1) rfl) .nil)) (by decide))
    rw [orF, if_neg hok]; exact wk_id
  · have hok : okM m = true := Decidable.byContradiction fun e => by rw [if_neg e] at hb0; simp at hb0
    have hst := St.wkL hst 0 rfl (qm_x (okM_q hok).1)
    refine wp_skip ?_
    refine thn_normal ?_
    refine wp_seq ?_
    refine gl (sts := [none]) (news := []) (sp := [.val 7 _, .val 8 _, .val 2 _, .val 3 _]) [.o 2, .o 3] hst (oc (ob_v rfl rfl (r_load (lz0 0 rfl) ty_32)) (oc (ob_v rfl rfl (r_call (xs := [.tmp 7]) (perOrder_q (m := toM m)) (.cons (vq 0 rfl) .nil))) (oc (ob_v rfl rfl (r_assign (vq 1 rfl))) (oc (ob_v rfl rfl (r_assign has_num)) o0)))) (fun a w hst => ?_)
    have hst : St B w0 9 [(2, _), (3, _)] [⟨1, 32, ptrH, _⟩] a w := hst
    refine thn_normal ?_
    refine wp_ret ?_
    refine ret_wk ?_ (ret_many (rs := [.tmp 2, .tmp 3]) rfl hst (.tmp (List.mem_of_getElem? (i := 0) rfl) (.tmp (List.mem_of_getElem? (i := 1) rfl) .nil)) (by decide))
    rw [orF, if_pos hok]; exact wk_id

set_option maxRecDepth 100000 in
theorem ofT_c {p q : Int} (hp : -9223372036854775808 ≤ p ∧ p < 9223372036854775808) (hq : -9223372036854775808 ≤ q ∧ q < 9223372036854775808) (h0 : q ≠ 0) : Cn Try.prog 7 [In p, In q] ((RFA (rfOf (Rat.divInt p q))).va) := by
  refine Cn.intro Try.func7 rfl (by kernel_rfl) nq (fun B w0 a hst => ?_)
  have hst : St B w0 14 [(0, In p), (1, In q)] [] a w0.w := hst
  refine wp_seq ?_
  refine gl (sts := []) (news := [⟨4, 29, ptrH, some 0, _, none⟩]) (sp := [.alc 0]) [.g 0, .g 1] hst (oc (ob_alc rfl rfl rfl (Str.zero str_frac)) o0) (fun a w hst => ?_)
  have hst : St B w0 14 [(0, _), (1, _)] [⟨4, 29, ptrH, _⟩] a w := hst
  refine thn_normal ?_
  refine wp_seq ?_
  refine gl (sts := [none]) (news := [⟨5, 29, ptrH, some 6, _, some (7, _)⟩]) (sp := [.val 8 _, .val 9 _, .val 10 _, .val 7 _, .val 11 _, .val 12 _, .alc 1, .sto 1, .val 6 _]) [] hst (oc (ob_v rfl rfl (r_move (gq 0 rfl))) (oc (ob_v rfl rfl (r_move (gq 1 rfl))) (oc (ob_v rfl rfl (r_call (xs := [.tmp 8, .tmp 9]) (ofQ_c hp.1 hp.2 hq.1 hq.2 h0) (.cons (vq 0 rfl) (.cons (vq 1 rfl) .nil)))) (oc (ob_v rfl rfl (r_move (vq 2 rfl))) (oc (ob_v rfl rfl (r_ex0 (vq 3 rfl))) (oc (ob_v rfl rfl (r_ex1 (vq 3 rfl))) (oc (ob_alc rfl rfl rfl (Str.zero str_frac)) (oc (ob_sto rfl rfl rfl (vq 4 rfl) ty_29 (Eq.trans (b := 4) rfl rfl)) (oc (ob_v rfl rfl (r_assign (vq 5 rfl))) o0))))))))) (fun a w hst => ?_)
  have hst : St B w0 14 [] [⟨4, 29, ptrH, _⟩, ⟨5, 29, ptrH, _⟩] a w := hst
  refine thn_normal ?_
  refine wp_seq ?_
  refine gl (sts := [some (1, _), none]) (news := []) (sp := [.val 13 _, .sto 0]) [] hst (oc (ob_v rfl rfl (r_load (lz0 1 rfl) ty_29)) (oc (ob_sto rfl rfl rfl (vq 0 rfl) ty_29 (Eq.trans (b := 4) rfl rfl)) o0)) (fun a w hst => ?_)
  have hst : St B w0 14 [] [⟨4, 29, ptrH, _⟩, ⟨5, 29, ptrH, _⟩] a w := hst
  refine thn_normal ?_
  refine wp_ret ?_
  refine ret_wk ?_ (ret_cell rfl hst (List.mem_of_getElem? (i := 0) rfl) ty_29)
  exact wk_id

set_option maxRecDepth 100000 in
set_option maxHeartbeats 4000000 in
theorem known14_c  : Cn Try.prog 9 [] (Bo true) := by
  refine Cn.intro Try.func9 rfl (by kernel_rfl) nq (fun B w0 a hst => ?_)
  have hst : St B w0 67 [] [] a w0.w := hst
  refine wp_seq ?_
  refine gl (sts := []) (news := []) (sp := [.val 0 _]) [.o 0] hst (oc (ob_v rfl rfl (r_assign has_bo)) o0) (fun a w hst => ?_)
  have hst : St B w0 67 [(0, _)] [] a w := hst
  refine thn_normal ?_
  refine wp_seq ?_
  refine gl (sts := []) (news := [⟨1, 32, ptrH, some 7, _, some (8, _)⟩]) (sp := [.val 11 _, .val 12 _, .val 13 _, .val 14 _, .val 10 _, .val 15 _, .val 16 _, .alc 0, .sto 0, .val 2 _]) [.g 0, .o 9] hst (oc (ob_v rfl rfl (r_call (xs := [.const (.int .i64 (1)), .const (.int .i64 (2))]) (ofT_c (by decide) (by decide) (by decide)) (.cons has_num (.cons has_num .nil)))) (oc (ob_v rfl rfl (r_call (xs := [.const (.int .i64 (1)), .const (.int .i64 (2))]) (ofT_c (by decide) (by decide) (by decide)) (.cons has_num (.cons has_num .nil)))) (oc (ob_v rfl rfl (r_call (xs := [.const (.int .i64 (1)), .const (.int .i64 (1))]) (ofT_c (by decide) (by decide) (by decide)) (.cons has_num (.cons has_num .nil)))) (oc (ob_v rfl rfl (r_call (xs := [.tmp 11, .tmp 12, .tmp 13]) (two_c _ _ _) (.cons (vq 0 rfl) (.cons (vq 1 rfl) (.cons (vq 2 rfl) .nil))))) (oc (ob_v rfl rfl (r_move (vq 3 rfl))) (oc (ob_v rfl rfl (r_ex0 (vq 4 rfl))) (oc (ob_v rfl rfl (r_ex1 (vq 4 rfl))) (oc (ob_alc rfl rfl rfl (Str.zero str_matrix)) (oc (ob_sto rfl rfl rfl (vq 5 rfl) ty_32 (Eq.trans (b := 16) rfl rfl)) (oc (ob_v rfl rfl (r_assign (vq 6 rfl))) o0)))))))))) (fun a w hst => ?_)
  have hst : St B w0 67 [(0, _), (2, _)] [⟨1, 32, ptrH, _⟩] a w := hst
  refine thn_normal ?_
  refine wp_seq ?_
  refine gl (sts := [none]) (news := []) (sp := [.val 18 _, .val 19 _, .val 17 _, .val 20 _, .val 21 _, .val 3 _, .val 4 _]) [.g 0, .g 1, .o 5, .o 6] hst (oc (ob_v rfl rfl (r_load (lz0 0 rfl) ty_32)) (oc (ob_v rfl rfl (r_call (xs := [.tmp 18]) (kind_c _) (.cons (vq 0 rfl) .nil))) (oc (ob_v rfl rfl (r_move (vq 1 rfl))) (oc (ob_v rfl rfl (r_ex0 (vq 2 rfl))) (oc (ob_v rfl rfl (r_ex1 (vq 2 rfl))) (oc (ob_v rfl rfl (r_assign (vq 3 rfl))) (oc (ob_v rfl rfl (r_assign (vq 4 rfl))) o0))))))) (fun a w hst => ?_)
  have hst : St B w0 67 [(0, _), (2, _), (3, _), (4, _)] [⟨1, 32, ptrH, _⟩] a w := hst
  refine thn_normal ?_
  refine wp_seq ?_
  refine gl (sts := [none]) (news := []) (sp := [.val 23 _, .val 24 _, .val 22 _, .val 25 _, .val 26 _, .val 5 _, .val 6 _]) [.g 0, .g 1, .g 2, .g 3, .o 5, .o 6] hst (oc (ob_v rfl rfl (r_load (lz0 0 rfl) ty_32)) (oc (ob_v rfl rfl (r_call (xs := [.tmp 23]) (order_c _) (.cons (vq 0 rfl) .nil))) (oc (ob_v rfl rfl (r_move (vq 1 rfl))) (oc (ob_v rfl rfl (r_ex0 (vq 2 rfl))) (oc (ob_v rfl rfl (r_ex1 (vq 2 rfl))) (oc (ob_v rfl rfl (r_assign (vq 3 rfl))) (oc (ob_v rfl rfl (r_assign (vq 4 rfl))) o0))))))) (fun a w hst => ?_)
  have hst : St B w0 67 [(0, _), (2, _), (3, _), (4, _), (5, _), (6, _)] [⟨1, 32, ptrH, _⟩] a w := hst
  refine thn_normal ?_
  refine wp_seq ?_
  refine gl (sts := [none]) (news := [⟨7, 32, ptrH, some 5, _, some (6, _)⟩]) (sp := [.val 27 _, .val 28 _, .val 29 _, .val 30 _, .val 31 _, .alc 1, .sto 1]) [.g 0, .g 1, .g 2, .g 3, .g 4, .g 5] hst (oc (ob_v rfl rfl (r_call (xs := [.const (.int .i64 (2)), .const (.int .i64 (1))]) (ofT_c (by decide) (by decide) (by decide)) (.cons has_num (.cons has_num .nil)))) (oc (ob_v rfl rfl (r_call (xs := [.const (.int .i64 (3)), .const (.int .i64 (1))]) (ofT_c (by decide) (by decide) (by decide)) (.cons has_num (.cons has_num .nil)))) (oc (ob_v rfl rfl (r_call (xs := [.const (.int .i64 (1)), .const (.int .i64 (1))]) (ofT_c (by decide) (by decide) (by decide)) (.cons has_num (.cons has_num .nil)))) (oc (ob_v rfl rfl (r_call (xs := [.const (.int .i64 (2)), .const (.int .i64 (1))]) (ofT_c (by decide) (by decide) (by decide)) (.cons has_num (.cons has_num .nil)))) (oc (ob_v rfl rfl (r_build (xs := [(0, .tmp 27), (1, .tmp 28), (2, .tmp 29), (3, .tmp 30)]) (qs := [(0, _), (1, _), (2, _), (3, _)]) str_matrix (.cons ⟨rfl, (vq 0 rfl), rfl⟩ (.cons ⟨rfl, (vq 1 rfl), rfl⟩ (.cons ⟨rfl, (vq 2 rfl), rfl⟩ (.cons ⟨rfl, (vq 3 rfl), rfl⟩ .nil)))))) (oc (ob_alc rfl rfl rfl (Str.zero str_matrix)) (oc (ob_sto rfl rfl rfl (vq 4 rfl) ty_32 (Eq.trans (b := 16) rfl rfl)) o0))))))) (fun a w hst => ?_)
  have hst : St B w0 67 [(0, _), (2, _), (3, _), (4, _), (5, _), (6, _)] [⟨1, 32, ptrH, _⟩, ⟨7, 32, ptrH, _⟩] a w := hst
  refine thn_normal ?_
  refine wp_seq ?_
  refine go_draw (anc := [[], [], [1], [1, 2], [1, 2], [0, 1, 2, 3, 4], [0, 1, 2, 3, 4, 5], [0, 1, 2, 3, 4, 5, 6], [0, 1, 2, 3, 4, 5, 6], [0, 1, 2, 3, 4, 5, 6, 7], [0, 1, 2, 3, 4, 5, 6, 7, 8, 9]]) (sts := [none, none]) (news := []) (sp := [.val 33 _, .val 34 _, .val 35 _, .val 36 _, .val 37 _, .val 38 _, .val 32 _, .val 39 _, .val 40 _, .val 8 _, .val 9 _]) [.g 0, .g 1, .g 2, .g 3, .g 4, .g 5, .o 9, .o 10] follows_mixed hst (oc (ob_v rfl rfl (r_load (lz0 1 rfl) ty_32)) (oc (ob_v rfl rfl (r_call (xs := [.const (.int .i64 (1)), .const (.int .i64 (1))]) (ofT_c (by decide) (by decide) (by decide)) (.cons has_num (.cons has_num .nil)))) (oc (ob_v rfl rfl (r_call (xs := [.const (.int .i64 (0)), .const (.int .i64 (1))]) (ofT_c (by decide) (by decide) (by decide)) (.cons has_num (.cons has_num .nil)))) (oc (ob_v rfl rfl (r_build (xs := [(0, .tmp 34), (1, .tmp 35)]) (qs := [(0, _), (1, _)]) str_ray (.cons ⟨rfl, (vq 1 rfl), rfl⟩ (.cons ⟨rfl, (vq 2 rfl), rfl⟩ .nil)))) (oc (ob_v rfl rfl (r_call (xs := [.const (.int .i64 (5)), .const (.int .i64 (1))]) (ofT_c (by decide) (by decide) (by decide)) (.cons has_num (.cons has_num .nil)))) (oc (ob_v rfl rfl (r_call (xs := [.tmp 33, .tmp 36, .tmp 37]) (leaves_c ⟨_, _, _, _⟩ ⟨_, _⟩ _) (.cons (vq 0 rfl) (.cons (vq 3 rfl) (.cons (vq 4 rfl) .nil))))) (oc (ob_v rfl rfl (r_move (vq 5 rfl))) (oc (ob_v rfl rfl (r_ex0 (vq 6 rfl))) (oc (ob_v rfl rfl (r_ex1 (vq 6 rfl))) (oc (ob_v rfl rfl (r_assign (vq 7 rfl))) (oc (ob_v rfl rfl (r_assign (vq 8 rfl))) o0))))))))))) (by kernel_rfl) (by kernel_rfl) (by kernel_rfl) (by kernel_rfl) (fun a w hst => ?_)
  have hst : St B w0 67 [(0, _), (2, _), (3, _), (4, _), (5, _), (6, _), (8, _), (9, _)] [⟨1, 32, ptrH, _⟩, ⟨7, 32, ptrH, _⟩] a w := hst
  refine thn_normal ?_
  refine wp_seq ?_
  refine gl (sts := [none, none]) (news := []) (sp := ((.val 41 _ : Sp) :: (.val 42 _) :: (.val 43 _) :: (.val 44 (Wh (_ = true) _)) :: (.val 45 (Wh (_ = true) _)) :: (.val 46 _) :: (.val 47 _) :: (.val 48 (Wh (_ = true) _)) :: (.val 49 (Wh (_ = true) _)) :: (.val 50 _) :: (.val 51 _) :: (.val 52 (Wh (_ = true) _)) :: (.val 53 (Wh (_ = true) _)) :: (.val 54 _) :: (.val 55 _) :: (.val 56 (Wh (_ = true) _)) :: (.val 57 (Wh (_ = true) _)) :: (.val 58 _) :: (.val 59 _) :: (.val 60 (Wh (_ = true) _)) :: (.val 61 (Wh (_ = true) _)) :: (.val 62 _) :: (.val 63 _) :: (.val 64 (Wh (_ = true) _)) :: (.val 65 (Wh (_ = true) _)) :: (.val 66 _) :: (.val 0 _) :: [])) [.o 26] hst (oc (ob_v rfl rfl (r_move (gq 1 rfl))) (oc (ob_v rfl rfl (r_eql (vq 0 rfl) has_num)) (oc (ob_v rfl rfl (r_move (vq 1 rfl))) (oc (ob_gd rfl rfl rfl (vq 2 rfl) nq (fun hg => r_move (gq 3 rfl))) (oc (ob_gd rfl rfl rfl (vq 2 rfl) nq (fun hg => r_eql (has_wh (vq 3 rfl) hg) has_num)) (oc (ob_v rfl rfl (r_and (vq 2 rfl) (vq 4 rfl))) (oc (ob_v rfl rfl (r_move (vq 5 rfl))) (oc (ob_gd rfl rfl rfl (vq 6 rfl) nq (fun hg => r_move (gq 2 rfl))) (oc (ob_gd rfl rfl rfl (vq 6 rfl) nq (fun hg => r_eql (has_wh (vq 7 rfl) hg) has_num)) (oc (ob_v rfl rfl (r_and (vq 6 rfl) (vq 8 rfl))) (oc (ob_v rfl rfl (r_move (vq 9 rfl))) (oc (ob_gd rfl rfl rfl (vq 10 rfl) nq (fun hg => r_move (gq 5 rfl))) (oc (ob_gd rfl rfl rfl (vq 10 rfl) nq (fun hg => r_eql (has_wh (vq 11 rfl) hg) has_num)) (oc (ob_v rfl rfl (r_and (vq 10 rfl) (vq 12 rfl))) (oc (ob_v rfl rfl (r_move (vq 13 rfl))) (oc (ob_gd rfl rfl rfl (vq 14 rfl) nq (fun hg => r_move (gq 4 rfl))) (oc (ob_gd rfl rfl rfl (vq 14 rfl) nq (fun hg => r_eql (has_wh (vq 15 rfl) hg) has_num)) (oc (ob_v rfl rfl (r_and (vq 14 rfl) (vq 16 rfl))) (oc (ob_v rfl rfl (r_move (vq 17 rfl))) (oc (ob_gd rfl rfl rfl (vq 18 rfl) nq (fun hg => r_move (gq 7 rfl))) (oc (ob_gd rfl rfl rfl (vq 18 rfl) nq (fun hg => r_eql (has_wh (vq 19 rfl) hg) has_num)) (oc (ob_v rfl rfl (r_and (vq 18 rfl) (vq 20 rfl))) (oc (ob_v rfl rfl (r_move (vq 21 rfl))) (oc (ob_gd rfl rfl rfl (vq 22 rfl) nq (fun hg => r_move (gq 6 rfl))) (oc (ob_gd rfl rfl rfl (vq 22 rfl) nq (fun hg => r_eql (has_wh (vq 23 rfl) hg) has_num)) (oc (ob_v rfl rfl (r_and (vq 22 rfl) (vq 24 rfl))) (oc (ob_v rfl rfl (r_assign (vq 25 rfl))) o0))))))))))))))))))))))))))) (fun a w hst => ?_)
  have hst : St B w0 67 [(0, _)] [⟨1, 32, ptrH, _⟩, ⟨7, 32, ptrH, _⟩] a w := hst
  refine thn_normal ?_
  refine wp_ret ?_
  refine ret_wk ?_ (ret_tmp rfl hst (List.mem_of_getElem? (i := 0) rfl))
  exact wk_eq (congrArg Bo (by kernel_rfl))

def thI (x y z : Int) : RF × Bool := if y = 0 then (rf0, false) else (rfOf (Rat.divInt (x * z - 1) y), true)
theorem mul_sm {x z : Int} (hx : -256 ≤ x ∧ x < 256) (hz : -256 ≤ z ∧ z < 256) : -65536 ≤ x * z ∧ x * z ≤ 65536 := by
  have h : (x * z).natAbs ≤ 256 * 256 := by
    rw [Int.natAbs_mul]
    exact Nat.mul_le_mul (by omega) (by omega)
  omega

set_option maxRecDepth 100000 in
theorem third_c {x y z : Int} (hx : -256 ≤ x ∧ x < 256) (hy : -256 ≤ y ∧ y < 256) (hz : -256 ≤ z ∧ z < 256) : Cn Try.prog 8 [In x, In y, In z] (Tu [(RFA (thI x y z).1).va, Bo (thI x y z).2]) := by
  have hm := mul_sm hx hz
  refine Cn.intro Try.func8 rfl (by kernel_rfl) nq (fun B w0 a hst => ?_)
  have hst : St B w0 25 [(0, In x), (1, In y), (2, In z)] [] a w0.w := hst
  refine wp_seq ?_
  refine gl (sts := []) (news := [⟨6, 29, ptrH, some 0, _, none⟩]) (sp := [.alc 0, .val 7 _]) [.g 0, .g 1, .g 2, .o 1] hst (oc (ob_alc rfl rfl rfl (Str.zero str_frac)) (oc (ob_v rfl rfl (r_assign has_bo)) o0)) (fun a w hst => ?_)
  have hst : St B w0 25 [(0, _), (1, _), (2, _), (7, _)] [⟨6, 29, ptrH, _⟩] a w := hst
  refine thn_normal ?_
  refine wp_seq ?_
  refine wp_seq ?_
  refine gl (sts := [none]) (news := []) (sp := [.val 10 _, .val 11 _]) [.g 0, .g 1, .g 2, .g 3, .o 1] hst (oc (ob_v rfl rfl (r_move (gq 1 rfl))) (oc (ob_v rfl rfl (r_eql (vq 0 rfl) has_num)) o0)) (fun a w hst => ?_)
  have hst : St B w0 25 [(0, _), (1, _), (2, _), (7, _), (11, _)] [⟨6, 29, ptrH, _⟩] a w := hst
  refine thn_normal ?_
  refine cond_of hst (List.mem_of_getElem? (i := 4) rfl) (fun hb0 => ?_) (fun hb0 => ?_)
  · have hy0 : y = 0 := by simpa using hb0
    refine wp_seq ?_
    refine gl (sts := [some (1, _)]) (news := []) (sp := [.val 12 _, .sto 0, .val 7 _]) [.g 0, .g 1, .g 2, .o 2] hst (oc (ob_v rfl rfl (r_build (xs := []) (qs := []) str_frac .nil)) (oc (ob_sto rfl rfl rfl (vq 0 rfl) ty_29 (Eq.trans (b := 4) rfl rfl)) (oc (ob_v rfl rfl (r_assign has_bo)) o0))) (fun a w hst => ?_)
    have hst : St B w0 25 [(0, _), (1, _), (2, _), (7, _)] [⟨6, 29, ptrH, _⟩] a w := hst
    refine thn_normal ?_
    refine wp_ret ?_
    refine thn_ret ?_
    refine ret_wk ?_ (ret_many (rs := [.cell 6 29, .tmp 7]) rfl hst (.cell (List.mem_of_getElem? (i := 0) rfl) ty_29 (.tmp (List.mem_of_getElem? (i := 3) rfl) .nil)) (by decide))
    rw [thI, if_pos hy0]; exact wk_id
  · have hy0 : y ≠ 0 := by simpa using hb0
    refine wp_skip ?_
    refine thn_normal ?_
    refine wp_seq ?_
    refine gl (sts := [none]) (news := [⟨8, 29, ptrH, some 9, _, some (10, _)⟩]) (sp := [.val 14 _, .val 15 _, .val 16 _, .val 17 _, .val 18 _, .val 19 _, .val 13 _, .val 20 _, .val 21 _, .alc 1, .sto 1, .val 9 _]) [.g 3, .o 11] hst (oc (ob_v rfl rfl (r_move (gq 0 rfl))) (oc (ob_v rfl rfl (r_move (gq 2 rfl))) (oc (ob_v rfl rfl (r_mul (vq 0 rfl) (vq 1 rfl) (wi64 (by omega) (by omega)))) (oc (ob_v rfl rfl (r_sub (vq 2 rfl) has_num (wi64 (by omega) (by omega)))) (oc (ob_v rfl rfl (r_move (gq 1 rfl))) (oc (ob_v rfl rfl (r_call (xs := [.tmp 17, .tmp 18]) (ofQ_c (by omega) (by omega) (by omega) (by omega) hy0) (.cons (vq 3 rfl) (.cons (vq 4 rfl) .nil)))) (oc (ob_v rfl rfl (r_move (vq 5 rfl))) (oc (ob_v rfl rfl (r_ex0 (vq 6 rfl))) (oc (ob_v rfl rfl (r_ex1 (vq 6 rfl))) (oc (ob_alc rfl rfl rfl (Str.zero str_frac)) (oc (ob_sto rfl rfl rfl (vq 7 rfl) ty_29 (Eq.trans (b := 4) rfl rfl)) (oc (ob_v rfl rfl (r_assign (vq 8 rfl))) o0)))))))))))) (fun a w hst => ?_)
    have hst : St B w0 25 [(7, _), (9, _)] [⟨6, 29, ptrH, _⟩, ⟨8, 29, ptrH, _⟩] a w := hst
    refine thn_normal ?_
    refine wp_seq ?_
    refine gl (sts := [some (3, _), none]) (news := []) (sp := [.val 22 _, .val 23 _, .val 24 _, .sto 0, .val 7 _]) [.o 4] hst (oc (ob_v rfl rfl (r_load (lz0 1 rfl) ty_29)) (oc (ob_v rfl rfl (r_move (gq 1 rfl))) (oc (ob_v rfl rfl (r_eql (vq 1 rfl) has_num)) (oc (ob_sto rfl rfl rfl (vq 0 rfl) ty_29 (Eq.trans (b := 4) rfl rfl)) (oc (ob_v rfl rfl (r_assign (vq 2 rfl))) o0))))) (fun a w hst => ?_)
    have hst : St B w0 25 [(7, _)] [⟨6, 29, ptrH, _⟩, ⟨8, 29, ptrH, _⟩] a w := hst
    refine thn_normal ?_
    refine wp_ret ?_
    refine ret_wk ?_ (ret_many (rs := [.cell 6 29, .tmp 7]) rfl hst (.cell (List.mem_of_getElem? (i := 0) rfl) ty_29 (.tmp (List.mem_of_getElem? (i := 0) rfl) .nil)) (by decide))
    rw [thI, if_neg hy0]; exact wk_id

end Go.Proofs.Ytiflajpmipejnaa
