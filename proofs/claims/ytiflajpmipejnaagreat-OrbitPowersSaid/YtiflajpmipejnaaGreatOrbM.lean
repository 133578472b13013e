/- Contract of orbit.Power. -/
import Derived.Test.YtiflajpmipejnaaGreatOrbK
namespace Go.Proofs.YtiflajpmipejnaaGreat
open Go Go.RowKit
namespace OrbM
theorem fld_38_0 : Fld Tryz.prog 38 0 0 4 := ⟨_, _, Tryz.underlying38, rfl, rfl, by kernel_rfl, by decide⟩
theorem fld_38_1 : Fld Tryz.prog 38 1 4 4 := ⟨_, _, Tryz.underlying38, rfl, rfl, by kernel_rfl, by decide⟩
theorem fld_38_2 : Fld Tryz.prog 38 2 8 4 := ⟨_, _, Tryz.underlying38, rfl, rfl, by kernel_rfl, by decide⟩
theorem fld_38_3 : Fld Tryz.prog 38 3 12 4 := ⟨_, _, Tryz.underlying38, rfl, rfl, by kernel_rfl, by decide⟩
theorem sl_107 : Sl Tryz.prog 107 27 4 := ⟨by kernel_rfl, by kernel_rfl⟩
theorem ty_27 : Ty Tryz.prog 27 4 true := ⟨by kernel_rfl, by kernel_rfl⟩
theorem ty_38 : Ty Tryz.prog 38 16 true := ⟨by kernel_rfl, by kernel_rfl⟩
end OrbM
open OrbM
def poO (m : RM) (x : Int) : RM × Int := if okM m then (if maO x = 0 then asM 0 (powQ (toM m) x.toNat) else (rm0, maO x)) else (rm0, 1)
theorem po_lo {m : MQ} (h : [m.a, m.b, m.c, m.d].any longQ = true) : asM 0 m = (rm0, 4) := by rw [asM, if_pos rfl, if_pos h]
theorem po_ok {m : MQ} (h : [m.a, m.b, m.c, m.d].any longQ = false) : asM 0 m = (rmOf m, 0) := by rw [asM, if_pos rfl, if_neg (by rw [h]; decide)]

set_option maxRecDepth 100000 in
theorem power13_c (m : RM) (x : Int) : Cn Tryz.prog 15 [(RMA m).va, In x] (MR (poO m x)) := by
  refine Cn.intro Tryz.func15 rfl (by kernel_rfl) nq (fun B w0 a hst => ?_)
  have hst : St B w0 33 [(0, (RMA m).va), (1, In x)] [] a w0.w := hst
  refine wp_seq ?_
  refine gl (sts := []) (news := [⟨2, 38, ptrH, some 0, _, none⟩, ⟨4, 38, ptrH, some 1, _, none⟩]) (sp := [.alc 0, .alc 1, .val 5 _]) [.g 1, .o 2] hst (oc (ob_box rfl rfl rfl (gq 0 rfl)) (oc (ob_alc rfl rfl rfl (Str.zero str_matrix)) (oc (ob_v rfl rfl (r_assign has_num)) o0))) (fun a w hst => ?_)
  have hst : St B w0 33 [(1, _), (5, _)] [⟨2, 38, ptrH, _⟩, ⟨4, 38, ptrH, _⟩] a w := hst
  refine thn_normal ?_
  refine wp_seq ?_
  refine wp_seq ?_
  refine gl (sts := [none, none]) (news := []) (sp := [.val 8 _, .val 9 _, .val 10 _]) [.g 0, .g 1, .o 2] hst (oc (ob_v rfl rfl (r_load (lz0 0 rfl) ty_38)) (oc (ob_v rfl rfl (r_call (xs := [.tmp 8]) (rowMay_c m) (.cons (vq 0 rfl) .nil))) (oc (ob_v rfl rfl (r_not (vq 1 rfl))) o0))) (fun a w hst => ?_)
  have hst : St B w0 33 [(1, _), (5, _), (10, _)] [⟨2, 38, ptrH, _⟩, ⟨4, 38, ptrH, _⟩] a w := hst
  refine thn_normal ?_
  refine cond_of hst (List.mem_of_getElem? (i := 2) rfl) (fun hb0 => ?_) (fun hb0 => ?_)
  · have hno : ¬ okM m = true := by simpa using hb0
    refine wp_seq ?_
    refine gl (sts := [none, some (1, _)]) (news := []) (sp := [.val 11 _, .sto 1, .val 5 _]) [.g 0, .o 2] hst (oc (ob_v rfl rfl (r_build (xs := []) (qs := []) str_matrix .nil)) (oc (ob_sto rfl rfl rfl (vq 0 rfl) ty_38 (Eq.trans (b := 16) rfl rfl)) (oc (ob_v rfl rfl (r_assign has_num)) o0))) (fun a w hst => ?_)
    have hst : St B w0 33 [(1, _), (5, _)] [⟨2, 38, ptrH, _⟩, ⟨4, 38, ptrH, _⟩] a w := hst
    refine thn_normal ?_
    refine wp_ret ?_
    refine thn_ret ?_
    refine ret_wk ?_ (ret_many (rs := [.cell 4 38, .tmp 5]) rfl hst (.cell (List.mem_of_getElem? (i := 1) rfl) ty_38 (.tmp (List.mem_of_getElem? (i := 1) rfl) .nil)) (by decide))
    rw [poO, if_neg hno]; exact wk_id
  · have hy : okM m = true := by simpa using hb0
    have hst := St.wkL hst 0 rfl (qm_x (okM_q hy).1)
    refine wp_skip ?_
    refine thn_normal ?_
    refine wp_seq ?_
    refine wp_seq ?_
    refine gl (sts := [none, none]) (news := []) (sp := [.val 12 _, .val 13 _, .val 6 _]) [.g 0, .g 1, .o 2] hst (oc (ob_v rfl rfl (r_move (gq 0 rfl))) (oc (ob_v rfl rfl (r_call (xs := [.tmp 12]) (many_c _) (.cons (vq 0 rfl) .nil))) (oc (ob_v rfl rfl (r_assign (vq 1 rfl))) o0))) (fun a w hst => ?_)
    have hst : St B w0 33 [(1, _), (5, _), (6, _)] [⟨2, 38, ptrH, _⟩, ⟨4, 38, ptrH, _⟩] a w := hst
    refine thn_normal ?_
    refine wp_seq ?_
    refine gl (sts := [none, none]) (news := []) (sp := [.val 14 _, .val 15 _]) [.g 0, .g 1, .g 2, .o 1] hst (oc (ob_v rfl rfl (r_move (gq 2 rfl))) (oc (ob_v rfl rfl (r_neq (vq 0 rfl) has_num)) o0)) (fun a w hst => ?_)
    have hst : St B w0 33 [(1, _), (5, _), (6, _), (15, _)] [⟨2, 38, ptrH, _⟩, ⟨4, 38, ptrH, _⟩] a w := hst
    refine thn_normal ?_
    refine cond_of hst (List.mem_of_getElem? (i := 3) rfl) (fun hb1 => ?_) (fun hb1 => ?_)
    · have hm : ¬ maO x = 0 := by simpa using hb1
      refine wp_seq ?_
      refine gl (sts := [none, some (2, _)]) (news := []) (sp := [.val 16 _, .val 17 _, .sto 1, .val 5 _]) [.g 0, .o 3] hst (oc (ob_v rfl rfl (r_build (xs := []) (qs := []) str_matrix .nil)) (oc (ob_v rfl rfl (r_move (gq 2 rfl))) (oc (ob_sto rfl rfl rfl (vq 0 rfl) ty_38 (Eq.trans (b := 16) rfl rfl)) (oc (ob_v rfl rfl (r_assign (vq 1 rfl))) o0)))) (fun a w hst => ?_)
      have hst : St B w0 33 [(1, _), (5, _)] [⟨2, 38, ptrH, _⟩, ⟨4, 38, ptrH, _⟩] a w := hst
      refine thn_normal ?_
      refine wp_ret ?_
      refine thn_ret ?_
      refine ret_wk ?_ (ret_many (rs := [.cell 4 38, .tmp 5]) rfl hst (.cell (List.mem_of_getElem? (i := 1) rfl) ty_38 (.tmp (List.mem_of_getElem? (i := 1) rfl) .nil)) (by decide))
      rw [poO, if_pos hy, if_neg hm]; exact wk_id
    · have hm : maO x = 0 := by simpa using hb1
      obtain ⟨k, rfl⟩ : ∃ k : Nat, x = (k : Int) := ⟨x.toNat, by have := maO_0 hm; omega⟩
      have hk4 : k ≤ 4096 := by have := maO_0 hm; omega
      refine wp_skip ?_
      refine thn_normal ?_
      refine wp_seq ?_
      refine gl (sts := [none, none]) (news := [⟨7, 38, ptrH, some 3, _, some (4, _)⟩]) (sp := [.val 18 _, .val 19 _, .val 20 _, .alc 2, .sto 2]) [.g 1] hst (oc (ob_v rfl rfl (r_load (lz0 0 rfl) ty_38)) (oc (ob_v rfl rfl (r_move (gq 0 rfl))) (oc (ob_v rfl rfl (r_call (xs := [.tmp 18, .tmp 19]) (rowPower_q hk4) (.cons (vq 0 rfl) (.cons (vq 1 rfl) .nil)))) (oc (ob_alc rfl rfl rfl (Str.zero str_matrix)) (oc (ob_sto rfl rfl rfl (vq 2 rfl) ty_38 (Eq.trans (b := 16) rfl rfl)) o0))))) (fun a w hst => ?_)
      have hst : St B w0 33 [(5, _)] [⟨2, 38, ptrH, _⟩, ⟨4, 38, ptrH, _⟩, ⟨7, 38, ptrH, _⟩] a w := hst
      refine thn_normal ?_
      refine wp_seq ?_
      refine wp_seq ?_
      refine gl (sts := [none, none, none]) (news := []) (sp := [.adr 21 7 (.some 0) True, .val 22 _, .adr 23 7 (.some 4) True, .val 24 _, .adr 25 7 (.some 8) True, .val 26 _, .adr 27 7 (.some 12) True, .val 28 _, .val 29 _, .val 30 _]) [.g 0, .o 9] hst (oc (ob_a rfl rfl (a_fld (lz0 2 rfl) fld_38_0)) (oc (ob_v rfl rfl (r_loadf 0 rfl (by kernel_rfl) trivial (lz0 2 rfl) (Sub.part 0 rfl rfl) ty_27)) (oc (ob_a rfl rfl (a_fld (lz0 2 rfl) fld_38_1)) (oc (ob_v rfl rfl (r_loadf 2 rfl (by kernel_rfl) trivial (lz0 2 rfl) (Sub.part 1 rfl rfl) ty_27)) (oc (ob_a rfl rfl (a_fld (lz0 2 rfl) fld_38_2)) (oc (ob_v rfl rfl (r_loadf 4 rfl (by kernel_rfl) trivial (lz0 2 rfl) (Sub.part 2 rfl rfl) ty_27)) (oc (ob_a rfl rfl (a_fld (lz0 2 rfl) fld_38_3)) (oc (ob_v rfl rfl (r_loadf 6 rfl (by kernel_rfl) trivial (lz0 2 rfl) (Sub.part 3 rfl rfl) ty_27)) (oc (ob_v rfl rfl (r_slice (D := [U32]) (l := [_, _, _, _]) (xs := [.tmp 22, .tmp 24, .tmp 26, .tmp 28]) (nd_ok (by kernel_rfl)) sl_107 (by kernel_rfl) (n_ok (by kernel_rfl)) nq nq nq (.cons (vq 1 rfl) (.cons (vq 3 rfl) (.cons (vq 5 rfl) (.cons (vq 7 rfl) .nil)))) rfl rfl)) (oc (ob_v rfl rfl (r_call (xs := [.tmp 29]) (long_q [(powQ (toM m) k).a, (powQ (toM m) k).b, (powQ (toM m) k).c, (powQ (toM m) k).d] (.cons ⟨_, rfl⟩ (.cons ⟨_, rfl⟩ (.cons ⟨_, rfl⟩ (.cons ⟨_, rfl⟩ .nil)))) nq) (.cons (vq 8 rfl) .nil))) o0)))))))))) (fun a w hst => ?_)
      have hst : St B w0 33 [(5, _), (30, _)] [⟨2, 38, ptrH, _⟩, ⟨4, 38, ptrH, _⟩, ⟨7, 38, ptrH, _⟩] a w := hst
      refine thn_normal ?_
      refine cond_of hst (List.mem_of_getElem? (i := 1) rfl) (fun hb2 => ?_) (fun hb2 => ?_)
      · refine wp_seq ?_
        refine gl (sts := [none, some (1, _), none]) (news := []) (sp := [.val 31 _, .sto 1, .val 5 _]) [.o 2] hst (oc (ob_v rfl rfl (r_build (xs := []) (qs := []) str_matrix .nil)) (oc (ob_sto rfl rfl rfl (vq 0 rfl) ty_38 (Eq.trans (b := 16) rfl rfl)) (oc (ob_v rfl rfl (r_assign has_num)) o0))) (fun a w hst => ?_)
        have hst : St B w0 33 [(5, _)] [⟨2, 38, ptrH, _⟩, ⟨4, 38, ptrH, _⟩, ⟨7, 38, ptrH, _⟩] a w := hst
        refine thn_normal ?_
        refine wp_ret ?_
        refine thn_ret ?_
        refine ret_wk ?_ (ret_many (rs := [.cell 4 38, .tmp 5]) rfl hst (.cell (List.mem_of_getElem? (i := 1) rfl) ty_38 (.tmp (List.mem_of_getElem? (i := 0) rfl) .nil)) (by decide))
        rw [poO, if_pos hy, if_pos hm, Int.toNat_natCast, po_lo hb2]; exact wk_id
      · refine wp_skip ?_
        refine thn_normal ?_
        refine wp_seq ?_
        refine gl (sts := [none, some (1, _), none]) (news := []) (sp := [.val 32 _, .sto 1, .val 5 _]) [.o 2] hst (oc (ob_v rfl rfl (r_load (lz0 2 rfl) ty_38)) (oc (ob_sto rfl rfl rfl (vq 0 rfl) ty_38 (Eq.trans (b := 16) rfl rfl)) (oc (ob_v rfl rfl (r_assign has_num)) o0))) (fun a w hst => ?_)
        have hst : St B w0 33 [(5, _)] [⟨2, 38, ptrH, _⟩, ⟨4, 38, ptrH, _⟩, ⟨7, 38, ptrH, _⟩] a w := hst
        refine thn_normal ?_
        refine wp_ret ?_
        refine ret_wk ?_ (ret_many (rs := [.cell 4 38, .tmp 5]) rfl hst (.cell (List.mem_of_getElem? (i := 1) rfl) ty_38 (.tmp (List.mem_of_getElem? (i := 0) rfl) .nil)) (by decide))
        rw [poO, if_pos hy, if_pos hm, Int.toNat_natCast, po_ok hb2]; exact tu2w qmA.va wk_id

theorem po_at {m : RM} {k : Nat} (hf : okM m = true) (hk : k ≤ 4096) : (poO m (k : Int)).2 = 4 ∨ (poO m (k : Int) = (rmOf (powQ (toM m) k), 0) ∧ [(powQ (toM m) k).a, (powQ (toM m) k).b, (powQ (toM m) k).c, (powQ (toM m) k).d].any longQ = false) := by
  have h0 : maO (k : Int) = 0 := by rw [maO, if_neg (by omega), if_neg (by omega)]
  rw [poO, if_pos hf, if_pos h0, Int.toNat_natCast, asM, if_pos rfl]
  split
  · exact .inl rfl
  · rename_i h
    exact .inr ⟨rfl, by simpa using h⟩
theorem det_one : detM ⟨1, 0, 0, 1⟩ = 1 := by unfold detM; grind
theorem det_mul' (m q : MQ) : detM (mulQ m q) = detM m * detM q := by unfold detM mulQ; grind
theorem det_pow {m : MQ} (h : detM m = 1) : ∀ k, detM (powQ m k) = 1
  | 0 => det_one
  | k + 1 => by
    show detM (mulQ (powQ m k) m) = 1
    rw [det_mul', det_pow h k, h]
    exact Rat.one_mul 1
theorem pow_one' (m : MQ) : powQ m 1 = m := one_mul' m
theorem okM_all {m : MQ} (hl : [m.a, m.b, m.c, m.d].any longQ = false) (h : detM m = 1) : okM (rmOf m) = true := by
  simp only [List.any_cons, List.any_nil, Bool.or_false, Bool.or_eq_false_iff] at hl
  exact okM_of hl.1 hl.2.1 hl.2.2.1 hl.2.2.2 h

end Go.Proofs.YtiflajpmipejnaaGreat
