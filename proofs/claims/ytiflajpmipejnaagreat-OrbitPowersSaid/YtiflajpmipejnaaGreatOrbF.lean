/- Contracts of package orbit without its walk: fine, many, told, After, form, Form, short. -/
import Derived.Test.YtiflajpmipejnaaGreatOrbC
import Derived.Test.YtiflajpmipejnaaGreatRayL
namespace Go.Proofs.YtiflajpmipejnaaGreat
open Go Go.RowKit
namespace OrbF
theorem fld_29_0 : Fld Tryz.prog 29 0 0 4 := ⟨_, _, Tryz.underlying29, rfl, rfl, by kernel_rfl, by decide⟩
theorem fld_29_1 : Fld Tryz.prog 29 1 4 4 := ⟨_, _, Tryz.underlying29, rfl, rfl, by kernel_rfl, by decide⟩
theorem fld_38_0 : Fld Tryz.prog 38 0 0 4 := ⟨_, _, Tryz.underlying38, rfl, rfl, by kernel_rfl, by decide⟩
theorem fld_38_1 : Fld Tryz.prog 38 1 4 4 := ⟨_, _, Tryz.underlying38, rfl, rfl, by kernel_rfl, by decide⟩
theorem fld_38_2 : Fld Tryz.prog 38 2 8 4 := ⟨_, _, Tryz.underlying38, rfl, rfl, by kernel_rfl, by decide⟩
theorem fld_38_3 : Fld Tryz.prog 38 3 12 4 := ⟨_, _, Tryz.underlying38, rfl, rfl, by kernel_rfl, by decide⟩
theorem sl_107 : Sl Tryz.prog 107 27 4 := ⟨by kernel_rfl, by kernel_rfl⟩
theorem ty_27 : Ty Tryz.prog 27 4 true := ⟨by kernel_rfl, by kernel_rfl⟩
theorem ty_29 : Ty Tryz.prog 29 8 true := ⟨by kernel_rfl, by kernel_rfl⟩
theorem ty_38 : Ty Tryz.prog 38 16 true := ⟨by kernel_rfl, by kernel_rfl⟩
end OrbF
open OrbF
def fiO (m : RM) (r : RR) : Bool := okM m && [r.y, r.u].all okX
def maO (x : Int) : Int := if x < 0 then 1 else if x > 4096 then 4 else 0
def toO (q : Rat) : RF × Int := if longQ q then (rf0, 4) else (rfOf q, 0)
def afO (m : RM) (r : RR) (x : Int) : RR × Int := if fiO m r then (if maO x = 0 then asY 0 (goQ (powQ (toM m) x.toNat) (toY r)) else (rr0, maO x)) else (rr0, 1)
def foQ (m : MQ) (r : YQ) : Rat := r.y * (goQ m r).u - r.u * (goQ m r).y
def foO (m : RM) (r : RR) : RF × Int := if fiO m r then toO (foQ (toM m) (toY r)) else (rf0, 1)
def shQ' (m : MQ) : Rat := 4 - (m.a + m.d) * (m.a + m.d)
theorem fiO_ok {m : RM} {r : RR} (h : (!fiO m r) = false) : okM m = true ∧ [r.y, r.u].all okX = true := by
  have h' : fiO m r = true := by simpa using h
  unfold fiO at h'
  rw [Bool.and_eq_true] at h'
  exact h'
theorem fiO_no {m : RM} {r : RR} (h : (!fiO m r) = true) : ¬ fiO m r = true := by simpa using h
theorem fiO_yes {m : RM} {r : RR} (h : (!fiO m r) = false) : fiO m r = true := by simpa using h
theorem maO_0 {x : Int} (h : maO x = 0) : 0 ≤ x ∧ x ≤ 4096 := by
  unfold maO at h
  split at h
  · omega
  · split at h <;> omega

set_option maxRecDepth 100000 in
theorem fine_c (m : RM) (r : RR) : Cn Tryz.prog 62 [(RMA m).va, (RRA r).va] (Bo (fiO m r)) := by
  refine Cn.intro Tryz.func62 rfl (by kernel_rfl) nq (fun B w0 a hst => ?_)
  have hst : St B w0 15 [(0, (RMA m).va), (1, (RRA r).va)] [] a w0.w := hst
  refine wp_seq ?_
  refine gl (sts := []) (news := [⟨2, 38, ptrH, some 0, _, none⟩, ⟨3, 29, ptrH, some 1, _, none⟩]) (sp := [.alc 0, .alc 1, .val 4 _]) [.o 2] hst (oc (ob_box rfl rfl rfl (gq 0 rfl)) (oc (ob_box rfl rfl rfl (gq 1 rfl)) (oc (ob_v rfl rfl (r_assign has_bo)) o0))) (fun a w hst => ?_)
  have hst : St B w0 15 [(4, _)] [⟨2, 38, ptrH, _⟩, ⟨3, 29, ptrH, _⟩] a w := hst
  refine thn_normal ?_
  refine wp_seq ?_
  refine gl (sts := [none, none]) (news := []) (sp := [.val 5 _, .val 6 _, .val 7 _, .adr 8 3 (.some 0) (_ = true), .val 9 (Wh (_ = true) _), .adr 10 3 (.some 4) (_ = true), .val 11 (Wh (_ = true) _), .val 12 (Wh (_ = true) _), .val 13 (Wh (_ = true) _), .val 14 _, .val 4 _]) [.o 10] hst (oc (ob_v rfl rfl (r_load (lz0 0 rfl) ty_38)) (oc (ob_v rfl rfl (r_call (xs := [.tmp 5]) (rowMay_c m) (.cons (vq 0 rfl) .nil))) (oc (ob_v rfl rfl (r_move (vq 1 rfl))) (oc (ob_ag rfl rfl rfl (vq 2 rfl) nq (fun hg => a_fld (lz0 1 rfl) fld_29_0)) (oc (ob_gd rfl rfl rfl (vq 2 rfl) nq (fun hg => r_loadf 3 rfl (by kernel_rfl) hg (lz0 1 rfl) (Sub.part 0 rfl rfl) ty_27)) (oc (ob_ag rfl rfl rfl (vq 2 rfl) nq (fun hg => a_fld (lz0 1 rfl) fld_29_1)) (oc (ob_gd rfl rfl rfl (vq 2 rfl) nq (fun hg => r_loadf 5 rfl (by kernel_rfl) hg (lz0 1 rfl) (Sub.part 1 rfl rfl) ty_27)) (oc (ob_gd rfl rfl rfl (vq 2 rfl) nq (fun hg => r_slice (D := [U32]) (l := [_, _]) (xs := [.tmp 9, .tmp 11]) (nd_ok (by kernel_rfl)) sl_107 (by kernel_rfl) (n_ok (by kernel_rfl)) nq nq nq (.cons (has_wh (vq 4 rfl) hg) (.cons (has_wh (vq 6 rfl) hg) .nil)) rfl rfl)) (oc (ob_gd rfl rfl rfl (vq 2 rfl) nq (fun hg => r_call (xs := [.tmp 12]) (checks_c [r.y, r.u] nq) (.cons (has_wh (vq 7 rfl) hg) .nil))) (oc (ob_v rfl rfl (r_and (vq 2 rfl) (vq 8 rfl))) (oc (ob_v rfl rfl (r_assign (vq 9 rfl))) o0))))))))))) (fun a w hst => ?_)
  have hst : St B w0 15 [(4, _)] [⟨2, 38, ptrH, _⟩, ⟨3, 29, ptrH, _⟩] a w := hst
  refine thn_normal ?_
  refine wp_ret ?_
  refine ret_wk ?_ (ret_tmp rfl hst (List.mem_of_getElem? (i := 0) rfl))
  exact wk_id

set_option maxRecDepth 100000 in
theorem many_c (x : Int) : Cn Tryz.prog 40 [In x] (In (maO x)) := by
  refine Cn.intro Tryz.func40 rfl (by kernel_rfl) nq (fun B w0 a hst => ?_)
  have hst : St B w0 9 [(0, In x)] [] a w0.w := hst
  refine wp_seq ?_
  refine gl (sts := []) (news := []) (sp := [.val 2 _]) [.g 0, .o 0] hst (oc (ob_v rfl rfl (r_assign has_num)) o0) (fun a w hst => ?_)
  have hst : St B w0 9 [(0, _), (2, _)] [] a w := hst
  refine thn_normal ?_
  refine wp_seq ?_
  refine wp_block ?_
  refine wp_seq ?_
  refine gl (sts := []) (news := []) (sp := [.val 4 _, .val 5 _, .val 3 _]) [.g 0, .g 1, .o 2] hst (oc (ob_v rfl rfl (r_move (gq 0 rfl))) (oc (ob_v rfl rfl (r_lss (vq 0 rfl) has_num)) (oc (ob_v rfl rfl (r_assign (vq 1 rfl))) o0))) (fun a w hst => ?_)
  have hst : St B w0 9 [(0, _), (2, _), (3, _)] [] a w := hst
  refine thn_normal ?_
  refine cond_of hst (List.mem_of_getElem? (i := 2) rfl) (fun hb0 => ?_) (fun hb0 => ?_)
  · have h0 := of_decide_eq_true hb0
    refine wp_seq ?_
    refine gl (sts := []) (news := []) (sp := [.val 2 _]) [.o 0] hst (oc (ob_v rfl rfl (r_assign has_num)) o0) (fun a w hst => ?_)
    have hst : St B w0 9 [(2, _)] [] a w := hst
    refine thn_normal ?_
    refine wp_ret ?_
    refine blk_ret ?_
    refine thn_ret ?_
    refine ret_wk ?_ (ret_tmp rfl hst (List.mem_of_getElem? (i := 0) rfl))
    rw [maO, if_pos h0]; exact wk_id
  · have h0 := of_decide_eq_false hb0
    refine wp_seq ?_
    refine gl (sts := []) (news := []) (sp := [.val 7 _, .val 8 _, .val 6 _]) [.g 1, .o 2] hst (oc (ob_v rfl rfl (r_move (gq 0 rfl))) (oc (ob_v rfl rfl (r_gtr (vq 0 rfl) has_num)) (oc (ob_v rfl rfl (r_assign (vq 1 rfl))) o0))) (fun a w hst => ?_)
    have hst : St B w0 9 [(2, _), (6, _)] [] a w := hst
    refine thn_normal ?_
    refine cond_of hst (List.mem_of_getElem? (i := 1) rfl) (fun hb1 => ?_) (fun hb1 => ?_)
    · have h1 := of_decide_eq_true hb1
      refine wp_seq ?_
      refine gl (sts := []) (news := []) (sp := [.val 2 _]) [.o 0] hst (oc (ob_v rfl rfl (r_assign has_num)) o0) (fun a w hst => ?_)
      have hst : St B w0 9 [(2, _)] [] a w := hst
      refine thn_normal ?_
      refine wp_ret ?_
      refine blk_ret ?_
      refine thn_ret ?_
      refine ret_wk ?_ (ret_tmp rfl hst (List.mem_of_getElem? (i := 0) rfl))
      rw [maO, if_neg h0, if_pos h1]; exact wk_id
    · have h1 := of_decide_eq_false hb1
      refine wp_skip ?_
      refine blk_normal ?_
      refine thn_normal ?_
      refine wp_seq ?_
      refine gl (sts := []) (news := []) (sp := [.val 2 _]) [.o 0] hst (oc (ob_v rfl rfl (r_assign has_num)) o0) (fun a w hst => ?_)
      have hst : St B w0 9 [(2, _)] [] a w := hst
      refine thn_normal ?_
      refine wp_ret ?_
      refine ret_wk ?_ (ret_tmp rfl hst (List.mem_of_getElem? (i := 0) rfl))
      rw [maO, if_neg h0, if_neg h1]; exact wk_id

theorem af_lo {e : YQ} (h : [e.y, e.u].any longQ = true) : asY 0 e = (rr0, 4) := by rw [asY, if_pos rfl, if_pos h]
theorem af_ok {e : YQ} (h : [e.y, e.u].any longQ = false) : asY 0 e = (rrOf e, 0) := by rw [asY, if_pos rfl, if_neg (by rw [h]; decide)]
theorem to_lo {q : Rat} (h : [q].any longQ = true) : toO q = (rf0, 4) := by rw [toO, if_pos (by simpa using h)]
theorem to_ok {q : Rat} (h : [q].any longQ = false) : toO q = (rfOf q, 0) := by rw [toO, if_neg (by simpa using h)]

set_option maxRecDepth 100000 in
theorem rowThrough_q {c d : Nat} {m : MQ} {r : YQ} (hk : c + d ≤ 68719476736) : Cn Tryz.prog 63 [(QMA c m).va, (QRA d r).va] ((QRA (c + d + (c + d) + 1) (goQ m r)).va) := by
  refine Cn.intro Tryz.func63 rfl (by kernel_rfl) nq (fun B w0 a hst => ?_)
  have hst : St B w0 24 [(0, (QMA c m).va), (1, (QRA d r).va)] [] a w0.w := hst
  refine wp_seq ?_
  refine gl (sts := []) (news := [⟨2, 38, ptrH, some 0, _, none⟩, ⟨3, 29, ptrH, some 1, _, none⟩, ⟨4, 29, ptrH, some 2, _, none⟩]) (sp := [.alc 0, .alc 1, .alc 2]) [] hst (oc (ob_box rfl rfl rfl (gq 0 rfl)) (oc (ob_box rfl rfl rfl (gq 1 rfl)) (oc (ob_alc rfl rfl rfl (Str.zero str_ray)) o0))) (fun a w hst => ?_)
  have hst : St B w0 24 [] [⟨2, 38, ptrH, _⟩, ⟨3, 29, ptrH, _⟩, ⟨4, 29, ptrH, _⟩] a w := hst
  refine thn_normal ?_
  refine wp_seq ?_
  refine go_draw (anc := [[], [0], [], [2], [], [4], [], [6], [0, 1, 2, 3, 4, 5, 6, 7], [], [9], [], [11], [], [13], [], [15], [0, 1, 2, 3, 4, 5, 6, 7, 8, 9, 10, 11, 12, 13, 14, 15, 16], [0, 1, 2, 3, 4, 5, 6, 7, 8, 9, 10, 11, 12, 13, 14, 15, 16, 17], [0, 1, 2, 3, 4, 5, 6, 7, 8, 9, 10, 11, 12, 13, 14, 15, 16, 17, 18]]) (sts := [none, none, some (19, _)]) (news := []) (sp := [.adr 5 2 (.some 0) True, .val 6 _, .adr 7 3 (.some 0) True, .val 8 _, .adr 9 2 (.some 4) True, .val 10 _, .adr 11 3 (.some 4) True, .val 12 _, .val 13 _, .adr 14 2 (.some 8) True, .val 15 _, .adr 16 3 (.some 0) True, .val 17 _, .adr 18 2 (.some 12) True, .val 19 _, .adr 20 3 (.some 4) True, .val 21 _, .val 22 _, .val 23 _, .sto 2]) [] follows_mixed hst (oc (ob_a rfl rfl (a_fld (lz0 0 rfl) fld_38_0)) (oc (ob_v rfl rfl (r_loadf 0 rfl (by kernel_rfl) trivial (lz0 0 rfl) (Sub.part 0 rfl rfl) ty_27)) (oc (ob_a rfl rfl (a_fld (lz0 1 rfl) fld_29_0)) (oc (ob_v rfl rfl (r_loadf 2 rfl (by kernel_rfl) trivial (lz0 1 rfl) (Sub.part 0 rfl rfl) ty_27)) (oc (ob_a rfl rfl (a_fld (lz0 0 rfl) fld_38_1)) (oc (ob_v rfl rfl (r_loadf 4 rfl (by kernel_rfl) trivial (lz0 0 rfl) (Sub.part 1 rfl rfl) ty_27)) (oc (ob_a rfl rfl (a_fld (lz0 1 rfl) fld_29_1)) (oc (ob_v rfl rfl (r_loadf 6 rfl (by kernel_rfl) trivial (lz0 1 rfl) (Sub.part 1 rfl rfl) ty_27)) (oc (ob_v rfl rfl (r_call (xs := [.tmp 6, .tmp 8, .tmp 10, .tmp 12]) (rowPair_q (by omega)) (.cons (vq 1 rfl) (.cons (vq 3 rfl) (.cons (vq 5 rfl) (.cons (vq 7 rfl) .nil)))))) (oc (ob_a rfl rfl (a_fld (lz0 0 rfl) fld_38_2)) (oc (ob_v rfl rfl (r_loadf 9 rfl (by kernel_rfl) trivial (lz0 0 rfl) (Sub.part 2 rfl rfl) ty_27)) (oc (ob_a rfl rfl (a_fld (lz0 1 rfl) fld_29_0)) (oc (ob_v rfl rfl (r_loadf 11 rfl (by kernel_rfl) trivial (lz0 1 rfl) (Sub.part 0 rfl rfl) ty_27)) (oc (ob_a rfl rfl (a_fld (lz0 0 rfl) fld_38_3)) (oc (ob_v rfl rfl (r_loadf 13 rfl (by kernel_rfl) trivial (lz0 0 rfl) (Sub.part 3 rfl rfl) ty_27)) (oc (ob_a rfl rfl (a_fld (lz0 1 rfl) fld_29_1)) (oc (ob_v rfl rfl (r_loadf 15 rfl (by kernel_rfl) trivial (lz0 1 rfl) (Sub.part 1 rfl rfl) ty_27)) (oc (ob_v rfl rfl (r_call (xs := [.tmp 15, .tmp 17, .tmp 19, .tmp 21]) (rowPair_q (by omega)) (.cons (vq 10 rfl) (.cons (vq 12 rfl) (.cons (vq 14 rfl) (.cons (vq 16 rfl) .nil)))))) (oc (ob_v rfl rfl (r_build (xs := [(0, .tmp 13), (1, .tmp 22)]) (qs := [(0, _), (1, _)]) str_ray (.cons ⟨rfl, (vq 8 rfl), rfl⟩ (.cons ⟨rfl, (vq 17 rfl), rfl⟩ .nil)))) (oc (ob_sto rfl rfl rfl (vq 18 rfl) ty_29 (Eq.trans (b := 8) rfl rfl)) o0)))))))))))))))))))) (by kernel_rfl) (by kernel_rfl) (by kernel_rfl) (by kernel_rfl) (fun a w hst => ?_)
  have hst : St B w0 24 [] [⟨2, 38, ptrH, _⟩, ⟨3, 29, ptrH, _⟩, ⟨4, 29, ptrH, _⟩] a w := hst
  refine thn_normal ?_
  refine wp_ret ?_
  refine ret_wk ?_ (ret_cell rfl hst (List.mem_of_getElem? (i := 2) rfl) ty_29)
  exact wk_id

set_option maxRecDepth 100000 in
theorem after_c (m : RM) (r : RR) (x : Int) : Cn Tryz.prog 22 [(RMA m).va, (RRA r).va, In x] (YR (afO m r x)) := by
  refine Cn.intro Tryz.func22 rfl (by kernel_rfl) nq (fun B w0 a hst => ?_)
  have hst : St B w0 34 [(0, (RMA m).va), (1, (RRA r).va), (2, In x)] [] a w0.w := hst
  refine wp_seq ?_
  refine gl (sts := []) (news := [⟨3, 38, ptrH, some 0, _, none⟩, ⟨4, 29, ptrH, some 1, _, none⟩, ⟨6, 29, ptrH, some 2, _, none⟩]) (sp := [.alc 0, .alc 1, .alc 2, .val 7 _]) [.g 2, .o 3] hst (oc (ob_box rfl rfl rfl (gq 0 rfl)) (oc (ob_box rfl rfl rfl (gq 1 rfl)) (oc (ob_alc rfl rfl rfl (Str.zero str_ray)) (oc (ob_v rfl rfl (r_assign has_num)) o0)))) (fun a w hst => ?_)
  have hst : St B w0 34 [(2, _), (7, _)] [⟨3, 38, ptrH, _⟩, ⟨4, 29, ptrH, _⟩, ⟨6, 29, ptrH, _⟩] a w := hst
  refine thn_normal ?_
  refine wp_seq ?_
  refine wp_seq ?_
  refine gl (sts := [none, none, none]) (news := []) (sp := [.val 10 _, .val 11 _, .val 12 _, .val 13 _]) [.g 0, .g 1, .o 3] hst (oc (ob_v rfl rfl (r_load (lz0 0 rfl) ty_38)) (oc (ob_v rfl rfl (r_load (lz0 1 rfl) ty_29)) (oc (ob_v rfl rfl (r_call (xs := [.tmp 10, .tmp 11]) (fine_c m r) (.cons (vq 0 rfl) (.cons (vq 1 rfl) .nil)))) (oc (ob_v rfl rfl (r_not (vq 2 rfl))) o0)))) (fun a w hst => ?_)
  have hst : St B w0 34 [(2, _), (7, _), (13, _)] [⟨3, 38, ptrH, _⟩, ⟨4, 29, ptrH, _⟩, ⟨6, 29, ptrH, _⟩] a w := hst
  refine thn_normal ?_
  refine cond_of hst (List.mem_of_getElem? (i := 2) rfl) (fun hb0 => ?_) (fun hb0 => ?_)
  · refine wp_seq ?_
    refine gl (sts := [none, none, some (1, _)]) (news := []) (sp := [.val 14 _, .sto 2, .val 7 _]) [.g 0, .o 2] hst (oc (ob_v rfl rfl (r_build (xs := []) (qs := []) str_ray .nil)) (oc (ob_sto rfl rfl rfl (vq 0 rfl) ty_29 (Eq.trans (b := 8) rfl rfl)) (oc (ob_v rfl rfl (r_assign has_num)) o0))) (fun a w hst => ?_)
    have hst : St B w0 34 [(2, _), (7, _)] [⟨3, 38, ptrH, _⟩, ⟨4, 29, ptrH, _⟩, ⟨6, 29, ptrH, _⟩] a w := hst
    refine thn_normal ?_
    refine wp_ret ?_
    refine thn_ret ?_
    refine ret_wk ?_ (ret_many (rs := [.cell 6 29, .tmp 7]) rfl hst (.cell (List.mem_of_getElem? (i := 2) rfl) ty_29 (.tmp (List.mem_of_getElem? (i := 1) rfl) .nil)) (by decide))
    rw [afO, if_neg (fiO_no hb0)]; exact wk_id
  · have hok := fiO_ok hb0
    have hy := fiO_yes hb0
    have hst := St.wkL hst 0 rfl (qm_x (okM_q hok.1).1)
    have hst := St.wkL hst 1 rfl (qr_x hok.2)
    refine wp_skip ?_
    refine thn_normal ?_
    refine wp_seq ?_
    refine wp_seq ?_
    refine gl (sts := [none, none, none]) (news := []) (sp := [.val 15 _, .val 16 _, .val 8 _]) [.g 0, .g 1, .o 2] hst (oc (ob_v rfl rfl (r_move (gq 0 rfl))) (oc (ob_v rfl rfl (r_call (xs := [.tmp 15]) (many_c _) (.cons (vq 0 rfl) .nil))) (oc (ob_v rfl rfl (r_assign (vq 1 rfl))) o0))) (fun a w hst => ?_)
    have hst : St B w0 34 [(2, _), (7, _), (8, _)] [⟨3, 38, ptrH, _⟩, ⟨4, 29, ptrH, _⟩, ⟨6, 29, ptrH, _⟩] a w := hst
    refine thn_normal ?_
    refine wp_seq ?_
    refine gl (sts := [none, none, none]) (news := []) (sp := [.val 17 _, .val 18 _]) [.g 0, .g 1, .g 2, .o 1] hst (oc (ob_v rfl rfl (r_move (gq 2 rfl))) (oc (ob_v rfl rfl (r_neq (vq 0 rfl) has_num)) o0)) (fun a w hst => ?_)
    have hst : St B w0 34 [(2, _), (7, _), (8, _), (18, _)] [⟨3, 38, ptrH, _⟩, ⟨4, 29, ptrH, _⟩, ⟨6, 29, ptrH, _⟩] a w := hst
    refine thn_normal ?_
    refine cond_of hst (List.mem_of_getElem? (i := 3) rfl) (fun hb1 => ?_) (fun hb1 => ?_)
    · have hm : ¬ maO x = 0 := by simpa using hb1
      refine wp_seq ?_
      refine gl (sts := [none, none, some (2, _)]) (news := []) (sp := [.val 19 _, .val 20 _, .sto 2, .val 7 _]) [.g 0, .o 3] hst (oc (ob_v rfl rfl (r_build (xs := []) (qs := []) str_ray .nil)) (oc (ob_v rfl rfl (r_move (gq 2 rfl))) (oc (ob_sto rfl rfl rfl (vq 0 rfl) ty_29 (Eq.trans (b := 8) rfl rfl)) (oc (ob_v rfl rfl (r_assign (vq 1 rfl))) o0)))) (fun a w hst => ?_)
      have hst : St B w0 34 [(2, _), (7, _)] [⟨3, 38, ptrH, _⟩, ⟨4, 29, ptrH, _⟩, ⟨6, 29, ptrH, _⟩] a w := hst
      refine thn_normal ?_
      refine wp_ret ?_
      refine thn_ret ?_
      refine ret_wk ?_ (ret_many (rs := [.cell 6 29, .tmp 7]) rfl hst (.cell (List.mem_of_getElem? (i := 2) rfl) ty_29 (.tmp (List.mem_of_getElem? (i := 1) rfl) .nil)) (by decide))
      rw [afO, if_pos hy, if_neg hm]; exact wk_id
    · have hm : maO x = 0 := by simpa using hb1
      obtain ⟨k, rfl⟩ : ∃ k : Nat, x = (k : Int) := ⟨x.toNat, by have := maO_0 hm; omega⟩
      have hk4 : k ≤ 4096 := by have := maO_0 hm; omega
      refine wp_skip ?_
      refine thn_normal ?_
      refine wp_seq ?_
      refine go_draw (anc := [[], [], [0, 1], [], [0, 1, 2, 3], [], [0, 1, 2, 3, 4, 5]]) (sts := [none, none, none]) (news := [⟨9, 29, ptrH, some 5, _, some (6, _)⟩]) (sp := [.val 21 _, .val 22 _, .val 23 _, .val 24 _, .val 25 _, .alc 3, .sto 3]) [.g 1] follows_mixed hst (oc (ob_v rfl rfl (r_load (lz0 0 rfl) ty_38)) (oc (ob_v rfl rfl (r_move (gq 0 rfl))) (oc (ob_v rfl rfl (r_call (xs := [.tmp 21, .tmp 22]) (rowPower_q hk4) (.cons (vq 0 rfl) (.cons (vq 1 rfl) .nil)))) (oc (ob_v rfl rfl (r_load (lz0 1 rfl) ty_29)) (oc (ob_v rfl rfl (r_call (xs := [.tmp 23, .tmp 24]) (rowThrough_q (by omega)) (.cons (vq 2 rfl) (.cons (vq 3 rfl) .nil)))) (oc (ob_alc rfl rfl rfl (Str.zero str_ray)) (oc (ob_sto rfl rfl rfl (vq 4 rfl) ty_29 (Eq.trans (b := 8) rfl rfl)) o0))))))) (by kernel_rfl) (by kernel_rfl) (by kernel_rfl) (by kernel_rfl) (fun a w hst => ?_)
      have hst : St B w0 34 [(7, _)] [⟨3, 38, ptrH, _⟩, ⟨4, 29, ptrH, _⟩, ⟨6, 29, ptrH, _⟩, ⟨9, 29, ptrH, _⟩] a w := hst
      refine thn_normal ?_
      refine wp_seq ?_
      refine wp_seq ?_
      refine gl (sts := [none, none, none, none]) (news := []) (sp := [.adr 26 9 (.some 0) True, .val 27 _, .adr 28 9 (.some 4) True, .val 29 _, .val 30 _, .val 31 _]) [.g 0, .o 5] hst (oc (ob_a rfl rfl (a_fld (lz0 3 rfl) fld_29_0)) (oc (ob_v rfl rfl (r_loadf 0 rfl (by kernel_rfl) trivial (lz0 3 rfl) (Sub.part 0 rfl rfl) ty_27)) (oc (ob_a rfl rfl (a_fld (lz0 3 rfl) fld_29_1)) (oc (ob_v rfl rfl (r_loadf 2 rfl (by kernel_rfl) trivial (lz0 3 rfl) (Sub.part 1 rfl rfl) ty_27)) (oc (ob_v rfl rfl (r_slice (D := [U32]) (l := [_, _]) (xs := [.tmp 27, .tmp 29]) (nd_ok (by kernel_rfl)) sl_107 (by kernel_rfl) (n_ok (by kernel_rfl)) nq nq nq (.cons (vq 1 rfl) (.cons (vq 3 rfl) .nil)) rfl rfl)) (oc (ob_v rfl rfl (r_call (xs := [.tmp 30]) (long_q [(goQ (powQ (toM m) k) (toY r)).y, (goQ (powQ (toM m) k) (toY r)).u] (.cons ⟨_, rfl⟩ (.cons ⟨_, rfl⟩ .nil)) nq) (.cons (vq 4 rfl) .nil))) o0)))))) (fun a w hst => ?_)
      have hst : St B w0 34 [(7, _), (31, _)] [⟨3, 38, ptrH, _⟩, ⟨4, 29, ptrH, _⟩, ⟨6, 29, ptrH, _⟩, ⟨9, 29, ptrH, _⟩] a w := hst
      refine thn_normal ?_
      refine cond_of hst (List.mem_of_getElem? (i := 1) rfl) (fun hb2 => ?_) (fun hb2 => ?_)
      · refine wp_seq ?_
        refine gl (sts := [none, none, some (1, _), none]) (news := []) (sp := [.val 32 _, .sto 2, .val 7 _]) [.o 2] hst (oc (ob_v rfl rfl (r_build (xs := []) (qs := []) str_ray .nil)) (oc (ob_sto rfl rfl rfl (vq 0 rfl) ty_29 (Eq.trans (b := 8) rfl rfl)) (oc (ob_v rfl rfl (r_assign has_num)) o0))) (fun a w hst => ?_)
        have hst : St B w0 34 [(7, _)] [⟨3, 38, ptrH, _⟩, ⟨4, 29, ptrH, _⟩, ⟨6, 29, ptrH, _⟩, ⟨9, 29, ptrH, _⟩] a w := hst
        refine thn_normal ?_
        refine wp_ret ?_
        refine thn_ret ?_
        refine ret_wk ?_ (ret_many (rs := [.cell 6 29, .tmp 7]) rfl hst (.cell (List.mem_of_getElem? (i := 2) rfl) ty_29 (.tmp (List.mem_of_getElem? (i := 0) rfl) .nil)) (by decide))
        rw [afO, if_pos hy, if_pos hm, Int.toNat_natCast, af_lo hb2]; exact wk_id
      · refine wp_skip ?_
        refine thn_normal ?_
        refine wp_seq ?_
        refine gl (sts := [none, none, some (1, _), none]) (news := []) (sp := [.val 33 _, .sto 2, .val 7 _]) [.o 2] hst (oc (ob_v rfl rfl (r_load (lz0 3 rfl) ty_29)) (oc (ob_sto rfl rfl rfl (vq 0 rfl) ty_29 (Eq.trans (b := 8) rfl rfl)) (oc (ob_v rfl rfl (r_assign has_num)) o0))) (fun a w hst => ?_)
        have hst : St B w0 34 [(7, _)] [⟨3, 38, ptrH, _⟩, ⟨4, 29, ptrH, _⟩, ⟨6, 29, ptrH, _⟩, ⟨9, 29, ptrH, _⟩] a w := hst
        refine thn_normal ?_
        refine wp_ret ?_
        refine ret_wk ?_ (ret_many (rs := [.cell 6 29, .tmp 7]) rfl hst (.cell (List.mem_of_getElem? (i := 2) rfl) ty_29 (.tmp (List.mem_of_getElem? (i := 0) rfl) .nil)) (by decide))
        rw [afO, if_pos hy, if_pos hm, Int.toNat_natCast, af_ok hb2]; exact tu2w qrA.va wk_id

set_option maxRecDepth 100000 in
theorem form_q {m : MQ} {r : YQ} : Cn Tryz.prog 103 [(QMA 2048 m).va, (QRA 2048 r).va] (Qs 20484 (foQ m r)) := by
  refine Cn.intro Tryz.func103 rfl (by kernel_rfl) nq (fun B w0 a hst => ?_)
  have hst : St B w0 20 [(0, (QMA 2048 m).va), (1, (QRA 2048 r).va)] [] a w0.w := hst
  refine wp_seq ?_
  refine gl (sts := []) (news := [⟨2, 38, ptrH, some 0, _, none⟩, ⟨3, 29, ptrH, some 1, _, none⟩, ⟨4, 27, ptrH, some 2, _, none⟩]) (sp := [.alc 0, .alc 1, .alc 2]) [] hst (oc (ob_box rfl rfl rfl (gq 0 rfl)) (oc (ob_box rfl rfl rfl (gq 1 rfl)) (oc (ob_alc rfl rfl rfl (Str.zero str_frac)) o0))) (fun a w hst => ?_)
  have hst : St B w0 20 [] [⟨2, 38, ptrH, _⟩, ⟨3, 29, ptrH, _⟩, ⟨4, 27, ptrH, _⟩] a w := hst
  refine thn_normal ?_
  refine wp_seq ?_
  refine gl (sts := [none, none, none]) (news := [⟨5, 29, ptrH, some 3, _, some (4, _)⟩]) (sp := [.val 6 _, .val 7 _, .val 8 _, .alc 3, .sto 3]) [] hst (oc (ob_v rfl rfl (r_load (lz0 0 rfl) ty_38)) (oc (ob_v rfl rfl (r_load (lz0 1 rfl) ty_29)) (oc (ob_v rfl rfl (r_call (xs := [.tmp 6, .tmp 7]) (rowThrough_q (by omega)) (.cons (vq 0 rfl) (.cons (vq 1 rfl) .nil)))) (oc (ob_alc rfl rfl rfl (Str.zero str_ray)) (oc (ob_sto rfl rfl rfl (vq 2 rfl) ty_29 (Eq.trans (b := 8) rfl rfl)) o0))))) (fun a w hst => ?_)
  have hst : St B w0 20 [] [⟨2, 38, ptrH, _⟩, ⟨3, 29, ptrH, _⟩, ⟨4, 27, ptrH, _⟩, ⟨5, 29, ptrH, _⟩] a w := hst
  refine thn_normal ?_
  refine wp_seq ?_
  refine go_draw (anc := [[], [0], [], [2], [0, 1, 2, 3], [], [5], [], [7], [0, 1, 2, 3, 4, 5, 6, 7, 8], [0, 1, 2, 3, 4, 5, 6, 7, 8, 9], [0, 1, 2, 3, 4, 5, 6, 7, 8, 9, 10]]) (sts := [none, none, some (11, _), none]) (news := []) (sp := [.adr 9 3 (.some 0) True, .val 10 _, .adr 11 5 (.some 4) True, .val 12 _, .val 13 _, .adr 14 3 (.some 4) True, .val 15 _, .adr 16 5 (.some 0) True, .val 17 _, .val 18 _, .val 19 _, .sto 2]) [] follows_mixed hst (oc (ob_a rfl rfl (a_fld (lz0 1 rfl) fld_29_0)) (oc (ob_v rfl rfl (r_loadf 0 rfl (by kernel_rfl) trivial (lz0 1 rfl) (Sub.part 0 rfl rfl) ty_27)) (oc (ob_a rfl rfl (a_fld (lz0 3 rfl) fld_29_1)) (oc (ob_v rfl rfl (r_loadf 2 rfl (by kernel_rfl) trivial (lz0 3 rfl) (Sub.part 1 rfl rfl) ty_27)) (oc (ob_v rfl rfl (r_call (xs := [.tmp 10, .tmp 12]) (times_q (by omega)) (.cons (vq 1 rfl) (.cons (vq 3 rfl) .nil)))) (oc (ob_a rfl rfl (a_fld (lz0 1 rfl) fld_29_1)) (oc (ob_v rfl rfl (r_loadf 5 rfl (by kernel_rfl) trivial (lz0 1 rfl) (Sub.part 1 rfl rfl) ty_27)) (oc (ob_a rfl rfl (a_fld (lz0 3 rfl) fld_29_0)) (oc (ob_v rfl rfl (r_loadf 7 rfl (by kernel_rfl) trivial (lz0 3 rfl) (Sub.part 0 rfl rfl) ty_27)) (oc (ob_v rfl rfl (r_call (xs := [.tmp 15, .tmp 17]) (times_q (by omega)) (.cons (vq 6 rfl) (.cons (vq 8 rfl) .nil)))) (oc (ob_v rfl rfl (r_call (xs := [.tmp 13, .tmp 18]) (minus_q (by omega)) (.cons (vq 4 rfl) (.cons (vq 9 rfl) .nil)))) (oc (ob_sto rfl rfl rfl (vq 10 rfl) ty_27 (Eq.trans (b := 4) rfl rfl)) o0)))))))))))) (by kernel_rfl) (by kernel_rfl) (by kernel_rfl) (by kernel_rfl) (fun a w hst => ?_)
  have hst : St B w0 20 [] [⟨2, 38, ptrH, _⟩, ⟨3, 29, ptrH, _⟩, ⟨4, 27, ptrH, _⟩, ⟨5, 29, ptrH, _⟩] a w := hst
  refine thn_normal ?_
  refine wp_ret ?_
  refine ret_wk ?_ (ret_cell rfl hst (List.mem_of_getElem? (i := 2) rfl) ty_27)
  exact (qa_mono (by omega)).va

set_option maxRecDepth 100000 in
theorem told_q {c : Nat} (q : Rat) : Cn Tryz.prog 101 [Qs c q] (FrR (toO q)) := by
  refine Cn.intro Tryz.func101 rfl (by kernel_rfl) nq (fun B w0 a hst => ?_)
  have hst : St B w0 9 [(0, Qs c q)] [] a w0.w := hst
  refine wp_seq ?_
  refine gl (sts := []) (news := [⟨1, 27, ptrH, some 0, _, none⟩, ⟨2, 27, ptrH, some 1, _, none⟩]) (sp := [.alc 0, .alc 1, .val 3 _]) [.o 2] hst (oc (ob_box rfl rfl rfl (gq 0 rfl)) (oc (ob_alc rfl rfl rfl (Str.zero str_frac)) (oc (ob_v rfl rfl (r_assign has_num)) o0))) (fun a w hst => ?_)
  have hst : St B w0 9 [(3, _)] [⟨1, 27, ptrH, _⟩, ⟨2, 27, ptrH, _⟩] a w := hst
  refine thn_normal ?_
  refine wp_seq ?_
  refine wp_seq ?_
  refine gl (sts := [none, none]) (news := []) (sp := [.val 4 _, .val 5 _, .val 6 _]) [.g 0, .o 2] hst (oc (ob_v rfl rfl (r_load (lz0 0 rfl) ty_27)) (oc (ob_v rfl rfl (r_slice (D := [U32]) (l := [_]) (xs := [.tmp 4]) (nd_ok (by kernel_rfl)) sl_107 (by kernel_rfl) (n_ok (by kernel_rfl)) nq nq nq (.cons (vq 0 rfl) .nil) rfl rfl)) (oc (ob_v rfl rfl (r_call (xs := [.tmp 5]) (long_q [q] (.cons ⟨_, rfl⟩ .nil) nq) (.cons (vq 1 rfl) .nil))) o0))) (fun a w hst => ?_)
  have hst : St B w0 9 [(3, _), (6, _)] [⟨1, 27, ptrH, _⟩, ⟨2, 27, ptrH, _⟩] a w := hst
  refine thn_normal ?_
  refine cond_of hst (List.mem_of_getElem? (i := 1) rfl) (fun hb0 => ?_) (fun hb0 => ?_)
  · refine wp_seq ?_
    refine gl (sts := [none, some (1, _)]) (news := []) (sp := [.val 7 _, .sto 1, .val 3 _]) [.o 2] hst (oc (ob_v rfl rfl (r_build (xs := []) (qs := []) str_frac .nil)) (oc (ob_sto rfl rfl rfl (vq 0 rfl) ty_27 (Eq.trans (b := 4) rfl rfl)) (oc (ob_v rfl rfl (r_assign has_num)) o0))) (fun a w hst => ?_)
    have hst : St B w0 9 [(3, _)] [⟨1, 27, ptrH, _⟩, ⟨2, 27, ptrH, _⟩] a w := hst
    refine thn_normal ?_
    refine wp_ret ?_
    refine thn_ret ?_
    refine ret_wk ?_ (ret_many (rs := [.cell 2 27, .tmp 3]) rfl hst (.cell (List.mem_of_getElem? (i := 1) rfl) ty_27 (.tmp (List.mem_of_getElem? (i := 0) rfl) .nil)) (by decide))
    rw [to_lo hb0]; exact wk_id
  · refine wp_skip ?_
    refine thn_normal ?_
    refine wp_seq ?_
    refine gl (sts := [none, some (1, _)]) (news := []) (sp := [.val 8 _, .sto 1, .val 3 _]) [.o 2] hst (oc (ob_v rfl rfl (r_load (lz0 0 rfl) ty_27)) (oc (ob_sto rfl rfl rfl (vq 0 rfl) ty_27 (Eq.trans (b := 4) rfl rfl)) (oc (ob_v rfl rfl (r_assign has_num)) o0))) (fun a w hst => ?_)
    have hst : St B w0 9 [(3, _)] [⟨1, 27, ptrH, _⟩, ⟨2, 27, ptrH, _⟩] a w := hst
    refine thn_normal ?_
    refine wp_ret ?_
    refine ret_wk ?_ (ret_many (rs := [.cell 2 27, .tmp 3]) rfl hst (.cell (List.mem_of_getElem? (i := 1) rfl) ty_27 (.tmp (List.mem_of_getElem? (i := 0) rfl) .nil)) (by decide))
    rw [to_ok hb0]; exact tu2w qaA.va wk_id

set_option maxRecDepth 100000 in
theorem short_q {m : MQ} : Cn Tryz.prog 100 [(QMA 2048 m).va] (Qs 8197 (shQ' m)) := by
  refine Cn.intro Tryz.func100 rfl (by kernel_rfl) nq (fun B w0 a hst => ?_)
  have hst : St B w0 14 [(0, (QMA 2048 m).va)] [] a w0.w := hst
  refine wp_seq ?_
  refine gl (sts := []) (news := [⟨1, 38, ptrH, some 0, _, none⟩, ⟨2, 27, ptrH, some 1, _, none⟩]) (sp := [.alc 0, .alc 1]) [] hst (oc (ob_box rfl rfl rfl (gq 0 rfl)) (oc (ob_alc rfl rfl rfl (Str.zero str_frac)) o0)) (fun a w hst => ?_)
  have hst : St B w0 14 [] [⟨1, 38, ptrH, _⟩, ⟨2, 27, ptrH, _⟩] a w := hst
  refine thn_normal ?_
  refine wp_seq ?_
  refine gl (sts := [none, none]) (news := [⟨3, 27, ptrH, some 5, _, some (6, _)⟩]) (sp := [.adr 4 1 (.some 0) True, .val 5 _, .adr 6 1 (.some 12) True, .val 7 _, .val 8 _, .alc 2, .sto 2]) [] hst (oc (ob_a rfl rfl (a_fld (lz0 0 rfl) fld_38_0)) (oc (ob_v rfl rfl (r_loadf 0 rfl (by kernel_rfl) trivial (lz0 0 rfl) (Sub.part 0 rfl rfl) ty_27)) (oc (ob_a rfl rfl (a_fld (lz0 0 rfl) fld_38_3)) (oc (ob_v rfl rfl (r_loadf 2 rfl (by kernel_rfl) trivial (lz0 0 rfl) (Sub.part 3 rfl rfl) ty_27)) (oc (ob_v rfl rfl (r_call (xs := [.tmp 5, .tmp 7]) (plus_q (by omega)) (.cons (vq 1 rfl) (.cons (vq 3 rfl) .nil)))) (oc (ob_alc rfl rfl rfl (Str.zero str_frac)) (oc (ob_sto rfl rfl rfl (vq 4 rfl) ty_27 (Eq.trans (b := 4) rfl rfl)) o0))))))) (fun a w hst => ?_)
  have hst : St B w0 14 [] [⟨1, 38, ptrH, _⟩, ⟨2, 27, ptrH, _⟩, ⟨3, 27, ptrH, _⟩] a w := hst
  refine thn_normal ?_
  refine wp_seq ?_
  refine go_draw (anc := [[], [], [], [0, 1, 2], [0, 1, 2, 3], [0, 1, 2, 3, 4]]) (sts := [none, some (5, _), none]) (news := []) (sp := [.val 9 _, .val 10 _, .val 11 _, .val 12 _, .val 13 _, .sto 1]) [] follows_mixed hst (oc (ob_v rfl rfl (r_call (xs := [.const (.int .i64 (4)), .const (.int .i64 (1))]) (small_q (by decide) (by decide) (by decide) (by decide) (by decide)) (.cons has_num (.cons has_num .nil)))) (oc (ob_v rfl rfl (r_load (lz0 2 rfl) ty_27)) (oc (ob_v rfl rfl (r_load (lz0 2 rfl) ty_27)) (oc (ob_v rfl rfl (r_call (xs := [.tmp 10, .tmp 11]) (times_q (by omega)) (.cons (vq 1 rfl) (.cons (vq 2 rfl) .nil)))) (oc (ob_v rfl rfl (r_call (xs := [.tmp 9, .tmp 12]) (minus_q (by omega)) (.cons (vq 0 rfl) (.cons (vq 3 rfl) .nil)))) (oc (ob_sto rfl rfl rfl (vq 4 rfl) ty_27 (Eq.trans (b := 4) rfl rfl)) o0)))))) (by kernel_rfl) (by kernel_rfl) (by kernel_rfl) (by kernel_rfl) (fun a w hst => ?_)
  have hst : St B w0 14 [] [⟨1, 38, ptrH, _⟩, ⟨2, 27, ptrH, _⟩, ⟨3, 27, ptrH, _⟩] a w := hst
  refine thn_normal ?_
  refine wp_ret ?_
  refine ret_wk ?_ (ret_cell rfl hst (List.mem_of_getElem? (i := 1) rfl) ty_27)
  exact (qa_mono (by omega)).va

end Go.Proofs.YtiflajpmipejnaaGreat
