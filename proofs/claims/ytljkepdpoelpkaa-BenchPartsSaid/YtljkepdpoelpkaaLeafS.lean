import Derived.Test.YtljkepdpoelpkaaLeafR
namespace Go.Proofs.Ytljkepdpoelpkaa
open Go Go.RowKit
namespace LeafS
theorem fld_37_0 : Fld Try.prog 37 0 0 4 := ⟨_, _, Try.underlying37, rfl, rfl, by kernel_rfl, by decide⟩
theorem fld_37_1 : Fld Try.prog 37 1 4 4 := ⟨_, _, Try.underlying37, rfl, rfl, by kernel_rfl, by decide⟩
theorem fld_37_2 : Fld Try.prog 37 2 8 4 := ⟨_, _, Try.underlying37, rfl, rfl, by kernel_rfl, by decide⟩
theorem fld_37_3 : Fld Try.prog 37 3 12 4 := ⟨_, _, Try.underlying37, rfl, rfl, by kernel_rfl, by decide⟩
theorem sl_80 : Sl Try.prog 80 35 4 := ⟨by kernel_rfl, by kernel_rfl⟩
theorem ty_35 : Ty Try.prog 35 4 true := ⟨by kernel_rfl, by kernel_rfl⟩
theorem ty_37 : Ty Try.prog 37 16 true := ⟨by kernel_rfl, by kernel_rfl⟩
end LeafS
open LeafS
/-! beams, matrices, rays: as they come, and their worth -/
structure RG where
  re : RF
  im : RF
  deriving DecidableEq
structure RM where
  a : RF
  b : RF
  c : RF
  d : RF
  deriving DecidableEq
structure RR where
  y : RF
  u : RF
  deriving DecidableEq
structure GQ where
  re : Rat
  im : Rat
  deriving DecidableEq
structure MQ where
  a : Rat
  b : Rat
  c : Rat
  d : Rat
  deriving DecidableEq
structure YQ where
  y : Rat
  u : Rat
  deriving DecidableEq
def RGA (x : RG) : As := cat [RFA x.re, RFA x.im]
def RMA (x : RM) : As := cat [RFA x.a, RFA x.b, RFA x.c, RFA x.d]
def RRA (x : RR) : As := cat [RFA x.y, RFA x.u]
def QGA (k : Nat) (x : GQ) : As := cat [QA k x.re, QA k x.im]
def QMA (k : Nat) (x : MQ) : As := cat [QA k x.a, QA k x.b, QA k x.c, QA k x.d]
def QRA (k : Nat) (x : YQ) : As := cat [QA k x.y, QA k x.u]
abbrev rg0 : RG := ⟨rf0, rf0⟩
abbrev rm0 : RM := ⟨rf0, rf0, rf0, rf0⟩
abbrev rr0 : RR := ⟨rf0, rf0⟩
def rgOf (z : GQ) : RG := ⟨rfOf z.re, rfOf z.im⟩
def rmOf (m : MQ) : RM := ⟨rfOf m.a, rfOf m.b, rfOf m.c, rfOf m.d⟩
def rrOf (r : YQ) : RR := ⟨rfOf r.y, rfOf r.u⟩
def toG (x : RG) : GQ := ⟨toQ x.re, toQ x.im⟩
def toM (x : RM) : MQ := ⟨toQ x.a, toQ x.b, toQ x.c, toQ x.d⟩
def toY (x : RR) : YQ := ⟨toQ x.y, toQ x.u⟩
def detM (m : MQ) : Rat := m.a * m.d - m.b * m.c
theorem qa_x {k : Nat} {x : RF} (h : okX x = true) (hk : 2048 ≤ k) : WkA (RFA x) (QA k (toQ x)) := by
  obtain ⟨h1, h2, h3⟩ := okX_q h
  exact (wkA_eq (congrArg RFA h1)).trans (qa_of (Nat.le_trans h2 hk) (Nat.le_trans h3 hk))
theorem qg_x {x : RG} (h : [x.re, x.im].all okX = true) : WkA (RGA x) (QGA 2048 (toG x)) := by
  simp only [List.all_cons, List.all_nil, Bool.and_true, Bool.and_eq_true] at h
  exact cat_wk (.cons (qa_x h.1 (Nat.le_refl _)) (.cons (qa_x h.2 (Nat.le_refl _)) .nil))
theorem qm_x {x : RM} (h : [x.a, x.b, x.c, x.d].all okX = true) : WkA (RMA x) (QMA 2048 (toM x)) := by
  simp only [List.all_cons, List.all_nil, Bool.and_true, Bool.and_eq_true] at h
  exact cat_wk (.cons (qa_x h.1 (Nat.le_refl _)) (.cons (qa_x h.2.1 (Nat.le_refl _)) (.cons (qa_x h.2.2.1 (Nat.le_refl _)) (.cons (qa_x h.2.2.2 (Nat.le_refl _)) .nil))))
theorem qr_x {x : RR} (h : [x.y, x.u].all okX = true) : WkA (RRA x) (QRA 2048 (toY x)) := by
  simp only [List.all_cons, List.all_nil, Bool.and_true, Bool.and_eq_true] at h
  exact cat_wk (.cons (qa_x h.1 (Nat.le_refl _)) (.cons (qa_x h.2 (Nat.le_refl _)) .nil))
theorem qgA {k : Nat} {x : GQ} : WkA (QGA k x) (RGA (rgOf x)) := cat_wk (.cons qaA (.cons qaA .nil))
theorem qmA {k : Nat} {x : MQ} : WkA (QMA k x) (RMA (rmOf x)) := cat_wk (.cons qaA (.cons qaA (.cons qaA (.cons qaA .nil))))
theorem qrA {k : Nat} {x : YQ} : WkA (QRA k x) (RRA (rrOf x)) := cat_wk (.cons qaA (.cons qaA .nil))
theorem qg_mono {k k' : Nat} {x : GQ} (h : k ≤ k') : WkA (QGA k x) (QGA k' x) := cat_wk (.cons (qa_mono h) (.cons (qa_mono h) .nil))
/-- may a matrix be? -/
def okM (m : RM) : Bool := [m.a, m.b, m.c, m.d].all okX && decide (detM (toM m) = 1)
theorem cm_ne {x y : Rat} : (cmQ x y != 0) = !decide (x = y) := by
  unfold cmQ
  by_cases h : x < y
  · rw [if_pos h]; simp [Rat.ne_of_lt h]
  · rw [if_neg h]
    by_cases h2 : y < x
    · rw [if_pos h2]; simp [Rat.ne_of_gt h2]
    · rw [if_neg h2]
      have : x = y := Rat.le_antisymm (Rat.not_lt.1 h2) (Rat.not_lt.1 h)
      simp [this]
theorem cm_eq {x y : Rat} : (cmQ x y == 0) = decide (x = y) := by
  have := cm_ne (x := x) (y := y)
  simp only [bne] at this
  cases h : cmQ x y == 0 <;> cases h2 : decide (x = y) <;> simp_all
theorem all4 {m : RM} (h : (![m.a, m.b, m.c, m.d].all okX) = false) : [m.a, m.b, m.c, m.d].all okX = true := by simpa using h

theorem str_matrix : Str Try.prog 37 [RFA rf0, RFA rf0, RFA rf0, RFA rf0] :=
  Str.of (z := .agg #[.bool false, .slice none 0 0, .bool false, .slice none 0 0, .bool false, .slice none 0 0, .bool false, .slice none 0 0, .bool false, .slice none 0 0, .bool false, .slice none 0 0, .bool false, .slice none 0 0, .bool false, .slice none 0 0]) (by kernel_rfl) Try.underlying37 (by kernel_rfl) fun B w => ⟨[[.bool false, .slice none 0 0, .bool false, .slice none 0 0], [.bool false, .slice none 0 0, .bool false, .slice none 0 0], [.bool false, .slice none 0 0, .bool false, .slice none 0 0], [.bool false, .slice none 0 0, .bool false, .slice none 0 0]], rfl, (.cons (rf0_p B w) (.cons (rf0_p B w) (.cons (rf0_p B w) (.cons (rf0_p B w) .nil))))⟩
set_option maxRecDepth 100000 in
theorem rdet_q {c d e f : Nat} {x y z u : Rat} (hk : c + d + e + f ≤ 137438953472) : Cn Try.prog 40 [Qs c x, Qs d y, Qs e z, Qs f u] (Qs (c + f + (d + e) + 1) (x * u - y * z)) := by
  refine Cn.intro Try.func40 rfl (by kernel_rfl) nq (fun B w0 a hst => ?_)
  have hst : St B w0 16 [(0, Qs c x), (1, Qs d y), (2, Qs e z), (3, Qs f u)] [] a w0.w := hst
  refine wp_seq ?_
  refine gl (sts := []) (news := [⟨4, 35, ptrH, some 0, _, none⟩, ⟨5, 35, ptrH, some 1, _, none⟩, ⟨6, 35, ptrH, some 2, _, none⟩, ⟨7, 35, ptrH, some 3, _, none⟩, ⟨8, 35, ptrH, some 4, _, none⟩]) (sp := [.alc 0, .alc 1, .alc 2, .alc 3, .alc 4]) [] hst (oc (ob_box rfl rfl rfl (gq 0 rfl)) (oc (ob_box rfl rfl rfl (gq 1 rfl)) (oc (ob_box rfl rfl rfl (gq 2 rfl)) (oc (ob_box rfl rfl rfl (gq 3 rfl)) (oc (ob_alc rfl rfl rfl (Str.zero str_frac)) o0))))) (fun a w hst => ?_)
  have hst : St B w0 16 [] [⟨4, 35, ptrH, _⟩, ⟨5, 35, ptrH, _⟩, ⟨6, 35, ptrH, _⟩, ⟨7, 35, ptrH, _⟩, ⟨8, 35, ptrH, _⟩] a w := hst
  refine thn_normal ?_
  refine wp_seq ?_
  refine go_draw (anc := [[], [], [0, 1], [], [], [0, 1, 2, 3, 4], [0, 1, 2, 3, 4, 5], [0, 1, 2, 3, 4, 5, 6]]) (sts := [none, none, none, none, some (7, _)]) (news := []) (sp := [.val 9 _, .val 10 _, .val 11 _, .val 12 _, .val 13 _, .val 14 _, .val 15 _, .sto 4]) [] follows_mixed hst (oc (ob_v rfl rfl (r_load (lz0 0 rfl) ty_35)) (oc (ob_v rfl rfl (r_load (lz0 3 rfl) ty_35)) (oc (ob_v rfl rfl (r_call (xs := [.tmp 9, .tmp 10]) (times_q (by omega)) (.cons (vq 0 rfl) (.cons (vq 1 rfl) .nil)))) (oc (ob_v rfl rfl (r_load (lz0 1 rfl) ty_35)) (oc (ob_v rfl rfl (r_load (lz0 2 rfl) ty_35)) (oc (ob_v rfl rfl (r_call (xs := [.tmp 12, .tmp 13]) (times_q (by omega)) (.cons (vq 3 rfl) (.cons (vq 4 rfl) .nil)))) (oc (ob_v rfl rfl (r_call (xs := [.tmp 11, .tmp 14]) (minus_q (by omega)) (.cons (vq 2 rfl) (.cons (vq 5 rfl) .nil)))) (oc (ob_sto rfl rfl rfl (vq 6 rfl) ty_35 (Eq.trans (b := 4) rfl rfl)) o0)))))))) (by kernel_rfl) (by kernel_rfl) (by kernel_rfl) (by kernel_rfl) (fun a w hst => ?_)
  have hst : St B w0 16 [] [⟨4, 35, ptrH, _⟩, ⟨5, 35, ptrH, _⟩, ⟨6, 35, ptrH, _⟩, ⟨7, 35, ptrH, _⟩, ⟨8, 35, ptrH, _⟩] a w := hst
  refine thn_normal ?_
  refine wp_ret ?_
  refine ret_wk ?_ (ret_cell rfl hst (List.mem_of_getElem? (i := 4) rfl) ty_35)
  exact wk_id

theorem chkM_yes {m : RM} (h : ((![m.a, m.b, m.c, m.d].all okX) || (cmQ (toQ m.a * toQ m.d - toQ m.b * toQ m.c) 1 != 0)) = true) : (1 : Int) = if okM m then 0 else 1 := by
  have : okM m = false := by
    unfold okM
    rw [cm_ne] at h
    show ([m.a, m.b, m.c, m.d].all okX && decide (toQ m.a * toQ m.d - toQ m.b * toQ m.c = 1)) = false
    cases h1 : [m.a, m.b, m.c, m.d].all okX
    · rfl
    · rw [h1] at h; simpa using h
  rw [this]; rfl
theorem chkM_no {m : RM} (h : ((![m.a, m.b, m.c, m.d].all okX) || (cmQ (toQ m.a * toQ m.d - toQ m.b * toQ m.c) 1 != 0)) = false) : (0 : Int) = if okM m then 0 else 1 := by
  have : okM m = true := by
    unfold okM
    rw [cm_ne] at h
    show ([m.a, m.b, m.c, m.d].all okX && decide (toQ m.a * toQ m.d - toQ m.b * toQ m.c = 1)) = true
    cases h1 : [m.a, m.b, m.c, m.d].all okX
    · rw [h1] at h; simp at h
    · rw [h1] at h; simpa using h
  rw [this]; rfl
theorem det_x {m : RM} (h : (![m.a, m.b, m.c, m.d].all okX) = false) : Cn Try.prog 40 [(RFA m.a).va, (RFA m.b).va, (RFA m.c).va, (RFA m.d).va] (Qs 8193 (toQ m.a * toQ m.d - toQ m.b * toQ m.c)) := by
  have h4 := all4 h
  simp only [List.all_cons, List.all_nil, Bool.and_true, Bool.and_eq_true] at h4
  exact (rdet_q (c := 2048) (d := 2048) (e := 2048) (f := 2048) (by decide)).wk (.cons (qa_x h4.1 (Nat.le_refl _)).va (.cons (qa_x h4.2.1 (Nat.le_refl _)).va (.cons (qa_x h4.2.2.1 (Nat.le_refl _)).va (.cons (qa_x h4.2.2.2 (Nat.le_refl _)).va .nil))))

set_option maxRecDepth 100000 in
theorem rayCheck_c (m : RM) : Cn Try.prog 17 [(RMA m).va] (In (if okM m then 0 else 1)) := by
  refine Cn.intro Try.func17 rfl (by kernel_rfl) nq (fun B w0 a hst => ?_)
  have hst : St B w0 28 [(0, (RMA m).va)] [] a w0.w := hst
  refine wp_seq ?_
  refine gl (sts := []) (news := [⟨1, 37, ptrH, some 0, _, none⟩]) (sp := [.alc 0, .val 2 _]) [.o 1] hst (oc (ob_box rfl rfl rfl (gq 0 rfl)) (oc (ob_v rfl rfl (r_assign has_num)) o0)) (fun a w hst => ?_)
  have hst : St B w0 28 [(2, _)] [⟨1, 37, ptrH, _⟩] a w := hst
  refine thn_normal ?_
  refine wp_seq ?_
  refine wp_seq ?_
  refine gl (sts := [none]) (news := []) (sp := ((.adr 3 1 (.some 0) True : Sp) :: (.val 4 _) :: (.adr 5 1 (.some 4) True) :: (.val 6 _) :: (.adr 7 1 (.some 8) True) :: (.val 8 _) :: (.adr 9 1 (.some 12) True) :: (.val 10 _) :: (.val 11 _) :: (.val 12 _) :: (.val 13 _) :: (.val 14 _) :: (.adr 15 1 (.some 0) (_ = false)) :: (.val 16 (Wh (_ = false) _)) :: (.adr 17 1 (.some 4) (_ = false)) :: (.val 18 (Wh (_ = false) _)) :: (.adr 19 1 (.some 8) (_ = false)) :: (.val 20 (Wh (_ = false) _)) :: (.adr 21 1 (.some 12) (_ = false)) :: (.val 22 (Wh (_ = false) _)) :: (.val 23 (Wh (_ = false) _)) :: (.val 24 (Wh (_ = false) _)) :: (.val 25 (Wh (_ = false) _)) :: (.val 26 (Wh (_ = false) _)) :: (.val 27 _) :: [])) [.g 0, .o 24] hst (oc (ob_a rfl rfl (a_fld (lz0 0 rfl) fld_37_0)) (oc (ob_v rfl rfl (r_loadf 0 rfl (by kernel_rfl) trivial (lz0 0 rfl) (Sub.part 0 rfl rfl) ty_35)) (oc (ob_a rfl rfl (a_fld (lz0 0 rfl) fld_37_1)) (oc (ob_v rfl rfl (r_loadf 2 rfl (by kernel_rfl) trivial (lz0 0 rfl) (Sub.part 1 rfl rfl) ty_35)) (oc (ob_a rfl rfl (a_fld (lz0 0 rfl) fld_37_2)) (oc (ob_v rfl rfl (r_loadf 4 rfl (by kernel_rfl) trivial (lz0 0 rfl) (Sub.part 2 rfl rfl) ty_35)) (oc (ob_a rfl rfl (a_fld (lz0 0 rfl) fld_37_3)) (oc (ob_v rfl rfl (r_loadf 6 rfl (by kernel_rfl) trivial (lz0 0 rfl) (Sub.part 3 rfl rfl) ty_35)) (oc (ob_v rfl rfl (r_slice (D := [U32]) (l := [_, _, _, _]) (xs := [.tmp 4, .tmp 6, .tmp 8, .tmp 10]) (nd_ok (by kernel_rfl)) sl_80 (by kernel_rfl) (n_ok (by kernel_rfl)) nq nq nq (.cons (vq 1 rfl) (.cons (vq 3 rfl) (.cons (vq 5 rfl) (.cons (vq 7 rfl) .nil)))) rfl rfl)) (oc (ob_v rfl rfl (r_call (xs := [.tmp 11]) (checks_c [m.a, m.b, m.c, m.d] nq) (.cons (vq 8 rfl) .nil))) (oc (ob_v rfl rfl (r_not (vq 9 rfl))) (oc (ob_v rfl rfl (r_move (vq 10 rfl))) (oc (ob_ag rfl rfl rfl (vq 11 rfl) nq (fun hg => a_fld (lz0 0 rfl) fld_37_0)) (oc (ob_gd rfl rfl rfl (vq 11 rfl) nq (fun hg => r_loadf 12 rfl (by kernel_rfl) hg (lz0 0 rfl) (Sub.part 0 rfl rfl) ty_35)) (oc (ob_ag rfl rfl rfl (vq 11 rfl) nq (fun hg => a_fld (lz0 0 rfl) fld_37_1)) (oc (ob_gd rfl rfl rfl (vq 11 rfl) nq (fun hg => r_loadf 14 rfl (by kernel_rfl) hg (lz0 0 rfl) (Sub.part 1 rfl rfl) ty_35)) (oc (ob_ag rfl rfl rfl (vq 11 rfl) nq (fun hg => a_fld (lz0 0 rfl) fld_37_2)) (oc (ob_gd rfl rfl rfl (vq 11 rfl) nq (fun hg => r_loadf 16 rfl (by kernel_rfl) hg (lz0 0 rfl) (Sub.part 2 rfl rfl) ty_35)) (oc (ob_ag rfl rfl rfl (vq 11 rfl) nq (fun hg => a_fld (lz0 0 rfl) fld_37_3)) (oc (ob_gd rfl rfl rfl (vq 11 rfl) nq (fun hg => r_loadf 18 rfl (by kernel_rfl) hg (lz0 0 rfl) (Sub.part 3 rfl rfl) ty_35)) (oc (ob_gd rfl rfl rfl (vq 11 rfl) nq (fun hg => r_call (xs := [.tmp 16, .tmp 18, .tmp 20, .tmp 22]) (det_x hg) (.cons (has_wh (vq 13 rfl) hg) (.cons (has_wh (vq 15 rfl) hg) (.cons (has_wh (vq 17 rfl) hg) (.cons (has_wh (vq 19 rfl) hg) .nil)))))) (oc (ob_gd rfl rfl rfl (vq 11 rfl) nq (fun hg => r_call (xs := []) one_q .nil)) (oc (ob_gd rfl rfl rfl (vq 11 rfl) nq (fun hg => r_call (xs := [.tmp 23, .tmp 24]) (cmp_q (by omega)) (.cons (has_wh (vq 20 rfl) hg) (.cons (has_wh (vq 21 rfl) hg) .nil)))) (oc (ob_gd rfl rfl rfl (vq 11 rfl) nq (fun hg => r_neq (has_wh (vq 22 rfl) hg) has_num)) (oc (ob_v rfl rfl (r_or (vq 11 rfl) (vq 23 rfl))) o0))))))))))))))))))))))))) (fun a w hst => ?_)
  have hst : St B w0 28 [(2, _), (27, _)] [⟨1, 37, ptrH, _⟩] a w := hst
  refine thn_normal ?_
  refine cond_of hst (List.mem_of_getElem? (i := 1) rfl) (fun hb0 => ?_) (fun hb0 => ?_)
  · refine wp_seq ?_
    refine gl (sts := [none]) (news := []) (sp := [.val 2 _]) [.o 0] hst (oc (ob_v rfl rfl (r_assign has_num)) o0) (fun a w hst => ?_)
    have hst : St B w0 28 [(2, _)] [⟨1, 37, ptrH, _⟩] a w := hst
    refine thn_normal ?_
    refine wp_ret ?_
    refine thn_ret ?_
    refine ret_wk ?_ (ret_tmp rfl hst (List.mem_of_getElem? (i := 0) rfl))
    exact wk_eq (congrArg In (chkM_yes hb0))
  · refine wp_skip ?_
    refine thn_normal ?_
    refine wp_seq ?_
    refine gl (sts := [none]) (news := []) (sp := [.val 2 _]) [.o 0] hst (oc (ob_v rfl rfl (r_assign has_num)) o0) (fun a w hst => ?_)
    have hst : St B w0 28 [(2, _)] [⟨1, 37, ptrH, _⟩] a w := hst
    refine thn_normal ?_
    refine wp_ret ?_
    refine ret_wk ?_ (ret_tmp rfl hst (List.mem_of_getElem? (i := 0) rfl))
    exact wk_eq (congrArg In (chkM_no hb0))

set_option maxRecDepth 100000 in
theorem rowDet_q {c : Nat} {m : MQ} (hk : c ≤ 137438953472) : Cn Try.prog 57 [(QMA c m).va] (Qs (c + c + (c + c) + 1) (detM m)) := by
  refine Cn.intro Try.func57 rfl (by kernel_rfl) nq (fun B w0 a hst => ?_)
  have hst : St B w0 14 [(0, (QMA c m).va)] [] a w0.w := hst
  refine wp_seq ?_
  refine gl (sts := []) (news := [⟨1, 37, ptrH, some 0, _, none⟩, ⟨2, 35, ptrH, some 1, _, none⟩]) (sp := [.alc 0, .alc 1]) [] hst (oc (ob_box rfl rfl rfl (gq 0 rfl)) (oc (ob_alc rfl rfl rfl (Str.zero str_frac)) o0)) (fun a w hst => ?_)
  have hst : St B w0 14 [] [⟨1, 37, ptrH, _⟩, ⟨2, 35, ptrH, _⟩] a w := hst
  refine thn_normal ?_
  refine wp_seq ?_
  refine go_draw (anc := [[], [0], [], [2], [0, 1, 2, 3], [], [5], [], [7], [0, 1, 2, 3, 4, 5, 6, 7, 8], [0, 1, 2, 3, 4, 5, 6, 7, 8, 9], [0, 1, 2, 3, 4, 5, 6, 7, 8, 9, 10]]) (sts := [none, some (11, _)]) (news := []) (sp := [.adr 3 1 (.some 0) True, .val 4 _, .adr 5 1 (.some 12) True, .val 6 _, .val 7 _, .adr 8 1 (.some 4) True, .val 9 _, .adr 10 1 (.some 8) True, .val 11 _, .val 12 _, .val 13 _, .sto 1]) [] follows_mixed hst (oc (ob_a rfl rfl (a_fld (lz0 0 rfl) fld_37_0)) (oc (ob_v rfl rfl (r_loadf 0 rfl (by kernel_rfl) trivial (lz0 0 rfl) (Sub.part 0 rfl rfl) ty_35)) (oc (ob_a rfl rfl (a_fld (lz0 0 rfl) fld_37_3)) (oc (ob_v rfl rfl (r_loadf 2 rfl (by kernel_rfl) trivial (lz0 0 rfl) (Sub.part 3 rfl rfl) ty_35)) (oc (ob_v rfl rfl (r_call (xs := [.tmp 4, .tmp 6]) (times_q (by omega)) (.cons (vq 1 rfl) (.cons (vq 3 rfl) .nil)))) (oc (ob_a rfl rfl (a_fld (lz0 0 rfl) fld_37_1)) (oc (ob_v rfl rfl (r_loadf 5 rfl (by kernel_rfl) trivial (lz0 0 rfl) (Sub.part 1 rfl rfl) ty_35)) (oc (ob_a rfl rfl (a_fld (lz0 0 rfl) fld_37_2)) (oc (ob_v rfl rfl (r_loadf 7 rfl (by kernel_rfl) trivial (lz0 0 rfl) (Sub.part 2 rfl rfl) ty_35)) (oc (ob_v rfl rfl (r_call (xs := [.tmp 9, .tmp 11]) (times_q (by omega)) (.cons (vq 6 rfl) (.cons (vq 8 rfl) .nil)))) (oc (ob_v rfl rfl (r_call (xs := [.tmp 7, .tmp 12]) (minus_q (by omega)) (.cons (vq 4 rfl) (.cons (vq 9 rfl) .nil)))) (oc (ob_sto rfl rfl rfl (vq 10 rfl) ty_35 (Eq.trans (b := 4) rfl rfl)) o0)))))))))))) (by kernel_rfl) (by kernel_rfl) (by kernel_rfl) (by kernel_rfl) (fun a w hst => ?_)
  have hst : St B w0 14 [] [⟨1, 37, ptrH, _⟩, ⟨2, 35, ptrH, _⟩] a w := hst
  refine thn_normal ?_
  refine wp_ret ?_
  refine ret_wk ?_ (ret_cell rfl hst (List.mem_of_getElem? (i := 1) rfl) ty_35)
  exact wk_id

theorem rowDet_x {m : RM} (h : [m.a, m.b, m.c, m.d].all okX = true) : Cn Try.prog 57 [(RMA m).va] (Qs 8193 (detM (toM m))) := (rowDet_q (c := 2048) (by decide)).wk (.cons (qm_x h).va .nil)
theorem may_e {m : RM} : Bo ([m.a, m.b, m.c, m.d].all okX && (cmQ (detM (toM m)) 1 == 0)) = Bo (okM m) := by rw [cm_eq]; rfl

set_option maxRecDepth 100000 in
theorem rowMay_c (m : RM) : Cn Try.prog 32 [(RMA m).va] (Bo (okM m)) := by
  refine Cn.intro Try.func32 rfl (by kernel_rfl) nq (fun B w0 a hst => ?_)
  have hst : St B w0 20 [(0, (RMA m).va)] [] a w0.w := hst
  refine wp_seq ?_
  refine gl (sts := []) (news := [⟨1, 37, ptrH, some 0, _, none⟩]) (sp := [.alc 0, .val 2 _]) [.o 1] hst (oc (ob_box rfl rfl rfl (gq 0 rfl)) (oc (ob_v rfl rfl (r_assign has_bo)) o0)) (fun a w hst => ?_)
  have hst : St B w0 20 [(2, _)] [⟨1, 37, ptrH, _⟩] a w := hst
  refine thn_normal ?_
  refine wp_seq ?_
  refine gl (sts := [none]) (news := []) (sp := [.adr 3 1 (.some 0) True, .val 4 _, .adr 5 1 (.some 4) True, .val 6 _, .adr 7 1 (.some 8) True, .val 8 _, .adr 9 1 (.some 12) True, .val 10 _, .val 11 _, .val 12 _, .val 13 _, .val 14 (Wh (_ = true) _), .val 15 (Wh (_ = true) _), .val 16 (Wh (_ = true) _), .val 17 (Wh (_ = true) _), .val 18 (Wh (_ = true) _), .val 19 _, .val 2 _]) [.o 17] hst (oc (ob_a rfl rfl (a_fld (lz0 0 rfl) fld_37_0)) (oc (ob_v rfl rfl (r_loadf 0 rfl (by kernel_rfl) trivial (lz0 0 rfl) (Sub.part 0 rfl rfl) ty_35)) (oc (ob_a rfl rfl (a_fld (lz0 0 rfl) fld_37_1)) (oc (ob_v rfl rfl (r_loadf 2 rfl (by kernel_rfl) trivial (lz0 0 rfl) (Sub.part 1 rfl rfl) ty_35)) (oc (ob_a rfl rfl (a_fld (lz0 0 rfl) fld_37_2)) (oc (ob_v rfl rfl (r_loadf 4 rfl (by kernel_rfl) trivial (lz0 0 rfl) (Sub.part 2 rfl rfl) ty_35)) (oc (ob_a rfl rfl (a_fld (lz0 0 rfl) fld_37_3)) (oc (ob_v rfl rfl (r_loadf 6 rfl (by kernel_rfl) trivial (lz0 0 rfl) (Sub.part 3 rfl rfl) ty_35)) (oc (ob_v rfl rfl (r_slice (D := [U32]) (l := [_, _, _, _]) (xs := [.tmp 4, .tmp 6, .tmp 8, .tmp 10]) (nd_ok (by kernel_rfl)) sl_80 (by kernel_rfl) (n_ok (by kernel_rfl)) nq nq nq (.cons (vq 1 rfl) (.cons (vq 3 rfl) (.cons (vq 5 rfl) (.cons (vq 7 rfl) .nil)))) rfl rfl)) (oc (ob_v rfl rfl (r_call (xs := [.tmp 11]) (checks_c [m.a, m.b, m.c, m.d] nq) (.cons (vq 8 rfl) .nil))) (oc (ob_v rfl rfl (r_move (vq 9 rfl))) (oc (ob_gd rfl rfl rfl (vq 10 rfl) nq (fun hg => r_load (lz0 0 rfl) ty_37)) (oc (ob_gd rfl rfl rfl (vq 10 rfl) nq (fun hg => r_call (xs := [.tmp 14]) (rowDet_x hg) (.cons (has_wh (vq 11 rfl) hg) .nil))) (oc (ob_gd rfl rfl rfl (vq 10 rfl) nq (fun hg => r_call (xs := []) one_q .nil)) (oc (ob_gd rfl rfl rfl (vq 10 rfl) nq (fun hg => r_call (xs := [.tmp 15, .tmp 16]) (cmp_q (by omega)) (.cons (has_wh (vq 12 rfl) hg) (.cons (has_wh (vq 13 rfl) hg) .nil)))) (oc (ob_gd rfl rfl rfl (vq 10 rfl) nq (fun hg => r_eql (has_wh (vq 14 rfl) hg) has_num)) (oc (ob_v rfl rfl (r_and (vq 10 rfl) (vq 15 rfl))) (oc (ob_v rfl rfl (r_assign (vq 16 rfl))) o0)))))))))))))))))) (fun a w hst => ?_)
  have hst : St B w0 20 [(2, _)] [⟨1, 37, ptrH, _⟩] a w := hst
  refine thn_normal ?_
  refine wp_ret ?_
  refine ret_wk ?_ (ret_tmp rfl hst (List.mem_of_getElem? (i := 0) rfl))
  exact wk_eq may_e


end Go.Proofs.Ytljkepdpoelpkaa
