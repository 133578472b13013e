import Derived.Test.YtaplgnjnhfljnaaGreatLeafR
namespace Go.Proofs.YtaplgnjnhfljnaaGreat
open Go Go.RowKit
namespace LeafS
theorem fld_36_0 : Fld Tryz.prog 36 0 0 4 := ⟨_, _, Tryz.underlying36, rfl, rfl, by kernel_rfl, by decide⟩
theorem fld_36_1 : Fld Tryz.prog 36 1 4 4 := ⟨_, _, Tryz.underlying36, rfl, rfl, by kernel_rfl, by decide⟩
theorem sl_127 : Sl Tryz.prog 127 36 8 := ⟨by kernel_rfl, by kernel_rfl⟩
theorem sl_47 : Sl Tryz.prog 47 26 4 := ⟨by kernel_rfl, by kernel_rfl⟩
theorem ty_26 : Ty Tryz.prog 26 4 true := ⟨by kernel_rfl, by kernel_rfl⟩
theorem ty_36 : Ty Tryz.prog 36 8 true := ⟨by kernel_rfl, by kernel_rfl⟩
end LeafS
open LeafS
/-! beams, matrices, rays: as they come, and their worth -/
structure RG where
  re : RF
  im : RF
  deriving DecidableEq
structure RM where
  a : RF
  b : RF
  c : RF
  d : RF
  deriving DecidableEq
structure RR where
  y : RF
  u : RF
  deriving DecidableEq
structure GQ where
  re : Rat
  im : Rat
  deriving DecidableEq
structure MQ where
  a : Rat
  b : Rat
  c : Rat
  d : Rat
  deriving DecidableEq
structure YQ where
  y : Rat
  u : Rat
  deriving DecidableEq
def RGA (x : RG) : As := cat [RFA x.re, RFA x.im]
def RMA (x : RM) : As := cat [RFA x.a, RFA x.b, RFA x.c, RFA x.d]
def RRA (x : RR) : As := cat [RFA x.y, RFA x.u]
def QGA (k : Nat) (x : GQ) : As := cat [QA k x.re, QA k x.im]
def QMA (k : Nat) (x : MQ) : As := cat [QA k x.a, QA k x.b, QA k x.c, QA k x.d]
def QRA (k : Nat) (x : YQ) : As := cat [QA k x.y, QA k x.u]
abbrev rg0 : RG := ⟨rf0, rf0⟩
abbrev rm0 : RM := ⟨rf0, rf0, rf0, rf0⟩
abbrev rr0 : RR := ⟨rf0, rf0⟩
def rgOf (z : GQ) : RG := ⟨rfOf z.re, rfOf z.im⟩
def rmOf (m : MQ) : RM := ⟨rfOf m.a, rfOf m.b, rfOf m.c, rfOf m.d⟩
def rrOf (r : YQ) : RR := ⟨rfOf r.y, rfOf r.u⟩
def toG (x : RG) : GQ := ⟨toQ x.re, toQ x.im⟩
def toM (x : RM) : MQ := ⟨toQ x.a, toQ x.b, toQ x.c, toQ x.d⟩
def toY (x : RR) : YQ := ⟨toQ x.y, toQ x.u⟩
def detM (m : MQ) : Rat := m.a * m.d - m.b * m.c
theorem qa_x {k : Nat} {x : RF} (h : okX x = true) (hk : 2048 ≤ k) : WkA (RFA x) (QA k (toQ x)) := by
  obtain ⟨h1, h2, h3⟩ := okX_q h
  exact (wkA_eq (congrArg RFA h1)).trans (qa_of (Nat.le_trans h2 hk) (Nat.le_trans h3 hk))
theorem qg_x {x : RG} (h : [x.re, x.im].all okX = true) : WkA (RGA x) (QGA 2048 (toG x)) := by
  simp only [List.all_cons, List.all_nil, Bool.and_true, Bool.and_eq_true] at h
  exact cat_wk (.cons (qa_x h.1 (Nat.le_refl _)) (.cons (qa_x h.2 (Nat.le_refl _)) .nil))
theorem qm_x {x : RM} (h : [x.a, x.b, x.c, x.d].all okX = true) : WkA (RMA x) (QMA 2048 (toM x)) := by
  simp only [List.all_cons, List.all_nil, Bool.and_true, Bool.and_eq_true] at h
  exact cat_wk (.cons (qa_x h.1 (Nat.le_refl _)) (.cons (qa_x h.2.1 (Nat.le_refl _)) (.cons (qa_x h.2.2.1 (Nat.le_refl _)) (.cons (qa_x h.2.2.2 (Nat.le_refl _)) .nil))))
theorem qr_x {x : RR} (h : [x.y, x.u].all okX = true) : WkA (RRA x) (QRA 2048 (toY x)) := by
  simp only [List.all_cons, List.all_nil, Bool.and_true, Bool.and_eq_true] at h
  exact cat_wk (.cons (qa_x h.1 (Nat.le_refl _)) (.cons (qa_x h.2 (Nat.le_refl _)) .nil))
theorem qgA {k : Nat} {x : GQ} : WkA (QGA k x) (RGA (rgOf x)) := cat_wk (.cons qaA (.cons qaA .nil))
theorem qmA {k : Nat} {x : MQ} : WkA (QMA k x) (RMA (rmOf x)) := cat_wk (.cons qaA (.cons qaA (.cons qaA (.cons qaA .nil))))
theorem qrA {k : Nat} {x : YQ} : WkA (QRA k x) (RRA (rrOf x)) := cat_wk (.cons qaA (.cons qaA .nil))
theorem qg_mono {k k' : Nat} {x : GQ} (h : k ≤ k') : WkA (QGA k x) (QGA k' x) := cat_wk (.cons (qa_mono h) (.cons (qa_mono h) .nil))
/-- may a matrix be? -/
def okM (m : RM) : Bool := [m.a, m.b, m.c, m.d].all okX && decide (detM (toM m) = 1)
theorem cm_ne {x y : Rat} : (cmQ x y != 0) = !decide (x = y) := by
  unfold cmQ
  by_cases h : x < y
  · rw [if_pos h]; simp [Rat.ne_of_lt h]
  · rw [if_neg h]
    by_cases h2 : y < x
    · rw [if_pos h2]; simp [Rat.ne_of_gt h2]
    · rw [if_neg h2]
      have : x = y := Rat.le_antisymm (Rat.not_lt.1 h2) (Rat.not_lt.1 h)
      simp [this]
theorem cm_eq {x y : Rat} : (cmQ x y == 0) = decide (x = y) := by
  have := cm_ne (x := x) (y := y)
  simp only [bne] at this
  cases h : cmQ x y == 0 <;> cases h2 : decide (x = y) <;> simp_all
theorem all4 {m : RM} (h : (![m.a, m.b, m.c, m.d].all okX) = false) : [m.a, m.b, m.c, m.d].all okX = true := by simpa using h

theorem str_gauss : Str Tryz.prog 36 [RFA rf0, RFA rf0] :=
  Str.of (z := .agg #[.bool false, .slice none 0 0, .bool false, .slice none 0 0, .bool false, .slice none 0 0, .bool false, .slice none 0 0]) (by kernel_rfl) Tryz.underlying36 (by kernel_rfl) fun B w => ⟨[[.bool false, .slice none 0 0, .bool false, .slice none 0 0], [.bool false, .slice none 0 0, .bool false, .slice none 0 0]], rfl, (.cons (rf0_p B w) (.cons (rf0_p B w) .nil))⟩
set_option maxRecDepth 100000 in
theorem argMay_c (x : RG) : Cn Tryz.prog 91 [(RGA x).va] (Bo ([x.re, x.im].all okX)) := by
  refine Cn.intro Tryz.func91 rfl (by kernel_rfl) nq (fun B w0 a hst => ?_)
  have hst : St B w0 9 [(0, (RGA x).va)] [] a w0.w := hst
  refine wp_seq ?_
  refine gl (sts := []) (news := [⟨1, 36, ptrH, some 0, _, none⟩]) (sp := [.alc 0, .val 2 _]) [.o 1] hst (oc (ob_box rfl rfl rfl (gq 0 rfl)) (oc (ob_v rfl rfl (r_assign has_bo)) o0)) (fun a w hst => ?_)
  have hst : St B w0 9 [(2, _)] [⟨1, 36, ptrH, _⟩] a w := hst
  refine thn_normal ?_
  refine wp_seq ?_
  refine gl (sts := [none]) (news := []) (sp := [.adr 3 1 (.some 0) True, .val 4 _, .adr 5 1 (.some 4) True, .val 6 _, .val 7 _, .val 8 _, .val 2 _]) [.o 6] hst (oc (ob_a rfl rfl (a_fld (lz0 0 rfl) fld_36_0)) (oc (ob_v rfl rfl (r_loadf 0 rfl (by kernel_rfl) trivial (lz0 0 rfl) (Sub.part 0 rfl rfl) ty_26)) (oc (ob_a rfl rfl (a_fld (lz0 0 rfl) fld_36_1)) (oc (ob_v rfl rfl (r_loadf 2 rfl (by kernel_rfl) trivial (lz0 0 rfl) (Sub.part 1 rfl rfl) ty_26)) (oc (ob_v rfl rfl (r_slice (D := [U32]) (l := [_, _]) (xs := [.tmp 4, .tmp 6]) (nd_ok (by kernel_rfl)) sl_47 (by kernel_rfl) (n_ok (by kernel_rfl)) nq nq nq (.cons (vq 1 rfl) (.cons (vq 3 rfl) .nil)) rfl rfl)) (oc (ob_v rfl rfl (r_call (xs := [.tmp 7]) (checks_c [x.re, x.im] nq) (.cons (vq 4 rfl) .nil))) (oc (ob_v rfl rfl (r_assign (vq 5 rfl))) o0))))))) (fun a w hst => ?_)
  have hst : St B w0 9 [(2, _)] [⟨1, 36, ptrH, _⟩] a w := hst
  refine thn_normal ?_
  refine wp_ret ?_
  refine ret_wk ?_ (ret_tmp rfl hst (List.mem_of_getElem? (i := 0) rfl))
  exact wk_id

set_option maxRecDepth 100000 in
theorem norm_q {c : Nat} {z : GQ} (hk : c ≤ 137438953472) : Cn Tryz.prog 41 [(QGA c z).va] (Qs (c + c + (c + c) + 1) (z.re * z.re + z.im * z.im)) := by
  refine Cn.intro Tryz.func41 rfl (by kernel_rfl) nq (fun B w0 a hst => ?_)
  have hst : St B w0 14 [(0, (QGA c z).va)] [] a w0.w := hst
  refine wp_seq ?_
  refine gl (sts := []) (news := [⟨1, 36, ptrH, some 0, _, none⟩, ⟨2, 26, ptrH, some 1, _, none⟩]) (sp := [.alc 0, .alc 1]) [] hst (oc (ob_box rfl rfl rfl (gq 0 rfl)) (oc (ob_alc rfl rfl rfl (Str.zero str_frac)) o0)) (fun a w hst => ?_)
  have hst : St B w0 14 [] [⟨1, 36, ptrH, _⟩, ⟨2, 26, ptrH, _⟩] a w := hst
  refine thn_normal ?_
  refine wp_seq ?_
  refine go_draw (anc := [[], [0], [], [2], [0, 1, 2, 3], [], [5], [], [7], [0, 1, 2, 3, 4, 5, 6, 7, 8], [0, 1, 2, 3, 4, 5, 6, 7, 8, 9], [0, 1, 2, 3, 4, 5, 6, 7, 8, 9, 10]]) (sts := [none, some (11, _)]) (news := []) (sp := [.adr 3 1 (.some 0) True, .val 4 _, .adr 5 1 (.some 0) True, .val 6 _, .val 7 _, .adr 8 1 (.some 4) True, .val 9 _, .adr 10 1 (.some 4) True, .val 11 _, .val 12 _, .val 13 _, .sto 1]) [] follows_mixed hst (oc (ob_a rfl rfl (a_fld (lz0 0 rfl) fld_36_0)) (oc (ob_v rfl rfl (r_loadf 0 rfl (by kernel_rfl) trivial (lz0 0 rfl) (Sub.part 0 rfl rfl) ty_26)) (oc (ob_a rfl rfl (a_fld (lz0 0 rfl) fld_36_0)) (oc (ob_v rfl rfl (r_loadf 2 rfl (by kernel_rfl) trivial (lz0 0 rfl) (Sub.part 0 rfl rfl) ty_26)) (oc (ob_v rfl rfl (r_call (xs := [.tmp 4, .tmp 6]) (times_q (by omega)) (.cons (vq 1 rfl) (.cons (vq 3 rfl) .nil)))) (oc (ob_a rfl rfl (a_fld (lz0 0 rfl) fld_36_1)) (oc (ob_v rfl rfl (r_loadf 5 rfl (by kernel_rfl) trivial (lz0 0 rfl) (Sub.part 1 rfl rfl) ty_26)) (oc (ob_a rfl rfl (a_fld (lz0 0 rfl) fld_36_1)) (oc (ob_v rfl rfl (r_loadf 7 rfl (by kernel_rfl) trivial (lz0 0 rfl) (Sub.part 1 rfl rfl) ty_26)) (oc (ob_v rfl rfl (r_call (xs := [.tmp 9, .tmp 11]) (times_q (by omega)) (.cons (vq 6 rfl) (.cons (vq 8 rfl) .nil)))) (oc (ob_v rfl rfl (r_call (xs := [.tmp 7, .tmp 12]) (plus_q (by omega)) (.cons (vq 4 rfl) (.cons (vq 9 rfl) .nil)))) (oc (ob_sto rfl rfl rfl (vq 10 rfl) ty_26 (Eq.trans (b := 4) rfl rfl)) o0)))))))))))) (by kernel_rfl) (by kernel_rfl) (by kernel_rfl) (by kernel_rfl) (fun a w hst => ?_)
  have hst : St B w0 14 [] [⟨1, 36, ptrH, _⟩, ⟨2, 26, ptrH, _⟩] a w := hst
  refine thn_normal ?_
  refine wp_ret ?_
  refine ret_wk ?_ (ret_cell rfl hst (List.mem_of_getElem? (i := 1) rfl) ty_26)
  exact wk_id

def longG (z : GQ) : Bool := [z.re, z.im].any longQ
def IsG (A : As) (z : GQ) : Prop := ∃ k, A = QGA k z
theorem isg_at {L : List As} {qs : List GQ} (h : All2 IsG L qs) {j : Nat} (hj : j < qs.length) : ∃ k, L[j]? = some (QGA k qs[j]) := by
  have hl := h.length
  obtain ⟨q, h1, k, h2⟩ := h.get (List.getElem?_eq_getElem (show j < L.length by omega))
  rw [List.getElem?_eq_getElem hj] at h1
  injection h1 with h1
  exact ⟨k, by rw [List.getElem?_eq_getElem (by omega), h2, h1]⟩
theorem isg_n {L : List As} {qs : List GQ} (h : All2 IsG L qs) : ∀ A ∈ L, A.n = 8 := fun A hA => by
  obtain ⟨j, hj⟩ := List.getElem?_of_mem hA
  obtain ⟨q, _, k, rfl⟩ := h.get hj
  rfl
theorem isg_up {L : List As} {qs : List GQ} (h : All2 IsG L qs) : ∀ A ∈ L, UpA A A := fun A hA => by
  obtain ⟨j, hj⟩ := List.getElem?_of_mem hA
  obtain ⟨q, _, k, rfl⟩ := h.get hj
  exact cat_up (.cons upA_qa (.cons upA_qa .nil))
theorem any_some {α : Type} {p : α → Bool} {l : List α} {j : Nat} (h : j < l.length) (h2 : p l[j] = true) : true = l.any p := (List.any_eq_true.2 ⟨_, List.getElem_mem h, h2⟩).symm
theorem any_no {α : Type} {p : α → Bool} {l : List α} {j : Nat} (h : j < l.length) (h1 : (l.take j).any p = false) (h2 : p l[j] = false) : (l.take (j + 1)).any p = false := by
  rw [List.take_succ_eq_append_getElem h, List.any_append, h1]
  simp [h2]

set_option maxRecDepth 100000 in
theorem argAnswer_q {L : List As} (qs : List GQ) (hL : All2 IsG L qs) (hl : qs.length ≤ 1099511627776) : Cn Tryz.prog 101 [(SlA 36 [U32] L).va] (In (if qs.any longG then 4 else 0)) := by
  have hLl := hL.length
  refine Cn.introW Tryz.func101 rfl (by kernel_rfl) nq (.cons (up_sl (isg_up hL)).va .nil) (free_num _ _).va (fun B w0 a hB0 hst => ?_)
  have hst : St B w0 18 [(0, (SlO 36 [U32] L True).va)] [] a w0.w := hst
  refine wp_seq ?_
  refine gl (sts := []) (news := []) (sp := [.val 2 _]) [.g 0, .o 0] hst (oc (ob_v rfl rfl (r_assign has_num)) o0) (fun a w hst => ?_)
  have hst : St B w0 18 [(0, _), (2, _)] [] a w := hst
  refine thn_normal ?_
  refine wp_seq ?_
  refine wp_seq ?_
  refine gl (sts := []) (news := []) (sp := [.val 5 _, .val 6 _, .val 7 _]) [.g 1, .o 0, .o 1, .o 2] hst (oc (ob_v rfl rfl (r_move (gq 0 rfl))) (oc (ob_v rfl rfl (r_len Tryz.underlying127 (has_and (has_old (vq 0 rfl))))) (oc (ob_v rfl rfl (r_move has_num)) o0))) (fun a w hst => ?_)
  have hst : St B w0 18 [(2, _), (5, _), (6, _), (7, _)] [] a w := hst
  refine thn_normal ?_
  refine wp_block ?_
  have hst := St.sel hst [1, 2, 3]
  refine wp_loop_ghost (fun n a w => ∃ j : Nat, (n + j = qs.length ∧ (qs.take j).any longG = false) ∧ St B w0 18 [(5, (SlO 36 [U32] L True).va), (6, In (qs.length : Nat)), (7, In (j : Nat))] [] a w) (qs.length) ?_ ?_
  · exact ⟨0, ⟨by omega, rfl⟩, by rw [hLl] at hst; exact hst⟩
  intro n a w hI
  obtain ⟨j, ⟨hn, hno⟩, hst⟩ := hI
  refine wp_seq ?_
  refine gl (sts := []) (news := []) (sp := [.val 8 _]) [.g 0, .g 1, .g 2, .o 0] hst (oc (ob_v rfl rfl (r_lss (gq 2 rfl) (gq 1 rfl))) o0) (fun a w hst => ?_)
  have hst : St B w0 18 [(5, _), (6, _), (7, _), (8, _)] [] a w := hst
  refine thn_normal ?_
  refine wp_seq ?_
  refine cond_of hst (List.mem_of_getElem? (i := 3) rfl) (fun hb0 => ?_) (fun hb0 => ?_)
  · have hj : j < qs.length := by simp at hb0; omega
    obtain ⟨kj, hLj⟩ := isg_at hL hj
    refine wp_skip ?_
    refine thn_normal ?_
    refine wp_seq ?_
    refine wp_block ?_
    refine wp_seq ?_
    refine gl (sts := []) (news := [⟨4, 36, ptrH, some 2, _, some (3, _)⟩]) (sp := [.val 9 _, .val 10 _, .alc 0, .sto 0]) [.g 0, .g 1, .g 2] hst (oc (ob_v rfl rfl (r_idx sl_127 (isg_n hL) (has_and (has_old (gq 0 rfl))) (gq 2 rfl) hLj)) (oc (ob_v rfl rfl (r_loade (vq 0 rfl) ty_36)) (oc (ob_alc rfl rfl rfl (Str.zero str_gauss)) (oc (ob_sto rfl rfl rfl (vq 1 rfl) ty_36 (Eq.trans (b := 8) rfl rfl)) o0)))) (fun a w hst => ?_)
    have hst : St B w0 18 [(5, _), (6, _), (7, _)] [⟨4, 36, ptrH, _⟩] a w := hst
    refine thn_normal ?_
    refine wp_seq ?_
    refine gl (sts := [none]) (news := []) (sp := [.adr 11 4 (.some 0) True, .val 12 _, .adr 13 4 (.some 4) True, .val 14 _, .val 15 _, .val 16 _]) [.g 0, .g 1, .g 2, .o 5] hst (oc (ob_a rfl rfl (a_fld (lz0 0 rfl) fld_36_0)) (oc (ob_v rfl rfl (r_loadf 0 rfl (by kernel_rfl) trivial (lz0 0 rfl) (Sub.part 0 rfl rfl) ty_26)) (oc (ob_a rfl rfl (a_fld (lz0 0 rfl) fld_36_1)) (oc (ob_v rfl rfl (r_loadf 2 rfl (by kernel_rfl) trivial (lz0 0 rfl) (Sub.part 1 rfl rfl) ty_26)) (oc (ob_v rfl rfl (r_slice (D := [U32]) (l := [_, _]) (xs := [.tmp 12, .tmp 14]) (nd_ok (by kernel_rfl)) sl_47 (by kernel_rfl) (n_ok (by kernel_rfl)) nq nq nq (.cons (vq 1 rfl) (.cons (vq 3 rfl) .nil)) rfl rfl)) (oc (ob_v rfl rfl (r_call (xs := [.tmp 15]) (long_q [(qs[j]).re, (qs[j]).im] (.cons ⟨_, rfl⟩ (.cons ⟨_, rfl⟩ .nil)) nq) (.cons (vq 4 rfl) .nil))) o0)))))) (fun a w hst => ?_)
    have hst : St B w0 18 [(5, _), (6, _), (7, _), (16, _)] [⟨4, 36, ptrH, _⟩] a w := hst
    refine thn_normal ?_
    refine cond_of hst (List.mem_of_getElem? (i := 3) rfl) (fun hb1 => ?_) (fun hb1 => ?_)
    · refine wp_seq ?_
      refine gl (sts := [none]) (news := []) (sp := [.val 2 _]) [.g 0, .g 1, .g 2, .o 0] hst (oc (ob_v rfl rfl (r_assign has_num)) o0) (fun a w hst => ?_)
      have hst : St B w0 18 [(5, _), (6, _), (7, _), (2, _)] [⟨4, 36, ptrH, _⟩] a w := hst
      refine thn_normal ?_
      refine wp_ret ?_
      refine blk_ret ?_
      refine thn_ret ?_
      refine thn_ret ?_
      refine blk_ret ?_
      refine thn_ret ?_
      refine ret_wk ?_ (ret_tmp rfl hst (List.mem_of_getElem? (i := 3) rfl))
      rw [← any_some hj hb1]; exact wk_id
    · refine wp_skip ?_
      refine blk_normal ?_
      refine thn_normal ?_
      refine gl (sts := [none]) (news := []) (sp := [.val 17 _, .val 7 _]) [.g 0, .g 1, .o 1] hst (oc (ob_v rfl rfl (r_add (gq 2 rfl) has_num (wi_succ (by omega)))) (oc (ob_v rfl rfl (r_move (vq 0 rfl))) o0)) (fun a w hst => ?_)
      have hst : St B w0 18 [(5, _), (6, _), (7, _)] [⟨4, 36, ptrH, _⟩] a w := hst
      refine thn_normal ?_
      have hst := St.sel hst [0, 1, 2]
      have hst := St.selL hst []
      exact ⟨n - 1, by omega, j + 1, ⟨by omega, any_no hj hno hb1⟩, hst⟩
  · obtain rfl : j = qs.length := by simp at hb0; omega
    refine wp_exit ?_
    refine thn_exit ?_
    refine thn_exit ?_
    refine blk_exit ?_
    refine thn_normal ?_
    refine wp_seq ?_
    refine gl (sts := []) (news := []) (sp := [.val 2 _]) [.o 0] hst (oc (ob_v rfl rfl (r_assign has_num)) o0) (fun a w hst => ?_)
    have hst : St B w0 18 [(2, _)] [] a w := hst
    refine thn_normal ?_
    refine wp_ret ?_
    refine ret_wk ?_ (ret_tmp rfl hst (List.mem_of_getElem? (i := 0) rfl))
    rw [List.take_length] at hno; rw [hno]; exact wk_id

end Go.Proofs.YtaplgnjnhfljnaaGreat
