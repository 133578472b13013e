/- Contracts of package argand on rationals: each, Plus, Minus, Scaled, Times, Conj, Real, Over, Unit. -/
import Derived.Test.YtaplgnjnhfljnaaGreatBenF
namespace Go.Proofs.YtaplgnjnhfljnaaGreat
open Go Go.RowKit
namespace FilA
theorem fld_36_0 : Fld Tryz.prog 36 0 0 4 := ⟨_, _, Tryz.underlying36, rfl, rfl, by kernel_rfl, by decide⟩
theorem fld_36_1 : Fld Tryz.prog 36 1 4 4 := ⟨_, _, Tryz.underlying36, rfl, rfl, by kernel_rfl, by decide⟩
theorem ty_26 : Ty Tryz.prog 26 4 true := ⟨by kernel_rfl, by kernel_rfl⟩
theorem ty_36 : Ty Tryz.prog 36 8 true := ⟨by kernel_rfl, by kernel_rfl⟩
end FilA
open FilA
abbrev FnG (c d e : Nat) (op : Rat → Rat → Rat) : VA := FnV Tryz.prog [26, U32] (fun i : Rat × Rat => [Qs c i.1, Qs d i.2]) (fun i => Qs e (op i.1 i.2))
def mulG (z u : GQ) : GQ := ⟨z.re * u.re - z.im * u.im, z.re * u.im + z.im * u.re⟩
def conjG (z : GQ) : GQ := ⟨z.re, -z.im⟩
def normG (z : GQ) : Rat := z.re * z.re + z.im * z.im
def sclG (z : GQ) (x : Rat) : GQ := ⟨z.re * x, z.im * x⟩
def addG (z u : GQ) : GQ := ⟨z.re + u.re, z.im + u.im⟩
def subG (z u : GQ) : GQ := ⟨z.re - u.re, z.im - u.im⟩
def overG (z u : GQ) : GQ := sclG (mulG z (conjG u)) (1 / normG u)
theorem qg_mono2 {k k' : Nat} {z : GQ} (h : k ≤ k') : WkA (QGA k z) (QGA k' z) := cat_wk (.cons (qa_mono h) (.cons (qa_mono h) .nil))
theorem mulG_0 {z u : GQ} (h : z.im = 0) : sclG u z.re = mulG z u := by
  unfold sclG mulG
  rw [h]
  simp only [GQ.mk.injEq]
  exact ⟨by grind, by grind⟩
theorem mulG_1 {z u : GQ} (h : u.im = 0) : sclG z u.re = mulG z u := by
  unfold sclG mulG
  rw [h]
  simp only [GQ.mk.injEq]
  exact ⟨by grind, by grind⟩
theorem mulG_2 (z u : GQ) : (⟨z.re * u.re - z.im * u.im, (z.re + z.im) * (u.re + u.im) - (z.re * u.re + z.im * u.im)⟩ : GQ) = mulG z u := by
  unfold mulG
  simp only [GQ.mk.injEq]
  exact ⟨trivial, by grind⟩
theorem sgz {x : Rat} (h : (x.num.sign == 0) = true) : x = 0 := by rwa [beq_iff_eq, Int.sign_eq_zero_iff_zero, Rat.num_eq_zero] at h

set_option maxRecDepth 100000 in
theorem each_q {c d e : Nat} {z u : GQ} (op : Rat → Rat → Rat) : Cn Tryz.prog 81 [(QGA c z).va, (QGA d u).va, FnG c d e op] ((QGA e ⟨op z.re u.re, op z.im u.im⟩).va) := by
  refine Cn.intro Tryz.func81 rfl (by kernel_rfl) nq (fun B w0 a hst => ?_)
  have hst : St B w0 20 [(0, (QGA c z).va), (1, (QGA d u).va), (2, FnG c d e op)] [] a w0.w := hst
  refine wp_seq ?_
  refine gl (sts := []) (news := [⟨3, 36, ptrH, some 0, _, none⟩, ⟨4, 36, ptrH, some 1, _, none⟩, ⟨6, 36, ptrH, some 2, _, none⟩]) (sp := [.alc 0, .alc 1, .alc 2]) [.g 2] hst (oc (ob_box rfl rfl rfl (gq 0 rfl)) (oc (ob_box rfl rfl rfl (gq 1 rfl)) (oc (ob_alc rfl rfl rfl (Str.zero str_gauss)) o0))) (fun a w hst => ?_)
  have hst : St B w0 20 [(2, _)] [⟨3, 36, ptrH, _⟩, ⟨4, 36, ptrH, _⟩, ⟨6, 36, ptrH, _⟩] a w := hst
  refine thn_normal ?_
  refine wp_seq ?_
  refine go_draw (anc := [[], [], [1], [], [3], [0, 1, 2, 3, 4], [], [], [7], [], [9], [0, 1, 2, 3, 4, 5, 6, 7, 8, 9, 10], [0, 1, 2, 3, 4, 5, 6, 7, 8, 9, 10, 11], [0, 1, 2, 3, 4, 5, 6, 7, 8, 9, 10, 11, 12]]) (sts := [none, none, some (13, _)]) (news := []) (sp := [.val 7 _, .adr 8 3 (.some 0) True, .val 9 _, .adr 10 4 (.some 0) True, .val 11 _, .val 12 _, .val 13 _, .adr 14 3 (.some 4) True, .val 15 _, .adr 16 4 (.some 4) True, .val 17 _, .val 18 _, .val 19 _, .sto 2]) [] follows_mixed hst (oc (ob_v rfl rfl (r_move (gq 0 rfl))) (oc (ob_a rfl rfl (a_fld (lz0 0 rfl) fld_36_0)) (oc (ob_v rfl rfl (r_loadf 1 rfl (by kernel_rfl) trivial (lz0 0 rfl) (Sub.part 0 rfl rfl) ty_26)) (oc (ob_a rfl rfl (a_fld (lz0 1 rfl) fld_36_0)) (oc (ob_v rfl rfl (r_loadf 3 rfl (by kernel_rfl) trivial (lz0 1 rfl) (Sub.part 0 rfl rfl) ty_26)) (oc (ob_v rfl rfl (r_callv (xs := [.tmp 9, .tmp 11]) (z.re, u.re) (vq 0 rfl) (.cons (vq 2 rfl) (.cons (vq 4 rfl) .nil)))) (oc (ob_v rfl rfl (r_move (gq 0 rfl))) (oc (ob_a rfl rfl (a_fld (lz0 0 rfl) fld_36_1)) (oc (ob_v rfl rfl (r_loadf 7 rfl (by kernel_rfl) trivial (lz0 0 rfl) (Sub.part 1 rfl rfl) ty_26)) (oc (ob_a rfl rfl (a_fld (lz0 1 rfl) fld_36_1)) (oc (ob_v rfl rfl (r_loadf 9 rfl (by kernel_rfl) trivial (lz0 1 rfl) (Sub.part 1 rfl rfl) ty_26)) (oc (ob_v rfl rfl (r_callv (xs := [.tmp 15, .tmp 17]) (z.im, u.im) (vq 6 rfl) (.cons (vq 8 rfl) (.cons (vq 10 rfl) .nil)))) (oc (ob_v rfl rfl (r_build (xs := [(0, .tmp 12), (1, .tmp 18)]) (qs := [(0, _), (1, _)]) str_gauss (.cons ⟨rfl, (vq 5 rfl), rfl⟩ (.cons ⟨rfl, (vq 11 rfl), rfl⟩ .nil)))) (oc (ob_sto rfl rfl rfl (vq 12 rfl) ty_36 (Eq.trans (b := 8) rfl rfl)) o0)))))))))))))) (by kernel_rfl) (by kernel_rfl) (by kernel_rfl) (by kernel_rfl) (fun a w hst => ?_)
  have hst : St B w0 20 [] [⟨3, 36, ptrH, _⟩, ⟨4, 36, ptrH, _⟩, ⟨6, 36, ptrH, _⟩] a w := hst
  refine thn_normal ?_
  refine wp_ret ?_
  refine ret_wk ?_ (ret_cell rfl hst (List.mem_of_getElem? (i := 2) rfl) ty_36)
  exact wk_id

set_option maxRecDepth 100000 in
theorem argPlus_q {c d : Nat} {z u : GQ} (hk : c + d ≤ 549755813888) : Cn Tryz.prog 61 [(QGA c z).va, (QGA d u).va] ((QGA (c + d + 1) (addG z u)).va) := by
  refine Cn.intro Tryz.func61 rfl (by kernel_rfl) nq (fun B w0 a hst => ?_)
  have hst : St B w0 8 [(0, (QGA c z).va), (1, (QGA d u).va)] [] a w0.w := hst
  refine wp_seq ?_
  refine gl (sts := []) (news := [⟨2, 36, ptrH, some 0, _, none⟩, ⟨3, 36, ptrH, some 1, _, none⟩, ⟨4, 36, ptrH, some 2, _, none⟩]) (sp := [.alc 0, .alc 1, .alc 2]) [] hst (oc (ob_box rfl rfl rfl (gq 0 rfl)) (oc (ob_box rfl rfl rfl (gq 1 rfl)) (oc (ob_alc rfl rfl rfl (Str.zero str_gauss)) o0))) (fun a w hst => ?_)
  have hst : St B w0 8 [] [⟨2, 36, ptrH, _⟩, ⟨3, 36, ptrH, _⟩, ⟨4, 36, ptrH, _⟩] a w := hst
  refine thn_normal ?_
  refine wp_seq ?_
  refine gl (sts := [none, none, some (3, _)]) (news := []) (sp := [.val 5 _, .val 6 _, .val 7 _, .sto 2]) [] hst (oc (ob_v rfl rfl (r_load (lz0 0 rfl) ty_36)) (oc (ob_v rfl rfl (r_load (lz0 1 rfl) ty_36)) (oc (ob_v rfl rfl (r_call (xs := [.tmp 5, .tmp 6, .func 34]) (each_q (c := c) (d := d) (e := c + d + 1) (z := z) (u := u) (fun x y => x + y)) (.cons (vq 0 rfl) (.cons (vq 1 rfl) (.cons (has_func (fun i : Rat × Rat => plus_q (x := i.1) (y := i.2) hk)) .nil))))) (oc (ob_sto rfl rfl rfl (vq 2 rfl) ty_36 (Eq.trans (b := 8) rfl rfl)) o0)))) (fun a w hst => ?_)
  have hst : St B w0 8 [] [⟨2, 36, ptrH, _⟩, ⟨3, 36, ptrH, _⟩, ⟨4, 36, ptrH, _⟩] a w := hst
  refine thn_normal ?_
  refine wp_ret ?_
  refine ret_wk ?_ (ret_cell rfl hst (List.mem_of_getElem? (i := 2) rfl) ty_36)
  exact wk_id

set_option maxRecDepth 100000 in
theorem argMinus_q {c d : Nat} {z u : GQ} (hk : c + d ≤ 549755813888) : Cn Tryz.prog 63 [(QGA c z).va, (QGA d u).va] ((QGA (c + d + 1) (subG z u)).va) := by
  refine Cn.intro Tryz.func63 rfl (by kernel_rfl) nq (fun B w0 a hst => ?_)
  have hst : St B w0 8 [(0, (QGA c z).va), (1, (QGA d u).va)] [] a w0.w := hst
  refine wp_seq ?_
  refine gl (sts := []) (news := [⟨2, 36, ptrH, some 0, _, none⟩, ⟨3, 36, ptrH, some 1, _, none⟩, ⟨4, 36, ptrH, some 2, _, none⟩]) (sp := [.alc 0, .alc 1, .alc 2]) [] hst (oc (ob_box rfl rfl rfl (gq 0 rfl)) (oc (ob_box rfl rfl rfl (gq 1 rfl)) (oc (ob_alc rfl rfl rfl (Str.zero str_gauss)) o0))) (fun a w hst => ?_)
  have hst : St B w0 8 [] [⟨2, 36, ptrH, _⟩, ⟨3, 36, ptrH, _⟩, ⟨4, 36, ptrH, _⟩] a w := hst
  refine thn_normal ?_
  refine wp_seq ?_
  refine gl (sts := [none, none, some (3, _)]) (news := []) (sp := [.val 5 _, .val 6 _, .val 7 _, .sto 2]) [] hst (oc (ob_v rfl rfl (r_load (lz0 0 rfl) ty_36)) (oc (ob_v rfl rfl (r_load (lz0 1 rfl) ty_36)) (oc (ob_v rfl rfl (r_call (xs := [.tmp 5, .tmp 6, .func 31]) (each_q (c := c) (d := d) (e := c + d + 1) (z := z) (u := u) (fun x y => x - y)) (.cons (vq 0 rfl) (.cons (vq 1 rfl) (.cons (has_func (fun i : Rat × Rat => minus_q (x := i.1) (y := i.2) hk)) .nil))))) (oc (ob_sto rfl rfl rfl (vq 2 rfl) ty_36 (Eq.trans (b := 8) rfl rfl)) o0)))) (fun a w hst => ?_)
  have hst : St B w0 8 [] [⟨2, 36, ptrH, _⟩, ⟨3, 36, ptrH, _⟩, ⟨4, 36, ptrH, _⟩] a w := hst
  refine thn_normal ?_
  refine wp_ret ?_
  refine ret_wk ?_ (ret_cell rfl hst (List.mem_of_getElem? (i := 2) rfl) ty_36)
  exact wk_id

set_option maxRecDepth 100000 in
theorem scaled1_q {c d : Nat} {y : Rat} (hk : c + d ≤ 549755813888) (i : Rat × Rat) : Cn Tryz.prog 93 [Qs c i.1, Qs c i.2, (ElP 26 (QA d y))] (Qs (c + d) (i.1 * y)) := by
  refine Cn.intro Tryz.func93 rfl (by kernel_rfl) nq (fun B w0 a hst => ?_)
  have hst : St B w0 9 [(0, Qs c i.1), (1, Qs c i.2), (2, (ElP 26 (QA d y)))] [] a w0.w := hst
  refine wp_seq ?_
  refine gl (sts := []) (news := [⟨3, 26, ptrH, some 0, _, none⟩, ⟨4, 26, ptrH, some 1, _, none⟩, ⟨5, 26, ptrH, some 2, _, none⟩]) (sp := [.alc 0, .alc 1, .alc 2]) [.g 2] hst (oc (ob_box rfl rfl rfl (gq 0 rfl)) (oc (ob_box rfl rfl rfl (gq 1 rfl)) (oc (ob_alc rfl rfl rfl (Str.zero str_frac)) o0))) (fun a w hst => ?_)
  have hst : St B w0 9 [(2, _)] [⟨3, 26, ptrH, _⟩, ⟨4, 26, ptrH, _⟩, ⟨5, 26, ptrH, _⟩] a w := hst
  refine thn_normal ?_
  refine wp_seq ?_
  refine gl (sts := [none, none, some (3, _)]) (news := []) (sp := [.val 6 _, .val 7 _, .val 8 _, .sto 2]) [] hst (oc (ob_v rfl rfl (r_load (lz0 0 rfl) ty_26)) (oc (ob_v rfl rfl (r_loade (gq 0 rfl) ty_26)) (oc (ob_v rfl rfl (r_call (xs := [.tmp 6, .tmp 7]) (times_q (by omega)) (.cons (vq 0 rfl) (.cons (vq 1 rfl) .nil)))) (oc (ob_sto rfl rfl rfl (vq 2 rfl) ty_26 (Eq.trans (b := 4) rfl rfl)) o0)))) (fun a w hst => ?_)
  have hst : St B w0 9 [] [⟨3, 26, ptrH, _⟩, ⟨4, 26, ptrH, _⟩, ⟨5, 26, ptrH, _⟩] a w := hst
  refine thn_normal ?_
  refine wp_ret ?_
  refine ret_wk ?_ (ret_cell rfl hst (List.mem_of_getElem? (i := 2) rfl) ty_26)
  exact wk_id

set_option maxRecDepth 100000 in
theorem scaled_q {c d : Nat} {z : GQ} {y : Rat} (hk : c + d ≤ 549755813888) : Cn Tryz.prog 82 [(QGA c z).va, Qs d y] ((QGA (c + d) (sclG z y)).va) := by
  refine Cn.intro Tryz.func82 rfl (by kernel_rfl) nq (fun B w0 a hst => ?_)
  have hst : St B w0 9 [(0, (QGA c z).va), (1, Qs d y)] [] a w0.w := hst
  refine wp_seq ?_
  refine gl (sts := []) (news := [⟨2, 36, ptrH, some 0, _, none⟩, ⟨3, 26, ptrH, some 1, _, none⟩, ⟨4, 36, ptrH, some 2, _, none⟩]) (sp := [.alc 0, .alc 1, .alc 2]) [] hst (oc (ob_box rfl rfl rfl (gq 0 rfl)) (oc (ob_box rfl rfl rfl (gq 1 rfl)) (oc (ob_alc rfl rfl rfl (Str.zero str_gauss)) o0))) (fun a w hst => ?_)
  have hst : St B w0 9 [] [⟨2, 36, ptrH, _⟩, ⟨3, 26, ptrH, _⟩, ⟨4, 36, ptrH, _⟩] a w := hst
  refine thn_normal ?_
  refine wp_seq ?_
  refine gl (sts := [none, none, some (4, _)]) (news := []) (sp := [.val 5 _, .val 6 _, .val 7 _, .val 8 _, .sto 2]) [] hst (oc (ob_v rfl rfl (r_load (lz0 0 rfl) ty_36)) (oc (ob_v rfl rfl (r_load (lz0 0 rfl) ty_36)) (oc (ob_v rfl rfl (r_mkfunc (xs := [.tmp 3]) (D := [26, U32]) (pre := fun i : Rat × Rat => [Qs c i.1, Qs c i.2]) (post := fun i => Qs (c + d) (i.1 * y)) (fun i => scaled1_q hk i) (nd_va rfl) (.cons (has_ptr (lz0 1 rfl)) .nil))) (oc (ob_v rfl rfl (r_call (xs := [.tmp 5, .tmp 6, .tmp 7]) (each_q (c := c) (d := c) (e := c + d) (z := z) (u := z) (fun x _ => x * y)) (.cons (vq 0 rfl) (.cons (vq 1 rfl) (.cons (vq 2 rfl) .nil))))) (oc (ob_sto rfl rfl rfl (vq 3 rfl) ty_36 (Eq.trans (b := 8) rfl rfl)) o0))))) (fun a w hst => ?_)
  have hst : St B w0 9 [] [⟨2, 36, ptrH, _⟩, ⟨3, 26, ptrH, _⟩, ⟨4, 36, ptrH, _⟩] a w := hst
  refine thn_normal ?_
  refine wp_ret ?_
  refine ret_wk ?_ (ret_cell rfl hst (List.mem_of_getElem? (i := 2) rfl) ty_36)
  exact wk_id

set_option maxRecDepth 100000 in
theorem argTimes_q {c d : Nat} {z u : GQ} (hk : c + d ≤ 34359738368) : Cn Tryz.prog 80 [(QGA c z).va, (QGA d u).va] ((QGA (4 * (c + d) + 4) (mulG z u)).va) := by
  refine Cn.intro Tryz.func80 rfl (by kernel_rfl) nq (fun B w0 a hst => ?_)
  have hst : St B w0 54 [(0, (QGA c z).va), (1, (QGA d u).va)] [] a w0.w := hst
  refine wp_seq ?_
  refine gl (sts := []) (news := [⟨2, 36, ptrH, some 0, _, none⟩, ⟨3, 36, ptrH, some 1, _, none⟩, ⟨4, 36, ptrH, some 2, _, none⟩]) (sp := [.alc 0, .alc 1, .alc 2]) [] hst (oc (ob_box rfl rfl rfl (gq 0 rfl)) (oc (ob_box rfl rfl rfl (gq 1 rfl)) (oc (ob_alc rfl rfl rfl (Str.zero str_gauss)) o0))) (fun a w hst => ?_)
  have hst : St B w0 54 [] [⟨2, 36, ptrH, _⟩, ⟨3, 36, ptrH, _⟩, ⟨4, 36, ptrH, _⟩] a w := hst
  refine thn_normal ?_
  refine wp_seq ?_
  refine wp_seq ?_
  refine gl (sts := [none, none, none]) (news := []) (sp := [.adr 8 2 (.some 4) True, .val 9 _, .val 10 _, .val 11 _]) [.o 3] hst (oc (ob_a rfl rfl (a_fld (lz0 0 rfl) fld_36_1)) (oc (ob_v rfl rfl (r_loadf 0 rfl (by kernel_rfl) trivial (lz0 0 rfl) (Sub.part 1 rfl rfl) ty_26)) (oc (ob_v rfl rfl (r_call (xs := [.tmp 9]) sign_q (.cons (vq 1 rfl) .nil))) (oc (ob_v rfl rfl (r_eql (vq 2 rfl) has_num)) o0)))) (fun a w hst => ?_)
  have hst : St B w0 54 [(11, _)] [⟨2, 36, ptrH, _⟩, ⟨3, 36, ptrH, _⟩, ⟨4, 36, ptrH, _⟩] a w := hst
  refine thn_normal ?_
  refine cond_of hst (List.mem_of_getElem? (i := 0) rfl) (fun hb0 => ?_) (fun hb0 => ?_)
  · refine wp_seq ?_
    refine gl (sts := [none, none, some (4, _)]) (news := []) (sp := [.val 12 _, .adr 13 2 (.some 0) True, .val 14 _, .val 15 _, .sto 2]) [] hst (oc (ob_v rfl rfl (r_load (lz0 1 rfl) ty_36)) (oc (ob_a rfl rfl (a_fld (lz0 0 rfl) fld_36_0)) (oc (ob_v rfl rfl (r_loadf 1 rfl (by kernel_rfl) trivial (lz0 0 rfl) (Sub.part 0 rfl rfl) ty_26)) (oc (ob_v rfl rfl (r_call (xs := [.tmp 12, .tmp 14]) (scaled_q (c := d) (d := c) (z := u) (by omega)) (.cons (vq 0 rfl) (.cons (vq 2 rfl) .nil)))) (oc (ob_sto rfl rfl rfl (vq 3 rfl) ty_36 (Eq.trans (b := 8) rfl rfl)) o0))))) (fun a w hst => ?_)
    have hst : St B w0 54 [] [⟨2, 36, ptrH, _⟩, ⟨3, 36, ptrH, _⟩, ⟨4, 36, ptrH, _⟩] a w := hst
    refine thn_normal ?_
    refine wp_ret ?_
    refine thn_ret ?_
    refine ret_wk ?_ (ret_cell rfl hst (List.mem_of_getElem? (i := 2) rfl) ty_36)
    rw [← mulG_0 (sgz hb0)]; exact (qg_mono2 (by omega)).va
  · refine wp_skip ?_
    refine thn_normal ?_
    refine wp_seq ?_
    refine wp_seq ?_
    refine gl (sts := [none, none, none]) (news := []) (sp := [.adr 16 3 (.some 4) True, .val 17 _, .val 18 _, .val 19 _]) [.o 3] hst (oc (ob_a rfl rfl (a_fld (lz0 1 rfl) fld_36_1)) (oc (ob_v rfl rfl (r_loadf 0 rfl (by kernel_rfl) trivial (lz0 1 rfl) (Sub.part 1 rfl rfl) ty_26)) (oc (ob_v rfl rfl (r_call (xs := [.tmp 17]) sign_q (.cons (vq 1 rfl) .nil))) (oc (ob_v rfl rfl (r_eql (vq 2 rfl) has_num)) o0)))) (fun a w hst => ?_)
    have hst : St B w0 54 [(19, _)] [⟨2, 36, ptrH, _⟩, ⟨3, 36, ptrH, _⟩, ⟨4, 36, ptrH, _⟩] a w := hst
    refine thn_normal ?_
    refine cond_of hst (List.mem_of_getElem? (i := 0) rfl) (fun hb1 => ?_) (fun hb1 => ?_)
    · refine wp_seq ?_
      refine gl (sts := [none, none, some (4, _)]) (news := []) (sp := [.val 20 _, .adr 21 3 (.some 0) True, .val 22 _, .val 23 _, .sto 2]) [] hst (oc (ob_v rfl rfl (r_load (lz0 0 rfl) ty_36)) (oc (ob_a rfl rfl (a_fld (lz0 1 rfl) fld_36_0)) (oc (ob_v rfl rfl (r_loadf 1 rfl (by kernel_rfl) trivial (lz0 1 rfl) (Sub.part 0 rfl rfl) ty_26)) (oc (ob_v rfl rfl (r_call (xs := [.tmp 20, .tmp 22]) (scaled_q (c := c) (d := d) (z := z) (by omega)) (.cons (vq 0 rfl) (.cons (vq 2 rfl) .nil)))) (oc (ob_sto rfl rfl rfl (vq 3 rfl) ty_36 (Eq.trans (b := 8) rfl rfl)) o0))))) (fun a w hst => ?_)
      have hst : St B w0 54 [] [⟨2, 36, ptrH, _⟩, ⟨3, 36, ptrH, _⟩, ⟨4, 36, ptrH, _⟩] a w := hst
      refine thn_normal ?_
      refine wp_ret ?_
      refine thn_ret ?_
      refine ret_wk ?_ (ret_cell rfl hst (List.mem_of_getElem? (i := 2) rfl) ty_36)
      rw [← mulG_1 (sgz hb1)]; exact (qg_mono2 (by omega)).va
    · refine wp_skip ?_
      refine thn_normal ?_
      refine wp_seq ?_
      refine go_draw (anc := [[], [0], [], [2], [0, 1, 2, 3], [], [5], [], [7], [0, 1, 2, 3, 4, 5, 6, 7, 8], [], [], [0, 1, 2, 3, 4, 5, 6, 7, 8, 9, 10, 11], [0, 1, 2, 3, 4, 5, 6, 7, 8, 9, 10, 11, 12]]) (sts := [none, none, none]) (news := [⟨5, 26, ptrH, some 10, _, some (12, _)⟩, ⟨6, 26, ptrH, some 11, _, some (13, _)⟩]) (sp := [.adr 24 2 (.some 0) True, .val 25 _, .adr 26 3 (.some 0) True, .val 27 _, .val 28 _, .adr 29 2 (.some 4) True, .val 30 _, .adr 31 3 (.some 4) True, .val 32 _, .val 33 _, .alc 3, .alc 4, .sto 3, .sto 4]) [] follows_mixed hst (oc (ob_a rfl rfl (a_fld (lz0 0 rfl) fld_36_0)) (oc (ob_v rfl rfl (r_loadf 0 rfl (by kernel_rfl) trivial (lz0 0 rfl) (Sub.part 0 rfl rfl) ty_26)) (oc (ob_a rfl rfl (a_fld (lz0 1 rfl) fld_36_0)) (oc (ob_v rfl rfl (r_loadf 2 rfl (by kernel_rfl) trivial (lz0 1 rfl) (Sub.part 0 rfl rfl) ty_26)) (oc (ob_v rfl rfl (r_call (xs := [.tmp 25, .tmp 27]) (times_q (by omega)) (.cons (vq 1 rfl) (.cons (vq 3 rfl) .nil)))) (oc (ob_a rfl rfl (a_fld (lz0 0 rfl) fld_36_1)) (oc (ob_v rfl rfl (r_loadf 5 rfl (by kernel_rfl) trivial (lz0 0 rfl) (Sub.part 1 rfl rfl) ty_26)) (oc (ob_a rfl rfl (a_fld (lz0 1 rfl) fld_36_1)) (oc (ob_v rfl rfl (r_loadf 7 rfl (by kernel_rfl) trivial (lz0 1 rfl) (Sub.part 1 rfl rfl) ty_26)) (oc (ob_v rfl rfl (r_call (xs := [.tmp 30, .tmp 32]) (times_q (by omega)) (.cons (vq 6 rfl) (.cons (vq 8 rfl) .nil)))) (oc (ob_alc rfl rfl rfl (Str.zero str_frac)) (oc (ob_alc rfl rfl rfl (Str.zero str_frac)) (oc (ob_sto rfl rfl rfl (vq 4 rfl) ty_26 (Eq.trans (b := 4) rfl rfl)) (oc (ob_sto rfl rfl rfl (vq 9 rfl) ty_26 (Eq.trans (b := 4) rfl rfl)) o0)))))))))))))) (by kernel_rfl) (by kernel_rfl) (by kernel_rfl) (by kernel_rfl) (fun a w hst => ?_)
      have hst : St B w0 54 [] [⟨2, 36, ptrH, _⟩, ⟨3, 36, ptrH, _⟩, ⟨4, 36, ptrH, _⟩, ⟨5, 26, ptrH, _⟩, ⟨6, 26, ptrH, _⟩] a w := hst
      refine thn_normal ?_
      refine wp_seq ?_
      refine go_draw (anc := [[], [0], [], [2], [0, 1, 2, 3], [], [5], [], [7], [0, 1, 2, 3, 4, 5, 6, 7, 8], [0, 1, 2, 3, 4, 5, 6, 7, 8, 9], [], [0, 1, 2, 3, 4, 5, 6, 7, 8, 9, 10, 11]]) (sts := [none, none, none, none, none]) (news := [⟨7, 26, ptrH, some 11, _, some (12, _)⟩]) (sp := [.adr 34 2 (.some 0) True, .val 35 _, .adr 36 2 (.some 4) True, .val 37 _, .val 38 _, .adr 39 3 (.some 0) True, .val 40 _, .adr 41 3 (.some 4) True, .val 42 _, .val 43 _, .val 44 _, .alc 5, .sto 5]) [] follows_mixed hst (oc (ob_a rfl rfl (a_fld (lz0 0 rfl) fld_36_0)) (oc (ob_v rfl rfl (r_loadf 0 rfl (by kernel_rfl) trivial (lz0 0 rfl) (Sub.part 0 rfl rfl) ty_26)) (oc (ob_a rfl rfl (a_fld (lz0 0 rfl) fld_36_1)) (oc (ob_v rfl rfl (r_loadf 2 rfl (by kernel_rfl) trivial (lz0 0 rfl) (Sub.part 1 rfl rfl) ty_26)) (oc (ob_v rfl rfl (r_call (xs := [.tmp 35, .tmp 37]) (plus_q (by omega)) (.cons (vq 1 rfl) (.cons (vq 3 rfl) .nil)))) (oc (ob_a rfl rfl (a_fld (lz0 1 rfl) fld_36_0)) (oc (ob_v rfl rfl (r_loadf 5 rfl (by kernel_rfl) trivial (lz0 1 rfl) (Sub.part 0 rfl rfl) ty_26)) (oc (ob_a rfl rfl (a_fld (lz0 1 rfl) fld_36_1)) (oc (ob_v rfl rfl (r_loadf 7 rfl (by kernel_rfl) trivial (lz0 1 rfl) (Sub.part 1 rfl rfl) ty_26)) (oc (ob_v rfl rfl (r_call (xs := [.tmp 40, .tmp 42]) (plus_q (by omega)) (.cons (vq 6 rfl) (.cons (vq 8 rfl) .nil)))) (oc (ob_v rfl rfl (r_call (xs := [.tmp 38, .tmp 43]) (times_q (by omega)) (.cons (vq 4 rfl) (.cons (vq 9 rfl) .nil)))) (oc (ob_alc rfl rfl rfl (Str.zero str_frac)) (oc (ob_sto rfl rfl rfl (vq 10 rfl) ty_26 (Eq.trans (b := 4) rfl rfl)) o0))))))))))))) (by kernel_rfl) (by kernel_rfl) (by kernel_rfl) (by kernel_rfl) (fun a w hst => ?_)
      have hst : St B w0 54 [] [⟨2, 36, ptrH, _⟩, ⟨3, 36, ptrH, _⟩, ⟨4, 36, ptrH, _⟩, ⟨5, 26, ptrH, _⟩, ⟨6, 26, ptrH, _⟩, ⟨7, 26, ptrH, _⟩] a w := hst
      refine thn_normal ?_
      refine wp_seq ?_
      refine go_draw (anc := [[], [], [0, 1], [], [], [], [0, 1, 2, 4, 5], [0, 1, 2, 3, 4, 5, 6], [0, 1, 2, 3, 4, 5, 6, 7], [0, 1, 2, 3, 4, 5, 6, 7, 8]]) (sts := [none, none, some (9, _), none, none, none]) (news := []) (sp := [.val 45 _, .val 46 _, .val 47 _, .val 48 _, .val 49 _, .val 50 _, .val 51 _, .val 52 _, .val 53 _, .sto 2]) [] follows_mixed hst (oc (ob_v rfl rfl (r_load (lz0 3 rfl) ty_26)) (oc (ob_v rfl rfl (r_load (lz0 4 rfl) ty_26)) (oc (ob_v rfl rfl (r_call (xs := [.tmp 45, .tmp 46]) (minus_q (by omega)) (.cons (vq 0 rfl) (.cons (vq 1 rfl) .nil)))) (oc (ob_v rfl rfl (r_load (lz0 5 rfl) ty_26)) (oc (ob_v rfl rfl (r_load (lz0 3 rfl) ty_26)) (oc (ob_v rfl rfl (r_load (lz0 4 rfl) ty_26)) (oc (ob_v rfl rfl (r_call (xs := [.tmp 49, .tmp 50]) (plus_q (by omega)) (.cons (vq 4 rfl) (.cons (vq 5 rfl) .nil)))) (oc (ob_v rfl rfl (r_call (xs := [.tmp 48, .tmp 51]) (minus_q (by omega)) (.cons (vq 3 rfl) (.cons (vq 6 rfl) .nil)))) (oc (ob_v rfl rfl (r_build (xs := [(0, .tmp 47), (1, .tmp 52)]) (qs := [(0, _), (1, _)]) str_gauss (.cons ⟨rfl, (vq 2 rfl), rfl⟩ (.cons ⟨rfl, (vq 7 rfl), rfl⟩ .nil)))) (oc (ob_sto rfl rfl rfl (vq 8 rfl) ty_36 (Eq.trans (b := 8) rfl rfl)) o0)))))))))) (by kernel_rfl) (by kernel_rfl) (by kernel_rfl) (by kernel_rfl) (fun a w hst => ?_)
      have hst : St B w0 54 [] [⟨2, 36, ptrH, _⟩, ⟨3, 36, ptrH, _⟩, ⟨4, 36, ptrH, _⟩, ⟨5, 26, ptrH, _⟩, ⟨6, 26, ptrH, _⟩, ⟨7, 26, ptrH, _⟩] a w := hst
      refine thn_normal ?_
      refine wp_ret ?_
      refine ret_wk ?_ (ret_cell rfl hst (List.mem_of_getElem? (i := 2) rfl) ty_36)
      rw [← mulG_2]; exact (cat_wk (.cons (qa_mono (by omega)) (.cons (qa_mono (by omega)) .nil))).va

set_option maxRecDepth 100000 in
theorem conj_q {c : Nat} {z : GQ} (hk : c ≤ 549755813888) : Cn Tryz.prog 83 [(QGA c z).va] ((QGA c (conjG z)).va) := by
  refine Cn.intro Tryz.func83 rfl (by kernel_rfl) nq (fun B w0 a hst => ?_)
  have hst : St B w0 10 [(0, (QGA c z).va)] [] a w0.w := hst
  refine wp_seq ?_
  refine gl (sts := []) (news := [⟨1, 36, ptrH, some 0, _, none⟩, ⟨2, 36, ptrH, some 1, _, none⟩]) (sp := [.alc 0, .alc 1]) [] hst (oc (ob_box rfl rfl rfl (gq 0 rfl)) (oc (ob_alc rfl rfl rfl (Str.zero str_gauss)) o0)) (fun a w hst => ?_)
  have hst : St B w0 10 [] [⟨1, 36, ptrH, _⟩, ⟨2, 36, ptrH, _⟩] a w := hst
  refine thn_normal ?_
  refine wp_seq ?_
  refine go_draw (anc := [[], [0], [0, 1], [], [3], [0, 1, 2, 3, 4], [0, 1, 2, 3, 4, 5], [0, 1, 2, 3, 4, 5, 6]]) (sts := [none, some (7, _)]) (news := []) (sp := [.adr 3 1 (.some 0) True, .val 4 _, .val 5 _, .adr 6 1 (.some 4) True, .val 7 _, .val 8 _, .val 9 _, .sto 1]) [] follows_mixed hst (oc (ob_a rfl rfl (a_fld (lz0 0 rfl) fld_36_0)) (oc (ob_v rfl rfl (r_loadf 0 rfl (by kernel_rfl) trivial (lz0 0 rfl) (Sub.part 0 rfl rfl) ty_26)) (oc (ob_v rfl rfl (r_call (xs := [.tmp 4]) (copy_q (by omega)) (.cons (vq 1 rfl) .nil))) (oc (ob_a rfl rfl (a_fld (lz0 0 rfl) fld_36_1)) (oc (ob_v rfl rfl (r_loadf 3 rfl (by kernel_rfl) trivial (lz0 0 rfl) (Sub.part 1 rfl rfl) ty_26)) (oc (ob_v rfl rfl (r_call (xs := [.tmp 7]) (turned_q (by omega)) (.cons (vq 4 rfl) .nil))) (oc (ob_v rfl rfl (r_build (xs := [(0, .tmp 5), (1, .tmp 8)]) (qs := [(0, _), (1, _)]) str_gauss (.cons ⟨rfl, (vq 2 rfl), rfl⟩ (.cons ⟨rfl, (vq 5 rfl), rfl⟩ .nil)))) (oc (ob_sto rfl rfl rfl (vq 6 rfl) ty_36 (Eq.trans (b := 8) rfl rfl)) o0)))))))) (by kernel_rfl) (by kernel_rfl) (by kernel_rfl) (by kernel_rfl) (fun a w hst => ?_)
  have hst : St B w0 10 [] [⟨1, 36, ptrH, _⟩, ⟨2, 36, ptrH, _⟩] a w := hst
  refine thn_normal ?_
  refine wp_ret ?_
  refine ret_wk ?_ (ret_cell rfl hst (List.mem_of_getElem? (i := 1) rfl) ty_36)
  exact wk_id

set_option maxRecDepth 100000 in
theorem real_q {c : Nat} {x : Rat} (hk : c ≤ 549755813888) : Cn Tryz.prog 64 [Qs c x] ((QGA (c + 2) ⟨x, 0⟩).va) := by
  refine Cn.intro Tryz.func64 rfl (by kernel_rfl) nq (fun B w0 a hst => ?_)
  have hst : St B w0 7 [(0, Qs c x)] [] a w0.w := hst
  refine wp_seq ?_
  refine gl (sts := []) (news := [⟨1, 26, ptrH, some 0, _, none⟩, ⟨2, 36, ptrH, some 1, _, none⟩]) (sp := [.alc 0, .alc 1]) [] hst (oc (ob_box rfl rfl rfl (gq 0 rfl)) (oc (ob_alc rfl rfl rfl (Str.zero str_gauss)) o0)) (fun a w hst => ?_)
  have hst : St B w0 7 [] [⟨1, 26, ptrH, _⟩, ⟨2, 36, ptrH, _⟩] a w := hst
  refine thn_normal ?_
  refine wp_seq ?_
  refine gl (sts := [none, some (4, _)]) (news := []) (sp := [.val 3 _, .val 4 _, .val 5 _, .val 6 _, .sto 1]) [] hst (oc (ob_v rfl rfl (r_load (lz0 0 rfl) ty_26)) (oc (ob_v rfl rfl (r_call (xs := [.tmp 3]) (copy_q (by omega)) (.cons (vq 0 rfl) .nil))) (oc (ob_v rfl rfl (r_call (xs := []) nought_q .nil)) (oc (ob_v rfl rfl (r_build (xs := [(0, .tmp 4), (1, .tmp 5)]) (qs := [(0, _), (1, _)]) str_gauss (.cons ⟨rfl, (vq 1 rfl), rfl⟩ (.cons ⟨rfl, (vq 2 rfl), rfl⟩ .nil)))) (oc (ob_sto rfl rfl rfl (vq 3 rfl) ty_36 (Eq.trans (b := 8) rfl rfl)) o0))))) (fun a w hst => ?_)
  have hst : St B w0 7 [] [⟨1, 26, ptrH, _⟩, ⟨2, 36, ptrH, _⟩] a w := hst
  refine thn_normal ?_
  refine wp_ret ?_
  refine ret_wk ?_ (ret_cell rfl hst (List.mem_of_getElem? (i := 1) rfl) ty_36)
  exact (cat_wk (.cons (qa_mono (by omega)) (.cons (qa_mono (by omega)) .nil))).va

set_option maxRecDepth 100000 in
theorem argOver_q {c d : Nat} {z u : GQ} (hk : c + d ≤ 1073741824) (hn : normG u ≠ 0) : Cn Tryz.prog 62 [(QGA c z).va, (QGA d u).va] ((QGA (4 * (c + d) + 4 + (2 + (d + d + (d + d) + 1))) (overG z u)).va) := by
  refine Cn.intro Tryz.func62 rfl (by kernel_rfl) nq (fun B w0 a hst => ?_)
  have hst : St B w0 14 [(0, (QGA c z).va), (1, (QGA d u).va)] [] a w0.w := hst
  refine wp_seq ?_
  refine gl (sts := []) (news := [⟨2, 36, ptrH, some 0, _, none⟩, ⟨3, 36, ptrH, some 1, _, none⟩, ⟨4, 36, ptrH, some 2, _, none⟩]) (sp := [.alc 0, .alc 1, .alc 2]) [] hst (oc (ob_box rfl rfl rfl (gq 0 rfl)) (oc (ob_box rfl rfl rfl (gq 1 rfl)) (oc (ob_alc rfl rfl rfl (Str.zero str_gauss)) o0))) (fun a w hst => ?_)
  have hst : St B w0 14 [] [⟨2, 36, ptrH, _⟩, ⟨3, 36, ptrH, _⟩, ⟨4, 36, ptrH, _⟩] a w := hst
  refine thn_normal ?_
  refine wp_seq ?_
  refine go_draw (anc := [[], [], [1], [0, 1, 2], [0, 1, 2, 3], [], [0, 1, 2, 3, 4, 5], [0, 1, 2, 3, 4, 5, 6], [0, 1, 2, 3, 4, 5, 6, 7], [0, 1, 2, 3, 4, 5, 6, 7, 8]]) (sts := [none, none, some (9, _)]) (news := []) (sp := [.val 5 _, .val 6 _, .val 7 _, .val 8 _, .val 9 _, .val 10 _, .val 11 _, .val 12 _, .val 13 _, .sto 2]) [] follows_mixed hst (oc (ob_v rfl rfl (r_load (lz0 0 rfl) ty_36)) (oc (ob_v rfl rfl (r_load (lz0 1 rfl) ty_36)) (oc (ob_v rfl rfl (r_call (xs := [.tmp 6]) (conj_q (by omega)) (.cons (vq 1 rfl) .nil))) (oc (ob_v rfl rfl (r_call (xs := [.tmp 5, .tmp 7]) (argTimes_q (z := z) (u := conjG u) (by omega)) (.cons (vq 0 rfl) (.cons (vq 2 rfl) .nil)))) (oc (ob_v rfl rfl (r_call (xs := []) one_q .nil)) (oc (ob_v rfl rfl (r_load (lz0 1 rfl) ty_36)) (oc (ob_v rfl rfl (r_call (xs := [.tmp 10]) (norm_q (by omega)) (.cons (vq 5 rfl) .nil))) (oc (ob_v rfl rfl (r_call (xs := [.tmp 9, .tmp 11]) (over_q (by omega) hn) (.cons (vq 4 rfl) (.cons (vq 6 rfl) .nil)))) (oc (ob_v rfl rfl (r_call (xs := [.tmp 8, .tmp 12]) (scaled_q (z := mulG z (conjG u)) (by omega)) (.cons (vq 3 rfl) (.cons (vq 7 rfl) .nil)))) (oc (ob_sto rfl rfl rfl (vq 8 rfl) ty_36 (Eq.trans (b := 8) rfl rfl)) o0)))))))))) (by kernel_rfl) (by kernel_rfl) (by kernel_rfl) (by kernel_rfl) (fun a w hst => ?_)
  have hst : St B w0 14 [] [⟨2, 36, ptrH, _⟩, ⟨3, 36, ptrH, _⟩, ⟨4, 36, ptrH, _⟩] a w := hst
  refine thn_normal ?_
  refine wp_ret ?_
  refine ret_wk ?_ (ret_cell rfl hst (List.mem_of_getElem? (i := 2) rfl) ty_36)
  exact wk_id

end Go.Proofs.YtaplgnjnhfljnaaGreat
