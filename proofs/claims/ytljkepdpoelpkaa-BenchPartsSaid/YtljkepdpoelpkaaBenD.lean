/- Helpers of the laws of chapter 10: both, fits, small, alive. -/
import Derived.Test.YtljkepdpoelpkaaBenC
import Derived.Laws.AppendOwn
import Derived.Laws.OwnMore
import Derived.Orders
namespace Go.Proofs.Ytljkepdpoelpkaa
open Go Go.RowKit
namespace BenD
theorem sl_22 : Sl Try.prog 22 49 9 := ⟨by kernel_rfl, by kernel_rfl⟩
theorem sl_62 : Sl Try.prog 62 3 1 := ⟨by kernel_rfl, by kernel_rfl⟩
theorem ty_35 : Ty Try.prog 35 4 true := ⟨by kernel_rfl, by kernel_rfl⟩
theorem ty_37 : Ty Try.prog 37 16 true := ⟨by kernel_rfl, by kernel_rfl⟩
end BenD
open BenD
theorem app_elem : ∃ it z, Try.prog.info? 49 = some it ∧ it.zero = some z ∧ it.size = 9 ∧ it.bytes = 136 ∧ z.cells.size = 9 := by
  have h : ((Try.prog.info? 49).bind fun it => it.zero.map fun z => (it.size, it.bytes, z.cells.size)) = some (9, 136, 9) := by kernel_rfl
  cases hi : Try.prog.info? 49 with
  | none => rw [hi] at h; simp at h
  | some it =>
    rw [hi] at h
    cases hz : it.zero with
    | none => simp [hz] at h
    | some z =>
      simp [hz] at h
      exact ⟨it, z, rfl, hz, h.1, h.2.1, h.2.2⟩

set_option maxRecDepth 100000 in
theorem both10_c (xs ys : List RE) (hl : xs.length + ys.length ≤ 4096) : Cn Try.prog 11 [(SlA 49 [U32] (xs.map REA)).va, (SlA 49 [U32] (ys.map REA)).va] ((SlA 49 [U32] ((xs ++ ys).map REA)).va) := by
  obtain ⟨it, z, e1, e2, e3, e4, e5⟩ := app_elem
  refine Cn.introF Try.func11 rfl (by kernel_rfl) nq (fun B w0 a hF hst => ?_)
  have hst : St B w0 12 [(0, (SlA 49 [U32] (xs.map REA)).va), (1, (SlA 49 [U32] (ys.map REA)).va)] [] a w0.w := hst
  obtain ⟨v0, hv0, hst⟩ := St.eqv hst 0 rfl
  obtain ⟨v1, hv1, hst⟩ := St.eqv hst 1 rfl
  refine wp_seq ?_
  refine gl (sts := []) (news := []) (sp := [.val 4 _]) [.g 0, .g 1, .o 0] hst (oc (ob_v rfl rfl (r_assign has_const)) o0) (fun a w hst => ?_)
  have hst : St B w0 12 [(0, _), (1, _), (4, _)] [] a w := hst
  refine thn_normal ?_
  refine wp_seq ?_
  refine gl (sts := []) (news := []) (sp := [.val 5 _]) [.g 0, .g 1, .g 2, .o 0] hst (oc (ob_v rfl rfl (r_assign has_const)) o0) (fun a w hst => ?_)
  have hst : St B w0 12 [(0, _), (1, _), (4, _), (5, _)] [] a w := hst
  refine thn_normal ?_
  refine wp_seq ?_
  have hst := St.wkG (A' := OwnR w0.w.heap.size 49 9 [U32] []) hst 3 rfl own_nil
  refine go_appL (sp := [.val 6 _, .val 7 _, .val 8 VT, .val 5 VT]) 2 [1, 2] 0 1 hst (oc (ob_v rfl rfl (r_move (gq 3 rfl))) (oc (ob_v rfl rfl (r_move (gq 0 rfl))) o0)) rfl (by kernel_rfl) rfl rfl (by decide) rfl (by decide) rfl (again_w hF hv0) Try.underlying22 e1 e2 e3 e4 e5 (by decide) (by simp only [List.length_nil, List.length_map]; omega) (by decide) (fun T hT => hT) (by decide) (map_n fun _ => rfl) (by kernel_rfl) nq nq (by kernel_rfl) (by kernel_rfl) (fun a w hst => ?_)
  have hst : St B w0 12 [(5, _), (1, _), (4, _)] [] a w := hst
  refine thn_normal ?_
  refine wp_seq ?_
  refine go_appL (sp := [.val 9 _, .val 10 _, .val 11 VT, .val 4 VT]) 2 [] 0 1 hst (oc (ob_v rfl rfl (r_move (gq 0 rfl))) (oc (ob_v rfl rfl (r_move (gq 1 rfl))) o0)) rfl (by kernel_rfl) rfl rfl (by decide) rfl (by decide) rfl (again_w hF hv1) Try.underlying22 e1 e2 e3 e4 e5 (by decide) (by simp only [List.nil_append, List.length_map]; omega) (by decide) (fun T hT => hT) (by decide) (map_n fun _ => rfl) (by kernel_rfl) nq nq (by kernel_rfl) (by kernel_rfl) (fun a w hst => ?_)
  have hst : St B w0 12 [(4, _)] [] a w := hst
  refine thn_normal ?_
  refine wp_ret ?_
  refine ret_wk ?_ (ret_tmp rfl hst (List.mem_of_getElem? (i := 0) rfl))
  rw [List.map_append]; exact own_sl

set_option maxRecDepth 100000 in
theorem small10_c {p q : Int} (hp : -9223372036854775808 ≤ p) (hp1 : p < 9223372036854775808) (hq0 : -9223372036854775808 ≤ q) (hq1 : q < 9223372036854775808) (hq : q ≠ 0) : Cn Try.prog 18 [In p, In q] ((RFA (rfOf (Rat.divInt p q))).va) := by
  refine Cn.intro Try.func18 rfl (by kernel_rfl) nq (fun B w0 a hst => ?_)
  have hst : St B w0 17 [(0, In p), (1, In q)] [] a w0.w := hst
  refine wp_seq ?_
  refine gl (sts := []) (news := [⟨4, 35, ptrH, some 0, _, none⟩]) (sp := [.alc 0]) [.g 0, .g 1] hst (oc (ob_alc rfl rfl rfl (Str.zero str_frac)) o0) (fun a w hst => ?_)
  have hst : St B w0 17 [(0, _), (1, _)] [⟨4, 35, ptrH, _⟩] a w := hst
  refine thn_normal ?_
  refine wp_seq ?_
  refine gl (sts := [none]) (news := [⟨5, 35, ptrH, some 6, _, some (7, _)⟩]) (sp := [.val 8 _, .val 9 _, .val 10 _, .val 7 _, .val 11 _, .val 12 _, .alc 1, .sto 1, .val 6 _]) [.o 8] hst (oc (ob_v rfl rfl (r_move (gq 0 rfl))) (oc (ob_v rfl rfl (r_move (gq 1 rfl))) (oc (ob_v rfl rfl (r_call (xs := [.tmp 8, .tmp 9]) (ofQ_c hp hp1 hq0 hq1 hq) (.cons (vq 0 rfl) (.cons (vq 1 rfl) .nil)))) (oc (ob_v rfl rfl (r_move (vq 2 rfl))) (oc (ob_v rfl rfl (r_ex0 (vq 3 rfl))) (oc (ob_v rfl rfl (r_ex1 (vq 3 rfl))) (oc (ob_alc rfl rfl rfl (Str.zero str_frac)) (oc (ob_sto rfl rfl rfl (vq 4 rfl) ty_35 (Eq.trans (b := 4) rfl rfl)) (oc (ob_v rfl rfl (r_assign (vq 5 rfl))) o0))))))))) (fun a w hst => ?_)
  have hst : St B w0 17 [(6, _)] [⟨4, 35, ptrH, _⟩, ⟨5, 35, ptrH, _⟩] a w := hst
  refine thn_normal ?_
  refine wp_seq ?_
  refine wp_seq ?_
  refine gl (sts := [none, none]) (news := []) (sp := [.val 13 _, .val 14 _]) [.o 1] hst (oc (ob_v rfl rfl (r_move (gq 0 rfl))) (oc (ob_v rfl rfl (r_neq (vq 0 rfl) has_num)) o0)) (fun a w hst => ?_)
  have hst : St B w0 17 [(14, _)] [⟨4, 35, ptrH, _⟩, ⟨5, 35, ptrH, _⟩] a w := hst
  refine thn_normal ?_
  refine cond_of hst (List.mem_of_getElem? (i := 0) rfl) (fun hb0 => ?_) (fun hb0 => ?_)
  · simp at hb0
  · refine wp_skip ?_
    refine thn_normal ?_
    refine wp_seq ?_
    refine gl (sts := [some (1, _), none]) (news := []) (sp := [.val 16 _, .sto 0]) [] hst (oc (ob_v rfl rfl (r_load (lz0 1 rfl) ty_35)) (oc (ob_sto rfl rfl rfl (vq 0 rfl) ty_35 (Eq.trans (b := 4) rfl rfl)) o0)) (fun a w hst => ?_)
    have hst : St B w0 17 [] [⟨4, 35, ptrH, _⟩, ⟨5, 35, ptrH, _⟩] a w := hst
    refine thn_normal ?_
    refine wp_ret ?_
    refine ret_wk ?_ (ret_cell rfl hst (List.mem_of_getElem? (i := 0) rfl) ty_35)
    exact wk_id

def fiF (xs ys : List RE) : Bool := (((!bydF 0 [elsF (xs.length : Nat) xs, elsF (ys.length : Nat) ys]) && decide (IntKind.i64.wrap ((xs.length : Int) + (ys.length : Int)) ≤ 4096)) && (chF xs == 0)) && (chF ys == 0)
theorem fi_ok {xs ys : List RE} (h : fiF xs ys = true) : chF xs = 0 ∧ chF ys = 0 ∧ xs.length + ys.length ≤ 4096 := by
  unfold fiF at h
  simp only [Bool.and_eq_true, beq_iff_eq, decide_eq_true_eq] at h
  have h1 := (ch_ok h.1.2).1
  have h2 := (ch_ok h.2).1
  have h3 := h.1.1.2
  rw [wi64 (by omega) (by omega)] at h3
  exact ⟨h.1.2, h.2, by omega⟩

set_option maxRecDepth 100000 in
theorem fits10_c (xs ys : List RE) : Cn Try.prog 6 [(SlA 49 [U32] (xs.map REA)).va, (SlA 49 [U32] (ys.map REA)).va] (Bo (fiF xs ys)) := by
  refine Cn.intro Try.func6 rfl (by kernel_rfl) nq (fun B w0 a hst => ?_)
  have hst : St B w0 30 [(0, (SlA 49 [U32] (xs.map REA)).va), (1, (SlA 49 [U32] (ys.map REA)).va)] [] a w0.w := hst
  refine wp_seq ?_
  refine gl (sts := []) (news := []) (sp := [.val 4 _]) [.g 0, .g 1, .o 0] hst (oc (ob_v rfl rfl (r_assign has_bo)) o0) (fun a w hst => ?_)
  have hst : St B w0 30 [(0, _), (1, _), (4, _)] [] a w := hst
  refine thn_normal ?_
  refine wp_seq ?_
  refine gl (sts := []) (news := []) (sp := ((.val 5 _ : Sp) :: (.val 6 _) :: (.val 7 _) :: (.val 8 _) :: (.val 9 _) :: (.val 10 _) :: (.val 11 _) :: (.val 12 _) :: (.val 13 (Wh (_ = true) _)) :: (.val 14 (Wh (_ = true) _)) :: (.val 15 (Wh (_ = true) _)) :: (.val 16 (Wh (_ = true) _)) :: (.val 17 (Wh (_ = true) _)) :: (.val 18 (Wh (_ = true) _)) :: (.val 19 _) :: (.val 20 _) :: (.val 21 (Wh (_ = true) _)) :: (.val 22 (Wh (_ = true) _)) :: (.val 23 (Wh (_ = true) _)) :: (.val 24 _) :: (.val 25 _) :: (.val 26 (Wh (_ = true) _)) :: (.val 27 (Wh (_ = true) _)) :: (.val 28 (Wh (_ = true) _)) :: (.val 29 _) :: (.val 4 _) :: [])) [.o 25] hst (oc (ob_v rfl rfl (r_move (gq 0 rfl))) (oc (ob_v rfl rfl (r_call (xs := [.tmp 5]) (elsCost_c _) (.cons (vq 0 rfl) .nil))) (oc (ob_v rfl rfl (r_move (gq 1 rfl))) (oc (ob_v rfl rfl (r_call (xs := [.tmp 7]) (elsCost_c _) (.cons (vq 2 rfl) .nil))) (oc (ob_v rfl rfl (r_slice (D := []) (l := [_, _]) (xs := [.tmp 6, .tmp 8]) (nd_ok (by kernel_rfl)) sl_62 (by kernel_rfl) (n_ok (by kernel_rfl)) nq nq nq (.cons (vq 1 rfl) (.cons (vq 3 rfl) .nil)) rfl rfl)) (oc (ob_v rfl rfl (r_call (xs := [.tmp 9]) (beyond_c [_, _]) (.cons (vq 4 rfl) .nil))) (oc (ob_v rfl rfl (r_not (vq 5 rfl))) (oc (ob_v rfl rfl (r_move (vq 6 rfl))) (oc (ob_gd rfl rfl rfl (vq 7 rfl) nq (fun hg => r_move (gq 0 rfl))) (oc (ob_gd rfl rfl rfl (vq 7 rfl) nq (fun hg => r_len Try.underlying22 (has_wh (vq 8 rfl) hg))) (oc (ob_gd rfl rfl rfl (vq 7 rfl) nq (fun hg => r_move (gq 1 rfl))) (oc (ob_gd rfl rfl rfl (vq 7 rfl) nq (fun hg => r_len Try.underlying22 (has_wh (vq 10 rfl) hg))) (oc (ob_gd rfl rfl rfl (vq 7 rfl) nq (fun hg => r_add (has_wh (vq 9 rfl) hg) (has_wh (vq 11 rfl) hg) (rfl))) (oc (ob_gd rfl rfl rfl (vq 7 rfl) nq (fun hg => r_leq (has_wh (vq 12 rfl) hg) has_num)) (oc (ob_v rfl rfl (r_and (vq 7 rfl) (vq 13 rfl))) (oc (ob_v rfl rfl (r_move (vq 14 rfl))) (oc (ob_gd rfl rfl rfl (vq 15 rfl) nq (fun hg => r_move (gq 0 rfl))) (oc (ob_gd rfl rfl rfl (vq 15 rfl) nq (fun hg => r_call (xs := [.tmp 21]) (benCheck_c _) (.cons (has_wh (vq 16 rfl) hg) .nil))) (oc (ob_gd rfl rfl rfl (vq 15 rfl) nq (fun hg => r_eql (has_wh (vq 17 rfl) hg) has_num)) (oc (ob_v rfl rfl (r_and (vq 15 rfl) (vq 18 rfl))) (oc (ob_v rfl rfl (r_move (vq 19 rfl))) (oc (ob_gd rfl rfl rfl (vq 20 rfl) nq (fun hg => r_move (gq 1 rfl))) (oc (ob_gd rfl rfl rfl (vq 20 rfl) nq (fun hg => r_call (xs := [.tmp 26]) (benCheck_c _) (.cons (has_wh (vq 21 rfl) hg) .nil))) (oc (ob_gd rfl rfl rfl (vq 20 rfl) nq (fun hg => r_eql (has_wh (vq 22 rfl) hg) has_num)) (oc (ob_v rfl rfl (r_and (vq 20 rfl) (vq 23 rfl))) (oc (ob_v rfl rfl (r_assign (vq 24 rfl))) o0)))))))))))))))))))))))))) (fun a w hst => ?_)
  have hst : St B w0 30 [(4, _)] [] a w := hst
  refine thn_normal ?_
  refine wp_ret ?_
  refine ret_wk ?_ (ret_tmp rfl hst (List.mem_of_getElem? (i := 0) rfl))
  simp only [List.length_map]; exact wk_id

theorem nil_el : Cn Try.prog 12 [EqV (.slice none 0 0)] (MR (benF [])) := (benMatrix_c []).wk (.cons nil_sl .nil)

set_option maxRecDepth 100000 in
set_option maxHeartbeats 4000000 in
theorem alive10_c  : Cn Try.prog 5 [] (Bo true) := by
  refine Cn.intro Try.func5 rfl (by kernel_rfl) nq (fun B w0 a hst => ?_)
  have hst : St B w0 48 [] [] a w0.w := hst
  refine wp_seq ?_
  refine gl (sts := []) (news := []) (sp := [.val 0 _]) [.o 0] hst (oc (ob_v rfl rfl (r_assign has_bo)) o0) (fun a w hst => ?_)
  have hst : St B w0 48 [(0, _)] [] a w := hst
  refine thn_normal ?_
  refine wp_seq ?_
  refine gl (sts := []) (news := []) (sp := [.val 6 _, .val 7 _, .val 8 _, .val 9 _, .val 10 _, .val 11 _, .val 12 _, .val 1 _]) [.g 0, .o 7] hst (oc (ob_v rfl rfl (r_call (xs := [.const (.int .i64 (1)), .const (.int .i64 (2))]) (small10_c (by decide) (by decide) (by decide) (by decide) (by decide)) (.cons has_num (.cons has_num .nil)))) (oc (ob_v rfl rfl (r_call (xs := [.const (.int .i64 (0)), .const (.int .i64 (1))]) (small10_c (by decide) (by decide) (by decide) (by decide) (by decide)) (.cons has_num (.cons has_num .nil)))) (oc (ob_v rfl rfl (r_build (xs := [(0, .const (.int .u8 (1))), (1, .tmp 6), (2, .tmp 7)]) (qs := [(0, _), (1, _), (2, _)]) str_elem (.cons ⟨rfl, has_num, rfl⟩ (.cons ⟨rfl, (vq 0 rfl), rfl⟩ (.cons ⟨rfl, (vq 1 rfl), rfl⟩ .nil))))) (oc (ob_v rfl rfl (r_call (xs := [.const (.int .i64 (2)), .const (.int .i64 (1))]) (small10_c (by decide) (by decide) (by decide) (by decide) (by decide)) (.cons has_num (.cons has_num .nil)))) (oc (ob_v rfl rfl (r_call (xs := [.const (.int .i64 (0)), .const (.int .i64 (1))]) (small10_c (by decide) (by decide) (by decide) (by decide) (by decide)) (.cons has_num (.cons has_num .nil)))) (oc (ob_v rfl rfl (r_build (xs := [(0, .const (.int .u8 (2))), (1, .tmp 9), (2, .tmp 10)]) (qs := [(0, _), (1, _), (2, _)]) str_elem (.cons ⟨rfl, has_num, rfl⟩ (.cons ⟨rfl, (vq 3 rfl), rfl⟩ (.cons ⟨rfl, (vq 4 rfl), rfl⟩ .nil))))) (oc (ob_v rfl rfl (r_slice (D := [U32]) (l := [_, _]) (xs := [.tmp 8, .tmp 11]) (nd_ok (by kernel_rfl)) sl_22 (by kernel_rfl) (n_ok (by kernel_rfl)) nq nq nq (.cons (vq 2 rfl) (.cons (vq 5 rfl) .nil)) rfl rfl)) (oc (ob_v rfl rfl (r_assign (vq 6 rfl))) o0)))))))) (fun a w hst => ?_)
  have hst : St B w0 48 [(0, _), (1, _)] [] a w := hst
  refine thn_normal ?_
  refine wp_seq ?_
  refine gl (sts := []) (news := [⟨2, 37, ptrH, some 5, _, some (6, _)⟩]) (sp := [.val 14 _, .val 15 _, .val 13 _, .val 16 _, .val 17 _, .alc 0, .sto 0, .val 3 _]) [.g 0, .o 7] hst (oc (ob_v rfl rfl (r_move (gq 1 rfl))) (oc (ob_v rfl rfl (r_call (xs := [.tmp 14]) (benMatrix_c [⟨_, _, _⟩, ⟨_, _, _⟩]) (.cons (vq 0 rfl) .nil))) (oc (ob_v rfl rfl (r_move (vq 1 rfl))) (oc (ob_v rfl rfl (r_ex0 (vq 2 rfl))) (oc (ob_v rfl rfl (r_ex1 (vq 2 rfl))) (oc (ob_alc rfl rfl rfl (Str.zero str_matrix)) (oc (ob_sto rfl rfl rfl (vq 3 rfl) ty_37 (Eq.trans (b := 16) rfl rfl)) (oc (ob_v rfl rfl (r_assign (vq 4 rfl))) o0)))))))) (fun a w hst => ?_)
  have hst : St B w0 48 [(0, _), (3, _)] [⟨2, 37, ptrH, _⟩] a w := hst
  refine thn_normal ?_
  refine wp_seq ?_
  refine gl (sts := [none]) (news := [⟨4, 37, ptrH, some 4, _, some (5, _)⟩]) (sp := [.val 19 _, .val 18 _, .val 20 _, .val 21 _, .alc 1, .sto 1, .val 5 _]) [.g 0, .g 1, .o 6] hst (oc (ob_v rfl rfl (r_call (xs := [.const (.slice none 0 0)]) nil_el (.cons has_const .nil))) (oc (ob_v rfl rfl (r_move (vq 0 rfl))) (oc (ob_v rfl rfl (r_ex0 (vq 1 rfl))) (oc (ob_v rfl rfl (r_ex1 (vq 1 rfl))) (oc (ob_alc rfl rfl rfl (Str.zero str_matrix)) (oc (ob_sto rfl rfl rfl (vq 2 rfl) ty_37 (Eq.trans (b := 16) rfl rfl)) (oc (ob_v rfl rfl (r_assign (vq 3 rfl))) o0))))))) (fun a w hst => ?_)
  have hst : St B w0 48 [(0, _), (3, _), (5, _)] [⟨2, 37, ptrH, _⟩, ⟨4, 37, ptrH, _⟩] a w := hst
  refine thn_normal ?_
  refine wp_seq ?_
  refine go_draw (anc := [[], [0], [0, 1], [0, 1, 2], [0, 1, 2, 3], [0, 1, 2, 3, 4], [0, 1, 2, 3, 4, 5], [0, 1, 2, 3, 4, 5, 6], [0, 1, 2, 3, 4, 5, 6, 7], [0, 1, 2, 3, 4, 5, 6, 7, 8], [0, 1, 2, 3, 4, 5, 6, 7, 8, 9], [0, 1, 2, 3, 4, 5, 6, 7, 8, 9, 10], [0, 1, 2, 3, 4, 5, 6, 7, 8, 9, 10, 11], [0, 1, 2, 3, 4, 5, 6, 7, 8, 9, 10, 11, 12], [0, 1, 2, 3, 4, 5, 6, 7, 8, 9, 10, 11, 12], [0, 1, 2, 3, 4, 5, 6, 7, 8, 9, 10, 11, 12, 14], [0, 1, 2, 3, 4, 5, 6, 7, 8, 9, 10, 11, 12, 14, 15], [0, 1, 2, 3, 4, 5, 6, 7, 8, 9, 10, 11, 12, 14, 15, 16], [0, 1, 2, 3, 4, 5, 6, 7, 8, 9, 10, 11, 12, 14, 15, 16, 17], [0, 1, 2, 3, 4, 5, 6, 7, 8, 9, 10, 11, 12, 13, 14, 15, 16, 17, 18], [0, 1, 2, 3, 4, 5, 6, 7, 8, 9, 10, 11, 12, 13, 14, 15, 16, 17, 18, 19], [0, 1, 2, 3, 4, 5, 6, 7, 8, 9, 10, 11, 12, 13, 14, 15, 16, 17, 18, 19, 20], [0, 1, 2, 3, 4, 5, 6, 7, 8, 9, 10, 11, 12, 13, 14, 15, 16, 17, 18, 19, 20, 21], [0, 1, 2, 3, 4, 5, 6, 7, 8, 9, 10, 11, 12, 13, 14, 15, 16, 17, 18, 19, 20, 21], [0, 1, 2, 3, 4, 5, 6, 7, 8, 9, 10, 11, 12, 13, 14, 15, 16, 17, 18, 19, 20, 21, 22, 23], [0, 1, 2, 3, 4, 5, 6, 7, 8, 9, 10, 11, 12, 13, 14, 15, 16, 17, 18, 19, 20, 21, 22, 23, 24], [0, 1, 2, 3, 4, 5, 6, 7, 8, 9, 10, 11, 12, 13, 14, 15, 16, 17, 18, 19, 20, 21, 22, 23, 24, 25]]) (sts := [none, none]) (news := []) (sp := ((.val 22 _ : Sp) :: (.val 23 _) :: (.val 24 _) :: (.val 25 (Wh (_ = true) _)) :: (.val 26 (Wh (_ = true) _)) :: (.val 27 _) :: (.val 28 _) :: (.val 29 (Wh (_ = true) _)) :: (.val 30 (Wh (_ = true) _)) :: (.val 31 (Wh (_ = true) _)) :: (.val 32 (Wh (_ = true) _)) :: (.val 33 _) :: (.val 34 _) :: (.val 35 (Wh (_ = true) _)) :: (.val 36 (Wh (_ = true) _)) :: (.val 37 (Wh (_ = true) _)) :: (.val 38 (Wh (_ = true) _)) :: (.val 39 (Wh (_ = true) _)) :: (.val 40 (Wh (_ = true) _)) :: (.val 41 (Wh (_ = true) _)) :: (.val 42 _) :: (.val 43 _) :: (.val 44 (Wh (_ = true) _)) :: (.val 45 (Wh (_ = true) _)) :: (.val 46 (Wh (_ = true) _)) :: (.val 47 _) :: (.val 0 _) :: [])) [.o 26] follows_mixed hst (oc (ob_v rfl rfl (r_move (gq 1 rfl))) (oc (ob_v rfl rfl (r_eql (vq 0 rfl) has_num)) (oc (ob_v rfl rfl (r_move (vq 1 rfl))) (oc (ob_gd rfl rfl rfl (vq 2 rfl) nq (fun hg => r_move (gq 2 rfl))) (oc (ob_gd rfl rfl rfl (vq 2 rfl) nq (fun hg => r_eql (has_wh (vq 3 rfl) hg) has_num)) (oc (ob_v rfl rfl (r_and (vq 2 rfl) (vq 4 rfl))) (oc (ob_v rfl rfl (r_move (vq 5 rfl))) (oc (ob_gd rfl rfl rfl (vq 6 rfl) nq (fun hg => r_build (xs := []) (qs := []) str_elem .nil)) (oc (ob_gd rfl rfl rfl (vq 6 rfl) nq (fun hg => r_slice (D := [U32]) (l := [_]) (xs := [.tmp 29]) (nd_ok (by kernel_rfl)) sl_22 (by kernel_rfl) (n_ok (by kernel_rfl)) nq nq nq (.cons (has_wh (vq 7 rfl) hg) .nil) rfl rfl)) (oc (ob_gd rfl rfl rfl (vq 6 rfl) nq (fun hg => r_call (xs := [.tmp 30]) (benCheck_c [re0]) (.cons (has_wh (vq 8 rfl) hg) .nil))) (oc (ob_gd rfl rfl rfl (vq 6 rfl) nq (fun hg => r_eql (has_wh (vq 9 rfl) hg) has_num)) (oc (ob_v rfl rfl (r_and (vq 6 rfl) (vq 10 rfl))) (oc (ob_v rfl rfl (r_move (vq 11 rfl))) (oc (ob_gd rfl rfl rfl (vq 12 rfl) nq (fun hg => r_load (lz0 0 rfl) ty_37)) (oc (ob_gd rfl rfl rfl (vq 12 rfl) nq (fun hg => r_call (xs := [.const (.int .i64 (1)), .const (.int .i64 (1))]) (small10_c (by decide) (by decide) (by decide) (by decide) (by decide)) (.cons has_num (.cons has_num .nil)))) (oc (ob_gd rfl rfl rfl (vq 12 rfl) nq (fun hg => r_call (xs := [.const (.int .i64 (1)), .const (.int .i64 (2))]) (small10_c (by decide) (by decide) (by decide) (by decide) (by decide)) (.cons has_num (.cons has_num .nil)))) (oc (ob_gd rfl rfl rfl (vq 12 rfl) nq (fun hg => r_call (xs := [.const (.int .i64 (-2)), .const (.int .i64 (1))]) (small10_c (by decide) (by decide) (by decide) (by decide) (by decide)) (.cons has_num (.cons has_num .nil)))) (oc (ob_gd rfl rfl rfl (vq 12 rfl) nq (fun hg => r_call (xs := [.const (.int .i64 (0)), .const (.int .i64 (1))]) (small10_c (by decide) (by decide) (by decide) (by decide) (by decide)) (.cons has_num (.cons has_num .nil)))) (oc (ob_gd rfl rfl rfl (vq 12 rfl) nq (fun hg => r_build (xs := [(0, .tmp 36), (1, .tmp 37), (2, .tmp 38), (3, .tmp 39)]) (qs := [(0, _), (1, _), (2, _), (3, _)]) str_matrix (.cons ⟨rfl, (has_wh (vq 14 rfl) hg), rfl⟩ (.cons ⟨rfl, (has_wh (vq 15 rfl) hg), rfl⟩ (.cons ⟨rfl, (has_wh (vq 16 rfl) hg), rfl⟩ (.cons ⟨rfl, (has_wh (vq 17 rfl) hg), rfl⟩ .nil)))))) (oc (ob_gd rfl rfl rfl (vq 12 rfl) nq (fun hg => r_call (xs := [.tmp 35, .tmp 40]) (sameMatrix_c _ ⟨_, _, _, _⟩) (.cons (has_wh (vq 13 rfl) hg) (.cons (has_wh (vq 18 rfl) hg) .nil)))) (oc (ob_v rfl rfl (r_and (vq 12 rfl) (vq 19 rfl))) (oc (ob_v rfl rfl (r_move (vq 20 rfl))) (oc (ob_gd rfl rfl rfl (vq 21 rfl) nq (fun hg => r_load (lz0 1 rfl) ty_37)) (oc (ob_gd rfl rfl rfl (vq 21 rfl) nq (fun hg => r_call (xs := []) (one09_q.wkp qmA.va) .nil)) (oc (ob_gd rfl rfl rfl (vq 21 rfl) nq (fun hg => r_call (xs := [.tmp 44, .tmp 45]) (sameMatrix_c _ _) (.cons (has_wh (vq 22 rfl) hg) (.cons (has_wh (vq 23 rfl) hg) .nil)))) (oc (ob_v rfl rfl (r_and (vq 21 rfl) (vq 24 rfl))) (oc (ob_v rfl rfl (r_assign (vq 25 rfl))) o0))))))))))))))))))))))))))) (by kernel_rfl) (by kernel_rfl) (by kernel_rfl) (by kernel_rfl) (fun a w hst => ?_)
  have hst : St B w0 48 [(0, _)] [⟨2, 37, ptrH, _⟩, ⟨4, 37, ptrH, _⟩] a w := hst
  refine thn_normal ?_
  refine wp_ret ?_
  refine ret_wk ?_ (ret_tmp rfl hst (List.mem_of_getElem? (i := 0) rfl))
  exact wk_eq (congrArg Bo (by kernel_rfl))

end Go.Proofs.Ytljkepdpoelpkaa
