/- Contracts of bench.Matrix and bench.One; sizes of elements; slices of elements one behind the other. -/
import Derived.Test.YtljkepdpoelpkaaBenB
import Derived.Laws.AppendOwn
import Derived.Laws.OwnMore
namespace Go.Proofs.Ytljkepdpoelpkaa
open Go Go.RowKit
namespace BenC
theorem fld_37_0 : Fld Try.prog 37 0 0 4 := ⟨_, _, Try.underlying37, rfl, rfl, by kernel_rfl, by decide⟩
theorem fld_37_1 : Fld Try.prog 37 1 4 4 := ⟨_, _, Try.underlying37, rfl, rfl, by kernel_rfl, by decide⟩
theorem fld_37_2 : Fld Try.prog 37 2 8 4 := ⟨_, _, Try.underlying37, rfl, rfl, by kernel_rfl, by decide⟩
theorem fld_37_3 : Fld Try.prog 37 3 12 4 := ⟨_, _, Try.underlying37, rfl, rfl, by kernel_rfl, by decide⟩
theorem fld_49_1 : Fld Try.prog 49 1 1 4 := ⟨_, _, Try.underlying49, rfl, rfl, by kernel_rfl, by decide⟩
theorem fld_49_2 : Fld Try.prog 49 2 5 4 := ⟨_, _, Try.underlying49, rfl, rfl, by kernel_rfl, by decide⟩
theorem sl_22 : Sl Try.prog 22 49 9 := ⟨by kernel_rfl, by kernel_rfl⟩
theorem sl_80 : Sl Try.prog 80 35 4 := ⟨by kernel_rfl, by kernel_rfl⟩
theorem ty_35 : Ty Try.prog 35 4 true := ⟨by kernel_rfl, by kernel_rfl⟩
theorem ty_37 : Ty Try.prog 37 16 true := ⟨by kernel_rfl, by kernel_rfl⟩
theorem ty_49 : Ty Try.prog 49 9 true := ⟨by kernel_rfl, by kernel_rfl⟩
end BenC
open BenC
theorem as_any {m : MQ} (h : [m.a, m.b, m.c, m.d].any longQ = true) : asM 0 m = (rm0, 4) := by rw [asM, if_pos rfl, if_pos h]
theorem as_none {m : MQ} (h : [m.a, m.b, m.c, m.d].any longQ = false) : asM 0 m = (rmOf m, 0) := by rw [asM, if_pos rfl, if_neg (by rw [h]; decide)]

set_option maxRecDepth 100000 in
theorem toldM_q {c : Nat} (m : MQ) : Cn Try.prog 29 [(QMA c m).va, (SlA 35 [U32] [QA c m.a, QA c m.b, QA c m.c, QA c m.d]).va] (MR (asM 0 m)) := by
  refine Cn.intro Try.func29 rfl (by kernel_rfl) nq (fun B w0 a hst => ?_)
  have hst : St B w0 10 [(0, (QMA c m).va), (1, (SlA 35 [U32] [QA c m.a, QA c m.b, QA c m.c, QA c m.d]).va)] [] a w0.w := hst
  refine wp_seq ?_
  refine gl (sts := []) (news := [⟨2, 37, ptrH, some 0, _, none⟩, ⟨4, 37, ptrH, some 1, _, none⟩]) (sp := [.alc 0, .alc 1, .val 5 _]) [.g 1, .o 2] hst (oc (ob_box rfl rfl rfl (gq 0 rfl)) (oc (ob_alc rfl rfl rfl (Str.zero str_matrix)) (oc (ob_v rfl rfl (r_assign has_num)) o0))) (fun a w hst => ?_)
  have hst : St B w0 10 [(1, _), (5, _)] [⟨2, 37, ptrH, _⟩, ⟨4, 37, ptrH, _⟩] a w := hst
  refine thn_normal ?_
  refine wp_seq ?_
  refine wp_seq ?_
  refine gl (sts := [none, none]) (news := []) (sp := [.val 6 _, .val 7 _]) [.g 1, .o 1] hst (oc (ob_v rfl rfl (r_move (gq 0 rfl))) (oc (ob_v rfl rfl (r_call (xs := [.tmp 6]) (long_q [m.a, m.b, m.c, m.d] (.cons ⟨_, rfl⟩ (.cons ⟨_, rfl⟩ (.cons ⟨_, rfl⟩ (.cons ⟨_, rfl⟩ .nil)))) nq) (.cons (vq 0 rfl) .nil))) o0)) (fun a w hst => ?_)
  have hst : St B w0 10 [(5, _), (7, _)] [⟨2, 37, ptrH, _⟩, ⟨4, 37, ptrH, _⟩] a w := hst
  refine thn_normal ?_
  refine cond_of hst (List.mem_of_getElem? (i := 1) rfl) (fun hb0 => ?_) (fun hb0 => ?_)
  · refine wp_seq ?_
    refine gl (sts := [none, some (1, _)]) (news := []) (sp := [.val 8 _, .sto 1, .val 5 _]) [.o 2] hst (oc (ob_v rfl rfl (r_load (lz0 1 rfl) ty_37)) (oc (ob_sto rfl rfl rfl (vq 0 rfl) ty_37 (Eq.trans (b := 16) rfl rfl)) (oc (ob_v rfl rfl (r_assign has_num)) o0))) (fun a w hst => ?_)
    have hst : St B w0 10 [(5, _)] [⟨2, 37, ptrH, _⟩, ⟨4, 37, ptrH, _⟩] a w := hst
    refine thn_normal ?_
    refine wp_ret ?_
    refine thn_ret ?_
    refine ret_wk ?_ (ret_many (rs := [.cell 4 37, .tmp 5]) rfl hst (.cell (List.mem_of_getElem? (i := 1) rfl) ty_37 (.tmp (List.mem_of_getElem? (i := 0) rfl) .nil)) (by decide))
    rw [as_any hb0]; exact wk_id
  · refine wp_skip ?_
    refine thn_normal ?_
    refine wp_seq ?_
    refine gl (sts := [none, some (1, _)]) (news := []) (sp := [.val 9 _, .sto 1, .val 5 _]) [.o 2] hst (oc (ob_v rfl rfl (r_load (lz0 0 rfl) ty_37)) (oc (ob_sto rfl rfl rfl (vq 0 rfl) ty_37 (Eq.trans (b := 16) rfl rfl)) (oc (ob_v rfl rfl (r_assign has_num)) o0))) (fun a w hst => ?_)
    have hst : St B w0 10 [(5, _)] [⟨2, 37, ptrH, _⟩, ⟨4, 37, ptrH, _⟩] a w := hst
    refine thn_normal ?_
    refine wp_ret ?_
    refine ret_wk ?_ (ret_many (rs := [.cell 4 37, .tmp 5]) rfl hst (.cell (List.mem_of_getElem? (i := 1) rfl) ty_37 (.tmp (List.mem_of_getElem? (i := 0) rfl) .nil)) (by decide))
    rw [as_none hb0]; exact tu2w qmA.va wk_id

set_option maxRecDepth 100000 in
theorem benMatrix_c (xs : List RE) : Cn Try.prog 12 [(SlA 49 [U32] (xs.map REA)).va] (MR (benF xs)) := by
  refine Cn.intro Try.func12 rfl (by kernel_rfl) nq (fun B w0 a hst => ?_)
  have hst : St B w0 27 [(0, (SlA 49 [U32] (xs.map REA)).va)] [] a w0.w := hst
  refine wp_seq ?_
  refine gl (sts := []) (news := [⟨2, 37, ptrH, some 0, _, none⟩]) (sp := [.alc 0, .val 3 _]) [.g 0, .o 1] hst (oc (ob_alc rfl rfl rfl (Str.zero str_matrix)) (oc (ob_v rfl rfl (r_assign has_num)) o0)) (fun a w hst => ?_)
  have hst : St B w0 27 [(0, _), (3, _)] [⟨2, 37, ptrH, _⟩] a w := hst
  refine thn_normal ?_
  refine wp_seq ?_
  refine wp_seq ?_
  refine gl (sts := [none]) (news := []) (sp := [.val 6 _, .val 7 _, .val 4 _]) [.g 0, .g 1, .o 2] hst (oc (ob_v rfl rfl (r_move (gq 0 rfl))) (oc (ob_v rfl rfl (r_call (xs := [.tmp 6]) (benCheck_c xs) (.cons (vq 0 rfl) .nil))) (oc (ob_v rfl rfl (r_assign (vq 1 rfl))) o0))) (fun a w hst => ?_)
  have hst : St B w0 27 [(0, _), (3, _), (4, _)] [⟨2, 37, ptrH, _⟩] a w := hst
  refine thn_normal ?_
  refine wp_seq ?_
  refine gl (sts := [none]) (news := []) (sp := [.val 8 _, .val 9 _]) [.g 0, .g 1, .g 2, .o 1] hst (oc (ob_v rfl rfl (r_move (gq 2 rfl))) (oc (ob_v rfl rfl (r_neq (vq 0 rfl) has_num)) o0)) (fun a w hst => ?_)
  have hst : St B w0 27 [(0, _), (3, _), (4, _), (9, _)] [⟨2, 37, ptrH, _⟩] a w := hst
  refine thn_normal ?_
  refine cond_of hst (List.mem_of_getElem? (i := 3) rfl) (fun hb0 => ?_) (fun hb0 => ?_)
  · have hc : ¬ chF xs = 0 := by simpa using hb0
    refine wp_seq ?_
    refine gl (sts := [some (2, _)]) (news := []) (sp := [.val 10 _, .val 11 _, .sto 0, .val 3 _]) [.g 0, .o 3] hst (oc (ob_v rfl rfl (r_build (xs := []) (qs := []) str_matrix .nil)) (oc (ob_v rfl rfl (r_move (gq 2 rfl))) (oc (ob_sto rfl rfl rfl (vq 0 rfl) ty_37 (Eq.trans (b := 16) rfl rfl)) (oc (ob_v rfl rfl (r_assign (vq 1 rfl))) o0)))) (fun a w hst => ?_)
    have hst : St B w0 27 [(0, _), (3, _)] [⟨2, 37, ptrH, _⟩] a w := hst
    refine thn_normal ?_
    refine wp_ret ?_
    refine thn_ret ?_
    refine ret_wk ?_ (ret_many (rs := [.cell 2 37, .tmp 3]) rfl hst (.cell (List.mem_of_getElem? (i := 0) rfl) ty_37 (.tmp (List.mem_of_getElem? (i := 1) rfl) .nil)) (by decide))
    rw [benF, if_neg hc]; exact wk_id
  · have hc : chF xs = 0 := by simpa using hb0
    have hk := ch_ok hc
    refine wp_skip ?_
    refine thn_normal ?_
    refine wp_seq ?_
    refine gl (sts := [none]) (news := [⟨5, 37, ptrH, some 2, _, some (3, _)⟩]) (sp := [.val 12 _, .val 13 _, .alc 1, .sto 1]) [.g 1] hst (oc (ob_v rfl rfl (r_move (gq 0 rfl))) (oc (ob_v rfl rfl (r_call (xs := [.tmp 12]) (rowMatrix_c hk.1 hk.2) (.cons (vq 0 rfl) .nil))) (oc (ob_alc rfl rfl rfl (Str.zero str_matrix)) (oc (ob_sto rfl rfl rfl (vq 1 rfl) ty_37 (Eq.trans (b := 16) rfl rfl)) o0)))) (fun a w hst => ?_)
    have hst : St B w0 27 [(3, _)] [⟨2, 37, ptrH, _⟩, ⟨5, 37, ptrH, _⟩] a w := hst
    refine thn_normal ?_
    refine wp_seq ?_
    refine gl (sts := [some (13, _), none]) (news := []) (sp := [.val 14 _, .adr 15 5 (.some 0) True, .val 16 _, .adr 17 5 (.some 4) True, .val 18 _, .adr 19 5 (.some 8) True, .val 20 _, .adr 21 5 (.some 12) True, .val 22 _, .val 23 _, .val 24 _, .val 25 _, .val 26 _, .sto 0, .val 3 _]) [.o 14] hst (oc (ob_v rfl rfl (r_load (lz0 1 rfl) ty_37)) (oc (ob_a rfl rfl (a_fld (lz0 1 rfl) fld_37_0)) (oc (ob_v rfl rfl (r_loadf 1 rfl (by kernel_rfl) trivial (lz0 1 rfl) (Sub.part 0 rfl rfl) ty_35)) (oc (ob_a rfl rfl (a_fld (lz0 1 rfl) fld_37_1)) (oc (ob_v rfl rfl (r_loadf 3 rfl (by kernel_rfl) trivial (lz0 1 rfl) (Sub.part 1 rfl rfl) ty_35)) (oc (ob_a rfl rfl (a_fld (lz0 1 rfl) fld_37_2)) (oc (ob_v rfl rfl (r_loadf 5 rfl (by kernel_rfl) trivial (lz0 1 rfl) (Sub.part 2 rfl rfl) ty_35)) (oc (ob_a rfl rfl (a_fld (lz0 1 rfl) fld_37_3)) (oc (ob_v rfl rfl (r_loadf 7 rfl (by kernel_rfl) trivial (lz0 1 rfl) (Sub.part 3 rfl rfl) ty_35)) (oc (ob_v rfl rfl (r_slice (D := [U32]) (l := [_, _, _, _]) (xs := [.tmp 16, .tmp 18, .tmp 20, .tmp 22]) (nd_ok (by kernel_rfl)) sl_80 (by kernel_rfl) (n_ok (by kernel_rfl)) nq nq nq (.cons (vq 2 rfl) (.cons (vq 4 rfl) (.cons (vq 6 rfl) (.cons (vq 8 rfl) .nil)))) rfl rfl)) (oc (ob_v rfl rfl (r_call (xs := [.tmp 14, .tmp 23]) (toldM_q (prodQ xs)) (.cons (vq 0 rfl) (.cons (vq 9 rfl) .nil)))) (oc (ob_v rfl rfl (r_ex0 (vq 10 rfl))) (oc (ob_v rfl rfl (r_ex1 (vq 10 rfl))) (oc (ob_sto rfl rfl rfl (vq 11 rfl) ty_37 (Eq.trans (b := 16) rfl rfl)) (oc (ob_v rfl rfl (r_assign (vq 12 rfl))) o0))))))))))))))) (fun a w hst => ?_)
    have hst : St B w0 27 [(3, _)] [⟨2, 37, ptrH, _⟩, ⟨5, 37, ptrH, _⟩] a w := hst
    refine thn_normal ?_
    refine wp_ret ?_
    refine ret_wk ?_ (ret_many (rs := [.cell 2 37, .tmp 3]) rfl hst (.cell (List.mem_of_getElem? (i := 0) rfl) ty_37 (.tmp (List.mem_of_getElem? (i := 0) rfl) .nil)) (by decide))
    rw [benF, if_pos hc]; exact wk_id

def elCostF (x : RE) : Int := IntKind.i64.wrap (fracCostF x.p + fracCostF x.q)
def elsF (n : Int) : List RE → Int
  | [] => n
  | x :: xs => if decide (n ≤ 1048576) then elsF (IntKind.i64.wrap (n + elCostF x)) xs else n
theorem els_go {n : Int} {l : List RE} {j : Nat} (h : j < l.length) (h2 : n ≤ 1048576) : elsF n (l.drop j) = elsF (IntKind.i64.wrap (n + elCostF l[j])) (l.drop (j + 1)) := by
  rw [List.drop_eq_getElem_cons h, elsF, if_pos (decide_eq_true h2)]
theorem els_end {n : Int} {l : List RE} {j : Nat} (h : ¬ (j < l.length ∧ n ≤ 1048576)) : elsF n (l.drop j) = n := by
  by_cases hj : j < l.length
  · rw [List.drop_eq_getElem_cons hj, elsF, if_neg (by simpa using fun hh => h ⟨hj, hh⟩)]
  · rw [List.drop_of_length_le (by omega)]; rfl

set_option maxRecDepth 100000 in
theorem elCost_c (x : RE) : Cn Try.prog 43 [(REA x).va] (In (elCostF x)) := by
  refine Cn.intro Try.func43 rfl (by kernel_rfl) nq (fun B w0 a hst => ?_)
  have hst : St B w0 10 [(0, (REA x).va)] [] a w0.w := hst
  refine wp_seq ?_
  refine gl (sts := []) (news := [⟨1, 49, ptrH, some 0, _, none⟩]) (sp := [.alc 0, .val 2 _]) [.o 1] hst (oc (ob_box rfl rfl rfl (gq 0 rfl)) (oc (ob_v rfl rfl (r_assign has_num)) o0)) (fun a w hst => ?_)
  have hst : St B w0 10 [(2, _)] [⟨1, 49, ptrH, _⟩] a w := hst
  refine thn_normal ?_
  refine wp_seq ?_
  refine go_draw (anc := [[], [0], [0, 1], [], [3], [0, 1, 2, 3, 4], [0, 1, 2, 3, 4, 5], [0, 1, 2, 3, 4, 5, 6]]) (sts := [none]) (news := []) (sp := [.adr 3 1 (.some 1) True, .val 4 _, .val 5 _, .adr 6 1 (.some 5) True, .val 7 _, .val 8 _, .val 9 _, .val 2 _]) [.o 7] follows_mixed hst (oc (ob_a rfl rfl (a_fld (lz0 0 rfl) fld_49_1)) (oc (ob_v rfl rfl (r_loadf 0 rfl (by kernel_rfl) trivial (lz0 0 rfl) (Sub.part 1 rfl rfl) ty_35)) (oc (ob_v rfl rfl (r_call (xs := [.tmp 4]) (fracCost_c _) (.cons (vq 1 rfl) .nil))) (oc (ob_a rfl rfl (a_fld (lz0 0 rfl) fld_49_2)) (oc (ob_v rfl rfl (r_loadf 3 rfl (by kernel_rfl) trivial (lz0 0 rfl) (Sub.part 2 rfl rfl) ty_35)) (oc (ob_v rfl rfl (r_call (xs := [.tmp 7]) (fracCost_c _) (.cons (vq 4 rfl) .nil))) (oc (ob_v rfl rfl (r_add (vq 2 rfl) (vq 5 rfl) (rfl))) (oc (ob_v rfl rfl (r_assign (vq 6 rfl))) o0)))))))) (by kernel_rfl) (by kernel_rfl) (by kernel_rfl) (by kernel_rfl) (fun a w hst => ?_)
  have hst : St B w0 10 [(2, _)] [⟨1, 49, ptrH, _⟩] a w := hst
  refine thn_normal ?_
  refine wp_ret ?_
  refine ret_wk ?_ (ret_tmp rfl hst (List.mem_of_getElem? (i := 0) rfl))
  exact wk_id

set_option maxRecDepth 100000 in
theorem elsCost_c (xs : List RE) : Cn Try.prog 20 [(SlA 49 [U32] (xs.map REA)).va] (In (elsF (xs.length : Nat) xs)) := by
  refine Cn.intro Try.func20 rfl (by kernel_rfl) nq (fun B w0 a hst => ?_)
  have hst : St B w0 25 [(0, (SlA 49 [U32] (xs.map REA)).va)] [] a w0.w := hst
  have hl := slA_lenm (hst.vals (0, (SlA 49 [U32] (xs.map REA)).va) (List.mem_of_getElem? (i := 0) rfl))
  refine wp_seq ?_
  refine gl (sts := []) (news := []) (sp := [.val 2 _]) [.g 0, .o 0] hst (oc (ob_v rfl rfl (r_assign has_num)) o0) (fun a w hst => ?_)
  have hst : St B w0 25 [(0, _), (2, _)] [] a w := hst
  refine thn_normal ?_
  refine wp_seq ?_
  refine gl (sts := []) (news := []) (sp := [.val 5 _, .val 6 _, .val 3 _]) [.g 0, .g 1, .o 2] hst (oc (ob_v rfl rfl (r_move (gq 0 rfl))) (oc (ob_v rfl rfl (r_len Try.underlying22 (vq 0 rfl))) (oc (ob_v rfl rfl (r_assign (vq 1 rfl))) o0))) (fun a w hst => ?_)
  have hst : St B w0 25 [(0, _), (2, _), (3, _)] [] a w := hst
  refine thn_normal ?_
  refine wp_seq ?_
  refine wp_seq ?_
  refine gl (sts := []) (news := []) (sp := [.val 4 _]) [.g 0, .g 1, .g 2, .o 0] hst (oc (ob_v rfl rfl (r_assign has_num)) o0) (fun a w hst => ?_)
  have hst : St B w0 25 [(0, _), (2, _), (3, _), (4, _)] [] a w := hst
  refine thn_normal ?_
  refine wp_block ?_
  have hst := St.sel hst [0, 2, 3]
  refine wp_loop_ghost (fun n a w => ∃ (j : Nat) (m : Int), (n + j = xs.length ∧ elsF (xs.length : Nat) xs = elsF m (xs.drop j)) ∧ St B w0 25 [(0, (SlA 49 [U32] (xs.map REA)).va), (3, In m), (4, In (j : Nat))] [] a w) (xs.length) ?_ ?_
  · exact ⟨0, (xs.length : Nat), ⟨by omega, rfl⟩, by rw [List.length_map] at hst; exact hst⟩
  intro n a w hI
  obtain ⟨j, m, ⟨hn, hm⟩, hst⟩ := hI
  refine wp_seq ?_
  refine wp_seq ?_
  refine gl (sts := []) (news := []) (sp := [.val 7 _, .val 8 _, .val 9 _, .val 10 _, .val 11 _, .val 12 (Wh (_ = true) _), .val 13 (Wh (_ = true) _), .val 14 _]) [.g 0, .g 1, .g 2, .o 7] hst (oc (ob_v rfl rfl (r_move (gq 2 rfl))) (oc (ob_v rfl rfl (r_move (gq 0 rfl))) (oc (ob_v rfl rfl (r_len Try.underlying22 (vq 1 rfl))) (oc (ob_v rfl rfl (r_lss (vq 0 rfl) (vq 2 rfl))) (oc (ob_v rfl rfl (r_move (vq 3 rfl))) (oc (ob_gd rfl rfl rfl (vq 4 rfl) nq (fun hg => r_move (gq 1 rfl))) (oc (ob_gd rfl rfl rfl (vq 4 rfl) nq (fun hg => r_leq (has_wh (vq 5 rfl) hg) has_num)) (oc (ob_v rfl rfl (r_and (vq 4 rfl) (vq 6 rfl))) o0)))))))) (fun a w hst => ?_)
  have hst : St B w0 25 [(0, _), (3, _), (4, _), (14, _)] [] a w := hst
  refine thn_normal ?_
  refine cond_of hst (List.mem_of_getElem? (i := 3) rfl) (fun hb0 => ?_) (fun hb0 => ?_)
  · rw [Bool.and_eq_true, decide_eq_true_eq, decide_eq_true_eq, List.length_map] at hb0
    have hj : j < xs.length := by omega
    have hm0 := hb0.2
    refine wp_skip ?_
    refine thn_normal ?_
    refine wp_seq ?_
    refine wp_block ?_
    refine gl (sts := []) (news := []) (sp := [.val 17 _, .val 18 _, .val 19 _, .val 20 _, .val 21 _, .val 22 _, .val 23 _, .val 3 _]) [.g 0, .g 2, .o 7] hst (oc (ob_v rfl rfl (r_move (gq 1 rfl))) (oc (ob_v rfl rfl (r_move (gq 0 rfl))) (oc (ob_v rfl rfl (r_move (gq 2 rfl))) (oc (ob_v rfl rfl (r_idx sl_22 (map_n fun _ => rfl) (vq 1 rfl) (vq 2 rfl) (map_at hj))) (oc (ob_v rfl rfl (r_loade (vq 3 rfl) ty_49)) (oc (ob_v rfl rfl (r_call (xs := [.tmp 21]) (elCost_c _) (.cons (vq 4 rfl) .nil))) (oc (ob_v rfl rfl (r_add (vq 0 rfl) (vq 5 rfl) (rfl))) (oc (ob_v rfl rfl (r_assign (vq 6 rfl))) o0)))))))) (fun a w hst => ?_)
    have hst : St B w0 25 [(0, _), (4, _), (3, _)] [] a w := hst
    refine blk_normal ?_
    refine thn_normal ?_
    refine gl (sts := []) (news := []) (sp := [.val 15 _, .val 16 _, .val 4 _]) [.g 0, .g 2, .o 2] hst (oc (ob_v rfl rfl (r_move (gq 1 rfl))) (oc (ob_v rfl rfl (r_add (vq 0 rfl) has_num (wi_nx hj hl))) (oc (ob_v rfl rfl (r_assign (vq 1 rfl))) o0))) (fun a w hst => ?_)
    have hst : St B w0 25 [(0, _), (3, _), (4, _)] [] a w := hst
    refine thn_normal ?_
    have hst := St.sel hst [0, 1, 2]
    exact ⟨n - 1, by omega, j + 1, _, ⟨by omega, hm.trans (els_go hj hm0)⟩, hst⟩
  · have hnj : ¬ (j < xs.length ∧ m ≤ 1048576) := by rintro ⟨h1, h2⟩; rw [List.length_map, decide_eq_true (by omega : (j : Int) < (xs.length : Int)), decide_eq_true h2] at hb0; exact absurd hb0 (by decide)
    refine wp_exit ?_
    refine thn_exit ?_
    refine thn_exit ?_
    refine blk_exit ?_
    refine thn_normal ?_
    refine wp_seq ?_
    refine gl (sts := []) (news := []) (sp := [.val 24 _, .val 2 _]) [.o 1] hst (oc (ob_v rfl rfl (r_move (gq 1 rfl))) (oc (ob_v rfl rfl (r_assign (vq 0 rfl))) o0)) (fun a w hst => ?_)
    have hst : St B w0 25 [(2, _)] [] a w := hst
    refine thn_normal ?_
    refine wp_ret ?_
    refine ret_wk ?_ (ret_tmp rfl hst (List.mem_of_getElem? (i := 0) rfl))
    exact wk_eq (congrArg In (hm.trans (els_end hnj)).symm)

end Go.Proofs.Ytljkepdpoelpkaa
