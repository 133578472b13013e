/- How many trips are gone through: Whole, Trips. -/
import Derived.Test.YtmghfjcjcfaagaaGreatLeafX
namespace Go.Proofs.YtmghfjcjcfaagaaGreat
open Go Go.RowKit
namespace TriA
theorem fld_24_1 : Fld Tryz.prog 24 1 1 1 := ⟨_, _, Tryz.underlying24, rfl, rfl, by kernel_rfl, by decide⟩
theorem fld_26_0 : Fld Tryz.prog 26 0 0 2 := ⟨_, _, Tryz.underlying26, rfl, rfl, by kernel_rfl, by decide⟩
theorem fld_26_1 : Fld Tryz.prog 26 1 2 2 := ⟨_, _, Tryz.underlying26, rfl, rfl, by kernel_rfl, by decide⟩
theorem sl_22 : Sl Tryz.prog 22 122 1 := ⟨by kernel_rfl, by kernel_rfl⟩
theorem sl_71 : Sl Tryz.prog 71 26 4 := ⟨by kernel_rfl, by kernel_rfl⟩
theorem ty_122 : Ty Tryz.prog 122 1 false := ⟨by kernel_rfl, by kernel_rfl⟩
theorem ty_22 : Ty Tryz.prog 22 1 false := ⟨by kernel_rfl, by kernel_rfl⟩
theorem ty_26 : Ty Tryz.prog 26 4 true := ⟨by kernel_rfl, by kernel_rfl⟩
end TriA
open TriA
set_option linter.unusedVariables false
def whF (x : RF) : Bool := (decide ((x.num.mag.length : Int) ≤ 1) && ((x.den.mag.length : Int) == 1)) && (((x.den.mag.getD 0 0 : Nat) : Int) == ((1 : Nat) : Int))
def limF (s : Int) (x : RF) : Int := if whF x = true then s else IntKind.i64.wrap (s + min (IntKind.i64.wrap ((x.num.mag.length : Int) + (x.den.mag.length : Int))) 1048576)
def tripsF (nn lim : Int) (xs : List RF) : Bool := (decide (xs.foldl limF 0 > 0) && decide (nn > IntKind.i64.wrap (lim.tdiv (xs.foldl limF 0)))) && decide (nn ≤ 4096)
theorem lim_nx {xs : List RF} {j : Nat} (h : j < xs.length) : limF ((xs.take j).foldl limF 0) (xs.getD j rf0) = (xs.take (j + 1)).foldl limF 0 := by
  rw [List.getD_eq_getElem?_getD, List.getElem?_eq_getElem h, List.take_succ_eq_append_getElem h, List.foldl_append]
  rfl
theorem at_rf {f : RF → As} {xs : List RF} {j : Nat} (h : j < xs.length) : (xs.map f)[j]? = some (f (xs.getD j rf0)) := by
  rw [List.getElem?_map, List.getElem?_eq_getElem h, List.getD_eq_getElem?_getD, List.getElem?_eq_getElem h]; rfl

set_option maxRecDepth 100000 in
theorem wholeL_c (x : RF) : Cn Tryz.prog 41 [(RFA x).va] (Bo (whF x)) := by
  refine Cn.intro Tryz.func41 rfl (by kernel_rfl) nq (fun B w0 a hst => ?_)
  have hst : St B w0 23 [(0, (RFA x).va)] [] a w0.w := hst
  refine wp_seq ?_
  refine gl (sts := []) (news := [⟨1, 26, ptrH, some 0, _, none⟩]) (sp := [.alc 0, .val 2 _]) [.o 1] hst (oc (ob_box rfl rfl rfl (gq 0 rfl)) (oc (ob_v rfl rfl (r_assign has_bo)) o0)) (fun a w hst => ?_)
  have hst : St B w0 23 [(2, _)] [⟨1, 26, ptrH, _⟩] a w := hst
  refine thn_normal ?_
  refine wp_seq ?_
  refine gl (sts := [none]) (news := []) (sp := [.adr 3 1 (.some 0) True, .adr 4 1 (.some (0 + 1)) True, .val 5 _, .val 6 _, .val 7 _, .val 8 _, .adr 9 1 (.some 2) (_ = true), .adr 10 1 (.some (2 + 1)) (_ = true), .val 11 (Wh (_ = true) _), .val 12 (Wh (_ = true) _), .val 13 (Wh (_ = true) _), .val 14 _, .val 15 _, .adr 16 1 (.some 2) (_ = true), .adr 17 1 (.some (2 + 1)) (_ = true), .val 18 (Wh (_ = true) _), .val 19 (Wh (_ = true) _), .val 20 (Wh (_ = true) _), .val 21 (Wh (_ = true) _), .val 22 _, .val 2 _]) [.o 20] hst (oc (ob_a rfl rfl (a_fld (lz0 0 rfl) fld_26_0)) (oc (ob_a rfl rfl (a_fld2 0 rfl (by kernel_rfl) trivial (lz0 0 rfl) fld_24_1)) (oc (ob_v rfl rfl (r_loadf 1 rfl (by kernel_rfl) trivial (lz0 0 rfl) (Sub.trans (Sub.part 0 rfl rfl) (Sub.part 1 rfl rfl) rfl) ty_22)) (oc (ob_v rfl rfl (r_lenm Tryz.underlying22 (vq 2 rfl))) (oc (ob_v rfl rfl (r_leq (vq 3 rfl) has_num)) (oc (ob_v rfl rfl (r_move (vq 4 rfl))) (oc (ob_ag rfl rfl rfl (vq 5 rfl) nq (fun hg => a_fld (lz0 0 rfl) fld_26_1)) (oc (ob_ag rfl rfl rfl (vq 5 rfl) nq (fun hg => a_fld2 6 rfl (by kernel_rfl) hg (lz0 0 rfl) fld_24_1)) (oc (ob_gd rfl rfl rfl (vq 5 rfl) nq (fun hg => r_loadf 7 rfl (by kernel_rfl) hg (lz0 0 rfl) (Sub.trans (Sub.part 1 rfl rfl) (Sub.part 1 rfl rfl) rfl) ty_22)) (oc (ob_gd rfl rfl rfl (vq 5 rfl) nq (fun hg => r_lenm Tryz.underlying22 (has_wh (vq 8 rfl) hg))) (oc (ob_gd rfl rfl rfl (vq 5 rfl) nq (fun hg => r_eql (has_wh (vq 9 rfl) hg) has_num)) (oc (ob_v rfl rfl (r_and (vq 5 rfl) (vq 10 rfl))) (oc (ob_v rfl rfl (r_move (vq 11 rfl))) (oc (ob_ag rfl rfl rfl (vq 12 rfl) nq (fun hg => a_fld (lz0 0 rfl) fld_26_1)) (oc (ob_ag rfl rfl rfl (vq 12 rfl) nq (fun hg => a_fld2 13 rfl (by kernel_rfl) hg (lz0 0 rfl) fld_24_1)) (oc (ob_gd rfl rfl rfl (vq 12 rfl) nq (fun hg => r_loadf 14 rfl (by kernel_rfl) hg (lz0 0 rfl) (Sub.trans (Sub.part 1 rfl rfl) (Sub.part 1 rfl rfl) rfl) ty_22)) (oc (ob_gd rfl rfl rfl (vq 12 rfl) nq (fun hg => r_idxmd sl_22 (has_wh (vq 15 rfl) hg) (has_nat 0 rfl) (by have h := hg; simp at h; omega))) (oc (ob_gd rfl rfl rfl (vq 12 rfl) nq (fun hg => r_loade (has_wh (vq 16 rfl) hg) ty_122)) (oc (ob_gd rfl rfl rfl (vq 12 rfl) nq (fun hg => r_eql (has_wh (vq 17 rfl) hg) (has_nat 1 rfl))) (oc (ob_v rfl rfl (r_and (vq 12 rfl) (vq 18 rfl))) (oc (ob_v rfl rfl (r_assign (vq 19 rfl))) o0))))))))))))))))))))) (fun a w hst => ?_)
  have hst : St B w0 23 [(2, _)] [⟨1, 26, ptrH, _⟩] a w := hst
  refine thn_normal ?_
  refine wp_ret ?_
  refine ret_wk ?_ (ret_tmp rfl hst (List.mem_of_getElem? (i := 0) rfl))
  exact wk_id

set_option maxRecDepth 100000 in
theorem trips_c (nn lim : Int) (xs : List RF) : Cn Tryz.prog 10 [In nn, In lim, (SlA 26 [U32] (xs.map RFA)).va] (Bo (tripsF nn lim xs)) := by
  refine Cn.intro Tryz.func10 rfl (by kernel_rfl) nq (fun B w0 a hst => ?_)
  have hst : St B w0 52 [(0, In nn), (1, In lim), (2, (SlA 26 [U32] (xs.map RFA)).va)] [] a w0.w := hst
  have hl := slA_lenm (hst.vals (2, (SlA 26 [U32] (xs.map RFA)).va) (List.mem_of_getElem? (i := 2) rfl))
  refine wp_seq ?_
  refine gl (sts := []) (news := []) (sp := [.val 6 _]) [.g 0, .g 1, .g 2, .o 0] hst (oc (ob_v rfl rfl (r_assign has_bo)) o0) (fun a w hst => ?_)
  have hst : St B w0 52 [(0, _), (1, _), (2, _), (6, _)] [] a w := hst
  refine thn_normal ?_
  refine wp_seq ?_
  refine gl (sts := []) (news := []) (sp := [.val 7 _]) [.g 0, .g 1, .g 2, .g 3, .o 0] hst (oc (ob_v rfl rfl (r_assign has_num)) o0) (fun a w hst => ?_)
  have hst : St B w0 52 [(0, _), (1, _), (2, _), (6, _), (7, _)] [] a w := hst
  refine thn_normal ?_
  refine wp_seq ?_
  refine wp_seq ?_
  refine gl (sts := []) (news := []) (sp := [.val 8 _]) [.g 0, .g 1, .g 2, .g 3, .g 4, .o 0] hst (oc (ob_v rfl rfl (r_assign has_num)) o0) (fun a w hst => ?_)
  have hst : St B w0 52 [(0, _), (1, _), (2, _), (6, _), (7, _), (8, _)] [] a w := hst
  refine thn_normal ?_
  refine wp_block ?_
  have hst := St.sel hst [0, 1, 2, 4, 5]
  refine wp_loop_ghost (fun n a w => ∃ j : Nat, (n + j = xs.length) ∧ St B w0 52 [(0, In nn), (1, In lim), (2, (SlA 26 [U32] (xs.map RFA)).va), (7, In ((xs.take j).foldl limF 0)), (8, In (j : Nat))] [] a w) (xs.length) ?_ ?_
  · exact ⟨0, by omega, hst⟩
  intro n a w hI
  obtain ⟨j, hn, hst⟩ := hI
  refine wp_seq ?_
  refine wp_seq ?_
  refine gl (sts := []) (news := []) (sp := [.val 9 _, .val 10 _, .val 11 _, .val 12 _]) [.g 0, .g 1, .g 2, .g 3, .g 4, .o 3] hst (oc (ob_v rfl rfl (r_move (gq 4 rfl))) (oc (ob_v rfl rfl (r_move (gq 2 rfl))) (oc (ob_v rfl rfl (r_len Tryz.underlying71 (vq 1 rfl))) (oc (ob_v rfl rfl (r_lss (vq 0 rfl) (vq 2 rfl))) o0)))) (fun a w hst => ?_)
  have hst : St B w0 52 [(0, _), (1, _), (2, _), (7, _), (8, _), (12, _)] [] a w := hst
  refine thn_normal ?_
  refine cond_of hst (List.mem_of_getElem? (i := 5) rfl) (fun hb0 => ?_) (fun hb0 => ?_)
  · have hj : j < xs.length := by rw [List.length_map] at hb0; simp at hb0; omega
    refine wp_skip ?_
    refine thn_normal ?_
    refine wp_seq ?_
    refine wp_block ?_
    refine wp_seq ?_
    refine gl (sts := []) (news := []) (sp := [.val 15 _, .val 16 _, .val 17 _, .val 18 _, .val 19 _, .val 20 _]) [.g 0, .g 1, .g 2, .g 3, .g 4, .o 5] hst (oc (ob_v rfl rfl (r_move (gq 2 rfl))) (oc (ob_v rfl rfl (r_move (gq 4 rfl))) (oc (ob_v rfl rfl (r_idx sl_71 (map_n fun _ => rfl) (vq 0 rfl) (vq 1 rfl) (at_rf hj))) (oc (ob_v rfl rfl (r_loade (vq 2 rfl) ty_26)) (oc (ob_v rfl rfl (r_call (xs := [.tmp 18]) (wholeL_c (xs.getD j rf0)) (.cons (vq 3 rfl) .nil))) (oc (ob_v rfl rfl (r_not (vq 4 rfl))) o0)))))) (fun a w hst => ?_)
    have hst : St B w0 52 [(0, _), (1, _), (2, _), (7, _), (8, _), (20, _)] [] a w := hst
    refine thn_normal ?_
    refine cond_join (fun a w =>  St B w0 52 [(0, In nn), (1, In lim), (2, (SlA 26 [U32] (xs.map RFA)).va), (7, In ((xs.take (j + 1)).foldl limF 0)), (8, In (j : Nat))] [] a w) hst (List.mem_of_getElem? (i := 5) rfl) (fun hb1 => ?_) (fun hb1 => ?_) (fun a w hst => ?_)
    · refine go_draw (anc := [[], [], [], [1, 2], [1, 2, 3], [1, 2, 3, 4], [1, 2, 3, 4, 5], [1, 2, 3, 4, 5, 6], [], [], [8, 9], [8, 9, 10], [8, 9, 10, 11], [8, 9, 10, 11, 12], [8, 9, 10, 11, 12, 13], [1, 2, 3, 4, 5, 6, 7, 8, 9, 10, 11, 12, 13, 14], [1, 2, 3, 4, 5, 6, 7, 8, 9, 10, 11, 12, 13, 14, 15], [0, 1, 2, 3, 4, 5, 6, 7, 8, 9, 10, 11, 12, 13, 14, 15, 16], [0, 1, 2, 3, 4, 5, 6, 7, 8, 9, 10, 11, 12, 13, 14, 15, 16, 17]]) (sts := []) (news := []) (sp := [.val 21 _, .val 22 _, .val 23 _, .val 24 _, .val 25 _, .val 26 _, .val 27 _, .val 28 _, .val 29 _, .val 30 _, .val 31 _, .val 32 _, .val 33 _, .val 34 _, .val 35 _, .val 36 _, .val 37 _, .val 38 _, .val 7 _]) [.g 0, .g 1, .g 2, .g 4, .o 18] follows_mixed hst (oc (ob_v rfl rfl (r_move (gq 3 rfl))) (oc (ob_v rfl rfl (r_move (gq 2 rfl))) (oc (ob_v rfl rfl (r_move (gq 4 rfl))) (oc (ob_v rfl rfl (r_idx sl_71 (map_n fun _ => rfl) (vq 1 rfl) (vq 2 rfl) (at_rf hj))) (oc (ob_v rfl rfl (r_fielde (vq 3 rfl) fld_26_0 (Sub.part 0 rfl rfl))) (oc (ob_v rfl rfl (r_fielde (vq 4 rfl) fld_24_1 (Sub.part 1 rfl rfl))) (oc (ob_v rfl rfl (r_loade (vq 5 rfl) ty_22)) (oc (ob_v rfl rfl (r_lenm Tryz.underlying22 (vq 6 rfl))) (oc (ob_v rfl rfl (r_move (gq 2 rfl))) (oc (ob_v rfl rfl (r_move (gq 4 rfl))) (oc (ob_v rfl rfl (r_idx sl_71 (map_n fun _ => rfl) (vq 8 rfl) (vq 9 rfl) (at_rf hj))) (oc (ob_v rfl rfl (r_fielde (vq 10 rfl) fld_26_1 (Sub.part 1 rfl rfl))) (oc (ob_v rfl rfl (r_fielde (vq 11 rfl) fld_24_1 (Sub.part 1 rfl rfl))) (oc (ob_v rfl rfl (r_loade (vq 12 rfl) ty_22)) (oc (ob_v rfl rfl (r_lenm Tryz.underlying22 (vq 13 rfl))) (oc (ob_v rfl rfl (r_add (vq 7 rfl) (vq 14 rfl) (rfl))) (oc (ob_v rfl rfl (r_min (vq 15 rfl) has_num)) (oc (ob_v rfl rfl (r_add (vq 0 rfl) (vq 16 rfl) (rfl))) (oc (ob_v rfl rfl (r_assign (vq 17 rfl))) o0))))))))))))))))))) (by kernel_rfl) (by kernel_rfl) (by kernel_rfl) (by kernel_rfl) (fun a w hst => ?_)
      have hst : St B w0 52 [(0, _), (1, _), (2, _), (8, _), (7, _)] [] a w := hst
      refine thn_normal ?_
      have hst := St.sel hst [0, 1, 2, 4, 3]
      rw [← lim_nx hj, limF, if_neg (by intro e; rw [e] at hb1; exact absurd hb1 (by decide))]; exact hst
    · refine wp_skip ?_
      refine thn_normal ?_
      have hst := St.sel hst [0, 1, 2, 3, 4]
      rw [← lim_nx hj, limF, if_pos (by simpa using hb1)]; exact hst
    refine blk_normal ?_
    refine thn_normal ?_
    refine gl (sts := []) (news := []) (sp := [.val 13 _, .val 14 _, .val 8 _]) [.g 0, .g 1, .g 2, .g 3, .o 2] hst (oc (ob_v rfl rfl (r_move (gq 4 rfl))) (oc (ob_v rfl rfl (r_add (vq 0 rfl) has_num (wi_nx hj hl))) (oc (ob_v rfl rfl (r_assign (vq 1 rfl))) o0))) (fun a w hst => ?_)
    have hst : St B w0 52 [(0, _), (1, _), (2, _), (7, _), (8, _)] [] a w := hst
    refine thn_normal ?_
    have hst := St.sel hst [0, 1, 2, 3, 4]
    exact ⟨n - 1, by omega, j + 1, by omega, hst⟩
  · obtain rfl : j = xs.length := by rw [List.length_map] at hb0; simp at hb0; omega
    refine wp_exit ?_
    refine thn_exit ?_
    refine thn_exit ?_
    refine blk_exit ?_
    refine thn_normal ?_
    refine wp_seq ?_
    refine gl (sts := []) (news := []) (sp := [.val 39 _, .val 40 _, .val 41 _, .val 42 (Wh (_ = true) _), .val 43 (Wh (_ = true) _), .val 44 (Wh (_ = true) _), .val 45 (Wh (_ = true) _), .val 46 (Wh (_ = true) _), .val 47 _, .val 48 _, .val 49 (Wh (_ = true) _), .val 50 (Wh (_ = true) _), .val 51 _, .val 6 _]) [.o 13] hst (oc (ob_v rfl rfl (r_move (gq 3 rfl))) (oc (ob_v rfl rfl (r_gtr (vq 0 rfl) has_num)) (oc (ob_v rfl rfl (r_move (vq 1 rfl))) (oc (ob_gd rfl rfl rfl (vq 2 rfl) nq (fun hg => r_move (gq 0 rfl))) (oc (ob_gd rfl rfl rfl (vq 2 rfl) nq (fun hg => r_move (gq 1 rfl))) (oc (ob_gd rfl rfl rfl (vq 2 rfl) nq (fun hg => r_move (gq 3 rfl))) (oc (ob_gd rfl rfl rfl (vq 2 rfl) nq (fun hg => r_quo (has_wh (vq 4 rfl) hg) (has_wh (vq 5 rfl) hg) ((by have h := of_decide_eq_true hg; omega)) (rfl))) (oc (ob_gd rfl rfl rfl (vq 2 rfl) nq (fun hg => r_gtr (has_wh (vq 3 rfl) hg) (has_wh (vq 6 rfl) hg))) (oc (ob_v rfl rfl (r_and (vq 2 rfl) (vq 7 rfl))) (oc (ob_v rfl rfl (r_move (vq 8 rfl))) (oc (ob_gd rfl rfl rfl (vq 9 rfl) nq (fun hg => r_move (gq 0 rfl))) (oc (ob_gd rfl rfl rfl (vq 9 rfl) nq (fun hg => r_leq (has_wh (vq 10 rfl) hg) has_num)) (oc (ob_v rfl rfl (r_and (vq 9 rfl) (vq 11 rfl))) (oc (ob_v rfl rfl (r_assign (vq 12 rfl))) o0)))))))))))))) (fun a w hst => ?_)
    have hst : St B w0 52 [(6, _)] [] a w := hst
    refine thn_normal ?_
    refine wp_ret ?_
    refine ret_wk ?_ (ret_tmp rfl hst (List.mem_of_getElem? (i := 0) rfl))
    rw [List.take_length]; exact wk_id

end Go.Proofs.YtmghfjcjcfaagaaGreat
