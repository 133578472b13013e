import Derived.Test.YtljkepdpoelpkaaLeafB
namespace Go.Proofs.Ytljkepdpoelpkaa
open Go Go.RowKit
namespace LeafC
theorem sl_31 : Sl Try.prog 31 91 1 := ⟨by kernel_rfl, by kernel_rfl⟩
theorem ty_91 : Ty Try.prog 91 1 false := ⟨by kernel_rfl, by kernel_rfl⟩
end LeafC
open LeafC
theorem size_e0 {l m : List Nat} (ha : l.length ≤ 9223372036854775807) (hb : m.length ≤ 9223372036854775807) (h : ((l.length : Int) != (m.length : Int)) = true) : IntKind.i64.wrap ((l.length : Int) - (m.length : Int)) = sizeL l m := by
  have h' : l.length ≠ m.length := by simp at h; omega
  unfold sizeL
  rw [if_pos h', wi64 (by omega) (by omega)]
theorem size_e1 {l m : List Nat} {j : Nat} (ha : okL l) (hl : l.length = m.length) (hj : j < l.length) (hd : l.drop (j + 1) = m.drop (j + 1)) (h : decide (((l[j] : Nat) : Int) < ((m[j]'(by omega) : Nat) : Int)) = true) : (-1 : Int) = sizeL l m := by
  have := top_lt (a := l) (b := m) ha hj (by omega) hd (by simpa using h)
  unfold sizeL
  rw [if_neg (by omega), if_pos this]
theorem size_e2 {l m : List Nat} {j : Nat} (hb : okL m) (hl : l.length = m.length) (hj : j < l.length) (hd : l.drop (j + 1) = m.drop (j + 1)) (hne : (((l[j] : Nat) : Int) != ((m[j]'(by omega) : Nat) : Int)) = true) (h : decide (((l[j] : Nat) : Int) < ((m[j]'(by omega) : Nat) : Int)) = false) : (1 : Int) = sizeL l m := by
  have := top_lt (a := m) (b := l) hb (by omega) hj hd.symm (by simp at h hne; omega)
  unfold sizeL
  rw [if_neg (by omega), if_neg (by omega), if_pos this]
theorem size_e3 {l m : List Nat} (hd : l.drop 0 = m.drop 0) : (0 : Int) = sizeL l m := by
  have : l = m := by simpa using hd
  subst this
  simp [sizeL]

set_option maxRecDepth 100000 in
theorem size_c (l m : List Nat) : Cn Try.prog 81 [(MgA l).va, (MgA m).va] (In (sizeL l m)) := by
  refine Cn.intro Try.func81 rfl (by kernel_rfl) nq (fun B w0 a hst => ?_)
  have hst : St B w0 41 [(0, (MgA l).va), (1, (MgA m).va)] [] a w0.w := hst
  obtain ⟨ha, hla⟩ := hst.mag 0 rfl; obtain ⟨hb, hlb⟩ := hst.mag 1 rfl
  refine wp_seq ?_
  refine gl (sts := []) (news := []) (sp := [.val 4 _]) [.g 0, .g 1, .o 0] hst (oc (ob_v rfl rfl (r_assign has_num)) o0) (fun a w hst => ?_)
  have hst : St B w0 41 [(0, _), (1, _), (4, _)] [] a w := hst
  refine thn_normal ?_
  refine wp_seq ?_
  refine wp_seq ?_
  refine gl (sts := []) (news := []) (sp := [.val 6 _, .val 7 _, .val 8 _, .val 9 _, .val 10 _]) [.g 0, .g 1, .g 2, .o 4] hst (oc (ob_v rfl rfl (r_move (gq 0 rfl))) (oc (ob_v rfl rfl (r_lenm Try.underlying31 (vq 0 rfl))) (oc (ob_v rfl rfl (r_move (gq 1 rfl))) (oc (ob_v rfl rfl (r_lenm Try.underlying31 (vq 2 rfl))) (oc (ob_v rfl rfl (r_neq (vq 1 rfl) (vq 3 rfl))) o0))))) (fun a w hst => ?_)
  have hst : St B w0 41 [(0, _), (1, _), (4, _), (10, _)] [] a w := hst
  refine thn_normal ?_
  refine cond_of hst (List.mem_of_getElem? (i := 3) rfl) (fun hb0 => ?_) (fun hb0 => ?_)
  · refine wp_seq ?_
    refine gl (sts := []) (news := []) (sp := [.val 11 _, .val 12 _, .val 13 _, .val 14 _, .val 15 _, .val 4 _]) [.g 0, .g 1, .o 5] hst (oc (ob_v rfl rfl (r_move (gq 0 rfl))) (oc (ob_v rfl rfl (r_lenm Try.underlying31 (vq 0 rfl))) (oc (ob_v rfl rfl (r_move (gq 1 rfl))) (oc (ob_v rfl rfl (r_lenm Try.underlying31 (vq 2 rfl))) (oc (ob_v rfl rfl (r_sub (vq 1 rfl) (vq 3 rfl) (rfl))) (oc (ob_v rfl rfl (r_assign (vq 4 rfl))) o0)))))) (fun a w hst => ?_)
    have hst : St B w0 41 [(0, _), (1, _), (4, _)] [] a w := hst
    refine thn_normal ?_
    refine wp_ret ?_
    refine thn_ret ?_
    refine ret_cast ?_ (ret_tmp rfl hst (List.mem_of_getElem? (i := 2) rfl))
    exact nu (size_e0 hla hlb hb0)
  · have hl : l.length = m.length := by simp at hb0; omega
    refine wp_skip ?_
    refine thn_normal ?_
    refine wp_seq ?_
    refine wp_seq ?_
    refine gl (sts := []) (news := []) (sp := [.val 16 _, .val 17 _, .val 18 _, .val 5 _]) [.g 0, .g 1, .g 2, .o 3] hst (oc (ob_v rfl rfl (r_move (gq 0 rfl))) (oc (ob_v rfl rfl (r_lenm Try.underlying31 (vq 0 rfl))) (oc (ob_v rfl rfl (r_sub (vq 1 rfl) has_num (wi64 (by omega) (by omega)))) (oc (ob_v rfl rfl (r_assign (vq 2 rfl))) o0)))) (fun a w hst => ?_)
    have hst : St B w0 41 [(0, _), (1, _), (4, _), (5, _)] [] a w := hst
    refine thn_normal ?_
    refine wp_block ?_
    have hst := St.sel hst [0, 1, 3]
    refine wp_loop_ghost (fun n a w => n ≤ l.length ∧ l.drop n = m.drop n ∧ St B w0 41 [(0, (MgA l).va), (1, (MgA m).va), (5, In ((n : Int) - 1))] [] a w) (l.length) ?_ ?_
    · exact ⟨Nat.le_refl _, by rw [List.drop_length, hl, List.drop_length], hst⟩
    intro n a w hI
    obtain ⟨hi, hd, hst⟩ := hI
    refine wp_seq ?_
    refine wp_seq ?_
    refine gl (sts := []) (news := []) (sp := [.val 19 _, .val 20 _]) [.g 0, .g 1, .g 2, .o 1] hst (oc (ob_v rfl rfl (r_move (gq 2 rfl))) (oc (ob_v rfl rfl (r_geq (vq 0 rfl) has_num)) o0)) (fun a w hst => ?_)
    have hst : St B w0 41 [(0, _), (1, _), (5, _), (20, _)] [] a w := hst
    refine thn_normal ?_
    refine cond_of hst (List.mem_of_getElem? (i := 3) rfl) (fun hb1 => ?_) (fun hb1 => ?_)
    · obtain ⟨j, rfl⟩ : ∃ j, n = j + 1 := ⟨n - 1, by simp at hb1; omega⟩; rw [show ((j + 1 : Nat) : Int) - 1 = (j : Int) from by omega] at hst
      refine wp_skip ?_
      refine thn_normal ?_
      refine wp_seq ?_
      refine wp_block ?_
      refine wp_seq ?_
      refine go_draw (anc := [[], [], [0, 1], [0, 1, 2], [], [], [4, 5], [4, 5, 6], [0, 1, 2, 3, 4, 5, 6, 7]]) (sts := []) (news := []) (sp := [.val 23 _, .val 24 _, .val 25 _, .val 26 _, .val 27 _, .val 28 _, .val 29 _, .val 30 _, .val 31 _]) [.g 0, .g 1, .g 2, .o 8] follows_mixed hst (oc (ob_v rfl rfl (r_move (gq 0 rfl))) (oc (ob_v rfl rfl (r_move (gq 2 rfl))) (oc (ob_v rfl rfl (r_idxm sl_31 (vq 0 rfl) (vq 1 rfl) (by omega))) (oc (ob_v rfl rfl (r_loade (vq 2 rfl) ty_91)) (oc (ob_v rfl rfl (r_move (gq 1 rfl))) (oc (ob_v rfl rfl (r_move (gq 2 rfl))) (oc (ob_v rfl rfl (r_idxm sl_31 (vq 4 rfl) (vq 5 rfl) (by omega))) (oc (ob_v rfl rfl (r_loade (vq 6 rfl) ty_91)) (oc (ob_v rfl rfl (r_neq (vq 3 rfl) (vq 7 rfl))) o0))))))))) (by kernel_rfl) (by kernel_rfl) (by kernel_rfl) (by kernel_rfl) (fun a w hst => ?_)
      have hst : St B w0 41 [(0, _), (1, _), (5, _), (31, _)] [] a w := hst
      refine thn_normal ?_
      refine cond_of hst (List.mem_of_getElem? (i := 3) rfl) (fun hb2 => ?_) (fun hb2 => ?_)
      · refine wp_seq ?_
        refine wp_seq ?_
        refine go_draw (anc := [[], [], [0, 1], [0, 1, 2], [], [], [4, 5], [4, 5, 6], [0, 1, 2, 3, 4, 5, 6, 7]]) (sts := []) (news := []) (sp := [.val 32 _, .val 33 _, .val 34 _, .val 35 _, .val 36 _, .val 37 _, .val 38 _, .val 39 _, .val 40 _]) [.g 0, .g 1, .g 2, .o 8] follows_mixed hst (oc (ob_v rfl rfl (r_move (gq 0 rfl))) (oc (ob_v rfl rfl (r_move (gq 2 rfl))) (oc (ob_v rfl rfl (r_idxm sl_31 (vq 0 rfl) (vq 1 rfl) (by omega))) (oc (ob_v rfl rfl (r_loade (vq 2 rfl) ty_91)) (oc (ob_v rfl rfl (r_move (gq 1 rfl))) (oc (ob_v rfl rfl (r_move (gq 2 rfl))) (oc (ob_v rfl rfl (r_idxm sl_31 (vq 4 rfl) (vq 5 rfl) (by omega))) (oc (ob_v rfl rfl (r_loade (vq 6 rfl) ty_91)) (oc (ob_v rfl rfl (r_lss (vq 3 rfl) (vq 7 rfl))) o0))))))))) (by kernel_rfl) (by kernel_rfl) (by kernel_rfl) (by kernel_rfl) (fun a w hst => ?_)
        have hst : St B w0 41 [(0, _), (1, _), (5, _), (40, _)] [] a w := hst
        refine thn_normal ?_
        refine cond_of hst (List.mem_of_getElem? (i := 3) rfl) (fun hb3 => ?_) (fun hb3 => ?_)
        · refine wp_seq ?_
          refine gl (sts := []) (news := []) (sp := [.val 4 _]) [.g 0, .g 1, .g 2, .o 0] hst (oc (ob_v rfl rfl (r_assign has_num)) o0) (fun a w hst => ?_)
          have hst : St B w0 41 [(0, _), (1, _), (5, _), (4, _)] [] a w := hst
          refine thn_normal ?_
          refine wp_ret ?_
          refine thn_ret ?_
          refine blk_ret ?_
          refine thn_ret ?_
          refine thn_ret ?_
          refine blk_ret ?_
          refine thn_ret ?_
          refine ret_cast ?_ (ret_tmp rfl hst (List.mem_of_getElem? (i := 3) rfl))
          exact nu (size_e1 ha hl (by omega) hd hb3)
        · refine wp_skip ?_
          refine thn_normal ?_
          refine wp_seq ?_
          refine gl (sts := []) (news := []) (sp := [.val 4 _]) [.g 0, .g 1, .g 2, .o 0] hst (oc (ob_v rfl rfl (r_assign has_num)) o0) (fun a w hst => ?_)
          have hst : St B w0 41 [(0, _), (1, _), (5, _), (4, _)] [] a w := hst
          refine thn_normal ?_
          refine wp_ret ?_
          refine blk_ret ?_
          refine thn_ret ?_
          refine thn_ret ?_
          refine blk_ret ?_
          refine thn_ret ?_
          refine ret_cast ?_ (ret_tmp rfl hst (List.mem_of_getElem? (i := 3) rfl))
          exact nu (size_e2 hb hl (by omega) hd hb2 hb3)
      · refine wp_skip ?_
        refine blk_normal ?_
        refine thn_normal ?_
        refine gl (sts := []) (news := []) (sp := [.val 21 _, .val 22 _, .val 5 _]) [.g 0, .g 1, .o 2] hst (oc (ob_v rfl rfl (r_move (gq 2 rfl))) (oc (ob_v rfl rfl (r_sub (vq 0 rfl) has_num (wi64 (by omega) (by omega)))) (oc (ob_v rfl rfl (r_assign (vq 1 rfl))) o0))) (fun a w hst => ?_)
        have hst : St B w0 41 [(0, _), (1, _), (5, _)] [] a w := hst
        refine thn_normal ?_
        have hst := St.sel hst [0, 1, 2]
        exact ⟨j, by omega, by omega, drop_eq_step (by omega) (by omega) hd (by simp at hb2; omega), hst⟩
    · obtain rfl : n = 0 := by simp at hb1; omega
      refine wp_exit ?_
      refine thn_exit ?_
      refine thn_exit ?_
      refine blk_exit ?_
      refine thn_normal ?_
      refine wp_seq ?_
      refine gl (sts := []) (news := []) (sp := [.val 4 _]) [.o 0] hst (oc (ob_v rfl rfl (r_assign has_num)) o0) (fun a w hst => ?_)
      have hst : St B w0 41 [(4, _)] [] a w := hst
      refine thn_normal ?_
      refine wp_ret ?_
      refine ret_cast ?_ (ret_tmp rfl hst (List.mem_of_getElem? (i := 0) rfl))
      exact nu (size_e3 hd)

end Go.Proofs.Ytljkepdpoelpkaa
