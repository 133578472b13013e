import Derived.Test.YtljkepdpoelpkaaLeafC
namespace Go.Proofs.Ytljkepdpoelpkaa
open Go Go.RowKit
namespace LeafD
theorem sl_31 : Sl Try.prog 31 91 1 := ⟨by kernel_rfl, by kernel_rfl⟩
theorem ty_91 : Ty Try.prog 91 1 false := ⟨by kernel_rfl, by kernel_rfl⟩
end LeafD
open LeafD
/-- the row of a sum that is being written. -/
def addSt (l m : List Nat) (i : Nat) : List Nat := digs i (sumTo l m i) ++ List.replicate (l.length + 1 - i) 0
theorem addSt_len {l m : List Nat} {i : Nat} (h : i ≤ l.length) : (addSt l m i).length = l.length + 1 := by simp [addSt, digs_length]; omega
theorem addSt_zero (l m : List Nat) : addSt l m 0 = List.replicate (l.length + 1) 0 := by simp [addSt, digs]
theorem set_app {α : Type} (p q : List α) (x : α) (k : Nat) (h : p.length = k) : (p ++ q).set k x = p ++ q.set 0 x := by subst h; rw [List.set_append_right _ _ (Nat.le_refl _), Nat.sub_self]
theorem rep_set (n : Nat) (x : Nat) (h : 0 < n) : (List.replicate n 0).set 0 x = x :: List.replicate (n - 1) 0 := by
  cases n with
  | zero => omega
  | succ n => simp [List.replicate_succ]
theorem addSt_step {l m : List Nat} {i : Nat} (h : i < l.length) {y : Nat} (hy : m.getD i 0 = y) : (addSt l m i).set i ((l[i] + y + sumTo l m i / 4294967296 ^ i) % 4294967296) = addSt l m (i + 1) := by
  unfold addSt
  rw [set_app _ _ _ _ (digs_length _ _), rep_set _ _ (by omega), sumTo_succ h, digs_step, hy]
  simp only [List.append_assoc, List.singleton_append]
  rw [Nat.add_comm (l[i] + y)]
  congr 3
theorem add_carry {l m : List Nat} {i : Nat} (h : i < l.length) {y : Nat} (hy : m.getD i 0 = y) : (l[i] + y + sumTo l m i / 4294967296 ^ i) / 4294967296 = sumTo l m (i + 1) / 4294967296 ^ (i + 1) := by
  rw [sumTo_succ h, carry_step', hy, Nat.add_comm (l[i] + y)]
theorem addSt_end {l m : List Nat} (hl : okL l) (hm : okL m) (h : m.length ≤ l.length) : (addSt l m l.length).set l.length (sumTo l m l.length / 4294967296 ^ l.length) = digs (l.length + 1) (val l + val m) := by
  unfold addSt
  rw [set_app _ _ _ _ (digs_length _ _), rep_set _ _ (by omega), digs_snoc, sumTo_all h]
  have := carry_le hl hm l.length
  rw [sumTo_all h] at this
  rw [Nat.mod_eq_of_lt (by omega)]
  simp
theorem getD_lt {l : List Nat} {i : Nat} (h : i < l.length) : l.getD i 0 = l[i] := by simp [List.getD, h]
theorem getD_ge {l : List Nat} {i : Nat} (h : l.length ≤ i) : l.getD i 0 = 0 := by simp [List.getD, h]

set_option maxRecDepth 100000 in
theorem add_c (l m : List Nat) (hls : l.length ≤ 1099511627776) (hms : m.length ≤ 1099511627776) : Cn Try.prog 84 [(MgA l).va, (MgA m).va] ((MgN (digs (max l.length m.length + 1) (val l + val m))).va) := by
  refine Cn.introW Try.func84 rfl (by kernel_rfl) nq (.cons (up_mg _).va (.cons (up_mg _).va .nil)) (free_mgN _).va (fun B w0 a hB0 hst => ?_)
  have hst : St B w0 53 [(0, (MgO l).va), (1, (MgO m).va)] [] a w0.w := hst
  have hl := (hst.magO 0 rfl).1; have hm := (hst.magO 1 rfl).1
  refine wp_seq ?_
  refine gl (sts := []) (news := []) (sp := [.val 4 _]) [.g 0, .g 1, .o 0] hst (oc (ob_v rfl rfl (r_assign has_const)) o0) (fun a w hst => ?_)
  have hst : St B w0 53 [(0, _), (1, _), (4, _)] [] a w := hst
  refine thn_normal ?_
  refine wp_seq ?_
  refine wp_seq ?_
  refine gl (sts := []) (news := []) (sp := [.val 9 _, .val 10 _, .val 11 _, .val 12 _, .val 13 _]) [.g 0, .g 1, .g 2, .o 4] hst (oc (ob_v rfl rfl (r_move (gq 0 rfl))) (oc (ob_v rfl rfl (r_lenm Try.underlying31 (has_old (vq 0 rfl)))) (oc (ob_v rfl rfl (r_move (gq 1 rfl))) (oc (ob_v rfl rfl (r_lenm Try.underlying31 (has_old (vq 2 rfl)))) (oc (ob_v rfl rfl (r_lss (vq 1 rfl) (vq 3 rfl))) o0))))) (fun a w hst => ?_)
  have hst : St B w0 53 [(0, _), (1, _), (4, _), (13, _)] [] a w := hst
  refine thn_normal ?_
  refine cond_of hst (List.mem_of_getElem? (i := 3) rfl) (fun hb0 => ?_) (fun hb0 => ?_)
  · have hlt : l.length < m.length := by simp at hb0; omega
    refine gl (sts := []) (news := []) (sp := [.val 14 _, .val 15 _, .val 0 _, .val 1 _]) [.g 2, .o 2, .o 3] hst (oc (ob_v rfl rfl (r_move (gq 1 rfl))) (oc (ob_v rfl rfl (r_move (gq 0 rfl))) (oc (ob_v rfl rfl (r_assign (vq 0 rfl))) (oc (ob_v rfl rfl (r_assign (vq 1 rfl))) o0)))) (fun a w hst => ?_)
    have hst : St B w0 53 [(4, _), (0, _), (1, _)] [] a w := hst
    refine thn_normal ?_
    refine wp_seq ?_
    refine go_linR (sts := []) (news := [⟨19, 91, slH _ _, some 3, _, none⟩]) (sp := [.val 16 _, .val 17 _, .val 18 _, .alc 0, .adr 5 19 .none True]) [.g 0, .g 1, .g 2] [(5, 19)] [⟨5, 91, slH _ _, _⟩] hst (oc (ob_v rfl rfl (r_move (gq 1 rfl))) (oc (ob_v rfl rfl (r_lenm Try.underlying31 (has_old (vq 0 rfl)))) (oc (ob_v rfl rfl (r_add (vq 1 rfl) has_num (wi_succ (by omega)))) (oc (ob_make rfl rfl rfl mk_u32 (vq 2 rfl) (vq 2 rfl) (by omega)) (oc (ob_a rfl rfl a_asg) o0))))) (by kernel_rfl) (by kernel_rfl) (by kernel_rfl) ⟨⟨4, rfl⟩, trivial⟩ rfl (by kernel_rfl) (fun a w hst => ?_)
    have hst : St B w0 53 [(4, _), (0, _), (1, _)] [⟨5, 91, slH _ _, _⟩] a w := hst
    refine thn_normal ?_
    refine wp_seq ?_
    refine gl (sts := [none]) (news := []) (sp := [.val 6 _]) [.g 0, .g 1, .g 2, .o 0] hst (oc (ob_v rfl rfl (r_assign (has_nat 0 rfl))) o0) (fun a w hst => ?_)
    have hst : St B w0 53 [(4, _), (0, _), (1, _), (6, _)] [⟨5, 91, slH _ _, _⟩] a w := hst
    refine thn_normal ?_
    refine wp_seq ?_
    refine wp_seq ?_
    refine gl (sts := [none]) (news := []) (sp := [.val 20 _, .val 21 _, .val 22 _]) [.g 0, .g 1, .g 2, .g 3, .o 1, .o 2] hst (oc (ob_v rfl rfl (r_move (gq 1 rfl))) (oc (ob_v rfl rfl (r_lenm Try.underlying31 (has_old (vq 0 rfl)))) (oc (ob_v rfl rfl (r_move has_num)) o0))) (fun a w hst => ?_)
    have hst : St B w0 53 [(4, _), (0, _), (1, _), (6, _), (21, _), (22, _)] [⟨5, 91, slH _ _, _⟩] a w := hst
    refine thn_normal ?_
    refine wp_block ?_
    have hst := St.sel hst [1, 2, 3, 4, 5]
    refine wp_loop_ghost (fun n a w => ∃ i : Nat, n + i = m.length ∧ St B w0 53 [(0, (MgO m).va), (1, (MgO l).va), (6, (NumA .u32 (sumTo m l i / 4294967296 ^ i : Nat)).va), (21, In (m.length : Nat)), (22, In (i : Nat))] [⟨5, 91, slH (m.length + 1) (m.length + 1), Nums .u32 (addSt m l i)⟩] a w) (m.length) ?_ ?_
    · exact ⟨0, by omega, by rw [addSt_zero, show sumTo m l 0 / 4294967296 ^ 0 = 0 from by simp [sumTo_zero]]; exact hst⟩
    intro n a w hI
    obtain ⟨i, hn, hst⟩ := hI
    refine wp_seq ?_
    refine gl (sts := [none]) (news := []) (sp := [.val 23 _]) [.g 0, .g 1, .g 2, .g 3, .g 4, .o 0] hst (oc (ob_v rfl rfl (r_lss (gq 4 rfl) (gq 3 rfl))) o0) (fun a w hst => ?_)
    have hst : St B w0 53 [(0, _), (1, _), (6, _), (21, _), (22, _), (23, _)] [⟨5, 91, slH _ _, _⟩] a w := hst
    refine thn_normal ?_
    refine wp_seq ?_
    refine cond_of hst (List.mem_of_getElem? (i := 5) rfl) (fun hb1 => ?_) (fun hb1 => ?_)
    · have hi : i < m.length := by simp at hb1; omega
      refine wp_skip ?_
      refine thn_normal ?_
      refine wp_seq ?_
      refine wp_block ?_
      refine wp_seq ?_
      refine gl (sts := [none]) (news := []) (sp := [.val 24 _, .val 7 _]) [.g 0, .g 1, .g 2, .g 3, .g 4, .o 1] hst (oc (ob_v rfl rfl (r_move (gq 4 rfl))) (oc (ob_v rfl rfl (r_assign (vq 0 rfl))) o0)) (fun a w hst => ?_)
      have hst : St B w0 53 [(0, _), (1, _), (6, _), (21, _), (22, _), (7, _)] [⟨5, 91, slH _ _, _⟩] a w := hst
      refine thn_normal ?_
      refine wp_seq ?_
      refine gl (sts := [none]) (news := []) (sp := [.val 8 _]) [.g 0, .g 1, .g 2, .g 3, .g 4, .g 5, .o 0] hst (oc (ob_v rfl rfl (r_assign (has_nat 0 rfl))) o0) (fun a w hst => ?_)
      have hst : St B w0 53 [(0, _), (1, _), (6, _), (21, _), (22, _), (7, _), (8, _)] [⟨5, 91, slH _ _, _⟩] a w := hst
      refine thn_normal ?_
      refine wp_seq ?_
      refine wp_seq ?_
      refine gl (sts := [none]) (news := []) (sp := [.val 25 _, .val 26 _, .val 27 _, .val 28 _]) [.g 0, .g 1, .g 2, .g 3, .g 4, .g 5, .g 6, .o 3] hst (oc (ob_v rfl rfl (r_move (gq 5 rfl))) (oc (ob_v rfl rfl (r_move (gq 1 rfl))) (oc (ob_v rfl rfl (r_lenm Try.underlying31 (has_old (vq 1 rfl)))) (oc (ob_v rfl rfl (r_lss (vq 0 rfl) (vq 2 rfl))) o0)))) (fun a w hst => ?_)
      have hst : St B w0 53 [(0, _), (1, _), (6, _), (21, _), (22, _), (7, _), (8, _), (28, _)] [⟨5, 91, slH _ _, _⟩] a w := hst
      refine thn_normal ?_
      refine cond_of hst (List.mem_of_getElem? (i := 7) rfl) (fun hb2 => ?_) (fun hb2 => ?_)
      · refine gl (sts := [none]) (news := []) (sp := [.val 29 _, .val 30 _, .val 31 _, .val 32 _, .val 8 _]) [.g 0, .g 1, .g 2, .g 3, .g 4, .g 5, .o 4] hst (oc (ob_v rfl rfl (r_move (gq 1 rfl))) (oc (ob_v rfl rfl (r_move (gq 5 rfl))) (oc (ob_v rfl rfl (r_idxm sl_31 (has_old (vq 0 rfl)) (vq 1 rfl) (by first | omega | (simp at hb2; omega) | (simp at hb4; omega)))) (oc (ob_v rfl rfl (r_loade (vq 2 rfl) ty_91)) (oc (ob_v rfl rfl (r_assign (vq 3 rfl))) o0))))) (fun a w hst => ?_)
        have hst : St B w0 53 [(0, _), (1, _), (6, _), (21, _), (22, _), (7, _), (8, _)] [⟨5, 91, slH _ _, _⟩] a w := hst
        refine thn_normal ?_
        refine gl (sts := [some (13, _)]) (news := []) (sp := [.adr 34 5 .none True, .val 35 _, .val 36 _, .val 37 _, .val 38 _, .val 39 _, .val 40 _, .val 41 _, .val 42 _, .val 33 _, .val 43 _, .val 44 _, .adr 45 5 (.some _) True, .sto 0, .val 6 _]) [.g 0, .g 1, .g 3, .g 4, .o 14] hst (oc (ob_a rfl rfl a_mov) (oc (ob_v rfl rfl (r_move (gq 5 rfl))) (oc (ob_v rfl rfl (r_move (gq 0 rfl))) (oc (ob_v rfl rfl (r_move (gq 5 rfl))) (oc (ob_v rfl rfl (r_idxm sl_31 (has_old (vq 2 rfl)) (vq 3 rfl) (by first | omega | (simp at hb2; omega) | (simp at hb4; omega)))) (oc (ob_v rfl rfl (r_loade (vq 4 rfl) ty_91)) (oc (ob_v rfl rfl (r_move (gq 6 rfl))) (oc (ob_v rfl rfl (r_move (gq 2 rfl))) (oc (ob_v rfl rfl (r_call (xs := [.tmp 39, .tmp 40, .tmp 41]) (add32_c (hm _ (List.getElem_mem _)) (hl _ (List.getElem_mem _)) (Nat.lt_of_le_of_lt (carry_le hm hl _) (by decide))) (.cons (vq 5 rfl) (.cons (vq 6 rfl) (.cons (vq 7 rfl) .nil))))) (oc (ob_v rfl rfl (r_move (vq 8 rfl))) (oc (ob_v rfl rfl (r_extract (vq 9 rfl) rfl)) (oc (ob_v rfl rfl (r_extract (vq 9 rfl) rfl)) (oc (ob_a rfl rfl (a_elm 0 rfl (by kernel_rfl) (lz0 0 rfl) sl_31 (vq 1 rfl) (by omega))) (oc (ob_stox 12 rfl rfl rfl rfl (by kernel_rfl) (fun _ => slH_off _ _ _ _) (vq 10 rfl) ty_91 (nums_put (by rw [addSt_len (by omega)]; omega))) (oc (ob_v rfl rfl (r_assign (vq 11 rfl))) o0))))))))))))))) (fun a w hst => ?_)
        have hst : St B w0 53 [(0, _), (1, _), (21, _), (22, _), (6, _)] [⟨5, 91, slH _ _, _⟩] a w := hst
        refine blk_normal ?_
        refine thn_normal ?_
        refine gl (sts := [none]) (news := []) (sp := [.val 46 _, .val 22 _]) [.g 0, .g 1, .g 2, .g 4, .o 1] hst (oc (ob_v rfl rfl (r_add (gq 3 rfl) has_num (wi_succ (by omega)))) (oc (ob_v rfl rfl (r_move (vq 0 rfl))) o0)) (fun a w hst => ?_)
        have hst : St B w0 53 [(0, _), (1, _), (21, _), (6, _), (22, _)] [⟨5, 91, slH _ _, _⟩] a w := hst
        refine thn_normal ?_
        have hst := St.sel hst [0, 1, 3, 2, 4]
        rw [addSt_step hi (y := _) (getD_lt (by simp at hb2; omega)), add_carry hi (getD_lt (by simp at hb2; omega))] at hst; exact ⟨n - 1, by omega, i + 1, by omega, hst⟩
      · refine wp_skip ?_
        refine thn_normal ?_
        refine gl (sts := [some (13, _)]) (news := []) (sp := [.adr 34 5 .none True, .val 35 _, .val 36 _, .val 37 _, .val 38 _, .val 39 _, .val 40 _, .val 41 _, .val 42 _, .val 33 _, .val 43 _, .val 44 _, .adr 45 5 (.some _) True, .sto 0, .val 6 _]) [.g 0, .g 1, .g 3, .g 4, .o 14] hst (oc (ob_a rfl rfl a_mov) (oc (ob_v rfl rfl (r_move (gq 5 rfl))) (oc (ob_v rfl rfl (r_move (gq 0 rfl))) (oc (ob_v rfl rfl (r_move (gq 5 rfl))) (oc (ob_v rfl rfl (r_idxm sl_31 (has_old (vq 2 rfl)) (vq 3 rfl) (by first | omega | (simp at hb2; omega) | (simp at hb4; omega)))) (oc (ob_v rfl rfl (r_loade (vq 4 rfl) ty_91)) (oc (ob_v rfl rfl (r_move (gq 6 rfl))) (oc (ob_v rfl rfl (r_move (gq 2 rfl))) (oc (ob_v rfl rfl (r_call (xs := [.tmp 39, .tmp 40, .tmp 41]) (add32_c (hm _ (List.getElem_mem _)) (y := 0) (by decide) (Nat.lt_of_le_of_lt (carry_le hm hl _) (by decide))) (.cons (vq 5 rfl) (.cons (vq 6 rfl) (.cons (vq 7 rfl) .nil))))) (oc (ob_v rfl rfl (r_move (vq 8 rfl))) (oc (ob_v rfl rfl (r_extract (vq 9 rfl) rfl)) (oc (ob_v rfl rfl (r_extract (vq 9 rfl) rfl)) (oc (ob_a rfl rfl (a_elm 0 rfl (by kernel_rfl) (lz0 0 rfl) sl_31 (vq 1 rfl) (by omega))) (oc (ob_stox 12 rfl rfl rfl rfl (by kernel_rfl) (fun _ => slH_off _ _ _ _) (vq 10 rfl) ty_91 (nums_put (by rw [addSt_len (by omega)]; omega))) (oc (ob_v rfl rfl (r_assign (vq 11 rfl))) o0))))))))))))))) (fun a w hst => ?_)
        have hst : St B w0 53 [(0, _), (1, _), (21, _), (22, _), (6, _)] [⟨5, 91, slH _ _, _⟩] a w := hst
        refine blk_normal ?_
        refine thn_normal ?_
        refine gl (sts := [none]) (news := []) (sp := [.val 46 _, .val 22 _]) [.g 0, .g 1, .g 2, .g 4, .o 1] hst (oc (ob_v rfl rfl (r_add (gq 3 rfl) has_num (wi_succ (by omega)))) (oc (ob_v rfl rfl (r_move (vq 0 rfl))) o0)) (fun a w hst => ?_)
        have hst : St B w0 53 [(0, _), (1, _), (21, _), (6, _), (22, _)] [⟨5, 91, slH _ _, _⟩] a w := hst
        refine thn_normal ?_
        have hst := St.sel hst [0, 1, 3, 2, 4]
        rw [addSt_step hi (y := _) (getD_ge (by simp at hb2; omega)), add_carry hi (getD_ge (by simp at hb2; omega))] at hst; exact ⟨n - 1, by omega, i + 1, by omega, hst⟩
    · obtain rfl : i = m.length := by simp at hb1; omega
      refine wp_exit ?_
      refine thn_exit ?_
      refine thn_exit ?_
      refine blk_exit ?_
      refine thn_normal ?_
      refine wp_seq ?_
      refine gl (sts := [some (5, _)]) (news := []) (sp := [.adr 47 5 .none True, .val 48 _, .val 49 _, .val 50 _, .adr 51 5 (.some _) True, .sto 0]) [] hst (oc (ob_a rfl rfl a_mov) (oc (ob_v rfl rfl (r_move (gq 0 rfl))) (oc (ob_v rfl rfl (r_lenm Try.underlying31 (has_old (vq 1 rfl)))) (oc (ob_v rfl rfl (r_move (gq 2 rfl))) (oc (ob_a rfl rfl (a_elm 0 rfl (by kernel_rfl) (lz0 0 rfl) sl_31 (vq 2 rfl) (by omega))) (oc (ob_stox 4 rfl rfl rfl rfl (by kernel_rfl) (fun _ => slH_off _ _ _ _) (vq 3 rfl) ty_91 (nums_put (by rw [addSt_len (by omega)]; omega))) o0)))))) (fun a w hst => ?_)
      have hst : St B w0 53 [] [⟨5, 91, slH _ _, _⟩] a w := hst
      refine thn_normal ?_
      refine wp_seq ?_
      refine go_linR (sts := [none]) (news := []) (sp := [.adr 52 5 .none True, .adr 4 5 .none True]) [] [(4, 5)] [⟨4, 91, slH _ _, _⟩] hst (oc (ob_a rfl rfl a_mov) (oc (ob_a rfl rfl (a_asg2 0 rfl (by kernel_rfl))) o0)) (by kernel_rfl) (by kernel_rfl) (by kernel_rfl) ⟨⟨1, rfl⟩, trivial⟩ rfl (by kernel_rfl) (fun a w hst => ?_)
      have hst : St B w0 53 [] [⟨4, 91, slH _ _, _⟩] a w := hst
      refine thn_normal ?_
      refine wp_ret ?_
      refine ret_cast ?_ (ret_row rfl hst (List.mem_of_getElem? (i := 0) rfl) ⟨by simp [addSt_len], Nat.le_refl _, by unfold maxLen; omega, by rw [addSt_end hm hl (by omega)]; exact okL_digs _ _⟩ (by simp [addSt_len]))
      rw [addSt_end hm hl (by omega), Nat.max_eq_right (by omega), Nat.add_comm (val m)]
  · have hlt : m.length ≤ l.length := by simp at hb0; omega
    refine wp_skip ?_
    refine thn_normal ?_
    refine wp_seq ?_
    refine go_linR (sts := []) (news := [⟨19, 91, slH _ _, some 3, _, none⟩]) (sp := [.val 16 _, .val 17 _, .val 18 _, .alc 0, .adr 5 19 .none True]) [.g 0, .g 1, .g 2] [(5, 19)] [⟨5, 91, slH _ _, _⟩] hst (oc (ob_v rfl rfl (r_move (gq 0 rfl))) (oc (ob_v rfl rfl (r_lenm Try.underlying31 (has_old (vq 0 rfl)))) (oc (ob_v rfl rfl (r_add (vq 1 rfl) has_num (wi_succ (by omega)))) (oc (ob_make rfl rfl rfl mk_u32 (vq 2 rfl) (vq 2 rfl) (by omega)) (oc (ob_a rfl rfl a_asg) o0))))) (by kernel_rfl) (by kernel_rfl) (by kernel_rfl) ⟨⟨4, rfl⟩, trivial⟩ rfl (by kernel_rfl) (fun a w hst => ?_)
    have hst : St B w0 53 [(0, _), (1, _), (4, _)] [⟨5, 91, slH _ _, _⟩] a w := hst
    refine thn_normal ?_
    refine wp_seq ?_
    refine gl (sts := [none]) (news := []) (sp := [.val 6 _]) [.g 0, .g 1, .g 2, .o 0] hst (oc (ob_v rfl rfl (r_assign (has_nat 0 rfl))) o0) (fun a w hst => ?_)
    have hst : St B w0 53 [(0, _), (1, _), (4, _), (6, _)] [⟨5, 91, slH _ _, _⟩] a w := hst
    refine thn_normal ?_
    refine wp_seq ?_
    refine wp_seq ?_
    refine gl (sts := [none]) (news := []) (sp := [.val 20 _, .val 21 _, .val 22 _]) [.g 0, .g 1, .g 2, .g 3, .o 1, .o 2] hst (oc (ob_v rfl rfl (r_move (gq 0 rfl))) (oc (ob_v rfl rfl (r_lenm Try.underlying31 (has_old (vq 0 rfl)))) (oc (ob_v rfl rfl (r_move has_num)) o0))) (fun a w hst => ?_)
    have hst : St B w0 53 [(0, _), (1, _), (4, _), (6, _), (21, _), (22, _)] [⟨5, 91, slH _ _, _⟩] a w := hst
    refine thn_normal ?_
    refine wp_block ?_
    have hst := St.sel hst [0, 1, 3, 4, 5]
    refine wp_loop_ghost (fun n a w => ∃ i : Nat, n + i = l.length ∧ St B w0 53 [(0, (MgO l).va), (1, (MgO m).va), (6, (NumA .u32 (sumTo l m i / 4294967296 ^ i : Nat)).va), (21, In (l.length : Nat)), (22, In (i : Nat))] [⟨5, 91, slH (l.length + 1) (l.length + 1), Nums .u32 (addSt l m i)⟩] a w) (l.length) ?_ ?_
    · exact ⟨0, by omega, by rw [addSt_zero, show sumTo l m 0 / 4294967296 ^ 0 = 0 from by simp [sumTo_zero]]; exact hst⟩
    intro n a w hI
    obtain ⟨i, hn, hst⟩ := hI
    refine wp_seq ?_
    refine gl (sts := [none]) (news := []) (sp := [.val 23 _]) [.g 0, .g 1, .g 2, .g 3, .g 4, .o 0] hst (oc (ob_v rfl rfl (r_lss (gq 4 rfl) (gq 3 rfl))) o0) (fun a w hst => ?_)
    have hst : St B w0 53 [(0, _), (1, _), (6, _), (21, _), (22, _), (23, _)] [⟨5, 91, slH _ _, _⟩] a w := hst
    refine thn_normal ?_
    refine wp_seq ?_
    refine cond_of hst (List.mem_of_getElem? (i := 5) rfl) (fun hb3 => ?_) (fun hb3 => ?_)
    · have hi : i < l.length := by simp at hb3; omega
      refine wp_skip ?_
      refine thn_normal ?_
      refine wp_seq ?_
      refine wp_block ?_
      refine wp_seq ?_
      refine gl (sts := [none]) (news := []) (sp := [.val 24 _, .val 7 _]) [.g 0, .g 1, .g 2, .g 3, .g 4, .o 1] hst (oc (ob_v rfl rfl (r_move (gq 4 rfl))) (oc (ob_v rfl rfl (r_assign (vq 0 rfl))) o0)) (fun a w hst => ?_)
      have hst : St B w0 53 [(0, _), (1, _), (6, _), (21, _), (22, _), (7, _)] [⟨5, 91, slH _ _, _⟩] a w := hst
      refine thn_normal ?_
      refine wp_seq ?_
      refine gl (sts := [none]) (news := []) (sp := [.val 8 _]) [.g 0, .g 1, .g 2, .g 3, .g 4, .g 5, .o 0] hst (oc (ob_v rfl rfl (r_assign (has_nat 0 rfl))) o0) (fun a w hst => ?_)
      have hst : St B w0 53 [(0, _), (1, _), (6, _), (21, _), (22, _), (7, _), (8, _)] [⟨5, 91, slH _ _, _⟩] a w := hst
      refine thn_normal ?_
      refine wp_seq ?_
      refine wp_seq ?_
      refine gl (sts := [none]) (news := []) (sp := [.val 25 _, .val 26 _, .val 27 _, .val 28 _]) [.g 0, .g 1, .g 2, .g 3, .g 4, .g 5, .g 6, .o 3] hst (oc (ob_v rfl rfl (r_move (gq 5 rfl))) (oc (ob_v rfl rfl (r_move (gq 1 rfl))) (oc (ob_v rfl rfl (r_lenm Try.underlying31 (has_old (vq 1 rfl)))) (oc (ob_v rfl rfl (r_lss (vq 0 rfl) (vq 2 rfl))) o0)))) (fun a w hst => ?_)
      have hst : St B w0 53 [(0, _), (1, _), (6, _), (21, _), (22, _), (7, _), (8, _), (28, _)] [⟨5, 91, slH _ _, _⟩] a w := hst
      refine thn_normal ?_
      refine cond_of hst (List.mem_of_getElem? (i := 7) rfl) (fun hb4 => ?_) (fun hb4 => ?_)
      · refine gl (sts := [none]) (news := []) (sp := [.val 29 _, .val 30 _, .val 31 _, .val 32 _, .val 8 _]) [.g 0, .g 1, .g 2, .g 3, .g 4, .g 5, .o 4] hst (oc (ob_v rfl rfl (r_move (gq 1 rfl))) (oc (ob_v rfl rfl (r_move (gq 5 rfl))) (oc (ob_v rfl rfl (r_idxm sl_31 (has_old (vq 0 rfl)) (vq 1 rfl) (by first | omega | (simp at hb2; omega) | (simp at hb4; omega)))) (oc (ob_v rfl rfl (r_loade (vq 2 rfl) ty_91)) (oc (ob_v rfl rfl (r_assign (vq 3 rfl))) o0))))) (fun a w hst => ?_)
        have hst : St B w0 53 [(0, _), (1, _), (6, _), (21, _), (22, _), (7, _), (8, _)] [⟨5, 91, slH _ _, _⟩] a w := hst
        refine thn_normal ?_
        refine gl (sts := [some (13, _)]) (news := []) (sp := [.adr 34 5 .none True, .val 35 _, .val 36 _, .val 37 _, .val 38 _, .val 39 _, .val 40 _, .val 41 _, .val 42 _, .val 33 _, .val 43 _, .val 44 _, .adr 45 5 (.some _) True, .sto 0, .val 6 _]) [.g 0, .g 1, .g 3, .g 4, .o 14] hst (oc (ob_a rfl rfl a_mov) (oc (ob_v rfl rfl (r_move (gq 5 rfl))) (oc (ob_v rfl rfl (r_move (gq 0 rfl))) (oc (ob_v rfl rfl (r_move (gq 5 rfl))) (oc (ob_v rfl rfl (r_idxm sl_31 (has_old (vq 2 rfl)) (vq 3 rfl) (by first | omega | (simp at hb2; omega) | (simp at hb4; omega)))) (oc (ob_v rfl rfl (r_loade (vq 4 rfl) ty_91)) (oc (ob_v rfl rfl (r_move (gq 6 rfl))) (oc (ob_v rfl rfl (r_move (gq 2 rfl))) (oc (ob_v rfl rfl (r_call (xs := [.tmp 39, .tmp 40, .tmp 41]) (add32_c (hl _ (List.getElem_mem _)) (hm _ (List.getElem_mem _)) (Nat.lt_of_le_of_lt (carry_le hl hm _) (by decide))) (.cons (vq 5 rfl) (.cons (vq 6 rfl) (.cons (vq 7 rfl) .nil))))) (oc (ob_v rfl rfl (r_move (vq 8 rfl))) (oc (ob_v rfl rfl (r_extract (vq 9 rfl) rfl)) (oc (ob_v rfl rfl (r_extract (vq 9 rfl) rfl)) (oc (ob_a rfl rfl (a_elm 0 rfl (by kernel_rfl) (lz0 0 rfl) sl_31 (vq 1 rfl) (by omega))) (oc (ob_stox 12 rfl rfl rfl rfl (by kernel_rfl) (fun _ => slH_off _ _ _ _) (vq 10 rfl) ty_91 (nums_put (by rw [addSt_len (by omega)]; omega))) (oc (ob_v rfl rfl (r_assign (vq 11 rfl))) o0))))))))))))))) (fun a w hst => ?_)
        have hst : St B w0 53 [(0, _), (1, _), (21, _), (22, _), (6, _)] [⟨5, 91, slH _ _, _⟩] a w := hst
        refine blk_normal ?_
        refine thn_normal ?_
        refine gl (sts := [none]) (news := []) (sp := [.val 46 _, .val 22 _]) [.g 0, .g 1, .g 2, .g 4, .o 1] hst (oc (ob_v rfl rfl (r_add (gq 3 rfl) has_num (wi_succ (by omega)))) (oc (ob_v rfl rfl (r_move (vq 0 rfl))) o0)) (fun a w hst => ?_)
        have hst : St B w0 53 [(0, _), (1, _), (21, _), (6, _), (22, _)] [⟨5, 91, slH _ _, _⟩] a w := hst
        refine thn_normal ?_
        have hst := St.sel hst [0, 1, 3, 2, 4]
        rw [addSt_step hi (y := _) (getD_lt (by simp at hb4; omega)), add_carry hi (getD_lt (by simp at hb4; omega))] at hst; exact ⟨n - 1, by omega, i + 1, by omega, hst⟩
      · refine wp_skip ?_
        refine thn_normal ?_
        refine gl (sts := [some (13, _)]) (news := []) (sp := [.adr 34 5 .none True, .val 35 _, .val 36 _, .val 37 _, .val 38 _, .val 39 _, .val 40 _, .val 41 _, .val 42 _, .val 33 _, .val 43 _, .val 44 _, .adr 45 5 (.some _) True, .sto 0, .val 6 _]) [.g 0, .g 1, .g 3, .g 4, .o 14] hst (oc (ob_a rfl rfl a_mov) (oc (ob_v rfl rfl (r_move (gq 5 rfl))) (oc (ob_v rfl rfl (r_move (gq 0 rfl))) (oc (ob_v rfl rfl (r_move (gq 5 rfl))) (oc (ob_v rfl rfl (r_idxm sl_31 (has_old (vq 2 rfl)) (vq 3 rfl) (by first | omega | (simp at hb2; omega) | (simp at hb4; omega)))) (oc (ob_v rfl rfl (r_loade (vq 4 rfl) ty_91)) (oc (ob_v rfl rfl (r_move (gq 6 rfl))) (oc (ob_v rfl rfl (r_move (gq 2 rfl))) (oc (ob_v rfl rfl (r_call (xs := [.tmp 39, .tmp 40, .tmp 41]) (add32_c (hl _ (List.getElem_mem _)) (y := 0) (by decide) (Nat.lt_of_le_of_lt (carry_le hl hm _) (by decide))) (.cons (vq 5 rfl) (.cons (vq 6 rfl) (.cons (vq 7 rfl) .nil))))) (oc (ob_v rfl rfl (r_move (vq 8 rfl))) (oc (ob_v rfl rfl (r_extract (vq 9 rfl) rfl)) (oc (ob_v rfl rfl (r_extract (vq 9 rfl) rfl)) (oc (ob_a rfl rfl (a_elm 0 rfl (by kernel_rfl) (lz0 0 rfl) sl_31 (vq 1 rfl) (by omega))) (oc (ob_stox 12 rfl rfl rfl rfl (by kernel_rfl) (fun _ => slH_off _ _ _ _) (vq 10 rfl) ty_91 (nums_put (by rw [addSt_len (by omega)]; omega))) (oc (ob_v rfl rfl (r_assign (vq 11 rfl))) o0))))))))))))))) (fun a w hst => ?_)
        have hst : St B w0 53 [(0, _), (1, _), (21, _), (22, _), (6, _)] [⟨5, 91, slH _ _, _⟩] a w := hst
        refine blk_normal ?_
        refine thn_normal ?_
        refine gl (sts := [none]) (news := []) (sp := [.val 46 _, .val 22 _]) [.g 0, .g 1, .g 2, .g 4, .o 1] hst (oc (ob_v rfl rfl (r_add (gq 3 rfl) has_num (wi_succ (by omega)))) (oc (ob_v rfl rfl (r_move (vq 0 rfl))) o0)) (fun a w hst => ?_)
        have hst : St B w0 53 [(0, _), (1, _), (21, _), (6, _), (22, _)] [⟨5, 91, slH _ _, _⟩] a w := hst
        refine thn_normal ?_
        have hst := St.sel hst [0, 1, 3, 2, 4]
        rw [addSt_step hi (y := _) (getD_ge (by simp at hb4; omega)), add_carry hi (getD_ge (by simp at hb4; omega))] at hst; exact ⟨n - 1, by omega, i + 1, by omega, hst⟩
    · obtain rfl : i = l.length := by simp at hb3; omega
      refine wp_exit ?_
      refine thn_exit ?_
      refine thn_exit ?_
      refine blk_exit ?_
      refine thn_normal ?_
      refine wp_seq ?_
      refine gl (sts := [some (5, _)]) (news := []) (sp := [.adr 47 5 .none True, .val 48 _, .val 49 _, .val 50 _, .adr 51 5 (.some _) True, .sto 0]) [] hst (oc (ob_a rfl rfl a_mov) (oc (ob_v rfl rfl (r_move (gq 0 rfl))) (oc (ob_v rfl rfl (r_lenm Try.underlying31 (has_old (vq 1 rfl)))) (oc (ob_v rfl rfl (r_move (gq 2 rfl))) (oc (ob_a rfl rfl (a_elm 0 rfl (by kernel_rfl) (lz0 0 rfl) sl_31 (vq 2 rfl) (by omega))) (oc (ob_stox 4 rfl rfl rfl rfl (by kernel_rfl) (fun _ => slH_off _ _ _ _) (vq 3 rfl) ty_91 (nums_put (by rw [addSt_len (by omega)]; omega))) o0)))))) (fun a w hst => ?_)
      have hst : St B w0 53 [] [⟨5, 91, slH _ _, _⟩] a w := hst
      refine thn_normal ?_
      refine wp_seq ?_
      refine go_linR (sts := [none]) (news := []) (sp := [.adr 52 5 .none True, .adr 4 5 .none True]) [] [(4, 5)] [⟨4, 91, slH _ _, _⟩] hst (oc (ob_a rfl rfl a_mov) (oc (ob_a rfl rfl (a_asg2 0 rfl (by kernel_rfl))) o0)) (by kernel_rfl) (by kernel_rfl) (by kernel_rfl) ⟨⟨1, rfl⟩, trivial⟩ rfl (by kernel_rfl) (fun a w hst => ?_)
      have hst : St B w0 53 [] [⟨4, 91, slH _ _, _⟩] a w := hst
      refine thn_normal ?_
      refine wp_ret ?_
      refine ret_cast ?_ (ret_row rfl hst (List.mem_of_getElem? (i := 0) rfl) ⟨by simp [addSt_len], Nat.le_refl _, by unfold maxLen; omega, by rw [addSt_end hl hm (by omega)]; exact okL_digs _ _⟩ (by simp [addSt_len]))
      rw [addSt_end hl hm (by omega), Nat.max_eq_left (by omega)]

/-- what is left of the first i limbs, and one more of the next place. -/
def dif (l m : List Nat) (i : Nat) : Nat := val (l.take i) + 4294967296 ^ i - val (m.take i)
def subSt (l m : List Nat) (i : Nat) : List Nat := digs i (dif l m i) ++ List.replicate (l.length - i) 0
theorem subSt_len {l m : List Nat} {i : Nat} (h : i ≤ l.length) : (subSt l m i).length = l.length := by simp [subSt, digs_length]; omega
theorem subSt_zero (l m : List Nat) : subSt l m 0 = List.replicate l.length 0 := by simp [subSt, digs]
theorem dif_zero (l m : List Nat) : 1 - dif l m 0 / 4294967296 ^ 0 = 0 := by simp [dif]
theorem val_take_getD (m : List Nat) (i : Nat) : val (m.take (i + 1)) = val (m.take i) + 4294967296 ^ i * m.getD i 0 := by
  by_cases h : i < m.length
  · rw [val_take_succ h, getD_lt h]
  · rw [List.take_of_length_le (by omega), List.take_of_length_le (by omega), getD_ge (by omega), Nat.mul_zero, Nat.add_zero]
theorem getD_ok {m : List Nat} (hm : okL m) (i : Nat) : m.getD i 0 < 4294967296 := by
  by_cases h : i < m.length
  · rw [getD_lt h]; exact hm _ (List.getElem_mem _)
  · rw [getD_ge (by omega)]; decide
theorem dif_succ {l m : List Nat} {i : Nat} (h : i < l.length) (hm : okL m) : dif l m (i + 1) = dif l m i + 4294967296 ^ i * (l[i] + 4294967295 - m.getD i 0) := by
  have h1 := val_take_lt hm i
  have h2 := getD_ok hm i
  unfold dif
  rw [val_take_succ h, val_take_getD, Nat.pow_succ]
  generalize 4294967296 ^ i = p at *
  obtain ⟨e, he⟩ : ∃ e, l[i] + 4294967295 = m.getD i 0 + e := ⟨l[i] + 4294967295 - m.getD i 0, by omega⟩
  rw [he, Nat.add_sub_cancel_left]
  have h3 : p * (l[i] + 4294967295) = p * (m.getD i 0 + e) := by rw [he]
  rw [Nat.mul_add, Nat.mul_add] at h3
  omega
theorem dif_le {l m : List Nat} (hl : okL l) (i : Nat) : dif l m i / 4294967296 ^ i ≤ 1 := by
  have h1 := val_take_lt hl i
  have h2 : 0 < 4294967296 ^ i := Nat.pow_pos (by decide)
  unfold dif
  rw [Nat.div_le_iff_le_mul_add_pred h2]
  omega
theorem subSt_step {l m : List Nat} {i : Nat} (h : i < l.length) (hl : okL l) (hm : okL m) {y : Nat} (hy : m.getD i 0 = y) : (subSt l m i).set i ((l[i] + 8589934592 - y - (1 - dif l m i / 4294967296 ^ i)) % 4294967296) = subSt l m (i + 1) := by
  have h1 := getD_ok hm i
  have h2 := dif_le (m := m) hl i
  unfold subSt
  rw [set_app _ _ _ _ (digs_length _ _), rep_set _ _ (by omega), dif_succ h hm, digs_step, hy]
  rw [hy] at h1
  simp only [List.append_assoc, List.singleton_append]
  have e : (l[i] + 8589934592 - y - (1 - dif l m i / 4294967296 ^ i)) % 4294967296 = (dif l m i / 4294967296 ^ i + (l[i] + 4294967295 - y)) % 4294967296 := by
    generalize dif l m i / 4294967296 ^ i = q at *
    omega
  rw [e, Nat.sub_add_eq]
theorem sub_carry {l m : List Nat} {i : Nat} (h : i < l.length) (hl : okL l) (hm : okL m) {y : Nat} (hy : m.getD i 0 = y) : (if l[i] < y + (1 - dif l m i / 4294967296 ^ i) then 1 else 0) = 1 - dif l m (i + 1) / 4294967296 ^ (i + 1) := by
  have h1 := getD_ok hm i
  have h2 := dif_le (m := m) hl i
  have h3 := hl _ (List.getElem_mem h)
  rw [dif_succ h hm, carry_step', hy]
  rw [hy] at h1
  generalize dif l m i / 4294967296 ^ i = q at *
  split <;> omega
theorem subSt_end {l m : List Nat} (hl : okL l) (hm : m.length ≤ l.length) (hv : val m ≤ val l) : trimL (subSt l m l.length) = limbs (val l - val m) := by
  unfold subSt dif
  rw [Nat.sub_self, List.replicate_zero, List.append_nil, List.take_length, List.take_of_length_le hm]
  have h1 := val_lt hl
  rw [digs_congr (m' := val l - val m), trimL_digs (by omega)]
  rw [show val l + 4294967296 ^ l.length - val m = (val l - val m) + 4294967296 ^ l.length from by omega, Nat.add_mod_right]
theorem ok_subSt {l m : List Nat} {i : Nat} : okL (subSt l m i) := okL_append.2 ⟨okL_digs _ _, fun x hx => by rw [(List.mem_replicate.1 hx).2]; decide⟩

set_option maxRecDepth 100000 in
theorem sub_c (l m : List Nat) (hls : l.length ≤ 1099511627776) (hml : m.length ≤ l.length) (hv : val m ≤ val l) : Cn Try.prog 85 [(MgA l).va, (MgA m).va] ((MgN (limbs (val l - val m))).va) := by
  refine Cn.introW Try.func85 rfl (by kernel_rfl) nq (.cons (up_mg _).va (.cons (up_mg _).va .nil)) (free_mgN _).va (fun B w0 a hB0 hst => ?_)
  have hst : St B w0 41 [(0, (MgO l).va), (1, (MgO m).va)] [] a w0.w := hst
  have hl := (hst.magO 0 rfl).1; have hm := (hst.magO 1 rfl).1
  refine wp_seq ?_
  refine gl (sts := []) (news := []) (sp := [.val 4 _]) [.g 0, .g 1, .o 0] hst (oc (ob_v rfl rfl (r_assign has_const)) o0) (fun a w hst => ?_)
  have hst : St B w0 41 [(0, _), (1, _), (4, _)] [] a w := hst
  refine thn_normal ?_
  refine wp_seq ?_
  refine go_linR (sts := []) (news := [⟨11, 91, slH _ _, some 2, _, none⟩]) (sp := [.val 9 _, .val 10 _, .alc 0, .adr 5 11 .none True]) [.g 0, .g 1, .g 2] [(5, 11)] [⟨5, 91, slH _ _, _⟩] hst (oc (ob_v rfl rfl (r_move (gq 0 rfl))) (oc (ob_v rfl rfl (r_lenm Try.underlying31 (has_old (vq 0 rfl)))) (oc (ob_make rfl rfl rfl mk_u32 (vq 1 rfl) (vq 1 rfl) (by omega)) (oc (ob_a rfl rfl a_asg) o0)))) (by kernel_rfl) (by kernel_rfl) (by kernel_rfl) ⟨⟨3, rfl⟩, trivial⟩ rfl (by kernel_rfl) (fun a w hst => ?_)
  have hst : St B w0 41 [(0, _), (1, _), (4, _)] [⟨5, 91, slH _ _, _⟩] a w := hst
  refine thn_normal ?_
  refine wp_seq ?_
  refine gl (sts := [none]) (news := []) (sp := [.val 6 _]) [.g 0, .g 1, .g 2, .o 0] hst (oc (ob_v rfl rfl (r_assign (has_nat 0 rfl))) o0) (fun a w hst => ?_)
  have hst : St B w0 41 [(0, _), (1, _), (4, _), (6, _)] [⟨5, 91, slH _ _, _⟩] a w := hst
  refine thn_normal ?_
  refine wp_seq ?_
  refine wp_seq ?_
  refine gl (sts := [none]) (news := []) (sp := [.val 12 _, .val 13 _, .val 14 _]) [.g 0, .g 1, .g 2, .g 3, .o 1, .o 2] hst (oc (ob_v rfl rfl (r_move (gq 0 rfl))) (oc (ob_v rfl rfl (r_lenm Try.underlying31 (has_old (vq 0 rfl)))) (oc (ob_v rfl rfl (r_move has_num)) o0))) (fun a w hst => ?_)
  have hst : St B w0 41 [(0, _), (1, _), (4, _), (6, _), (13, _), (14, _)] [⟨5, 91, slH _ _, _⟩] a w := hst
  refine thn_normal ?_
  refine wp_block ?_
  have hst := St.sel hst [0, 1, 3, 4, 5]
  refine wp_loop_ghost (fun n a w => ∃ i : Nat, n + i = l.length ∧ St B w0 41 [(0, (MgO l).va), (1, (MgO m).va), (6, (NumA .u32 (1 - dif l m i / 4294967296 ^ i : Nat)).va), (13, In (l.length : Nat)), (14, In (i : Nat))] [⟨5, 91, slH l.length l.length, Nums .u32 (subSt l m i)⟩] a w) (l.length) ?_ ?_
  · exact ⟨0, by omega, by rw [subSt_zero, dif_zero]; exact hst⟩
  intro n a w hI
  obtain ⟨i, hn, hst⟩ := hI
  refine wp_seq ?_
  refine gl (sts := [none]) (news := []) (sp := [.val 15 _]) [.g 0, .g 1, .g 2, .g 3, .g 4, .o 0] hst (oc (ob_v rfl rfl (r_lss (gq 4 rfl) (gq 3 rfl))) o0) (fun a w hst => ?_)
  have hst : St B w0 41 [(0, _), (1, _), (6, _), (13, _), (14, _), (15, _)] [⟨5, 91, slH _ _, _⟩] a w := hst
  refine thn_normal ?_
  refine wp_seq ?_
  refine cond_of hst (List.mem_of_getElem? (i := 5) rfl) (fun hb0 => ?_) (fun hb0 => ?_)
  · have hi : i < l.length := by simp at hb0; omega
    refine wp_skip ?_
    refine thn_normal ?_
    refine wp_seq ?_
    refine wp_block ?_
    refine wp_seq ?_
    refine gl (sts := [none]) (news := []) (sp := [.val 16 _, .val 7 _]) [.g 0, .g 1, .g 2, .g 3, .g 4, .o 1] hst (oc (ob_v rfl rfl (r_move (gq 4 rfl))) (oc (ob_v rfl rfl (r_assign (vq 0 rfl))) o0)) (fun a w hst => ?_)
    have hst : St B w0 41 [(0, _), (1, _), (6, _), (13, _), (14, _), (7, _)] [⟨5, 91, slH _ _, _⟩] a w := hst
    refine thn_normal ?_
    refine wp_seq ?_
    refine gl (sts := [none]) (news := []) (sp := [.val 8 _]) [.g 0, .g 1, .g 2, .g 3, .g 4, .g 5, .o 0] hst (oc (ob_v rfl rfl (r_assign (has_nat 0 rfl))) o0) (fun a w hst => ?_)
    have hst : St B w0 41 [(0, _), (1, _), (6, _), (13, _), (14, _), (7, _), (8, _)] [⟨5, 91, slH _ _, _⟩] a w := hst
    refine thn_normal ?_
    refine wp_seq ?_
    refine wp_seq ?_
    refine gl (sts := [none]) (news := []) (sp := [.val 17 _, .val 18 _, .val 19 _, .val 20 _]) [.g 0, .g 1, .g 2, .g 3, .g 4, .g 5, .g 6, .o 3] hst (oc (ob_v rfl rfl (r_move (gq 5 rfl))) (oc (ob_v rfl rfl (r_move (gq 1 rfl))) (oc (ob_v rfl rfl (r_lenm Try.underlying31 (has_old (vq 1 rfl)))) (oc (ob_v rfl rfl (r_lss (vq 0 rfl) (vq 2 rfl))) o0)))) (fun a w hst => ?_)
    have hst : St B w0 41 [(0, _), (1, _), (6, _), (13, _), (14, _), (7, _), (8, _), (20, _)] [⟨5, 91, slH _ _, _⟩] a w := hst
    refine thn_normal ?_
    refine cond_of hst (List.mem_of_getElem? (i := 7) rfl) (fun hb1 => ?_) (fun hb1 => ?_)
    · refine gl (sts := [none]) (news := []) (sp := [.val 21 _, .val 22 _, .val 23 _, .val 24 _, .val 8 _]) [.g 0, .g 1, .g 2, .g 3, .g 4, .g 5, .o 4] hst (oc (ob_v rfl rfl (r_move (gq 1 rfl))) (oc (ob_v rfl rfl (r_move (gq 5 rfl))) (oc (ob_v rfl rfl (r_idxm sl_31 (has_old (vq 0 rfl)) (vq 1 rfl) (by first | omega | (simp at hb1; omega)))) (oc (ob_v rfl rfl (r_loade (vq 2 rfl) ty_91)) (oc (ob_v rfl rfl (r_assign (vq 3 rfl))) o0))))) (fun a w hst => ?_)
      have hst : St B w0 41 [(0, _), (1, _), (6, _), (13, _), (14, _), (7, _), (8, _)] [⟨5, 91, slH _ _, _⟩] a w := hst
      refine thn_normal ?_
      refine gl (sts := [some (13, _)]) (news := []) (sp := [.adr 26 5 .none True, .val 27 _, .val 28 _, .val 29 _, .val 30 _, .val 31 _, .val 32 _, .val 33 _, .val 34 _, .val 25 _, .val 35 _, .val 36 _, .adr 37 5 (.some _) True, .sto 0, .val 6 _]) [.g 0, .g 1, .g 3, .g 4, .o 14] hst (oc (ob_a rfl rfl a_mov) (oc (ob_v rfl rfl (r_move (gq 5 rfl))) (oc (ob_v rfl rfl (r_move (gq 0 rfl))) (oc (ob_v rfl rfl (r_move (gq 5 rfl))) (oc (ob_v rfl rfl (r_idxm sl_31 (has_old (vq 2 rfl)) (vq 3 rfl) (by first | omega | (simp at hb1; omega)))) (oc (ob_v rfl rfl (r_loade (vq 4 rfl) ty_91)) (oc (ob_v rfl rfl (r_move (gq 6 rfl))) (oc (ob_v rfl rfl (r_move (gq 2 rfl))) (oc (ob_v rfl rfl (r_call (xs := [.tmp 31, .tmp 32, .tmp 33]) (sub32_c (hl _ (List.getElem_mem _)) (hm _ (List.getElem_mem _)) (Nat.lt_of_le_of_lt (Nat.sub_le _ _) (by decide))) (.cons (vq 5 rfl) (.cons (vq 6 rfl) (.cons (vq 7 rfl) .nil))))) (oc (ob_v rfl rfl (r_move (vq 8 rfl))) (oc (ob_v rfl rfl (r_extract (vq 9 rfl) rfl)) (oc (ob_v rfl rfl (r_extract (vq 9 rfl) rfl)) (oc (ob_a rfl rfl (a_elm 0 rfl (by kernel_rfl) (lz0 0 rfl) sl_31 (vq 1 rfl) (by omega))) (oc (ob_stox 12 rfl rfl rfl rfl (by kernel_rfl) (fun _ => slH_off _ _ _ _) (vq 10 rfl) ty_91 (nums_put (by rw [subSt_len (by omega)]; omega))) (oc (ob_v rfl rfl (r_assign (vq 11 rfl))) o0))))))))))))))) (fun a w hst => ?_)
      have hst : St B w0 41 [(0, _), (1, _), (13, _), (14, _), (6, _)] [⟨5, 91, slH _ _, _⟩] a w := hst
      refine blk_normal ?_
      refine thn_normal ?_
      refine gl (sts := [none]) (news := []) (sp := [.val 38 _, .val 14 _]) [.g 0, .g 1, .g 2, .g 4, .o 1] hst (oc (ob_v rfl rfl (r_add (gq 3 rfl) has_num (wi_succ (by omega)))) (oc (ob_v rfl rfl (r_move (vq 0 rfl))) o0)) (fun a w hst => ?_)
      have hst : St B w0 41 [(0, _), (1, _), (13, _), (6, _), (14, _)] [⟨5, 91, slH _ _, _⟩] a w := hst
      refine thn_normal ?_
      have hst := St.sel hst [0, 1, 3, 2, 4]
      rw [subSt_step hi hl hm (y := _) (getD_lt (by simp at hb1; omega)), sub_carry hi hl hm (getD_lt (by simp at hb1; omega))] at hst; exact ⟨n - 1, by omega, i + 1, by omega, hst⟩
    · refine wp_skip ?_
      refine thn_normal ?_
      refine gl (sts := [some (13, _)]) (news := []) (sp := [.adr 26 5 .none True, .val 27 _, .val 28 _, .val 29 _, .val 30 _, .val 31 _, .val 32 _, .val 33 _, .val 34 _, .val 25 _, .val 35 _, .val 36 _, .adr 37 5 (.some _) True, .sto 0, .val 6 _]) [.g 0, .g 1, .g 3, .g 4, .o 14] hst (oc (ob_a rfl rfl a_mov) (oc (ob_v rfl rfl (r_move (gq 5 rfl))) (oc (ob_v rfl rfl (r_move (gq 0 rfl))) (oc (ob_v rfl rfl (r_move (gq 5 rfl))) (oc (ob_v rfl rfl (r_idxm sl_31 (has_old (vq 2 rfl)) (vq 3 rfl) (by first | omega | (simp at hb1; omega)))) (oc (ob_v rfl rfl (r_loade (vq 4 rfl) ty_91)) (oc (ob_v rfl rfl (r_move (gq 6 rfl))) (oc (ob_v rfl rfl (r_move (gq 2 rfl))) (oc (ob_v rfl rfl (r_call (xs := [.tmp 31, .tmp 32, .tmp 33]) (sub32_c (hl _ (List.getElem_mem _)) (y := 0) (by decide) (Nat.lt_of_le_of_lt (Nat.sub_le _ _) (by decide))) (.cons (vq 5 rfl) (.cons (vq 6 rfl) (.cons (vq 7 rfl) .nil))))) (oc (ob_v rfl rfl (r_move (vq 8 rfl))) (oc (ob_v rfl rfl (r_extract (vq 9 rfl) rfl)) (oc (ob_v rfl rfl (r_extract (vq 9 rfl) rfl)) (oc (ob_a rfl rfl (a_elm 0 rfl (by kernel_rfl) (lz0 0 rfl) sl_31 (vq 1 rfl) (by omega))) (oc (ob_stox 12 rfl rfl rfl rfl (by kernel_rfl) (fun _ => slH_off _ _ _ _) (vq 10 rfl) ty_91 (nums_put (by rw [subSt_len (by omega)]; omega))) (oc (ob_v rfl rfl (r_assign (vq 11 rfl))) o0))))))))))))))) (fun a w hst => ?_)
      have hst : St B w0 41 [(0, _), (1, _), (13, _), (14, _), (6, _)] [⟨5, 91, slH _ _, _⟩] a w := hst
      refine blk_normal ?_
      refine thn_normal ?_
      refine gl (sts := [none]) (news := []) (sp := [.val 38 _, .val 14 _]) [.g 0, .g 1, .g 2, .g 4, .o 1] hst (oc (ob_v rfl rfl (r_add (gq 3 rfl) has_num (wi_succ (by omega)))) (oc (ob_v rfl rfl (r_move (vq 0 rfl))) o0)) (fun a w hst => ?_)
      have hst : St B w0 41 [(0, _), (1, _), (13, _), (6, _), (14, _)] [⟨5, 91, slH _ _, _⟩] a w := hst
      refine thn_normal ?_
      have hst := St.sel hst [0, 1, 3, 2, 4]
      rw [subSt_step hi hl hm (y := _) (getD_ge (by simp at hb1; omega)), sub_carry hi hl hm (getD_ge (by simp at hb1; omega))] at hst; exact ⟨n - 1, by omega, i + 1, by omega, hst⟩
  · obtain rfl : i = l.length := by simp at hb0; omega
    refine wp_exit ?_
    refine thn_exit ?_
    refine thn_exit ?_
    refine blk_exit ?_
    refine thn_normal ?_
    refine wp_seq ?_
    refine gl (sts := [none]) (news := []) (sp := [.adr 39 5 .none True, .val 40 _, .val 4 _]) [.o 2] hst (oc (ob_a rfl rfl a_mov) (oc (ob_v rfl rfl (r_call (xs := [.tmp 39]) (trim_c famN _) (.cons (has_rowN 0 rfl (by kernel_rfl) (lz0 0 rfl) ⟨by rw [subSt_len (Nat.le_refl _)], Nat.le_refl _, by unfold maxLen; omega, ok_subSt⟩ (by rw [subSt_len (Nat.le_refl _)])) .nil))) (oc (ob_v rfl rfl (r_assign (vq 1 rfl))) o0))) (fun a w hst => ?_)
    have hst : St B w0 41 [(4, _)] [⟨5, 91, slH _ _, _⟩] a w := hst
    refine thn_normal ?_
    refine wp_ret ?_
    refine ret_cast ?_ (ret_tmp rfl hst (List.mem_of_getElem? (i := 0) rfl))
    rw [subSt_end hl hml hv]

end Go.Proofs.Ytljkepdpoelpkaa
