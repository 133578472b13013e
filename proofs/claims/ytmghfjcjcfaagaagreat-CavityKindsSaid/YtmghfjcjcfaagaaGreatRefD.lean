/- The reference of layer 1: limbs multiplied; by one limb; halved; the limb that fits. -/
import Derived.Test.YtmghfjcjcfaagaaGreatRefC
namespace Go.Proofs.YtmghfjcjcfaagaaGreat
open Go Go.RowKit
namespace RefD
theorem sl_22 : Sl Tryz.prog 22 122 1 := ⟨by kernel_rfl, by kernel_rfl⟩
theorem ty_122 : Ty Tryz.prog 122 1 false := ⟨by kernel_rfl, by kernel_rfl⟩
end RefD
open RefD
set_option linter.unusedVariables false
theorem MulI.step' {a b L : List Nat} {i u k c : Nat} (h : MulI a b L i u k c) (hb : okL b) (hu : u < 4294967296) (hk : k < b.length) (hj : i + k < L.length) :
    MulI a b (L.set (i + k) ((u * b[k] + L[i + k] + c) % 4294967296)) i u (k + 1) ((u * b[k] + L[i + k] + c) / 4294967296) := by
  have := h.step hb hu hk hj
  rw [Nat.add_comm c] at this
  exact this
theorem mul_fin {a b L : List Nat} (ha : okL a) (hb : okL b) (h : MulO a b L a.length) : trimL L = limbs (val a * val b) := by
  rw [h.fin, trimL_digs]
  rw [Nat.pow_add]
  exact Nat.mul_lt_mul'' (val_lt ha) (val_lt hb)

set_option maxRecDepth 100000 in
theorem rmul_c (l m : List Nat) (hls : l.length ≤ 1099511627776) (hms : m.length ≤ 1099511627776) : Cn Tryz.prog 166 [(MgA l).va, (MgA m).va] ((MgN (limbs (val l * val m))).va) := by
  refine Cn.introW Tryz.func166 rfl (by kernel_rfl) nq (.cons (up_mg _).va (.cons (up_mg _).va .nil)) (free_mgN _).va (fun B w0 a hB0 hst => ?_)
  have hst : St B w0 69 [(0, (MgO l).va), (1, (MgO m).va)] [] a w0.w := hst
  have ha := (hst.magO 0 rfl).1; have hb := (hst.magO 1 rfl).1
  refine wp_seq ?_
  refine gl (sts := []) (news := []) (sp := [.val 4 _]) [.g 0, .g 1, .o 0] hst (oc (ob_v rfl rfl (r_assign has_const)) o0) (fun a w hst => ?_)
  have hst : St B w0 69 [(0, _), (1, _), (4, _)] [] a w := hst
  refine thn_normal ?_
  refine wp_seq ?_
  refine go_linR (sts := []) (news := [⟨15, 122, slH _ _, some 5, _, none⟩]) (sp := [.val 10 _, .val 11 _, .val 12 _, .val 13 _, .val 14 _, .alc 0, .adr 5 15 .none True]) [.g 0, .g 1, .g 2] [(5, 15)] [⟨5, 122, slH _ _, _⟩] hst (oc (ob_v rfl rfl (r_move (gq 0 rfl))) (oc (ob_v rfl rfl (r_lenm Tryz.underlying22 (has_old (vq 0 rfl)))) (oc (ob_v rfl rfl (r_move (gq 1 rfl))) (oc (ob_v rfl rfl (r_lenm Tryz.underlying22 (has_old (vq 2 rfl)))) (oc (ob_v rfl rfl (r_add (vq 1 rfl) (vq 3 rfl) (wi_add (by omega)))) (oc (ob_make rfl rfl rfl mk_u32 (vq 4 rfl) (vq 4 rfl) (by omega)) (oc (ob_a rfl rfl a_asg) o0))))))) (by kernel_rfl) (by kernel_rfl) (by kernel_rfl) ⟨⟨6, rfl⟩, trivial⟩ rfl (by kernel_rfl) (fun a w hst => ?_)
  have hst : St B w0 69 [(0, _), (1, _), (4, _)] [⟨5, 122, slH _ _, _⟩] a w := hst
  refine thn_normal ?_
  refine wp_seq ?_
  refine wp_seq ?_
  refine gl (sts := [none]) (news := []) (sp := [.val 6 _]) [.g 0, .g 1, .g 2, .o 0] hst (oc (ob_v rfl rfl (r_assign has_num)) o0) (fun a w hst => ?_)
  have hst : St B w0 69 [(0, _), (1, _), (4, _), (6, _)] [⟨5, 122, slH _ _, _⟩] a w := hst
  refine thn_normal ?_
  refine wp_block ?_
  have hst := St.sel hst [0, 1, 3]
  refine wp_loop_ghost (fun n a w => ∃ (i : Nat) (L : List Nat), n + i = l.length ∧ MulO l m L i ∧ St B w0 69 [(0, (MgO l).va), (1, (MgO m).va), (6, In (i : Nat))] [⟨5, 122, slH (l.length + m.length) (l.length + m.length), Nums .u32 L⟩] a w) (l.length) ?_ ?_
  · exact ⟨0, _, by omega, MulO.start _ _, hst⟩
  intro n a w hI
  obtain ⟨i, L, hn, hO, hst⟩ := hI; obtain ⟨n1, hn1⟩ : ∃ n1, n1 = n := ⟨n, rfl⟩; have hlen := hO.len
  refine wp_seq ?_
  refine wp_seq ?_
  refine gl (sts := [none]) (news := []) (sp := [.val 16 _, .val 17 _, .val 18 _, .val 19 _]) [.g 0, .g 1, .g 2, .o 3] hst (oc (ob_v rfl rfl (r_move (gq 2 rfl))) (oc (ob_v rfl rfl (r_move (gq 0 rfl))) (oc (ob_v rfl rfl (r_lenm Tryz.underlying22 (has_old (vq 1 rfl)))) (oc (ob_v rfl rfl (r_lss (vq 0 rfl) (vq 2 rfl))) o0)))) (fun a w hst => ?_)
  have hst : St B w0 69 [(0, _), (1, _), (6, _), (19, _)] [⟨5, 122, slH _ _, _⟩] a w := hst
  refine thn_normal ?_
  refine cond_of hst (List.mem_of_getElem? (i := 3) rfl) (fun hb0 => ?_) (fun hb0 => ?_)
  · have hi : i < l.length := by simp at hb0; omega
    refine wp_skip ?_
    refine thn_normal ?_
    refine wp_seq ?_
    refine wp_block ?_
    refine wp_seq ?_
    refine gl (sts := [none]) (news := []) (sp := [.val 7 _]) [.g 0, .g 1, .g 2, .o 0] hst (oc (ob_v rfl rfl (r_assign (has_nat 0 rfl))) o0) (fun a w hst => ?_)
    have hst : St B w0 69 [(0, _), (1, _), (6, _), (7, _)] [⟨5, 122, slH _ _, _⟩] a w := hst
    refine thn_normal ?_
    refine wp_seq ?_
    refine wp_seq ?_
    refine gl (sts := [none]) (news := []) (sp := [.val 8 _]) [.g 0, .g 1, .g 2, .g 3, .o 0] hst (oc (ob_v rfl rfl (r_assign has_num)) o0) (fun a w hst => ?_)
    have hst : St B w0 69 [(0, _), (1, _), (6, _), (7, _), (8, _)] [⟨5, 122, slH _ _, _⟩] a w := hst
    refine thn_normal ?_
    refine wp_block ?_
    have hst := St.sel hst [0, 1, 2, 3, 4]
    refine wp_loop_ghost (fun n a w => ∃ (k c : Nat) (L : List Nat), n + k = m.length ∧ MulI l m L i l[i] k c ∧ St B w0 69 [(0, (MgO l).va), (1, (MgO m).va), (6, In (i : Nat)), (7, (NumA .u64 ((c : Nat) : Int)).va), (8, In (k : Nat))] [⟨5, 122, slH (l.length + m.length) (l.length + m.length), Nums .u32 L⟩] a w) (m.length) ?_ ?_
    · exact ⟨0, 0, L, by omega, hO.row _, hst⟩
    intro n a w hI
    clear hlen hO; obtain ⟨k, c, L, hn2, hI, hst⟩ := hI; have hlen := hI.len; have hc := hI.cl
    refine wp_seq ?_
    refine wp_seq ?_
    refine gl (sts := [none]) (news := []) (sp := [.val 22 _, .val 23 _, .val 24 _, .val 25 _]) [.g 0, .g 1, .g 2, .g 3, .g 4, .o 3] hst (oc (ob_v rfl rfl (r_move (gq 4 rfl))) (oc (ob_v rfl rfl (r_move (gq 1 rfl))) (oc (ob_v rfl rfl (r_lenm Tryz.underlying22 (has_old (vq 1 rfl)))) (oc (ob_v rfl rfl (r_lss (vq 0 rfl) (vq 2 rfl))) o0)))) (fun a w hst => ?_)
    have hst : St B w0 69 [(0, _), (1, _), (6, _), (7, _), (8, _), (25, _)] [⟨5, 122, slH _ _, _⟩] a w := hst
    refine thn_normal ?_
    refine cond_of hst (List.mem_of_getElem? (i := 5) rfl) (fun hb1 => ?_) (fun hb1 => ?_)
    · have hk : k < m.length := by simp at hb1; omega
      refine wp_skip ?_
      refine thn_normal ?_
      refine wp_seq ?_
      refine wp_block ?_
      refine wp_seq ?_
      refine go_draw (anc := [[], [], [0, 1], [0, 1, 2], [0, 1, 2, 3], [], [], [5, 6], [5, 6, 7], [5, 6, 7, 8], [0, 1, 2, 3, 4, 5, 6, 7, 8, 9], [], [], [], [12, 13], [11, 12, 13, 14], [11, 12, 13, 14, 15], [11, 12, 13, 14, 15, 16], [0, 1, 2, 3, 4, 5, 6, 7, 8, 9, 10, 11, 12, 13, 14, 15, 16, 17], [], [0, 1, 2, 3, 4, 5, 6, 7, 8, 9, 10, 11, 12, 13, 14, 15, 16, 17, 18, 19], [0, 1, 2, 3, 4, 5, 6, 7, 8, 9, 10, 11, 12, 13, 14, 15, 16, 17, 18, 19, 20]]) (sts := [none]) (news := []) (sp := [.val 28 _, .val 29 _, .val 30 _, .val 31 _, .val 32 _, .val 33 _, .val 34 _, .val 35 _, .val 36 _, .val 37 _, .val 38 _, .adr 39 5 .none True, .val 40 _, .val 41 _, .val 42 _, .adr 43 5 (.some _) True, .val 44 _, .val 45 _, .val 46 _, .val 47 _, .val 48 _, .val 9 _]) [.g 0, .g 1, .g 2, .g 3, .g 4, .o 21] follows_mixed hst (oc (ob_v rfl rfl (r_move (gq 0 rfl))) (oc (ob_v rfl rfl (r_move (gq 2 rfl))) (oc (ob_v rfl rfl (r_idxm sl_22 (has_old (vq 0 rfl)) (vq 1 rfl) (by omega))) (oc (ob_v rfl rfl (r_loade (vq 2 rfl) ty_122)) (oc (ob_v rfl rfl (r_convk .u64 (by kernel_rfl) (by kernel_rfl) (vq 3 rfl) (wu64 (Nat.lt_trans (ha _ (List.getElem_mem _)) (by decide))))) (oc (ob_v rfl rfl (r_move (gq 1 rfl))) (oc (ob_v rfl rfl (r_move (gq 4 rfl))) (oc (ob_v rfl rfl (r_idxm sl_22 (has_old (vq 5 rfl)) (vq 6 rfl) (by omega))) (oc (ob_v rfl rfl (r_loade (vq 7 rfl) ty_122)) (oc (ob_v rfl rfl (r_convk .u64 (by kernel_rfl) (by kernel_rfl) (vq 8 rfl) (wu64 (Nat.lt_trans (hb _ (List.getElem_mem _)) (by decide))))) (oc (ob_v rfl rfl (r_mul (vq 4 rfl) (vq 9 rfl) (wmul64 (Nat.lt_of_le_of_lt (Nat.le_trans (Nat.le_add_right _ _) (Nat.le_add_left _ _)) (mul_lt (ha _ (List.getElem_mem _)) (hb _ (List.getElem_mem _)) (show 0 < 4294967296 by decide) (show 0 < 4294967296 by decide)))))) (oc (ob_a rfl rfl a_mov) (oc (ob_v rfl rfl (r_move (gq 2 rfl))) (oc (ob_v rfl rfl (r_move (gq 4 rfl))) (oc (ob_v rfl rfl (r_add (vq 12 rfl) (vq 13 rfl) (wi_add (by omega)))) (oc (ob_a rfl rfl (a_elm 11 rfl (by kernel_rfl) (lz0 0 rfl) sl_22 (vq 14 rfl) (by omega))) (oc (ob_v rfl rfl (r_loadx 15 rfl (by kernel_rfl) (lz0 0 rfl) (fun _ => slH_off _ _ _ _) (nums_at (by omega)) ty_122)) (oc (ob_v rfl rfl (r_convk .u64 (by kernel_rfl) (by kernel_rfl) (vq 16 rfl) (wu64 (Nat.lt_trans (hI.ok _ (List.getElem_mem _)) (by decide))))) (oc (ob_v rfl rfl (r_add (vq 10 rfl) (vq 17 rfl) (wadd64 (Nat.lt_of_le_of_lt (Nat.le_add_left _ _) (mul_lt (ha _ (List.getElem_mem _)) (hb _ (List.getElem_mem _)) hc (hI.ok _ (List.getElem_mem _))))))) (oc (ob_v rfl rfl (r_move (gq 3 rfl))) (oc (ob_v rfl rfl (r_add (vq 18 rfl) (vq 19 rfl) (wadd64 (by rw [Nat.add_comm]; exact mul_lt (ha _ (List.getElem_mem _)) (hb _ (List.getElem_mem _)) hc (hI.ok _ (List.getElem_mem _)))))) (oc (ob_v rfl rfl (r_assign (vq 20 rfl))) o0)))))))))))))))))))))) (by kernel_rfl) (by kernel_rfl) (by kernel_rfl) (by kernel_rfl) (fun a w hst => ?_)
      have hst : St B w0 69 [(0, _), (1, _), (6, _), (7, _), (8, _), (9, _)] [⟨5, 122, slH _ _, _⟩] a w := hst
      refine thn_normal ?_
      refine wp_seq ?_
      refine gl (sts := [some (8, _)]) (news := []) (sp := [.adr 49 5 .none True, .val 50 _, .val 51 _, .val 52 _, .val 53 _, .val 54 _, .val 55 _, .adr 56 5 (.some _) True, .sto 0]) [.g 0, .g 1, .g 2, .g 3, .g 4, .g 5] hst (oc (ob_a rfl rfl a_mov) (oc (ob_v rfl rfl (r_move (gq 2 rfl))) (oc (ob_v rfl rfl (r_move (gq 4 rfl))) (oc (ob_v rfl rfl (r_add (vq 1 rfl) (vq 2 rfl) (wi_add (by omega)))) (oc (ob_v rfl rfl (r_move (gq 5 rfl))) (oc (ob_v rfl rfl (r_rem (vq 4 rfl) (has_nat 4294967296 rfl) (by decide) (nrem))) (oc (ob_v rfl rfl (r_convk .u32 (by kernel_rfl) (by kernel_rfl) (vq 5 rfl) (wu32 (Nat.mod_lt _ (by decide))))) (oc (ob_a rfl rfl (a_elm 0 rfl (by kernel_rfl) (lz0 0 rfl) sl_22 (vq 3 rfl) (by omega))) (oc (ob_stox 7 rfl rfl rfl rfl (by kernel_rfl) (fun _ => slH_off _ _ _ _) (vq 6 rfl) ty_122 (nums_put (by omega))) o0))))))))) (fun a w hst => ?_)
      have hst : St B w0 69 [(0, _), (1, _), (6, _), (7, _), (8, _), (9, _)] [⟨5, 122, slH _ _, _⟩] a w := hst
      refine thn_normal ?_
      refine gl (sts := [none]) (news := []) (sp := [.val 57 _, .val 58 _, .val 7 _]) [.g 0, .g 1, .g 2, .g 4, .o 2] hst (oc (ob_v rfl rfl (r_move (gq 5 rfl))) (oc (ob_v rfl rfl (r_quo (vq 0 rfl) (has_nat 4294967296 rfl) (by decide) (nquo (Nat.lt_of_le_of_lt (Nat.div_le_self _ _) (by rw [Nat.add_comm]; exact mul_lt (ha _ (List.getElem_mem _)) (hb _ (List.getElem_mem _)) hc (hI.ok _ (List.getElem_mem _))))))) (oc (ob_v rfl rfl (r_assign (vq 1 rfl))) o0))) (fun a w hst => ?_)
      have hst : St B w0 69 [(0, _), (1, _), (6, _), (8, _), (7, _)] [⟨5, 122, slH _ _, _⟩] a w := hst
      refine blk_normal ?_
      refine thn_normal ?_
      refine gl (sts := [none]) (news := []) (sp := [.val 26 _, .val 27 _, .val 8 _]) [.g 0, .g 1, .g 2, .g 4, .o 2] hst (oc (ob_v rfl rfl (r_move (gq 3 rfl))) (oc (ob_v rfl rfl (r_add (vq 0 rfl) has_num (wi_succ (by omega)))) (oc (ob_v rfl rfl (r_assign (vq 1 rfl))) o0))) (fun a w hst => ?_)
      have hst : St B w0 69 [(0, _), (1, _), (6, _), (7, _), (8, _)] [⟨5, 122, slH _ _, _⟩] a w := hst
      refine thn_normal ?_
      have hst := St.sel hst [0, 1, 2, 3, 4]
      exact ⟨n - 1, by omega, k + 1, _, _, by omega, hI.step' hb (ha _ (List.getElem_mem _)) hk (by omega), hst⟩
    · obtain rfl : k = m.length := by simp at hb1; omega
      refine wp_exit ?_
      refine thn_exit ?_
      refine thn_exit ?_
      refine blk_exit ?_
      refine thn_normal ?_
      refine gl (sts := [some (8, _)]) (news := []) (sp := [.adr 59 5 .none True, .val 60 _, .val 61 _, .val 62 _, .val 63 _, .val 64 _, .val 65 _, .adr 66 5 (.some _) True, .sto 0]) [.g 0, .g 1, .g 2] hst (oc (ob_a rfl rfl a_mov) (oc (ob_v rfl rfl (r_move (gq 2 rfl))) (oc (ob_v rfl rfl (r_move (gq 1 rfl))) (oc (ob_v rfl rfl (r_lenm Tryz.underlying22 (has_old (vq 2 rfl)))) (oc (ob_v rfl rfl (r_add (vq 1 rfl) (vq 3 rfl) (wi_add (by omega)))) (oc (ob_v rfl rfl (r_move (gq 3 rfl))) (oc (ob_v rfl rfl (r_convk .u32 (by kernel_rfl) (by kernel_rfl) (vq 5 rfl) (wu32 hc))) (oc (ob_a rfl rfl (a_elm 0 rfl (by kernel_rfl) (lz0 0 rfl) sl_22 (vq 4 rfl) (by omega))) (oc (ob_stox 7 rfl rfl rfl rfl (by kernel_rfl) (fun _ => slH_off _ _ _ _) (vq 6 rfl) ty_122 (nums_put (by omega))) o0))))))))) (fun a w hst => ?_)
      have hst : St B w0 69 [(0, _), (1, _), (6, _)] [⟨5, 122, slH _ _, _⟩] a w := hst
      refine blk_normal ?_
      refine thn_normal ?_
      refine gl (sts := [none]) (news := []) (sp := [.val 20 _, .val 21 _, .val 6 _]) [.g 0, .g 1, .o 2] hst (oc (ob_v rfl rfl (r_move (gq 2 rfl))) (oc (ob_v rfl rfl (r_add (vq 0 rfl) has_num (wi_succ (by omega)))) (oc (ob_v rfl rfl (r_assign (vq 1 rfl))) o0))) (fun a w hst => ?_)
      have hst : St B w0 69 [(0, _), (1, _), (6, _)] [⟨5, 122, slH _ _, _⟩] a w := hst
      refine thn_normal ?_
      have hst := St.sel hst [0, 1, 2]
      exact ⟨n1 - 1, by omega, i + 1, _, by omega, hI.done hi rfl, hst⟩
  · obtain rfl : i = l.length := by simp at hb0; omega
    refine wp_exit ?_
    refine thn_exit ?_
    refine thn_exit ?_
    refine blk_exit ?_
    refine thn_normal ?_
    refine wp_seq ?_
    refine gl (sts := [none]) (news := []) (sp := [.adr 67 5 .none True, .val 68 _, .val 4 _]) [.o 2] hst (oc (ob_a rfl rfl a_mov) (oc (ob_v rfl rfl (r_call (xs := [.tmp 67]) (rtrim_c famN _) (.cons (has_rowN 0 rfl (by kernel_rfl) (lz0 0 rfl) ⟨hO.len.symm, Nat.le_refl _, by unfold maxLen; omega, hO.ok⟩) .nil))) (oc (ob_v rfl rfl (r_assign (vq 1 rfl))) o0))) (fun a w hst => ?_)
    have hst : St B w0 69 [(4, _)] [⟨5, 122, slH _ _, _⟩] a w := hst
    refine thn_normal ?_
    refine wp_ret ?_
    refine ret_wk ?_ (ret_tmp rfl hst (List.mem_of_getElem? (i := 0) rfl))
    rw [mul_fin ha hb hO]; exact wk_id

theorem trim_one (x : Nat) : (trimL [x]).length ≤ 1 ∧ val (trimL [x]) = x := ⟨trimL_len [x], by rw [val_trimL]; simp [val]⟩

set_option maxRecDepth 100000 in
theorem rtimes_c (l : List Nat) (x : Nat) (hls : l.length ≤ 1099511627776) (hx : x < 4294967296) : Cn Tryz.prog 212 [(MgA l).va, (NumA .u32 (x : Nat)).va] ((MgA (limbs (val l * x))).va) := by
  refine Cn.intro Tryz.func212 rfl (by kernel_rfl) nq (fun B w0 a hst => ?_)
  have hst : St B w0 10 [(0, (MgA l).va), (1, (NumA .u32 (x : Nat)).va)] [] a w0.w := hst
  refine wp_seq ?_
  refine gl (sts := []) (news := []) (sp := [.val 4 _]) [.g 0, .g 1, .o 0] hst (oc (ob_v rfl rfl (r_assign has_const)) o0) (fun a w hst => ?_)
  have hst : St B w0 10 [(0, _), (1, _), (4, _)] [] a w := hst
  refine thn_normal ?_
  refine wp_seq ?_
  refine gl (sts := []) (news := []) (sp := [.val 5 _, .val 6 _, .val 7 _, .val 8 _, .val 9 _, .val 4 _]) [.o 5] hst (oc (ob_v rfl rfl (r_move (gq 0 rfl))) (oc (ob_v rfl rfl (r_move (gq 1 rfl))) (oc (ob_v rfl rfl (r_slicem (l := [_]) (xs := [.tmp 6]) sl_22 (by kernel_rfl) nq nq ((okL_one hx)) (.cons (vq 1 rfl) .nil) rfl rfl)) (oc (ob_v rfl rfl (r_call (xs := [.tmp 7]) (rtrim_c famA _) (.cons (vq 2 rfl) .nil))) (oc (ob_v rfl rfl (r_call (xs := [.tmp 5, .tmp 8]) (rmul_c l (trimL [x]) hls (Nat.le_trans (trim_one x).1 (by decide))) (.cons (vq 0 rfl) (.cons (vq 3 rfl) .nil)))) (oc (ob_v rfl rfl (r_assign (vq 4 rfl))) o0)))))) (fun a w hst => ?_)
  have hst : St B w0 10 [(4, _)] [] a w := hst
  refine thn_normal ?_
  refine wp_ret ?_
  refine ret_wk ?_ (ret_tmp rfl hst (List.mem_of_getElem? (i := 0) rfl))
  rw [(trim_one x).2]; exact wk_mgN

/-! by one limb -/
def rsSt (l : List Nat) (d n : Nat) : List Nat := List.replicate n 0 ++ digs (l.length - n) (val (l.drop n) / d)
theorem rsSt_len {l : List Nat} {d n : Nat} (h : n ≤ l.length) : (rsSt l d n).length = l.length := by simp [rsSt, digs_length]; omega
theorem rsSt_start (l : List Nat) (d : Nat) : rsSt l d l.length = List.replicate l.length 0 := by simp [rsSt, digs]
theorem rsSt_ok {l : List Nat} {d n : Nat} : okL (rsSt l d n) := okL_append.2 ⟨fun x hx => by rw [(List.mem_replicate.1 hx).2]; decide, okL_digs _ _⟩
theorem val_drop_at {l : List Nat} {j : Nat} (h : j < l.length) : val (l.drop j) = l[j] + 4294967296 * val (l.drop (j + 1)) := by
  rw [List.drop_eq_getElem_cons h]; rfl
theorem rs_alg {x V d : Nat} (hd : 0 < d) : (x + 4294967296 * V) / d = 4294967296 * (V / d) + (V % d * 4294967296 + x) / d ∧ (x + 4294967296 * V) % d = (V % d * 4294967296 + x) % d := by
  have e : x + 4294967296 * V = (V % d * 4294967296 + x) + d * (4294967296 * (V / d)) := by
    have := Nat.div_add_mod V d
    have e2 : d * (4294967296 * (V / d)) = 4294967296 * (d * (V / d)) := by rw [Nat.mul_left_comm]
    generalize d * (V / d) = p at *
    omega
  rw [e, Nat.add_mul_div_left _ _ hd, Nat.add_mul_mod_self_left]
  exact ⟨by omega, rfl⟩
theorem rs_lt {x V d : Nat} (hd : 0 < d) (hx : x < 4294967296) : (V % d * 4294967296 + x) / d < 4294967296 := by
  have h1 := Nat.mod_lt V hd
  rw [Nat.div_lt_iff_lt_mul hd]
  have h2 : (V % d + 1) * 4294967296 ≤ d * 4294967296 := Nat.mul_le_mul_right _ h1
  omega
theorem rs_step {l : List Nat} {d j : Nat} (hl : okL l) (hd : 0 < d) (hj : j < l.length) : (rsSt l d (j + 1)).set j ((val (l.drop (j + 1)) % d * 4294967296 + l[j]) / d) = rsSt l d j := by
  unfold rsSt
  have e : l.length - j = (l.length - (j + 1)) + 1 := by omega
  rw [val_drop_at hj, (rs_alg hd).1, e, Nat.add_comm (4294967296 * _), Nat.add_comm _ (4294967296 * _), digs_cons _ _ _ (rs_lt hd (hl _ (List.getElem_mem hj)))]
  rw [List.replicate_succ', List.append_assoc, set_app _ _ _ _ (by simp)]
  rfl
theorem rs_rest {l : List Nat} {d j : Nat} (hd : 0 < d) (hj : j < l.length) : (val (l.drop (j + 1)) % d * 4294967296 + l[j]) % d = val (l.drop j) % d := by
  rw [val_drop_at hj, (rs_alg hd).2]
theorem rs_fin {l : List Nat} {d : Nat} (hl : okL l) : trimL (rsSt l d 0) = limbs (val l / d) := by
  unfold rsSt
  rw [List.replicate_zero, List.nil_append, Nat.sub_zero, List.drop_zero, trimL_digs]
  exact Nat.lt_of_le_of_lt (Nat.div_le_self _ _) (val_lt hl)

set_option maxRecDepth 100000 in
theorem rshort_c (l : List Nat) (d : Nat) (hls : l.length ≤ 1099511627776) (hd : 0 < d) (hd2 : d < 4294967296) : Cn Tryz.prog 211 [(MgA l).va, (NumA .u32 (d : Nat)).va] (Tu [(MgN (limbs (val l / d))).va, (NumA .u32 (val l % d : Nat)).va]) := by
  refine Cn.introW Tryz.func211 rfl (by kernel_rfl) nq (.cons (up_mg _).va (.cons (up_num _ _).va .nil)) (free_tu (.cons (free_mgN _).va (.cons (free_num _ _).va .nil))) (fun B w0 a hB0 hst => ?_)
  have hst : St B w0 44 [(0, (MgO l).va), (1, (NumA .u32 (d : Nat)).va)] [] a w0.w := hst
  have hl := (hst.magO 0 rfl).1
  refine wp_seq ?_
  refine gl (sts := []) (news := []) (sp := [.val 4 _, .val 5 _]) [.g 0, .g 1, .o 0, .o 1] hst (oc (ob_v rfl rfl (r_assign has_const)) (oc (ob_v rfl rfl (r_assign (has_nat 0 rfl))) o0)) (fun a w hst => ?_)
  have hst : St B w0 44 [(0, _), (1, _), (4, _), (5, _)] [] a w := hst
  refine thn_normal ?_
  refine wp_seq ?_
  refine go_linR (sts := []) (news := [⟨12, 122, slH _ _, some 2, _, none⟩]) (sp := [.val 10 _, .val 11 _, .alc 0, .adr 6 12 .none True]) [.g 0, .g 1, .g 2, .g 3] [(6, 12)] [⟨6, 122, slH _ _, _⟩] hst (oc (ob_v rfl rfl (r_move (gq 0 rfl))) (oc (ob_v rfl rfl (r_lenm Tryz.underlying22 (has_old (vq 0 rfl)))) (oc (ob_make rfl rfl rfl mk_u32 (vq 1 rfl) (vq 1 rfl) (by omega)) (oc (ob_a rfl rfl a_asg) o0)))) (by kernel_rfl) (by kernel_rfl) (by kernel_rfl) ⟨⟨3, rfl⟩, trivial⟩ rfl (by kernel_rfl) (fun a w hst => ?_)
  have hst : St B w0 44 [(0, _), (1, _), (4, _), (5, _)] [⟨6, 122, slH _ _, _⟩] a w := hst
  refine thn_normal ?_
  refine wp_seq ?_
  refine gl (sts := [none]) (news := []) (sp := [.val 7 _]) [.g 0, .g 1, .g 2, .g 3, .o 0] hst (oc (ob_v rfl rfl (r_assign (has_nat 0 rfl))) o0) (fun a w hst => ?_)
  have hst : St B w0 44 [(0, _), (1, _), (4, _), (5, _), (7, _)] [⟨6, 122, slH _ _, _⟩] a w := hst
  refine thn_normal ?_
  refine wp_seq ?_
  refine wp_seq ?_
  refine gl (sts := [none]) (news := []) (sp := [.val 13 _, .val 14 _, .val 15 _, .val 8 _]) [.g 0, .g 1, .g 2, .g 3, .g 4, .o 3] hst (oc (ob_v rfl rfl (r_move (gq 0 rfl))) (oc (ob_v rfl rfl (r_lenm Tryz.underlying22 (has_old (vq 0 rfl)))) (oc (ob_v rfl rfl (r_sub (vq 1 rfl) has_num (wi64 (by omega) (by omega)))) (oc (ob_v rfl rfl (r_assign (vq 2 rfl))) o0)))) (fun a w hst => ?_)
  have hst : St B w0 44 [(0, _), (1, _), (4, _), (5, _), (7, _), (8, _)] [⟨6, 122, slH _ _, _⟩] a w := hst
  refine thn_normal ?_
  refine wp_block ?_
  have hst := St.sel hst [0, 1, 4, 5]
  refine wp_loop_ghost (fun n a w => n ≤ l.length ∧ St B w0 44 [(0, (MgO l).va), (1, (NumA .u32 (d : Nat)).va), (7, (NumA .u64 ((val (l.drop n) % d : Nat) : Int)).va), (8, In ((n : Int) - 1))] [⟨6, 122, slH l.length l.length, Nums .u32 (rsSt l d n)⟩] a w) (l.length) ?_ ?_
  · exact ⟨Nat.le_refl _, by rw [rsSt_start, show val (l.drop l.length) % d = 0 from by simp]; exact hst⟩
  intro n a w hI
  obtain ⟨hn, hst⟩ := hI
  have hmd := Nat.mod_lt (val (l.drop n)) hd
  refine wp_seq ?_
  refine wp_seq ?_
  refine gl (sts := [none]) (news := []) (sp := [.val 16 _, .val 17 _]) [.g 0, .g 1, .g 2, .g 3, .o 1] hst (oc (ob_v rfl rfl (r_move (gq 3 rfl))) (oc (ob_v rfl rfl (r_geq (vq 0 rfl) has_num)) o0)) (fun a w hst => ?_)
  have hst : St B w0 44 [(0, _), (1, _), (7, _), (8, _), (17, _)] [⟨6, 122, slH _ _, _⟩] a w := hst
  refine thn_normal ?_
  refine cond_of hst (List.mem_of_getElem? (i := 4) rfl) (fun hb0 => ?_) (fun hb0 => ?_)
  · obtain ⟨j, rfl⟩ : ∃ j, n = j + 1 := ⟨n - 1, by simp at hb0; omega⟩; rw [show ((j + 1 : Nat) : Int) - 1 = (j : Int) from by omega] at hst
    have hj : j < l.length := by omega
    have hx := hl _ (List.getElem_mem hj)
    refine wp_skip ?_
    refine thn_normal ?_
    refine wp_seq ?_
    refine wp_block ?_
    refine wp_seq ?_
    refine gl (sts := [none]) (news := []) (sp := [.val 20 _, .val 21 _, .val 22 _, .val 23 _, .val 24 _, .val 25 _, .val 26 _, .val 27 _, .val 9 _]) [.g 0, .g 1, .g 2, .g 3, .o 8] hst (oc (ob_v rfl rfl (r_move (gq 2 rfl))) (oc (ob_v rfl rfl (r_mul (vq 0 rfl) (has_nat 4294967296 rfl) (wmul64 (by omega)))) (oc (ob_v rfl rfl (r_move (gq 0 rfl))) (oc (ob_v rfl rfl (r_move (gq 3 rfl))) (oc (ob_v rfl rfl (r_idxm sl_22 (has_old (vq 2 rfl)) (vq 3 rfl) hj)) (oc (ob_v rfl rfl (r_loade (vq 4 rfl) ty_122)) (oc (ob_v rfl rfl (r_convk .u64 (by kernel_rfl) (by kernel_rfl) (vq 5 rfl) (wu64 (by omega)))) (oc (ob_v rfl rfl (r_add (vq 1 rfl) (vq 6 rfl) (wadd64 (by omega)))) (oc (ob_v rfl rfl (r_assign (vq 7 rfl))) o0))))))))) (fun a w hst => ?_)
    have hst : St B w0 44 [(0, _), (1, _), (7, _), (8, _), (9, _)] [⟨6, 122, slH _ _, _⟩] a w := hst
    refine thn_normal ?_
    refine wp_seq ?_
    refine gl (sts := [some (8, _)]) (news := []) (sp := [.adr 28 6 .none True, .val 29 _, .val 30 _, .val 31 _, .val 32 _, .val 33 _, .val 34 _, .adr 35 6 (.some _) True, .sto 0]) [.g 0, .g 1, .g 2, .g 3, .g 4] hst (oc (ob_a rfl rfl a_mov) (oc (ob_v rfl rfl (r_move (gq 3 rfl))) (oc (ob_v rfl rfl (r_move (gq 4 rfl))) (oc (ob_v rfl rfl (r_move (gq 1 rfl))) (oc (ob_v rfl rfl (r_convk .u64 (by kernel_rfl) (by kernel_rfl) (vq 3 rfl) (wu64 (by omega)))) (oc (ob_v rfl rfl (r_quo (vq 2 rfl) (vq 4 rfl) (by omega) (nquo (Nat.lt_trans (rs_lt hd hx) (by decide))))) (oc (ob_v rfl rfl (r_convk .u32 (by kernel_rfl) (by kernel_rfl) (vq 5 rfl) (wu32 (rs_lt hd hx)))) (oc (ob_a rfl rfl (a_elm 0 rfl (by kernel_rfl) (lz0 0 rfl) sl_22 (vq 1 rfl) hj)) (oc (ob_stox 7 rfl rfl rfl rfl (by kernel_rfl) (fun _ => slH_off _ _ _ _) (vq 6 rfl) ty_122 (nums_put (by rw [rsSt_len (by omega)]; omega))) o0))))))))) (fun a w hst => ?_)
    have hst : St B w0 44 [(0, _), (1, _), (7, _), (8, _), (9, _)] [⟨6, 122, slH _ _, _⟩] a w := hst
    refine thn_normal ?_
    refine gl (sts := [none]) (news := []) (sp := [.val 36 _, .val 37 _, .val 38 _, .val 39 _, .val 7 _]) [.g 0, .g 1, .g 3, .o 4] hst (oc (ob_v rfl rfl (r_move (gq 4 rfl))) (oc (ob_v rfl rfl (r_move (gq 1 rfl))) (oc (ob_v rfl rfl (r_convk .u64 (by kernel_rfl) (by kernel_rfl) (vq 1 rfl) (wu64 (by omega)))) (oc (ob_v rfl rfl (r_rem (vq 0 rfl) (vq 2 rfl) (by omega) (nrem))) (oc (ob_v rfl rfl (r_assign (vq 3 rfl))) o0))))) (fun a w hst => ?_)
    have hst : St B w0 44 [(0, _), (1, _), (8, _), (7, _)] [⟨6, 122, slH _ _, _⟩] a w := hst
    refine blk_normal ?_
    refine thn_normal ?_
    refine gl (sts := [none]) (news := []) (sp := [.val 18 _, .val 19 _, .val 8 _]) [.g 0, .g 1, .g 3, .o 2] hst (oc (ob_v rfl rfl (r_move (gq 2 rfl))) (oc (ob_v rfl rfl (r_sub (vq 0 rfl) has_num (wi64 (by omega) (by omega)))) (oc (ob_v rfl rfl (r_assign (vq 1 rfl))) o0))) (fun a w hst => ?_)
    have hst : St B w0 44 [(0, _), (1, _), (7, _), (8, _)] [⟨6, 122, slH _ _, _⟩] a w := hst
    refine thn_normal ?_
    have hst := St.sel hst [0, 1, 2, 3]
    rw [rs_step hl hd hj, rs_rest hd hj] at hst; exact ⟨j, by omega, by omega, hst⟩
  · obtain rfl : n = 0 := by simp at hb0; omega
    refine wp_exit ?_
    refine thn_exit ?_
    refine thn_exit ?_
    refine blk_exit ?_
    refine thn_normal ?_
    refine wp_seq ?_
    refine gl (sts := [none]) (news := []) (sp := [.adr 40 6 .none True, .val 41 _, .val 42 _, .val 43 _, .val 4 _, .val 5 _]) [.o 4, .o 5] hst (oc (ob_a rfl rfl a_mov) (oc (ob_v rfl rfl (r_call (xs := [.tmp 40]) (rtrim_c famN _) (.cons (has_rowN 0 rfl (by kernel_rfl) (lz0 0 rfl) ⟨by rw [rsSt_len (Nat.zero_le _)], Nat.le_refl _, by unfold maxLen; omega, rsSt_ok⟩) .nil))) (oc (ob_v rfl rfl (r_move (gq 2 rfl))) (oc (ob_v rfl rfl (r_convk .u32 (by kernel_rfl) (by kernel_rfl) (vq 2 rfl) (wu32 (by omega)))) (oc (ob_v rfl rfl (r_assign (vq 1 rfl))) (oc (ob_v rfl rfl (r_assign (vq 3 rfl))) o0)))))) (fun a w hst => ?_)
    have hst : St B w0 44 [(4, _), (5, _)] [⟨6, 122, slH _ _, _⟩] a w := hst
    refine thn_normal ?_
    refine wp_ret ?_
    refine ret_wk ?_ (ret_many (rs := [.tmp 4, .tmp 5]) rfl hst (.tmp (List.mem_of_getElem? (i := 0) rfl) (.tmp (List.mem_of_getElem? (i := 1) rfl) .nil)) (by decide))
    rw [rs_fin hl, List.drop_zero]; exact wk_id

set_option maxRecDepth 100000 in
theorem rhalf_c (l : List Nat) (hls : l.length ≤ 1099511627776) : Cn Tryz.prog 195 [(MgA l).va] ((MgA (limbs (val l / 2))).va) := by
  refine Cn.intro Tryz.func195 rfl (by kernel_rfl) nq (fun B w0 a hst => ?_)
  have hst : St B w0 11 [(0, (MgA l).va)] [] a w0.w := hst
  refine wp_seq ?_
  refine gl (sts := []) (news := []) (sp := [.val 2 _]) [.g 0, .o 0] hst (oc (ob_v rfl rfl (r_assign has_const)) o0) (fun a w hst => ?_)
  have hst : St B w0 11 [(0, _), (2, _)] [] a w := hst
  refine thn_normal ?_
  refine wp_seq ?_
  refine gl (sts := []) (news := []) (sp := [.val 6 _, .val 7 _, .val 5 _, .val 8 _, .val 9 _, .val 3 _, .val 4 _]) [.g 1, .o 5] hst (oc (ob_v rfl rfl (r_move (gq 0 rfl))) (oc (ob_v rfl rfl (r_call (xs := [.tmp 6, .const (.int .u32 (2))]) (rshort_c l 2 hls (by decide) (by decide)) (.cons (vq 0 rfl) (.cons (has_nat 2 rfl) .nil)))) (oc (ob_v rfl rfl (r_move (vq 1 rfl))) (oc (ob_v rfl rfl (r_extract (vq 2 rfl) rfl)) (oc (ob_v rfl rfl (r_extract (vq 2 rfl) rfl)) (oc (ob_v rfl rfl (r_assign (vq 3 rfl))) (oc (ob_v rfl rfl (r_assign (vq 4 rfl))) o0))))))) (fun a w hst => ?_)
  have hst : St B w0 11 [(2, _), (3, _)] [] a w := hst
  refine thn_normal ?_
  refine wp_seq ?_
  refine gl (sts := []) (news := []) (sp := [.val 10 _, .val 2 _]) [.o 1] hst (oc (ob_v rfl rfl (r_move (gq 1 rfl))) (oc (ob_v rfl rfl (r_assign (vq 0 rfl))) o0)) (fun a w hst => ?_)
  have hst : St B w0 11 [(2, _)] [] a w := hst
  refine thn_normal ?_
  refine wp_ret ?_
  refine ret_wk ?_ (ret_tmp rfl hst (List.mem_of_getElem? (i := 0) rfl))
  exact wk_mgN

theorem even_e {l : List Nat} (h : 0 < l.length) : val l % 2 = l[0] % 2 := by
  have := val_drop_at h
  rw [List.drop_zero] at this
  omega

set_option maxRecDepth 100000 in
theorem reven_c (l : List Nat) (h : 0 < l.length) : Cn Tryz.prog 194 [(MgA l).va] (Bo (((val l % 2 : Nat) : Int) == ((0 : Nat) : Int))) := by
  refine Cn.intro Tryz.func194 rfl (by kernel_rfl) nq (fun B w0 a hst => ?_)
  have hst : St B w0 8 [(0, (MgA l).va)] [] a w0.w := hst
  refine wp_seq ?_
  refine gl (sts := []) (news := []) (sp := [.val 2 _]) [.g 0, .o 0] hst (oc (ob_v rfl rfl (r_assign has_bo)) o0) (fun a w hst => ?_)
  have hst : St B w0 8 [(0, _), (2, _)] [] a w := hst
  refine thn_normal ?_
  refine wp_seq ?_
  refine gl (sts := []) (news := []) (sp := [.val 3 _, .val 4 _, .val 5 _, .val 6 _, .val 7 _, .val 2 _]) [.o 5] hst (oc (ob_v rfl rfl (r_move (gq 0 rfl))) (oc (ob_v rfl rfl (r_idxm sl_22 (vq 0 rfl) (has_nat 0 rfl) h)) (oc (ob_v rfl rfl (r_loade (vq 1 rfl) ty_122)) (oc (ob_v rfl rfl (r_rem (vq 2 rfl) (has_nat 2 rfl) (by decide) (nrem))) (oc (ob_v rfl rfl (r_eql (vq 3 rfl) (has_nat 0 rfl))) (oc (ob_v rfl rfl (r_assign (vq 4 rfl))) o0)))))) (fun a w hst => ?_)
  have hst : St B w0 8 [(2, _)] [] a w := hst
  refine thn_normal ?_
  refine wp_ret ?_
  refine ret_wk ?_ (ret_tmp rfl hst (List.mem_of_getElem? (i := 0) rfl))
  rw [even_e h]; exact wk_id

theorem cm_le0 {X Y : Nat} : cmL (limbs X) (limbs Y) ≤ 0 ↔ X ≤ Y := by
  rw [cmL_limbs]
  split
  · omega
  · split <;> omega
theorem fit_e {R D q : Nat} (h1 : D * q ≤ R) (h2 : R < D * (q + 1)) : q = R / D := by
  rw [Nat.mul_comm] at h1 h2
  exact (Nat.div_eq_of_lt_le h1 h2).symm
theorem mul_le_of {D R a b : Nat} (h : D * a ≤ R) (hb : b ≤ a) : D * b ≤ R := Nat.le_trans (Nat.mul_le_mul_left _ hb) h

set_option maxRecDepth 100000 in
theorem rfit_c {R D : Nat} (hD : 0 < D) (hR : R < D * 4294967296) (hl : (limbs D).length ≤ 1099511627776) : Cn Tryz.prog 213 [(MgA (limbs R)).va, (MgA (limbs D)).va] ((NumA .u32 (R / D : Nat)).va) := by
  refine Cn.intro Tryz.func213 rfl (by kernel_rfl) nq (fun B w0 a hst => ?_)
  have hst : St B w0 28 [(0, (MgA (limbs R)).va), (1, (MgA (limbs D)).va)] [] a w0.w := hst
  refine wp_seq ?_
  refine gl (sts := []) (news := []) (sp := [.val 4 _]) [.g 0, .g 1, .o 0] hst (oc (ob_v rfl rfl (r_assign (has_nat 0 rfl))) o0) (fun a w hst => ?_)
  have hst : St B w0 28 [(0, _), (1, _), (4, _)] [] a w := hst
  refine thn_normal ?_
  refine wp_seq ?_
  refine gl (sts := []) (news := []) (sp := [.val 5 _]) [.g 0, .g 1, .g 2, .o 0] hst (oc (ob_v rfl rfl (r_assign (has_nat 0 rfl))) o0) (fun a w hst => ?_)
  have hst : St B w0 28 [(0, _), (1, _), (4, _), (5, _)] [] a w := hst
  refine thn_normal ?_
  refine wp_seq ?_
  refine gl (sts := []) (news := []) (sp := [.val 6 _]) [.g 0, .g 1, .g 2, .g 3, .o 0] hst (oc (ob_v rfl rfl (r_assign (has_nat 4294967295 rfl))) o0) (fun a w hst => ?_)
  have hst : St B w0 28 [(0, _), (1, _), (4, _), (5, _), (6, _)] [] a w := hst
  refine thn_normal ?_
  refine wp_seq ?_
  refine wp_block ?_
  have hst := St.sel hst [0, 1, 3, 4]
  refine wp_loop_ghost (fun n a w => ∃ lo hi : Nat, (lo ≤ hi ∧ hi ≤ 4294967295 ∧ D * lo ≤ R ∧ R < D * (hi + 1) ∧ n = hi - lo) ∧ St B w0 28 [(0, (MgA (limbs R)).va), (1, (MgA (limbs D)).va), (5, (NumA .u64 ((lo : Nat) : Int)).va), (6, (NumA .u64 ((hi : Nat) : Int)).va)] [] a w) (4294967295) ?_ ?_
  · exact ⟨0, 4294967295, ⟨by decide, by decide, by omega, hR, rfl⟩, hst⟩
  intro n a w hI
  obtain ⟨lo, hi, ⟨i1, i2, i3, i4, i5⟩, hst⟩ := hI
  refine wp_seq ?_
  refine wp_seq ?_
  refine gl (sts := []) (news := []) (sp := [.val 8 _, .val 9 _, .val 10 _]) [.g 0, .g 1, .g 2, .g 3, .o 2] hst (oc (ob_v rfl rfl (r_move (gq 2 rfl))) (oc (ob_v rfl rfl (r_move (gq 3 rfl))) (oc (ob_v rfl rfl (r_lss (vq 0 rfl) (vq 1 rfl))) o0))) (fun a w hst => ?_)
  have hst : St B w0 28 [(0, _), (1, _), (5, _), (6, _), (10, _)] [] a w := hst
  refine thn_normal ?_
  refine cond_of hst (List.mem_of_getElem? (i := 4) rfl) (fun hb0 => ?_) (fun hb0 => ?_)
  · have hlt : lo < hi := by simp at hb0; omega
    refine wp_skip ?_
    refine thn_normal ?_
    refine wp_block ?_
    refine wp_seq ?_
    refine gl (sts := []) (news := []) (sp := [.val 11 _, .val 12 _, .val 13 _, .val 14 _, .val 15 _, .val 7 _]) [.g 0, .g 1, .g 2, .g 3, .o 5] hst (oc (ob_v rfl rfl (r_move (gq 2 rfl))) (oc (ob_v rfl rfl (r_move (gq 3 rfl))) (oc (ob_v rfl rfl (r_add (vq 0 rfl) (vq 1 rfl) (wadd64 (by omega)))) (oc (ob_v rfl rfl (r_add (vq 2 rfl) (has_nat 1 rfl) (wadd64 (by omega)))) (oc (ob_v rfl rfl (r_quo (vq 3 rfl) (has_nat 2 rfl) (by decide) (nquo (by omega)))) (oc (ob_v rfl rfl (r_assign (vq 4 rfl))) o0)))))) (fun a w hst => ?_)
    have hst : St B w0 28 [(0, _), (1, _), (5, _), (6, _), (7, _)] [] a w := hst
    refine thn_normal ?_
    refine wp_seq ?_
    refine gl (sts := []) (news := []) (sp := [.val 16 _, .val 17 _, .val 18 _, .val 19 _, .val 20 _, .val 21 _, .val 22 _]) [.g 0, .g 1, .g 2, .g 3, .g 4, .o 6] hst (oc (ob_v rfl rfl (r_move (gq 1 rfl))) (oc (ob_v rfl rfl (r_move (gq 4 rfl))) (oc (ob_v rfl rfl (r_convk .u32 (by kernel_rfl) (by kernel_rfl) (vq 1 rfl) (wu32 (by omega)))) (oc (ob_v rfl rfl (r_call (xs := [.tmp 16, .tmp 18]) (rtimes_c (limbs D) ((lo + hi + 1) / 2) hl (by omega)) (.cons (vq 0 rfl) (.cons (vq 2 rfl) .nil)))) (oc (ob_v rfl rfl (r_move (gq 0 rfl))) (oc (ob_v rfl rfl (r_call (xs := [.tmp 19, .tmp 20]) (rcmp_c _ _) (.cons (vq 3 rfl) (.cons (vq 4 rfl) .nil)))) (oc (ob_v rfl rfl (r_leq (vq 5 rfl) has_num)) o0))))))) (fun a w hst => ?_)
    have hst : St B w0 28 [(0, _), (1, _), (5, _), (6, _), (7, _), (22, _)] [] a w := hst
    refine thn_normal ?_
    refine cond_of hst (List.mem_of_getElem? (i := 5) rfl) (fun hb1 => ?_) (fun hb1 => ?_)
    · have hq : D * ((lo + hi + 1) / 2) ≤ R := by have := cm_le0.1 (of_decide_eq_true hb1); rwa [val_limbs] at this
      refine gl (sts := []) (news := []) (sp := [.val 23 _, .val 5 _]) [.g 0, .g 1, .g 3, .o 1] hst (oc (ob_v rfl rfl (r_move (gq 4 rfl))) (oc (ob_v rfl rfl (r_assign (vq 0 rfl))) o0)) (fun a w hst => ?_)
      have hst : St B w0 28 [(0, _), (1, _), (6, _), (5, _)] [] a w := hst
      refine blk_normal ?_
      refine thn_normal ?_
      have hst := St.sel hst [0, 1, 3, 2]
      exact ⟨hi - (lo + hi + 1) / 2, by omega, (lo + hi + 1) / 2, hi, ⟨by omega, i2, hq, i4, rfl⟩, hst⟩
    · have hq : R < D * ((lo + hi + 1) / 2) := by have h9 := Nat.lt_of_not_le fun h => of_decide_eq_false hb1 (cm_le0.2 h); rwa [val_limbs] at h9
      refine gl (sts := []) (news := []) (sp := [.val 24 _, .val 25 _, .val 6 _]) [.g 0, .g 1, .g 2, .o 2] hst (oc (ob_v rfl rfl (r_move (gq 4 rfl))) (oc (ob_v rfl rfl (r_sub (vq 0 rfl) (has_nat 1 rfl) (wsub' (by omega) (by omega)))) (oc (ob_v rfl rfl (r_assign (vq 1 rfl))) o0))) (fun a w hst => ?_)
      have hst : St B w0 28 [(0, _), (1, _), (5, _), (6, _)] [] a w := hst
      refine blk_normal ?_
      refine thn_normal ?_
      have hst := St.sel hst [0, 1, 2, 3]
      exact ⟨(lo + hi + 1) / 2 - 1 - lo, by omega, lo, (lo + hi + 1) / 2 - 1, ⟨by omega, by omega, i3, by rw [Nat.sub_add_cancel (by omega)]; exact hq, rfl⟩, hst⟩
  · obtain rfl : lo = hi := by simp at hb0; omega
    refine wp_exit ?_
    refine thn_exit ?_
    refine thn_exit ?_
    refine blk_exit ?_
    refine thn_normal ?_
    refine wp_seq ?_
    refine gl (sts := []) (news := []) (sp := [.val 26 _, .val 27 _, .val 4 _]) [.o 2] hst (oc (ob_v rfl rfl (r_move (gq 2 rfl))) (oc (ob_v rfl rfl (r_convk .u32 (by kernel_rfl) (by kernel_rfl) (vq 0 rfl) (wu32 (by omega)))) (oc (ob_v rfl rfl (r_assign (vq 1 rfl))) o0))) (fun a w hst => ?_)
    have hst : St B w0 28 [(4, _)] [] a w := hst
    refine thn_normal ?_
    refine wp_ret ?_
    refine ret_wk ?_ (ret_tmp rfl hst (List.mem_of_getElem? (i := 0) rfl))
    rw [← fit_e i3 i4]; exact wk_id

end Go.Proofs.YtmghfjcjcfaagaaGreat
