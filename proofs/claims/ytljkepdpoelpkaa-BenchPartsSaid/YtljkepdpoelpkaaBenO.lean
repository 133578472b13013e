/- A bench that is built, as chapter 10 sees it: may it be, its matrix; that it is plain. -/
import Derived.Test.YtljkepdpoelpkaaBenN
namespace Go.Proofs.Ytljkepdpoelpkaa
open Go Go.RowKit
namespace BenO
theorem fld_49_0 : Fld Try.prog 49 0 0 1 := ⟨_, _, Try.underlying49, rfl, rfl, by kernel_rfl, by decide⟩
theorem fld_49_1 : Fld Try.prog 49 1 1 4 := ⟨_, _, Try.underlying49, rfl, rfl, by kernel_rfl, by decide⟩
theorem sl_22 : Sl Try.prog 22 49 9 := ⟨by kernel_rfl, by kernel_rfl⟩
theorem ty_35 : Ty Try.prog 35 4 true := ⟨by kernel_rfl, by kernel_rfl⟩
theorem ty_46 : Ty Try.prog 46 1 false := ⟨by kernel_rfl, by kernel_rfl⟩
end BenO
open BenO
set_option linter.unusedVariables false
set_option linter.unusedSimpArgs false
theorem tlE_re (e : EQ) : tlE (reOf e) = longQ e.2 := by
  show [riOf e.2.num, riOf (e.2.den : Int)].any bigI = longQ e.2
  simp [longQ]
theorem told_all {L : List EQ} (h : tlF (L.map reOf) = 0) : ∀ e ∈ L, longQ e.2 = false := fun e he => by
  cases hl : longQ e.2 with
  | false => rfl
  | true =>
    have : (L.map reOf).any tlE = true := List.any_eq_true.2 ⟨reOf e, List.mem_map.2 ⟨e, he, rfl⟩, by rw [tlE_re]; exact hl⟩
    rw [tlF, if_pos this] at h
    exact absurd h (by decide)
theorem told_no {L : List EQ} (h : ∀ e ∈ L, longQ e.2 = false) : tlF (L.map reOf) = 0 := by
  rw [tlF, if_neg]
  rw [List.any_eq_true]
  rintro ⟨x, hx, h2⟩
  obtain ⟨e, he, rfl⟩ := List.mem_map.1 hx
  rw [tlE_re, h e he] at h2
  cases h2
theorem okX_rf {q : Rat} (h : longQ q = false) : okX (rfOf q) = true := by rw [okX_of, h]; rfl
theorem longQ_0 : longQ 0 = false := by kernel_rfl
theorem el_re {e : EQ} (h : EOk e) (hl : longQ e.2 = false) : elF (reOf e) = true := by
  have h1 : [(reOf e).p, (reOf e).q].all okX = true := by
    simp only [List.all_cons, List.all_nil, Bool.and_true, Bool.and_eq_true]
    exact ⟨okX_rf hl, okX_rf longQ_0⟩
  obtain ⟨k, p⟩ := e
  rw [elF, h1]
  show (true && elK k (toQ (rfOf p)).num.sign (toQ (rfOf 0)).num.sign) = true
  rw [toQ_of, toQ_of, Bool.true_and]
  rcases h with ⟨hk, hp⟩ | ⟨hk, hp⟩ | ⟨hk, hp⟩
  · have hk : k = 1 := hk
    have hp : 0 < p := hp
    subst hk
    rw [kd1 rfl, Bool.and_eq_true]
    refine ⟨?_, rfl⟩
    have := sgn_l0 (x := p)
    rw [decide_eq_false (show ¬ p < 0 by grind), decide_eq_false_iff_not] at this
    exact decide_eq_true (by omega)
  · have hk : k = 2 := hk
    subst hk
    rw [kd2 rfl rfl]
    rfl
  · have hk : k = 5 := hk
    have hp : p = 0 := hp
    subst hk hp
    rfl
theorem ch_re {L : List EQ} (h : Plain L) (hl : ∀ e ∈ L, longQ e.2 = false) (h4 : L.length ≤ 4096) : chF (L.map reOf) = 0 := ch_mk (by rw [List.length_map]; exact h4) (List.all_eq_true.2 fun x hx => by
  obtain ⟨e, he, rfl⟩ := List.mem_map.1 hx
  exact el_re (h.1 e he) (hl e he))
theorem elM_re {e : EQ} (h : EOk e) : elM (reOf e) = kdM e := by
  obtain ⟨k, p⟩ := e
  show elQ k (toQ (rfOf p)) (toQ (rfOf 0)) = kdM (k, p)
  rw [toQ_of, toQ_of]
  rcases h with ⟨hk, hp⟩ | ⟨hk, hp⟩ | ⟨hk, hp⟩
  · have hk : k = 1 := hk
    subst hk
    rfl
  · have hk : k = 2 := hk
    subst hk
    show (⟨1, 0, 0 - p, 1⟩ : MQ) = ⟨1, 0, -p, 1⟩
    rw [show (0 : Rat) - p = -p by grind]
  · have hk : k = 5 := hk
    subst hk
    show (⟨0 - 1, 0 - 0, 0 - 0, 0 - 1⟩ : MQ) = ⟨-1, 0, 0, -1⟩
    simp only [MQ.mk.injEq]
    exact ⟨by grind, by grind, by grind, by grind⟩
theorem prod_re {L : List EQ} (h : ∀ e ∈ L, EOk e) : prodQ (L.map reOf) = prdQ L := by
  unfold prodQ prdQ
  rw [List.foldl_map]
  generalize (⟨1, 0, 0, 1⟩ : MQ) = m0
  induction L generalizing m0 with
  | nil => rfl
  | cons e L ih =>
    rw [List.foldl_cons, List.foldl_cons, elM_re (h e (by simp))]
    exact ih (fun e he => h e (List.mem_cons_of_mem _ he)) _
theorem re_at {L : List EQ} {j : Nat} (h : j < L.length) : ((L.map reOf).map REA)[j]? = some (REA (reOf L[j])) := by
  rw [List.map_map, List.getElem?_map, List.getElem?_eq_getElem h]
  rfl
theorem re_pr {L : List EQ} {j : Nat} (h : j < L.length) (h0 : decide ((j : Int) > 0) = true) : ((L.map reOf).map REA)[j - 1]? = some (REA (reOf (L.getD (j - 1) (0, 0)))) := by
  have := of_decide_eq_true h0
  rw [re_at (show j - 1 < L.length by omega), List.getD_eq_getElem?_getD, List.getElem?_eq_getElem (by omega)]
  rfl
theorem in_pr {j : Nat} (h0 : decide ((j : Int) > 0) = true) : In ((j : Int) - 1) = In ((j - 1 : Nat) : Int) := by
  have := of_decide_eq_true h0
  congr 1
  omega
theorem pl_ok {L : List EQ} {j : Nat} (hp : Plain L) (hl : ∀ e ∈ L, longQ e.2 = false) (hj : j < L.length) : (((L[j].1 != 1 && L[j].1 != 2) && L[j].1 != 5) || (L[j].1 != 5 && sgF (reOf L[j]).p == 0) || (decide ((j : Int) > 0) && (reOf (L.getD (j - 1) (0, 0))).k == L[j].1)) = false := by
  have hm := List.getElem_mem hj
  have h1 := hp.1 _ hm
  have h2 := hl _ hm
  have e1 : sgF (reOf L[j]).p = L[j].2.num.sign := by
    show sgF (rfOf L[j].2) = _
    rw [sgF, if_pos (okX_rf h2), toQ_of]
  rw [e1]
  have h3 : (decide ((j : Int) > 0) && (reOf (L.getD (j - 1) (0, 0))).k == L[j].1) = false := by
    by_cases h0 : (j : Int) > 0
    · rw [decide_eq_true h0, Bool.true_and, beq_eq_false_iff_ne]
      have hj1 : j - 1 < L.length := by omega
      have := hp.2 (j - 1) L[j - 1] L[j] (List.getElem?_eq_getElem hj1) (by rw [show j - 1 + 1 = j by omega]; exact List.getElem?_eq_getElem hj)
      show (L.getD (j - 1) (0, 0)).1 ≠ _
      rw [List.getD_eq_getElem?_getD, List.getElem?_eq_getElem hj1]
      exact this
    · rw [decide_eq_false h0, Bool.false_and]
  rw [h3, Bool.or_false]
  generalize L[j] = e at *
  obtain ⟨k, p⟩ := e
  rcases h1 with ⟨hk, hp⟩ | ⟨hk, hp⟩ | ⟨hk, hp⟩
  · have hk : k = 1 := hk
    have hp : 0 < p := hp
    subst hk
    show (((false && _) && _) || (true && (p.num.sign == 0))) = false
    rw [sgn_0, decide_eq_false (by grind)]
    rfl
  · have hk : k = 2 := hk
    have hp : p ≠ 0 := hp
    subst hk
    show (((true && false) && _) || (true && (p.num.sign == 0))) = false
    rw [sgn_0, decide_eq_false hp]
    rfl
  · have hk : k = 5 := hk
    subst hk
    rfl

set_option maxRecDepth 100000 in
theorem plain_c (L : List EQ) (hp : Plain L) (hl : ∀ e ∈ L, longQ e.2 = false) : Cn Try.prog 8 [(SlA 49 [U32] ((L.map reOf).map REA)).va] (Bo true) := by
  refine Cn.intro Try.func8 rfl (by kernel_rfl) nq (fun B w0 a hst => ?_)
  have hst : St B w0 53 [(0, (SlA 49 [U32] ((L.map reOf).map REA)).va)] [] a w0.w := hst
  have hlen := slA_lenm (hst.vals (0, (SlA 49 [U32] ((L.map reOf).map REA)).va) (List.mem_of_getElem? (i := 0) rfl))
  rw [List.length_map] at hlen
  refine wp_seq ?_
  refine gl (sts := []) (news := []) (sp := [.val 2 _]) [.g 0, .o 0] hst (oc (ob_v rfl rfl (r_assign has_bo)) o0) (fun a w hst => ?_)
  have hst : St B w0 53 [(0, _), (2, _)] [] a w := hst
  refine thn_normal ?_
  refine wp_seq ?_
  refine wp_seq ?_
  refine gl (sts := []) (news := []) (sp := [.val 3 _]) [.g 0, .g 1, .o 0] hst (oc (ob_v rfl rfl (r_assign has_num)) o0) (fun a w hst => ?_)
  have hst : St B w0 53 [(0, _), (2, _), (3, _)] [] a w := hst
  refine thn_normal ?_
  refine wp_block ?_
  have hst := St.sel hst [0, 2]
  refine wp_loop_ghost (fun n a w => ∃ j : Nat, (n + j = L.length) ∧ St B w0 53 [(0, (SlA 49 [U32] ((L.map reOf).map REA)).va), (3, In (j : Nat))] [] a w) (L.length) ?_ ?_
  · exact ⟨0, by omega, hst⟩
  intro n a w hI
  obtain ⟨j, hn, hst⟩ := hI
  refine wp_seq ?_
  refine wp_seq ?_
  refine gl (sts := []) (news := []) (sp := [.val 5 _, .val 6 _, .val 7 _, .val 8 _]) [.g 0, .g 1, .o 3] hst (oc (ob_v rfl rfl (r_move (gq 1 rfl))) (oc (ob_v rfl rfl (r_move (gq 0 rfl))) (oc (ob_v rfl rfl (r_len Try.underlying22 (vq 1 rfl))) (oc (ob_v rfl rfl (r_lss (vq 0 rfl) (vq 2 rfl))) o0)))) (fun a w hst => ?_)
  have hst : St B w0 53 [(0, _), (3, _), (8, _)] [] a w := hst
  refine thn_normal ?_
  refine cond_of hst (List.mem_of_getElem? (i := 2) rfl) (fun hb0 => ?_) (fun hb0 => ?_)
  · have hj : j < L.length := by simp at hb0; omega
    refine wp_skip ?_
    refine thn_normal ?_
    refine wp_seq ?_
    refine wp_block ?_
    refine wp_seq ?_
    refine gl (sts := []) (news := []) (sp := [.val 11 _, .val 12 _, .val 13 _, .val 14 _, .val 15 _, .val 4 _]) [.g 0, .g 1, .o 5] hst (oc (ob_v rfl rfl (r_move (gq 0 rfl))) (oc (ob_v rfl rfl (r_move (gq 1 rfl))) (oc (ob_v rfl rfl (r_idx sl_22 (map_n fun _ => rfl) (vq 0 rfl) (vq 1 rfl) (re_at hj))) (oc (ob_v rfl rfl (r_fielde (vq 2 rfl) fld_49_0 (Sub.part 0 rfl rfl))) (oc (ob_v rfl rfl (r_loade (vq 3 rfl) ty_46)) (oc (ob_v rfl rfl (r_assign (vq 4 rfl))) o0)))))) (fun a w hst => ?_)
    have hst : St B w0 53 [(0, _), (3, _), (4, _)] [] a w := hst
    refine thn_normal ?_
    refine wp_seq ?_
    refine gl (sts := []) (news := []) (sp := ((.val 16 _ : Sp) :: (.val 17 _) :: (.val 18 _) :: (.val 19 (Wh (_ = true) _)) :: (.val 20 (Wh (_ = true) _)) :: (.val 21 _) :: (.val 22 _) :: (.val 23 (Wh (_ = true) _)) :: (.val 24 (Wh (_ = true) _)) :: (.val 25 _) :: (.val 26 _) :: (.val 27 (Wh (_ = false) _)) :: (.val 28 (Wh (_ = false) _)) :: (.val 29 (Wh (_ = false) _)) :: (.val 30 (Wh ((_ = false) ∧ _ = true) _)) :: (.val 31 (Wh ((_ = false) ∧ _ = true) _)) :: (.val 32 (Wh ((_ = false) ∧ _ = true) _)) :: (.val 33 (Wh ((_ = false) ∧ _ = true) _)) :: (.val 34 (Wh ((_ = false) ∧ _ = true) _)) :: (.val 35 (Wh ((_ = false) ∧ _ = true) _)) :: (.val 36 (Wh ((_ = false) ∧ _ = true) _)) :: (.val 37 (Wh (_ = false) _)) :: (.val 38 _) :: (.val 39 _) :: (.val 40 (Wh (_ = false) _)) :: (.val 41 (Wh (_ = false) _)) :: (.val 42 (Wh (_ = false) _)) :: (.val 43 (Wh ((_ = false) ∧ _ = true) _)) :: (.val 44 (Wh ((_ = false) ∧ _ = true) _)) :: (.val 45 (Wh ((_ = false) ∧ _ = true) _)) :: (.val 46 (Wh ((_ = false) ∧ _ = true) _)) :: (.val 47 (Wh ((_ = false) ∧ _ = true) _)) :: (.val 48 (Wh ((_ = false) ∧ _ = true) _)) :: (.val 49 (Wh ((_ = false) ∧ _ = true) _)) :: (.val 50 (Wh ((_ = false) ∧ _ = true) _)) :: (.val 51 (Wh (_ = false) _)) :: (.val 52 _) :: [])) [.g 0, .g 1, .o 36] hst (oc (ob_v rfl rfl (r_move (gq 2 rfl))) (oc (ob_v rfl rfl (r_neq (vq 0 rfl) has_num)) (oc (ob_v rfl rfl (r_move (vq 1 rfl))) (oc (ob_gd rfl rfl rfl (vq 2 rfl) nq (fun hg => r_move (gq 2 rfl))) (oc (ob_gd rfl rfl rfl (vq 2 rfl) nq (fun hg => r_neq (has_wh (vq 3 rfl) hg) has_num)) (oc (ob_v rfl rfl (r_and (vq 2 rfl) (vq 4 rfl))) (oc (ob_v rfl rfl (r_move (vq 5 rfl))) (oc (ob_gd rfl rfl rfl (vq 6 rfl) nq (fun hg => r_move (gq 2 rfl))) (oc (ob_gd rfl rfl rfl (vq 6 rfl) nq (fun hg => r_neq (has_wh (vq 7 rfl) hg) has_num)) (oc (ob_v rfl rfl (r_and (vq 6 rfl) (vq 8 rfl))) (oc (ob_v rfl rfl (r_move (vq 9 rfl))) (oc (ob_gd rfl rfl rfl (vq 10 rfl) nq (fun hg => r_move (gq 2 rfl))) (oc (ob_gd rfl rfl rfl (vq 10 rfl) nq (fun hg => r_neq (has_wh (vq 11 rfl) hg) has_num)) (oc (ob_gd rfl rfl rfl (vq 10 rfl) nq (fun hg => r_move (has_wh (vq 12 rfl) hg))) (oc (ob_gd2 rfl rfl rfl (vq 13 rfl) nq (fun hg => r_move (gq 0 rfl))) (oc (ob_gd2 rfl rfl rfl (vq 13 rfl) nq (fun hg => r_move (gq 1 rfl))) (oc (ob_gd2 rfl rfl rfl (vq 13 rfl) nq (fun hg => r_idx sl_22 (map_n fun _ => rfl) (has_wh (vq 14 rfl) hg) (has_wh (vq 15 rfl) hg) (re_at hj))) (oc (ob_gd2 rfl rfl rfl (vq 13 rfl) nq (fun hg => r_fielde (has_wh (vq 16 rfl) hg) fld_49_1 (Sub.part 1 rfl rfl))) (oc (ob_gd2 rfl rfl rfl (vq 13 rfl) nq (fun hg => r_loade (has_wh (vq 17 rfl) hg) ty_35)) (oc (ob_gd2 rfl rfl rfl (vq 13 rfl) nq (fun hg => r_call (xs := [.tmp 34]) (fracSign_c _) (.cons (has_wh (vq 18 rfl) hg) .nil))) (oc (ob_gd2 rfl rfl rfl (vq 13 rfl) nq (fun hg => r_eql (has_wh (vq 19 rfl) hg) has_num)) (oc (ob_gd rfl rfl rfl (vq 10 rfl) nq (fun hg => r_and (has_wh (vq 13 rfl) hg) (has_wh2 (vq 20 rfl) hg))) (oc (ob_v rfl rfl (r_or (vq 10 rfl) (vq 21 rfl))) (oc (ob_v rfl rfl (r_move (vq 22 rfl))) (oc (ob_gd rfl rfl rfl (vq 23 rfl) nq (fun hg => r_move (gq 1 rfl))) (oc (ob_gd rfl rfl rfl (vq 23 rfl) nq (fun hg => r_gtr (has_wh (vq 24 rfl) hg) has_num)) (oc (ob_gd rfl rfl rfl (vq 23 rfl) nq (fun hg => r_move (has_wh (vq 25 rfl) hg))) (oc (ob_gd2 rfl rfl rfl (vq 26 rfl) nq (fun hg => r_move (gq 0 rfl))) (oc (ob_gd2 rfl rfl rfl (vq 26 rfl) nq (fun hg => r_move (gq 1 rfl))) (oc (ob_gd2 rfl rfl rfl (vq 26 rfl) nq (fun hg => r_sub (has_wh (vq 28 rfl) hg) has_num ((wi64 (by omega) (by omega))))) (oc (ob_gd2 rfl rfl rfl (vq 26 rfl) nq (fun hg => r_idx sl_22 (map_n fun _ => rfl) (has_wh (vq 27 rfl) hg) (has_wk' (has_wh (vq 29 rfl) hg) (wk_eq (in_pr hg.2))) (re_pr hj hg.2))) (oc (ob_gd2 rfl rfl rfl (vq 26 rfl) nq (fun hg => r_fielde (has_wh (vq 30 rfl) hg) fld_49_0 (Sub.part 0 rfl rfl))) (oc (ob_gd2 rfl rfl rfl (vq 26 rfl) nq (fun hg => r_loade (has_wh (vq 31 rfl) hg) ty_46)) (oc (ob_gd2 rfl rfl rfl (vq 26 rfl) nq (fun hg => r_move (gq 2 rfl))) (oc (ob_gd2 rfl rfl rfl (vq 26 rfl) nq (fun hg => r_eql (has_wh (vq 32 rfl) hg) (has_wh (vq 33 rfl) hg))) (oc (ob_gd rfl rfl rfl (vq 23 rfl) nq (fun hg => r_and (has_wh (vq 26 rfl) hg) (has_wh2 (vq 34 rfl) hg))) (oc (ob_v rfl rfl (r_or (vq 23 rfl) (vq 35 rfl))) o0))))))))))))))))))))))))))))))))))))) (fun a w hst => ?_)
    have hst : St B w0 53 [(0, _), (3, _), (52, _)] [] a w := hst
    refine thn_normal ?_
    refine cond_of hst (List.mem_of_getElem? (i := 2) rfl) (fun hb1 => ?_) (fun hb1 => ?_)
    · exact absurd (hb1.symm.trans (pl_ok hp hl hj)) (by decide)
    · refine wp_skip ?_
      refine blk_normal ?_
      refine thn_normal ?_
      refine gl (sts := []) (news := []) (sp := [.val 9 _, .val 10 _, .val 3 _]) [.g 0, .o 2] hst (oc (ob_v rfl rfl (r_move (gq 1 rfl))) (oc (ob_v rfl rfl (r_add (vq 0 rfl) has_num ((wi64 (by omega) (by omega)).trans (by omega : (_ : Int) = ((j + 1 : Nat) : Int))))) (oc (ob_v rfl rfl (r_assign (vq 1 rfl))) o0))) (fun a w hst => ?_)
      have hst : St B w0 53 [(0, _), (3, _)] [] a w := hst
      refine thn_normal ?_
      have hst := St.sel hst [0, 1]
      exact ⟨n - 1, by omega, j + 1, by omega, hst⟩
  · obtain rfl : j = L.length := by simp at hb0; omega
    refine wp_exit ?_
    refine thn_exit ?_
    refine thn_exit ?_
    refine blk_exit ?_
    refine thn_normal ?_
    refine wp_seq ?_
    refine gl (sts := []) (news := []) (sp := [.val 2 _]) [.o 0] hst (oc (ob_v rfl rfl (r_assign has_bo)) o0) (fun a w hst => ?_)
    have hst : St B w0 53 [(2, _)] [] a w := hst
    refine thn_normal ?_
    refine wp_ret ?_
    refine ret_wk ?_ (ret_tmp rfl hst (List.mem_of_getElem? (i := 0) rfl))
    exact wk_id

end Go.Proofs.Ytljkepdpoelpkaa
