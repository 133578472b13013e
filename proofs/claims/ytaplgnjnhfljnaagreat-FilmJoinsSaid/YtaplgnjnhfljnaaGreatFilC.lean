/- Contracts of package film: may, film, quad, Stack, Det, over, waves, Powers; of gauss.Of. -/
import Derived.Test.YtaplgnjnhfljnaaGreatFilB
namespace Go.Proofs.YtaplgnjnhfljnaaGreat
open Go Go.RowKit
namespace FilC
theorem fld_28_0 : Fld Tryz.prog 28 0 0 4 := ⟨_, _, Tryz.underlying28, rfl, rfl, by kernel_rfl, by decide⟩
theorem fld_28_1 : Fld Tryz.prog 28 1 4 4 := ⟨_, _, Tryz.underlying28, rfl, rfl, by kernel_rfl, by decide⟩
theorem fld_59_0 : Fld Tryz.prog 59 0 0 4 := ⟨_, _, Tryz.underlying59, rfl, rfl, by kernel_rfl, by decide⟩
theorem fld_59_1 : Fld Tryz.prog 59 1 4 4 := ⟨_, _, Tryz.underlying59, rfl, rfl, by kernel_rfl, by decide⟩
theorem fld_59_2 : Fld Tryz.prog 59 2 8 4 := ⟨_, _, Tryz.underlying59, rfl, rfl, by kernel_rfl, by decide⟩
theorem fld_59_3 : Fld Tryz.prog 59 3 12 4 := ⟨_, _, Tryz.underlying59, rfl, rfl, by kernel_rfl, by decide⟩
theorem sl_29 : Sl Tryz.prog 29 28 8 := ⟨by kernel_rfl, by kernel_rfl⟩
theorem sl_47 : Sl Tryz.prog 47 26 4 := ⟨by kernel_rfl, by kernel_rfl⟩
theorem ty_26 : Ty Tryz.prog 26 4 true := ⟨by kernel_rfl, by kernel_rfl⟩
theorem ty_28 : Ty Tryz.prog 28 8 true := ⟨by kernel_rfl, by kernel_rfl⟩
theorem ty_38 : Ty Tryz.prog 38 32 true := ⟨by kernel_rfl, by kernel_rfl⟩
theorem ty_59 : Ty Tryz.prog 59 16 true := ⟨by kernel_rfl, by kernel_rfl⟩
end FilC
open FilC
theorem all_sp {α : Type} {p : α → Bool} {l : List α} {j : Nat} (h : j < l.length) (h2 : p l[j] = false) : l.all p = false := List.all_eq_false.2 ⟨_, List.getElem_mem h, by simp [h2]⟩
theorem all_ny {α : Type} {p : α → Bool} {l : List α} {j : Nat} (h : j < l.length) (h1 : (l.take j).all p = true) (h2 : p l[j] = true) : (l.take (j + 1)).all p = true := by
  rw [List.take_succ_eq_append_getElem h, List.all_append, h1]
  simp [h2]
theorem may_ok {xs : List RR} (h : mayS xs = 0) : xs.length ≤ 64 ∧ xs.all okH = true := by
  unfold mayS at h
  by_cases h1 : xs.length > 64
  · rw [if_pos h1] at h; exact absurd h (by decide)
  · rw [if_neg h1] at h
    cases h2 : xs.all okH with
    | true => exact ⟨by omega, rfl⟩
    | false => rw [h2] at h; exact absurd h (by decide)
theorem film_nx {xs : List RR} {j : Nat} (h : j < xs.length) : filmQ (xs.take (j + 1)) = thenQ (filmQ (xs.take j)) (shM xs[j]) := by
  rw [List.take_succ_eq_append_getElem h]
  unfold filmQ
  rw [List.foldl_append]
  rfl
theorem ok_szS {x : RR} (h : okH x = true) : szS (toQ x.y) (toQ x.u) ≤ 8192 := by
  have h1 := (okH_q h).1
  simp only [List.all_cons, List.all_nil, Bool.and_true, Bool.and_eq_true] at h1
  obtain ⟨a1, a2⟩ := (okX_q h1.1).2
  obtain ⟨b1, b2⟩ := (okX_q h1.2).2
  unfold szS szQ
  omega
theorem film_rep {xs : List RR} (h : xs.all okH = true) : ∀ j, j ≤ xs.length → RepM (1 + 16386 * j) (filmQ (xs.take j))
  | 0, _ => rep_1
  | j + 1, hj => by
    have ho := List.all_eq_true.1 h _ (List.getElem_mem (show j < xs.length by omega))
    have hs := ok_szS ho
    rw [film_nx (by omega)]
    exact rep_mono (rep_then (film_rep h j (by omega)) (sh_rep (Rat.ne_of_gt (okH_q ho).2))) (by omega)

set_option maxRecDepth 100000 in
theorem filMay_c (xs : List RR) : Cn Tryz.prog 25 [(SlA 28 [U32] (xs.map RRA)).va] (In (mayS xs)) := by
  refine Cn.introF Tryz.func25 rfl (by kernel_rfl) nq (fun B w0 a hF hst => ?_)
  have hst : St B w0 28 [(0, (SlA 28 [U32] (xs.map RRA)).va)] [] a w0.w := hst
  obtain ⟨v0, hv0, hst⟩ := St.eqv hst 0 rfl
  have hl := slA_lenm hv0
  refine wp_seq ?_
  refine gl (sts := []) (news := []) (sp := [.val 2 _]) [.g 0, .o 0] hst (oc (ob_v rfl rfl (r_assign has_num)) o0) (fun a w hst => ?_)
  have hst : St B w0 28 [(0, _), (2, _)] [] a w := hst
  refine thn_normal ?_
  refine wp_seq ?_
  refine wp_seq ?_
  refine gl (sts := []) (news := []) (sp := [.val 5 _, .val 6 _, .val 7 _]) [.g 0, .g 1, .o 2] hst (oc (ob_v rfl rfl (r_move (gq 0 rfl))) (oc (ob_v rfl rfl (r_len Tryz.underlying29 (has_again hF hv0 (vq 0 rfl)))) (oc (ob_v rfl rfl (r_gtr (vq 1 rfl) has_num)) o0))) (fun a w hst => ?_)
  have hst : St B w0 28 [(0, _), (2, _), (7, _)] [] a w := hst
  refine thn_normal ?_
  refine cond_of hst (List.mem_of_getElem? (i := 2) rfl) (fun hb0 => ?_) (fun hb0 => ?_)
  · have hbig : xs.length > 64 := by rw [List.length_map] at hb0; have := of_decide_eq_true hb0; omega
    refine wp_seq ?_
    refine gl (sts := []) (news := []) (sp := [.val 2 _]) [.g 0, .o 0] hst (oc (ob_v rfl rfl (r_assign has_num)) o0) (fun a w hst => ?_)
    have hst : St B w0 28 [(0, _), (2, _)] [] a w := hst
    refine thn_normal ?_
    refine wp_ret ?_
    refine thn_ret ?_
    refine ret_wk ?_ (ret_tmp rfl hst (List.mem_of_getElem? (i := 1) rfl))
    rw [mayS, if_pos hbig]; exact wk_id
  · have hbig : ¬ xs.length > 64 := by rw [List.length_map] at hb0; have := of_decide_eq_false hb0; omega
    refine wp_skip ?_
    refine thn_normal ?_
    refine wp_seq ?_
    refine wp_seq ?_
    refine gl (sts := []) (news := []) (sp := [.val 8 _, .val 9 _, .val 10 _]) [.g 1, .o 0, .o 1, .o 2] hst (oc (ob_v rfl rfl (r_move (gq 0 rfl))) (oc (ob_v rfl rfl (r_len Tryz.underlying29 (has_again hF hv0 (vq 0 rfl)))) (oc (ob_v rfl rfl (r_move has_num)) o0))) (fun a w hst => ?_)
    have hst : St B w0 28 [(2, _), (8, _), (9, _), (10, _)] [] a w := hst
    refine thn_normal ?_
    refine wp_block ?_
    have hst := St.sel hst [1, 2, 3]
    refine wp_loop_ghost (fun n a w => ∃ j : Nat, (n + j = xs.length ∧ (xs.take j).all okH = true) ∧ St B w0 28 [(8, EqV v0), (9, In (xs.length : Nat)), (10, In (j : Nat))] [] a w) (xs.length) ?_ ?_
    · exact ⟨0, ⟨by omega, rfl⟩, by rw [List.length_map] at hst; exact hst⟩
    intro n a w hI
    obtain ⟨j, ⟨hn, hno⟩, hst⟩ := hI
    refine wp_seq ?_
    refine gl (sts := []) (news := []) (sp := [.val 11 _]) [.g 0, .g 1, .g 2, .o 0] hst (oc (ob_v rfl rfl (r_lss (gq 2 rfl) (gq 1 rfl))) o0) (fun a w hst => ?_)
    have hst : St B w0 28 [(8, _), (9, _), (10, _), (11, _)] [] a w := hst
    refine thn_normal ?_
    refine wp_seq ?_
    refine cond_of hst (List.mem_of_getElem? (i := 3) rfl) (fun hb1 => ?_) (fun hb1 => ?_)
    · have hj : j < xs.length := by simp at hb1; omega
      refine wp_skip ?_
      refine thn_normal ?_
      refine wp_seq ?_
      refine wp_block ?_
      refine wp_seq ?_
      refine gl (sts := []) (news := [⟨4, 28, ptrH, some 2, _, some (3, _)⟩]) (sp := [.val 12 _, .val 13 _, .alc 0, .sto 0]) [.g 0, .g 1, .g 2] hst (oc (ob_v rfl rfl (r_idx sl_29 (map_n fun _ => rfl) (has_again hF hv0 (gq 0 rfl)) (gq 2 rfl) (map_at hj))) (oc (ob_v rfl rfl (r_loade (vq 0 rfl) ty_28)) (oc (ob_alc rfl rfl rfl (Str.zero str_sheet)) (oc (ob_sto rfl rfl rfl (vq 1 rfl) ty_28 (Eq.trans (b := 8) rfl rfl)) o0)))) (fun a w hst => ?_)
      have hst : St B w0 28 [(8, _), (9, _), (10, _)] [⟨4, 28, ptrH, _⟩] a w := hst
      refine thn_normal ?_
      refine wp_seq ?_
      refine gl (sts := [none]) (news := []) (sp := [.adr 14 4 (.some 0) True, .val 15 _, .adr 16 4 (.some 4) True, .val 17 _, .val 18 _, .val 19 _, .val 20 _, .val 21 _, .adr 22 4 (.some 0) (_ = false), .val 23 (Wh (_ = false) _), .val 24 (Wh (_ = false) _), .val 25 (Wh (_ = false) _), .val 26 _]) [.g 0, .g 1, .g 2, .o 12] hst (oc (ob_a rfl rfl (a_fld (lz0 0 rfl) fld_28_0)) (oc (ob_v rfl rfl (r_loadf 0 rfl (by kernel_rfl) trivial (lz0 0 rfl) (Sub.part 0 rfl rfl) ty_26)) (oc (ob_a rfl rfl (a_fld (lz0 0 rfl) fld_28_1)) (oc (ob_v rfl rfl (r_loadf 2 rfl (by kernel_rfl) trivial (lz0 0 rfl) (Sub.part 1 rfl rfl) ty_26)) (oc (ob_v rfl rfl (r_slice (D := [U32]) (l := [_, _]) (xs := [.tmp 15, .tmp 17]) (nd_ok (by kernel_rfl)) sl_47 (by kernel_rfl) (n_ok (by kernel_rfl)) nq nq nq (.cons (vq 1 rfl) (.cons (vq 3 rfl) .nil)) rfl rfl)) (oc (ob_v rfl rfl (r_call (xs := [.tmp 18]) (checks_c [_, _] nq) (.cons (vq 4 rfl) .nil))) (oc (ob_v rfl rfl (r_not (vq 5 rfl))) (oc (ob_v rfl rfl (r_move (vq 6 rfl))) (oc (ob_ag rfl rfl rfl (vq 7 rfl) nq (fun hg => a_fld (lz0 0 rfl) fld_28_0)) (oc (ob_gd rfl rfl rfl (vq 7 rfl) nq (fun hg => r_loadf 8 rfl (by kernel_rfl) hg (lz0 0 rfl) (Sub.part 0 rfl rfl) ty_26)) (oc (ob_gd rfl rfl rfl (vq 7 rfl) nq (fun hg => r_call (xs := [.tmp 23]) (sgn_y hg) (.cons (has_wh (vq 9 rfl) hg) .nil))) (oc (ob_gd rfl rfl rfl (vq 7 rfl) nq (fun hg => r_leq (has_wh (vq 10 rfl) hg) has_num)) (oc (ob_v rfl rfl (r_or (vq 7 rfl) (vq 11 rfl))) o0))))))))))))) (fun a w hst => ?_)
      have hst : St B w0 28 [(8, _), (9, _), (10, _), (26, _)] [⟨4, 28, ptrH, _⟩] a w := hst
      refine thn_normal ?_
      refine cond_of hst (List.mem_of_getElem? (i := 3) rfl) (fun hb2 => ?_) (fun hb2 => ?_)
      · refine wp_seq ?_
        refine gl (sts := [none]) (news := []) (sp := [.val 2 _]) [.g 0, .g 1, .g 2, .o 0] hst (oc (ob_v rfl rfl (r_assign has_num)) o0) (fun a w hst => ?_)
        have hst : St B w0 28 [(8, _), (9, _), (10, _), (2, _)] [⟨4, 28, ptrH, _⟩] a w := hst
        refine thn_normal ?_
        refine wp_ret ?_
        refine blk_ret ?_
        refine thn_ret ?_
        refine thn_ret ?_
        refine blk_ret ?_
        refine thn_ret ?_
        refine ret_wk ?_ (ret_tmp rfl hst (List.mem_of_getElem? (i := 3) rfl))
        rw [mayS, if_neg hbig, all_sp hj (okH_no hb2)]; exact wk_id
      · refine wp_skip ?_
        refine blk_normal ?_
        refine thn_normal ?_
        refine gl (sts := [none]) (news := []) (sp := [.val 27 _, .val 10 _]) [.g 0, .g 1, .o 1] hst (oc (ob_v rfl rfl (r_add (gq 2 rfl) has_num ((wi64 (by omega) (by omega)).trans (by omega : (_ : Int) = ((j + 1 : Nat) : Int))))) (oc (ob_v rfl rfl (r_move (vq 0 rfl))) o0)) (fun a w hst => ?_)
        have hst : St B w0 28 [(8, _), (9, _), (10, _)] [⟨4, 28, ptrH, _⟩] a w := hst
        refine thn_normal ?_
        have hst := St.sel hst [0, 1, 2]
        have hst := St.selL hst []
        exact ⟨n - 1, by omega, j + 1, ⟨by omega, all_ny hj hno (okH_yes hb2)⟩, hst⟩
    · obtain rfl : j = xs.length := by simp at hb1; omega
      refine wp_exit ?_
      refine thn_exit ?_
      refine thn_exit ?_
      refine blk_exit ?_
      refine thn_normal ?_
      refine wp_seq ?_
      refine gl (sts := []) (news := []) (sp := [.val 2 _]) [.o 0] hst (oc (ob_v rfl rfl (r_assign has_num)) o0) (fun a w hst => ?_)
      have hst : St B w0 28 [(2, _)] [] a w := hst
      refine thn_normal ?_
      refine wp_ret ?_
      refine ret_wk ?_ (ret_tmp rfl hst (List.mem_of_getElem? (i := 0) rfl))
      rw [List.take_length] at hno; rw [mayS, if_neg hbig, hno]; exact wk_id

theorem sheet_x {x : RR} (h : okH x = true) : Cn Tryz.prog 53 [(RRA x).va] (QMA 26631 (shM x)).va := (sheet_q (n := toQ x.y) (t := toQ x.u) (Rat.ne_of_gt (okH_q h).2)).wk (.cons (qr_x (okH_q h).1).va .nil)

set_option maxRecDepth 100000 in
set_option maxHeartbeats 1000000 in
theorem film_c {xs : List RR} (h64 : xs.length ≤ 64) (hx : xs.all okH = true) : Cn Tryz.prog 26 [(SlA 28 [U32] (xs.map RRA)).va] ((QMA 1048705 (filmQ xs)).va) := by
  refine Cn.introF Tryz.func26 rfl (by kernel_rfl) nq (fun B w0 a hF hst => ?_)
  have hst : St B w0 23 [(0, (SlA 28 [U32] (xs.map RRA)).va)] [] a w0.w := hst
  obtain ⟨v0, hv0, hst⟩ := St.eqv hst 0 rfl
  have hr := film_rep hx
  refine wp_seq ?_
  refine gl (sts := []) (news := [⟨2, 59, ptrH, some 0, _, none⟩]) (sp := [.alc 0]) [.g 0] hst (oc (ob_alc rfl rfl rfl (Str.zero str_layers)) o0) (fun a w hst => ?_)
  have hst : St B w0 23 [(0, _)] [⟨2, 59, ptrH, _⟩] a w := hst
  refine thn_normal ?_
  refine wp_seq ?_
  refine gl (sts := [none]) (news := [⟨3, 59, ptrH, some 5, _, some (6, _)⟩]) (sp := [.val 6 _, .val 7 _, .val 8 _, .val 9 _, .val 10 _, .alc 1, .sto 1]) [.g 0] hst (oc (ob_v rfl rfl (r_call (xs := []) one_q .nil)) (oc (ob_v rfl rfl (r_call (xs := []) nought_q .nil)) (oc (ob_v rfl rfl (r_call (xs := []) nought_q .nil)) (oc (ob_v rfl rfl (r_call (xs := []) one_q .nil)) (oc (ob_v rfl rfl (r_build (xs := [(0, .tmp 6), (1, .tmp 7), (2, .tmp 8), (3, .tmp 9)]) (qs := [(0, _), (1, _), (2, _), (3, _)]) str_layers (.cons ⟨rfl, (vq 0 rfl), rfl⟩ (.cons ⟨rfl, (vq 1 rfl), rfl⟩ (.cons ⟨rfl, (vq 2 rfl), rfl⟩ (.cons ⟨rfl, (vq 3 rfl), rfl⟩ .nil)))))) (oc (ob_alc rfl rfl rfl (Str.zero str_layers)) (oc (ob_sto rfl rfl rfl (vq 4 rfl) ty_59 (Eq.trans (b := 16) rfl rfl)) o0))))))) (fun a w hst => ?_)
  have hst : St B w0 23 [(0, _)] [⟨2, 59, ptrH, _⟩, ⟨3, 59, ptrH, _⟩] a w := hst
  refine thn_normal ?_
  refine wp_seq ?_
  refine wp_seq ?_
  refine gl (sts := [none, none]) (news := []) (sp := [.val 11 _, .val 12 _, .val 13 _]) [.o 0, .o 1, .o 2] hst (oc (ob_v rfl rfl (r_move (gq 0 rfl))) (oc (ob_v rfl rfl (r_len Tryz.underlying29 (has_again hF hv0 (vq 0 rfl)))) (oc (ob_v rfl rfl (r_move has_num)) o0))) (fun a w hst => ?_)
  have hst : St B w0 23 [(11, _), (12, _), (13, _)] [⟨2, 59, ptrH, _⟩, ⟨3, 59, ptrH, _⟩] a w := hst
  refine thn_normal ?_
  refine wp_block ?_
  have hst := St.sel hst [0, 1, 2]
  refine wp_loop_ghost (fun n a w => ∃ j : Nat, n + j = xs.length ∧ St B w0 23 [(11, EqV v0), (12, In (xs.length : Nat)), (13, In (j : Nat))] [⟨2, 59, ptrH, RMA rm0⟩, ⟨3, 59, ptrH, QMA (1 + 16386 * j) (filmQ (xs.take j))⟩] a w) (xs.length) ?_ ?_
  · rw [List.length_map] at hst
    exact ⟨0, by omega, St.wkL (A := QMA 2 ⟨1, 0, 0, 1⟩) (A' := QMA (1 + 16386 * 0) (filmQ (xs.take 0))) hst 1 rfl (qm_rep rep_1)⟩
  intro n a w hI
  obtain ⟨j, hn, hst⟩ := hI
  refine wp_seq ?_
  refine gl (sts := [none, none]) (news := []) (sp := [.val 14 _]) [.g 0, .g 1, .g 2, .o 0] hst (oc (ob_v rfl rfl (r_lss (gq 2 rfl) (gq 1 rfl))) o0) (fun a w hst => ?_)
  have hst : St B w0 23 [(11, _), (12, _), (13, _), (14, _)] [⟨2, 59, ptrH, _⟩, ⟨3, 59, ptrH, _⟩] a w := hst
  refine thn_normal ?_
  refine wp_seq ?_
  refine cond_of hst (List.mem_of_getElem? (i := 3) rfl) (fun hb0 => ?_) (fun hb0 => ?_)
  · have hj : j < xs.length := by simp at hb0; omega
    refine wp_skip ?_
    refine thn_normal ?_
    refine wp_seq ?_
    refine wp_block ?_
    refine wp_seq ?_
    refine gl (sts := [none, none]) (news := [⟨5, 28, ptrH, some 2, _, some (3, _)⟩]) (sp := [.val 15 _, .val 16 _, .alc 2, .sto 2]) [.g 0, .g 1, .g 2] hst (oc (ob_v rfl rfl (r_idx sl_29 (map_n fun _ => rfl) (has_again hF hv0 (gq 0 rfl)) (gq 2 rfl) (map_at hj))) (oc (ob_v rfl rfl (r_loade (vq 0 rfl) ty_28)) (oc (ob_alc rfl rfl rfl (Str.zero str_sheet)) (oc (ob_sto rfl rfl rfl (vq 1 rfl) ty_28 (Eq.trans (b := 8) rfl rfl)) o0)))) (fun a w hst => ?_)
    have hst : St B w0 23 [(11, _), (12, _), (13, _)] [⟨2, 59, ptrH, _⟩, ⟨3, 59, ptrH, _⟩, ⟨5, 28, ptrH, _⟩] a w := hst
    refine thn_normal ?_
    refine go_draw (anc := [[], [], [1], [0, 1, 2], [0, 1, 2, 3]]) (sts := [none, some (4, _), none]) (news := []) (sp := [.val 17 _, .val 18 _, .val 19 _, .val 20 _, .sto 1]) [.g 0, .g 1, .g 2] follows_mixed hst (oc (ob_v rfl rfl (r_load (lz0 1 rfl) ty_59)) (oc (ob_v rfl rfl (r_load (lz0 2 rfl) ty_28)) (oc (ob_v rfl rfl (r_call (xs := [.tmp 18]) (sheet_x (List.all_eq_true.1 hx _ (List.getElem_mem hj))) (.cons (vq 1 rfl) .nil))) (oc (ob_v rfl rfl (r_call (xs := [.tmp 17, .tmp 19]) (then_q (c := 1 + 16386 * j) (d := 26631) (m := filmQ (xs.take j)) (n := shM xs[j]) (by omega)) (.cons (vq 0 rfl) (.cons (vq 2 rfl) .nil)))) (oc (ob_sto rfl rfl rfl (vq 3 rfl) ty_59 (Eq.trans (b := 16) rfl rfl)) o0))))) (by kernel_rfl) (by kernel_rfl) (by kernel_rfl) (by kernel_rfl) (fun a w hst => ?_)
    have hst : St B w0 23 [(11, _), (12, _), (13, _)] [⟨2, 59, ptrH, _⟩, ⟨3, 59, ptrH, _⟩, ⟨5, 28, ptrH, _⟩] a w := hst
    refine blk_normal ?_
    refine thn_normal ?_
    refine gl (sts := [none, none, none]) (news := []) (sp := [.val 21 _, .val 13 _]) [.g 0, .g 1, .o 1] hst (oc (ob_v rfl rfl (r_add (gq 2 rfl) has_num ((wi64 (by omega) (by omega)).trans (by omega : (_ : Int) = ((j + 1 : Nat) : Int))))) (oc (ob_v rfl rfl (r_move (vq 0 rfl))) o0)) (fun a w hst => ?_)
    have hst : St B w0 23 [(11, _), (12, _), (13, _)] [⟨2, 59, ptrH, _⟩, ⟨3, 59, ptrH, _⟩, ⟨5, 28, ptrH, _⟩] a w := hst
    refine thn_normal ?_
    have hst := St.sel hst [0, 1, 2]
    have hst := St.selL hst [0, 1]
    have hst := St.wkL (A' := QMA (1 + 16386 * (j + 1)) (filmQ (xs.take (j + 1)))) hst 1 rfl ((wkA_eq (congrArg (QMA _) (film_nx hj).symm)).trans (qm_rep (hr (j + 1) (by omega))))
    exact ⟨n - 1, by omega, j + 1, by omega, hst⟩
  · obtain rfl : j = xs.length := by simp at hb0; omega
    refine wp_exit ?_
    refine thn_exit ?_
    refine thn_exit ?_
    refine blk_exit ?_
    refine thn_normal ?_
    refine wp_seq ?_
    refine gl (sts := [some (1, _), none]) (news := []) (sp := [.val 22 _, .sto 0]) [] hst (oc (ob_v rfl rfl (r_load (lz0 1 rfl) ty_59)) (oc (ob_sto rfl rfl rfl (vq 0 rfl) ty_59 (Eq.trans (b := 16) rfl rfl)) o0)) (fun a w hst => ?_)
    have hst : St B w0 23 [] [⟨2, 59, ptrH, _⟩, ⟨3, 59, ptrH, _⟩] a w := hst
    refine thn_normal ?_
    refine wp_ret ?_
    refine ret_wk ?_ (ret_cell rfl hst (List.mem_of_getElem? (i := 0) rfl) ty_59)
    rw [List.take_length]; exact (cat_wk (.cons (qa_mono (by omega)) (.cons (qa_mono (by omega)) (.cons (qa_mono (by omega)) (.cons (qa_mono (by omega)) .nil))))).va

def qdOf (m : MQ) : RQ4 := ⟨rgOf ⟨m.a, 0⟩, rgOf ⟨0, m.b⟩, rgOf ⟨0, m.c⟩, rgOf ⟨m.d, 0⟩⟩
def qdF (m : MQ) : RQ4 × Int := if [m.a, m.b, m.c, m.d].any longQ then (rq0, 4) else (qdOf m, 0)
abbrev QdR (r : RQ4 × Int) : VA := Tu [(RQA r.1).va, In r.2]
def stkF (xs : List RR) : RQ4 × Int := if mayS xs = 0 then qdF (filmQ xs) else (rq0, mayS xs)
theorem qd_any {m : MQ} (h : [m.a, m.b, m.c, m.d].any longQ = true) : qdF m = (rq0, 4) := if_pos h
theorem qd_none {m : MQ} (h : [m.a, m.b, m.c, m.d].any longQ = false) : qdF m = (qdOf m, 0) := if_neg (by rw [h]; decide)
theorem ne_any {b : Bool} (h : ((if b then (4 : Int) else 0) != 0) = true) : b = true := by cases b with | true => rfl | false => simp at h
theorem ne_none {b : Bool} (h : ((if b then (4 : Int) else 0) != 0) = false) : b = false := by cases b with | false => rfl | true => simp at h
theorem gz {k l : Nat} {x y : Rat} : WkA (cat [QA k x, QA l y]) (RGA (rgOf ⟨x, y⟩)) := cat_wk (.cons qaA (.cons qaA .nil))

set_option maxRecDepth 100000 in
theorem quad_q {c : Nat} {m : MQ} : Cn Tryz.prog 27 [(QMA c m).va] (QdR (qdF m)) := by
  refine Cn.intro Tryz.func27 rfl (by kernel_rfl) nq (fun B w0 a hst => ?_)
  have hst : St B w0 41 [(0, (QMA c m).va)] [] a w0.w := hst
  refine wp_seq ?_
  refine gl (sts := []) (news := [⟨1, 59, ptrH, some 0, _, none⟩, ⟨2, 38, ptrH, some 1, _, none⟩]) (sp := [.alc 0, .alc 1, .val 3 _]) [.o 2] hst (oc (ob_box rfl rfl rfl (gq 0 rfl)) (oc (ob_alc rfl rfl rfl (Str.zero str_quad)) (oc (ob_v rfl rfl (r_assign has_num)) o0))) (fun a w hst => ?_)
  have hst : St B w0 41 [(3, _)] [⟨1, 59, ptrH, _⟩, ⟨2, 38, ptrH, _⟩] a w := hst
  refine thn_normal ?_
  refine wp_seq ?_
  refine wp_seq ?_
  refine gl (sts := [none, none]) (news := []) (sp := [.adr 6 1 (.some 0) True, .val 7 _, .adr 8 1 (.some 4) True, .val 9 _, .adr 10 1 (.some 8) True, .val 11 _, .adr 12 1 (.some 12) True, .val 13 _, .val 14 _, .val 15 _, .val 4 _]) [.g 0, .o 10] hst (oc (ob_a rfl rfl (a_fld (lz0 0 rfl) fld_59_0)) (oc (ob_v rfl rfl (r_loadf 0 rfl (by kernel_rfl) trivial (lz0 0 rfl) (Sub.part 0 rfl rfl) ty_26)) (oc (ob_a rfl rfl (a_fld (lz0 0 rfl) fld_59_1)) (oc (ob_v rfl rfl (r_loadf 2 rfl (by kernel_rfl) trivial (lz0 0 rfl) (Sub.part 1 rfl rfl) ty_26)) (oc (ob_a rfl rfl (a_fld (lz0 0 rfl) fld_59_2)) (oc (ob_v rfl rfl (r_loadf 4 rfl (by kernel_rfl) trivial (lz0 0 rfl) (Sub.part 2 rfl rfl) ty_26)) (oc (ob_a rfl rfl (a_fld (lz0 0 rfl) fld_59_3)) (oc (ob_v rfl rfl (r_loadf 6 rfl (by kernel_rfl) trivial (lz0 0 rfl) (Sub.part 3 rfl rfl) ty_26)) (oc (ob_v rfl rfl (r_slice (D := [U32]) (l := [_, _, _, _]) (xs := [.tmp 7, .tmp 9, .tmp 11, .tmp 13]) (nd_ok (by kernel_rfl)) sl_47 (by kernel_rfl) (n_ok (by kernel_rfl)) nq nq nq (.cons (vq 1 rfl) (.cons (vq 3 rfl) (.cons (vq 5 rfl) (.cons (vq 7 rfl) .nil)))) rfl rfl)) (oc (ob_v rfl rfl (r_call (xs := [.tmp 14]) (answer_q [m.a, m.b, m.c, m.d] (.cons ⟨_, rfl⟩ (.cons ⟨_, rfl⟩ (.cons ⟨_, rfl⟩ (.cons ⟨_, rfl⟩ .nil)))) nq) (.cons (vq 8 rfl) .nil))) (oc (ob_v rfl rfl (r_assign (vq 9 rfl))) o0))))))))))) (fun a w hst => ?_)
  have hst : St B w0 41 [(3, _), (4, _)] [⟨1, 59, ptrH, _⟩, ⟨2, 38, ptrH, _⟩] a w := hst
  refine thn_normal ?_
  refine wp_seq ?_
  refine gl (sts := [none, none]) (news := []) (sp := [.val 16 _, .val 17 _]) [.g 0, .g 1, .o 1] hst (oc (ob_v rfl rfl (r_move (gq 1 rfl))) (oc (ob_v rfl rfl (r_neq (vq 0 rfl) has_num)) o0)) (fun a w hst => ?_)
  have hst : St B w0 41 [(3, _), (4, _), (17, _)] [⟨1, 59, ptrH, _⟩, ⟨2, 38, ptrH, _⟩] a w := hst
  refine thn_normal ?_
  refine cond_of hst (List.mem_of_getElem? (i := 2) rfl) (fun hb0 => ?_) (fun hb0 => ?_)
  · have hl := ne_any hb0
    refine wp_seq ?_
    refine gl (sts := [none, some (2, _)]) (news := []) (sp := [.val 18 _, .val 19 _, .sto 1, .val 3 _]) [.o 3] hst (oc (ob_v rfl rfl (r_build (xs := []) (qs := []) str_quad .nil)) (oc (ob_v rfl rfl (r_move (gq 1 rfl))) (oc (ob_sto rfl rfl rfl (vq 0 rfl) ty_38 (Eq.trans (b := 32) rfl rfl)) (oc (ob_v rfl rfl (r_assign (vq 1 rfl))) o0)))) (fun a w hst => ?_)
    have hst : St B w0 41 [(3, _)] [⟨1, 59, ptrH, _⟩, ⟨2, 38, ptrH, _⟩] a w := hst
    refine thn_normal ?_
    refine wp_ret ?_
    refine thn_ret ?_
    refine ret_wk ?_ (ret_many (rs := [.cell 2 38, .tmp 3]) rfl hst (.cell (List.mem_of_getElem? (i := 1) rfl) ty_38 (.tmp (List.mem_of_getElem? (i := 0) rfl) .nil)) (by decide))
    rw [qd_any hl]; exact tu2w wk_id (wk_eq (by rw [hl]; rfl))
  · have hl := ne_none hb0
    refine wp_skip ?_
    refine thn_normal ?_
    refine wp_seq ?_
    refine gl (sts := [none, none]) (news := []) (sp := [.val 5 _]) [.g 0, .o 0] hst (oc (ob_v rfl rfl (r_assign has_fnE)) o0) (fun a w hst => ?_)
    have hst : St B w0 41 [(3, _), (5, _)] [⟨1, 59, ptrH, _⟩, ⟨2, 38, ptrH, _⟩] a w := hst
    refine thn_normal ?_
    refine wp_seq ?_
    refine go_draw (anc := [[], [0], [], [2], [0, 1, 2, 3], [], [2, 3, 5], [], [7], [2, 3, 5, 6, 7, 8], [], [2, 3, 5, 6, 10], [], [12], [2, 3, 5, 6, 10, 11, 12, 13], [], [15], [], [2, 3, 5, 6, 10, 11, 17], [2, 3, 5, 6, 10, 11, 15, 16, 17, 18], [0, 1, 2, 3, 4, 5, 6, 7, 8, 9, 10, 11, 12, 13, 14, 15, 16, 17, 18, 19], [0, 1, 2, 3, 4, 5, 6, 7, 8, 9, 10, 11, 12, 13, 14, 15, 16, 17, 18, 19, 20], [0, 1, 2, 3, 4, 5, 6, 7, 8, 9, 10, 11, 12, 13, 14, 15, 16, 17, 18, 19, 20, 21]]) (sts := [none, some (21, _)]) (news := []) (sp := [.adr 20 1 (.some 0) True, .val 21 _, .val 22 _, .val 23 _, .val 24 _, .val 25 _, .val 26 _, .adr 27 1 (.some 4) True, .val 28 _, .val 29 _, .val 30 _, .val 31 _, .adr 32 1 (.some 8) True, .val 33 _, .val 34 _, .adr 35 1 (.some 12) True, .val 36 _, .val 37 _, .val 38 _, .val 39 _, .val 40 _, .sto 1, .val 3 _]) [.o 22] follows_mixed hst (oc (ob_a rfl rfl (a_fld (lz0 0 rfl) fld_59_0)) (oc (ob_v rfl rfl (r_loadf 0 rfl (by kernel_rfl) trivial (lz0 0 rfl) (Sub.part 0 rfl rfl) ty_26)) (oc (ob_v rfl rfl (r_move (gq 1 rfl))) (oc (ob_v rfl rfl (r_callE (xs := []) nought_q (vq 2 rfl) .nil)) (oc (ob_v rfl rfl (r_build (xs := [(0, .tmp 21), (1, .tmp 23)]) (qs := [(0, _), (1, _)]) str_gauss (.cons ⟨rfl, (vq 1 rfl), rfl⟩ (.cons ⟨rfl, (vq 3 rfl), rfl⟩ .nil)))) (oc (ob_v rfl rfl (r_move (gq 1 rfl))) (oc (ob_v rfl rfl (r_callE (xs := []) nought_q (vq 5 rfl) .nil)) (oc (ob_a rfl rfl (a_fld (lz0 0 rfl) fld_59_1)) (oc (ob_v rfl rfl (r_loadf 7 rfl (by kernel_rfl) trivial (lz0 0 rfl) (Sub.part 1 rfl rfl) ty_26)) (oc (ob_v rfl rfl (r_build (xs := [(0, .tmp 26), (1, .tmp 28)]) (qs := [(0, _), (1, _)]) str_gauss (.cons ⟨rfl, (vq 6 rfl), rfl⟩ (.cons ⟨rfl, (vq 8 rfl), rfl⟩ .nil)))) (oc (ob_v rfl rfl (r_move (gq 1 rfl))) (oc (ob_v rfl rfl (r_callE (xs := []) nought_q (vq 10 rfl) .nil)) (oc (ob_a rfl rfl (a_fld (lz0 0 rfl) fld_59_2)) (oc (ob_v rfl rfl (r_loadf 12 rfl (by kernel_rfl) trivial (lz0 0 rfl) (Sub.part 2 rfl rfl) ty_26)) (oc (ob_v rfl rfl (r_build (xs := [(0, .tmp 31), (1, .tmp 33)]) (qs := [(0, _), (1, _)]) str_gauss (.cons ⟨rfl, (vq 11 rfl), rfl⟩ (.cons ⟨rfl, (vq 13 rfl), rfl⟩ .nil)))) (oc (ob_a rfl rfl (a_fld (lz0 0 rfl) fld_59_3)) (oc (ob_v rfl rfl (r_loadf 15 rfl (by kernel_rfl) trivial (lz0 0 rfl) (Sub.part 3 rfl rfl) ty_26)) (oc (ob_v rfl rfl (r_move (gq 1 rfl))) (oc (ob_v rfl rfl (r_callE (xs := []) nought_q (vq 17 rfl) .nil)) (oc (ob_v rfl rfl (r_build (xs := [(0, .tmp 36), (1, .tmp 38)]) (qs := [(0, _), (1, _)]) str_gauss (.cons ⟨rfl, (vq 16 rfl), rfl⟩ (.cons ⟨rfl, (vq 18 rfl), rfl⟩ .nil)))) (oc (ob_v rfl rfl (r_build (xs := [(0, .tmp 24), (1, .tmp 29), (2, .tmp 34), (3, .tmp 39)]) (qs := [(0, _), (1, _), (2, _), (3, _)]) str_quad (.cons ⟨rfl, (vq 4 rfl), rfl⟩ (.cons ⟨rfl, (vq 9 rfl), rfl⟩ (.cons ⟨rfl, (vq 14 rfl), rfl⟩ (.cons ⟨rfl, (vq 19 rfl), rfl⟩ .nil)))))) (oc (ob_sto rfl rfl rfl (vq 20 rfl) ty_38 (Eq.trans (b := 32) rfl rfl)) (oc (ob_v rfl rfl (r_assign has_num)) o0))))))))))))))))))))))) (by kernel_rfl) (by kernel_rfl) (by kernel_rfl) (by kernel_rfl) (fun a w hst => ?_)
    have hst : St B w0 41 [(3, _)] [⟨1, 59, ptrH, _⟩, ⟨2, 38, ptrH, _⟩] a w := hst
    refine thn_normal ?_
    refine wp_ret ?_
    refine ret_wk ?_ (ret_many (rs := [.cell 2 38, .tmp 3]) rfl hst (.cell (List.mem_of_getElem? (i := 1) rfl) ty_38 (.tmp (List.mem_of_getElem? (i := 0) rfl) .nil)) (by decide))
    rw [qd_none hl]; exact tu2w (cat_wk (.cons gz (.cons gz (.cons gz (.cons gz .nil))))).va wk_id

set_option maxRecDepth 100000 in
theorem stack_c (xs : List RR) : Cn Tryz.prog 7 [(SlA 28 [U32] (xs.map RRA)).va] (QdR (stkF xs)) := by
  refine Cn.introF Tryz.func7 rfl (by kernel_rfl) nq (fun B w0 a hF hst => ?_)
  have hst : St B w0 16 [(0, (SlA 28 [U32] (xs.map RRA)).va)] [] a w0.w := hst
  obtain ⟨v0, hv0, hst⟩ := St.eqv hst 0 rfl
  refine wp_seq ?_
  refine gl (sts := []) (news := [⟨2, 38, ptrH, some 0, _, none⟩]) (sp := [.alc 0, .val 3 _]) [.g 0, .o 1] hst (oc (ob_alc rfl rfl rfl (Str.zero str_quad)) (oc (ob_v rfl rfl (r_assign has_num)) o0)) (fun a w hst => ?_)
  have hst : St B w0 16 [(0, _), (3, _)] [⟨2, 38, ptrH, _⟩] a w := hst
  refine thn_normal ?_
  refine wp_seq ?_
  refine wp_seq ?_
  refine gl (sts := [none]) (news := []) (sp := [.val 5 _, .val 6 _, .val 4 _]) [.g 0, .g 1, .o 2] hst (oc (ob_v rfl rfl (r_move (gq 0 rfl))) (oc (ob_v rfl rfl (r_call (xs := [.tmp 5]) (filMay_c xs) (.cons (has_again hF hv0 (vq 0 rfl)) .nil))) (oc (ob_v rfl rfl (r_assign (vq 1 rfl))) o0))) (fun a w hst => ?_)
  have hst : St B w0 16 [(0, _), (3, _), (4, _)] [⟨2, 38, ptrH, _⟩] a w := hst
  refine thn_normal ?_
  refine wp_seq ?_
  refine gl (sts := [none]) (news := []) (sp := [.val 7 _, .val 8 _]) [.g 0, .g 1, .g 2, .o 1] hst (oc (ob_v rfl rfl (r_move (gq 2 rfl))) (oc (ob_v rfl rfl (r_neq (vq 0 rfl) has_num)) o0)) (fun a w hst => ?_)
  have hst : St B w0 16 [(0, _), (3, _), (4, _), (8, _)] [⟨2, 38, ptrH, _⟩] a w := hst
  refine thn_normal ?_
  refine cond_of hst (List.mem_of_getElem? (i := 3) rfl) (fun hb0 => ?_) (fun hb0 => ?_)
  · have hc : ¬ mayS xs = 0 := by simpa using hb0
    refine wp_seq ?_
    refine gl (sts := [some (2, _)]) (news := []) (sp := [.val 9 _, .val 10 _, .sto 0, .val 3 _]) [.g 0, .o 3] hst (oc (ob_v rfl rfl (r_build (xs := []) (qs := []) str_quad .nil)) (oc (ob_v rfl rfl (r_move (gq 2 rfl))) (oc (ob_sto rfl rfl rfl (vq 0 rfl) ty_38 (Eq.trans (b := 32) rfl rfl)) (oc (ob_v rfl rfl (r_assign (vq 1 rfl))) o0)))) (fun a w hst => ?_)
    have hst : St B w0 16 [(0, _), (3, _)] [⟨2, 38, ptrH, _⟩] a w := hst
    refine thn_normal ?_
    refine wp_ret ?_
    refine thn_ret ?_
    refine ret_wk ?_ (ret_many (rs := [.cell 2 38, .tmp 3]) rfl hst (.cell (List.mem_of_getElem? (i := 0) rfl) ty_38 (.tmp (List.mem_of_getElem? (i := 1) rfl) .nil)) (by decide))
    rw [stkF, if_neg hc]; exact wk_id
  · have hc : mayS xs = 0 := by simpa using hb0
    have hk := may_ok hc
    refine wp_skip ?_
    refine thn_normal ?_
    refine wp_seq ?_
    refine gl (sts := [some (5, _)]) (news := []) (sp := [.val 11 _, .val 12 _, .val 13 _, .val 14 _, .val 15 _, .sto 0, .val 3 _]) [.o 6] hst (oc (ob_v rfl rfl (r_move (gq 0 rfl))) (oc (ob_v rfl rfl (r_call (xs := [.tmp 11]) (film_c hk.1 hk.2) (.cons (has_again hF hv0 (vq 0 rfl)) .nil))) (oc (ob_v rfl rfl (r_call (xs := [.tmp 12]) (quad_q (m := filmQ xs)) (.cons (vq 1 rfl) .nil))) (oc (ob_v rfl rfl (r_ex0 (vq 2 rfl))) (oc (ob_v rfl rfl (r_ex1 (vq 2 rfl))) (oc (ob_sto rfl rfl rfl (vq 3 rfl) ty_38 (Eq.trans (b := 32) rfl rfl)) (oc (ob_v rfl rfl (r_assign (vq 4 rfl))) o0))))))) (fun a w hst => ?_)
    have hst : St B w0 16 [(3, _)] [⟨2, 38, ptrH, _⟩] a w := hst
    refine thn_normal ?_
    refine wp_ret ?_
    refine ret_wk ?_ (ret_many (rs := [.cell 2 38, .tmp 3]) rfl hst (.cell (List.mem_of_getElem? (i := 0) rfl) ty_38 (.tmp (List.mem_of_getElem? (i := 0) rfl) .nil)) (by decide))
    rw [stkF, if_pos hc]; exact wk_id

end Go.Proofs.YtaplgnjnhfljnaaGreat
