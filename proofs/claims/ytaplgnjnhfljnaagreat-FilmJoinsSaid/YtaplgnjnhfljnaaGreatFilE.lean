/- Contract of film.Powers; sizes of sheets; helpers of the laws of chapter 18. -/
import Derived.Test.YtaplgnjnhfljnaaGreatFilD
namespace Go.Proofs.YtaplgnjnhfljnaaGreat
open Go Go.RowKit
namespace FilE
theorem fld_28_0 : Fld Tryz.prog 28 0 0 4 := ⟨_, _, Tryz.underlying28, rfl, rfl, by kernel_rfl, by decide⟩
theorem fld_28_1 : Fld Tryz.prog 28 1 4 4 := ⟨_, _, Tryz.underlying28, rfl, rfl, by kernel_rfl, by decide⟩
theorem fld_38_0 : Fld Tryz.prog 38 0 0 8 := ⟨_, _, Tryz.underlying38, rfl, rfl, by kernel_rfl, by decide⟩
theorem fld_38_1 : Fld Tryz.prog 38 1 8 8 := ⟨_, _, Tryz.underlying38, rfl, rfl, by kernel_rfl, by decide⟩
theorem sl_29 : Sl Tryz.prog 29 28 8 := ⟨by kernel_rfl, by kernel_rfl⟩
theorem sl_47 : Sl Tryz.prog 47 26 4 := ⟨by kernel_rfl, by kernel_rfl⟩
theorem ty_26 : Ty Tryz.prog 26 4 true := ⟨by kernel_rfl, by kernel_rfl⟩
theorem ty_28 : Ty Tryz.prog 28 8 true := ⟨by kernel_rfl, by kernel_rfl⟩
theorem ty_36 : Ty Tryz.prog 36 8 true := ⟨by kernel_rfl, by kernel_rfl⟩
theorem ty_38 : Ty Tryz.prog 38 32 true := ⟨by kernel_rfl, by kernel_rfl⟩
theorem ty_70 : Ty Tryz.prog 70 24 true := ⟨by kernel_rfl, by kernel_rfl⟩
end FilE
open FilE
def pwF (h g : RF) (xs : List RR) : RF × RF × Int := if (overF h g xs).2 = 0 then (if [(rV (filmQ xs) (toQ h) (toQ g)), 1 - (rV (filmQ xs) (toQ h) (toQ g))].any longQ then (rf0, rf0, 4) else (rfOf (rV (filmQ xs) (toQ h) (toQ g)), rfOf (1 - (rV (filmQ xs) (toQ h) (toQ g))), 0)) else (rf0, rf0, (overF h g xs).2)
abbrev PwR (r : RF × RF × Int) : VA := Tu [(RFA r.1).va, (RFA r.2.1).va, In r.2.2]
theorem ov_ok {h g : RF} {xs : List RR} (e : (overF h g xs).2 = 0) : okP h = true ∧ okP g = true ∧ mayS xs = 0 ∧ overF h g xs = ((rmOf (filmQ xs), h, g), 0) := by
  unfold overF at e ⊢
  cases h1 : okP h with
  | false => rw [h1] at e; simp at e
  | true =>
    cases h2 : okP g with
    | false => rw [h1, h2] at e; simp at e
    | true =>
      simp only [h1, h2, Bool.and_self, if_true] at e ⊢
      by_cases h3 : mayS xs = 0
      · rw [if_pos h3]
        exact ⟨trivial, trivial, h3, rfl⟩
      · rw [if_neg h3] at e
        exact absurd e h3
theorem rm_rep {k : Nat} {m : MQ} (h : RepM k m) : WkA (RMA (rmOf m)) (QMA k m) := by
  obtain ⟨h1, h2, h3, h4⟩ := rep_bQ h
  exact cat_wk (.cons (qa_of h1.1 h1.2) (.cons (qa_of h2.1 h2.2) (.cons (qa_of h3.1 h3.2) (.cons (qa_of h4.1 h4.2) .nil))))
theorem film_rep' {xs : List RR} (h : mayS xs = 0) : RepM 1048705 (filmQ xs) := by
  obtain ⟨h1, h2⟩ := may_ok h
  have := film_rep h2 xs.length (Nat.le_refl _)
  rw [List.take_length] at this
  exact rep_mono this (by omega)
theorem pw_lt {h g : RF} {xs : List RR} (e : (overF h g xs).2 = 0) : WkA (LtA (overF h g xs).1) (QLtA 1048705 2048 2048 (filmQ xs) (toQ h) (toQ g)) := by
  obtain ⟨h1, h2, h3, h4⟩ := ov_ok e
  rw [h4]
  exact cat_wk (.cons (rm_rep (film_rep' h3)) (.cons (qa_x (okP_q h1).1 (Nat.le_refl _)) (.cons (qa_x (okP_q h2).1 (Nat.le_refl _)) .nil)))
theorem pw_n {h g : RF} {xs : List RR} (e : (overF h g xs).2 = 0) : normG (sV (filmQ xs) (toQ h) (toQ g)) ≠ 0 := by
  obtain ⟨h1, h2, h3, _⟩ := ov_ok e
  exact Rat.ne_of_gt (sum_pos (film_det (may_ok h3).2) (okP_q h1).2 (okP_q h2).2)

set_option maxRecDepth 100000 in
set_option maxHeartbeats 2000000 in
theorem powers_c (h g : RF) (xs : List RR) : Cn Tryz.prog 18 [(RFA h).va, (RFA g).va, (SlA 28 [U32] (xs.map RRA)).va] (PwR (pwF h g xs)) := by
  refine Cn.introF Tryz.func18 rfl (by kernel_rfl) nq (fun B w0 a hF hst => ?_)
  have hst : St B w0 46 [(0, (RFA h).va), (1, (RFA g).va), (2, (SlA 28 [U32] (xs.map RRA)).va)] [] a w0.w := hst
  obtain ⟨v2, hv2, hst⟩ := St.eqv hst 2 rfl
  refine wp_seq ?_
  refine gl (sts := []) (news := [⟨3, 26, ptrH, some 0, _, none⟩, ⟨4, 26, ptrH, some 1, _, none⟩, ⟨6, 26, ptrH, some 2, _, none⟩, ⟨7, 26, ptrH, some 3, _, none⟩]) (sp := [.alc 0, .alc 1, .alc 2, .alc 3, .val 8 _]) [.g 2, .o 4] hst (oc (ob_box rfl rfl rfl (gq 0 rfl)) (oc (ob_box rfl rfl rfl (gq 1 rfl)) (oc (ob_alc rfl rfl rfl (Str.zero str_frac)) (oc (ob_alc rfl rfl rfl (Str.zero str_frac)) (oc (ob_v rfl rfl (r_assign has_num)) o0))))) (fun a w hst => ?_)
  have hst : St B w0 46 [(2, _), (8, _)] [⟨3, 26, ptrH, _⟩, ⟨4, 26, ptrH, _⟩, ⟨6, 26, ptrH, _⟩, ⟨7, 26, ptrH, _⟩] a w := hst
  refine thn_normal ?_
  refine wp_seq ?_
  refine gl (sts := [none, none, none, none]) (news := [⟨9, 70, ptrH, some 7, _, some (8, _)⟩]) (sp := [.val 14 _, .val 15 _, .val 16 _, .val 17 _, .val 13 _, .val 18 _, .val 19 _, .alc 4, .sto 4, .val 8 _]) [.o 9] hst (oc (ob_v rfl rfl (r_load (lz0 0 rfl) ty_26)) (oc (ob_v rfl rfl (r_load (lz0 1 rfl) ty_26)) (oc (ob_v rfl rfl (r_move (gq 0 rfl))) (oc (ob_v rfl rfl (r_call (xs := [.tmp 14, .tmp 15, .tmp 16]) (over_c h g xs) (.cons (vq 0 rfl) (.cons (vq 1 rfl) (.cons (has_again hF hv2 (vq 2 rfl)) .nil))))) (oc (ob_v rfl rfl (r_move (vq 3 rfl))) (oc (ob_v rfl rfl (r_ex0 (vq 4 rfl))) (oc (ob_v rfl rfl (r_ex1 (vq 4 rfl))) (oc (ob_alc rfl rfl rfl (Str.zero str_light)) (oc (ob_sto rfl rfl rfl (vq 5 rfl) ty_70 (Eq.trans (b := 24) rfl rfl)) (oc (ob_v rfl rfl (r_assign (vq 6 rfl))) o0)))))))))) (fun a w hst => ?_)
  have hst : St B w0 46 [(8, _)] [⟨3, 26, ptrH, _⟩, ⟨4, 26, ptrH, _⟩, ⟨6, 26, ptrH, _⟩, ⟨7, 26, ptrH, _⟩, ⟨9, 70, ptrH, _⟩] a w := hst
  refine thn_normal ?_
  refine wp_seq ?_
  refine wp_seq ?_
  refine gl (sts := [none, none, none, none, none]) (news := []) (sp := [.val 20 _, .val 21 _]) [.g 0, .o 1] hst (oc (ob_v rfl rfl (r_move (gq 0 rfl))) (oc (ob_v rfl rfl (r_neq (vq 0 rfl) has_num)) o0)) (fun a w hst => ?_)
  have hst : St B w0 46 [(8, _), (21, _)] [⟨3, 26, ptrH, _⟩, ⟨4, 26, ptrH, _⟩, ⟨6, 26, ptrH, _⟩, ⟨7, 26, ptrH, _⟩, ⟨9, 70, ptrH, _⟩] a w := hst
  refine thn_normal ?_
  refine cond_of hst (List.mem_of_getElem? (i := 1) rfl) (fun hb0 => ?_) (fun hb0 => ?_)
  · have hc : ¬ (overF h g xs).2 = 0 := by simpa using hb0
    refine wp_seq ?_
    refine gl (sts := [none, none, some (3, _), some (4, _), none]) (news := []) (sp := [.val 22 _, .val 23 _, .val 24 _, .sto 2, .sto 3, .val 8 _]) [.o 5] hst (oc (ob_v rfl rfl (r_build (xs := []) (qs := []) str_frac .nil)) (oc (ob_v rfl rfl (r_build (xs := []) (qs := []) str_frac .nil)) (oc (ob_v rfl rfl (r_move (gq 0 rfl))) (oc (ob_sto rfl rfl rfl (vq 0 rfl) ty_26 (Eq.trans (b := 4) rfl rfl)) (oc (ob_sto rfl rfl rfl (vq 1 rfl) ty_26 (Eq.trans (b := 4) rfl rfl)) (oc (ob_v rfl rfl (r_assign (vq 2 rfl))) o0)))))) (fun a w hst => ?_)
    have hst : St B w0 46 [(8, _)] [⟨3, 26, ptrH, _⟩, ⟨4, 26, ptrH, _⟩, ⟨6, 26, ptrH, _⟩, ⟨7, 26, ptrH, _⟩, ⟨9, 70, ptrH, _⟩] a w := hst
    refine thn_normal ?_
    refine wp_ret ?_
    refine thn_ret ?_
    refine ret_wk ?_ (ret_many (rs := [.cell 6 26, .cell 7 26, .tmp 8]) rfl hst (.cell (List.mem_of_getElem? (i := 2) rfl) ty_26 (.cell (List.mem_of_getElem? (i := 3) rfl) ty_26 (.tmp (List.mem_of_getElem? (i := 0) rfl) .nil))) (by decide))
    rw [pwF, if_neg hc]; exact wk_id
  · have hc : (overF h g xs).2 = 0 := by simpa using hb0
    have hn := pw_n hc
    have hst := St.wkL (A := LtA (overF h g xs).1) (A' := QLtA 1048705 2048 2048 (filmQ xs) (toQ h) (toQ g)) hst 4 rfl (pw_lt hc)
    refine wp_skip ?_
    refine thn_normal ?_
    refine wp_seq ?_
    refine gl (sts := [none, none, none, none, none]) (news := [⟨10, 36, ptrH, some 5, _, some (7, _)⟩, ⟨11, 36, ptrH, some 6, _, some (8, _)⟩]) (sp := [.val 26 _, .val 27 _, .val 25 _, .val 28 _, .val 29 _, .alc 5, .alc 6, .sto 5, .sto 6]) [.g 0] hst (oc (ob_v rfl rfl (r_load (lz0 4 rfl) ty_70)) (oc (ob_v rfl rfl (r_call (xs := [.tmp 26]) (waves_q (m := filmQ xs) (h := toQ h) (g := toQ g) hn) (.cons (vq 0 rfl) .nil))) (oc (ob_v rfl rfl (r_move (vq 1 rfl))) (oc (ob_v rfl rfl (r_ex0 (vq 2 rfl))) (oc (ob_v rfl rfl (r_ex1 (vq 2 rfl))) (oc (ob_alc rfl rfl rfl (Str.zero str_gauss)) (oc (ob_alc rfl rfl rfl (Str.zero str_gauss)) (oc (ob_sto rfl rfl rfl (vq 3 rfl) ty_36 (Eq.trans (b := 8) rfl rfl)) (oc (ob_sto rfl rfl rfl (vq 4 rfl) ty_36 (Eq.trans (b := 8) rfl rfl)) o0))))))))) (fun a w hst => ?_)
    have hst : St B w0 46 [(8, _)] [⟨3, 26, ptrH, _⟩, ⟨4, 26, ptrH, _⟩, ⟨6, 26, ptrH, _⟩, ⟨7, 26, ptrH, _⟩, ⟨9, 70, ptrH, _⟩, ⟨10, 36, ptrH, _⟩, ⟨11, 36, ptrH, _⟩] a w := hst
    refine thn_normal ?_
    refine wp_seq ?_
    refine gl (sts := [none, none, some (2, _), none, none, none, none]) (news := []) (sp := [.val 30 _, .val 31 _, .sto 2]) [.g 0] hst (oc (ob_v rfl rfl (r_load (lz0 5 rfl) ty_36)) (oc (ob_v rfl rfl (r_call (xs := [.tmp 30]) (norm_q (c := 30000000) (z := backV (filmQ xs) (toQ h) (toQ g)) (by decide)) (.cons (vq 0 rfl) .nil))) (oc (ob_sto rfl rfl rfl (vq 1 rfl) ty_26 (Eq.trans (b := 4) rfl rfl)) o0))) (fun a w hst => ?_)
    have hst : St B w0 46 [(8, _)] [⟨3, 26, ptrH, _⟩, ⟨4, 26, ptrH, _⟩, ⟨6, 26, ptrH, _⟩, ⟨7, 26, ptrH, _⟩, ⟨9, 70, ptrH, _⟩, ⟨10, 36, ptrH, _⟩, ⟨11, 36, ptrH, _⟩] a w := hst
    have hst := St.cvA (A' := QA 120000001 (rV (filmQ xs) (toQ h) (toQ g))) hst 2 rfl (congrArg (QA _) (r_val hn))
    refine thn_normal ?_
    refine wp_seq ?_
    refine go_draw (anc := [[], [], [0, 1], [0, 1, 2]]) (sts := [none, none, none, some (3, _), none, none, none]) (news := []) (sp := [.val 32 _, .val 33 _, .val 34 _, .sto 3]) [.g 0] follows_mixed hst (oc (ob_v rfl rfl (r_call (xs := []) one_q .nil)) (oc (ob_v rfl rfl (r_load (lz0 2 rfl) ty_26)) (oc (ob_v rfl rfl (r_call (xs := [.tmp 32, .tmp 33]) (minus_q (by decide)) (.cons (vq 0 rfl) (.cons (vq 1 rfl) .nil)))) (oc (ob_sto rfl rfl rfl (vq 2 rfl) ty_26 (Eq.trans (b := 4) rfl rfl)) o0)))) (by kernel_rfl) (by kernel_rfl) (by kernel_rfl) (by kernel_rfl) (fun a w hst => ?_)
    have hst : St B w0 46 [(8, _)] [⟨3, 26, ptrH, _⟩, ⟨4, 26, ptrH, _⟩, ⟨6, 26, ptrH, _⟩, ⟨7, 26, ptrH, _⟩, ⟨9, 70, ptrH, _⟩, ⟨10, 36, ptrH, _⟩, ⟨11, 36, ptrH, _⟩] a w := hst
    refine thn_normal ?_
    refine wp_seq ?_
    refine wp_seq ?_
    refine gl (sts := [none, none, none, none, none, none, none]) (news := []) (sp := [.val 35 _, .val 36 _, .val 37 _, .val 38 _, .val 12 _]) [.g 0, .o 4] hst (oc (ob_v rfl rfl (r_load (lz0 2 rfl) ty_26)) (oc (ob_v rfl rfl (r_load (lz0 3 rfl) ty_26)) (oc (ob_v rfl rfl (r_slice (D := [U32]) (l := [_, _]) (xs := [.tmp 35, .tmp 36]) (nd_ok (by kernel_rfl)) sl_47 (by kernel_rfl) (n_ok (by kernel_rfl)) nq nq nq (.cons (vq 0 rfl) (.cons (vq 1 rfl) .nil)) rfl rfl)) (oc (ob_v rfl rfl (r_call (xs := [.tmp 37]) (answer_q [(rV (filmQ xs) (toQ h) (toQ g)), 1 - (rV (filmQ xs) (toQ h) (toQ g))] (.cons ⟨_, rfl⟩ (.cons ⟨_, rfl⟩ .nil)) nq) (.cons (vq 2 rfl) .nil))) (oc (ob_v rfl rfl (r_assign (vq 3 rfl))) o0))))) (fun a w hst => ?_)
    have hst : St B w0 46 [(8, _), (12, _)] [⟨3, 26, ptrH, _⟩, ⟨4, 26, ptrH, _⟩, ⟨6, 26, ptrH, _⟩, ⟨7, 26, ptrH, _⟩, ⟨9, 70, ptrH, _⟩, ⟨10, 36, ptrH, _⟩, ⟨11, 36, ptrH, _⟩] a w := hst
    refine thn_normal ?_
    refine wp_seq ?_
    refine gl (sts := [none, none, none, none, none, none, none]) (news := []) (sp := [.val 39 _, .val 40 _]) [.g 0, .g 1, .o 1] hst (oc (ob_v rfl rfl (r_move (gq 1 rfl))) (oc (ob_v rfl rfl (r_neq (vq 0 rfl) has_num)) o0)) (fun a w hst => ?_)
    have hst : St B w0 46 [(8, _), (12, _), (40, _)] [⟨3, 26, ptrH, _⟩, ⟨4, 26, ptrH, _⟩, ⟨6, 26, ptrH, _⟩, ⟨7, 26, ptrH, _⟩, ⟨9, 70, ptrH, _⟩, ⟨10, 36, ptrH, _⟩, ⟨11, 36, ptrH, _⟩] a w := hst
    refine thn_normal ?_
    refine cond_of hst (List.mem_of_getElem? (i := 2) rfl) (fun hb1 => ?_) (fun hb1 => ?_)
    · have hl := ne_any hb1
      refine wp_seq ?_
      refine gl (sts := [none, none, some (3, _), some (4, _), none, none, none]) (news := []) (sp := [.val 41 _, .val 42 _, .val 43 _, .sto 2, .sto 3, .val 8 _]) [.o 5] hst (oc (ob_v rfl rfl (r_build (xs := []) (qs := []) str_frac .nil)) (oc (ob_v rfl rfl (r_build (xs := []) (qs := []) str_frac .nil)) (oc (ob_v rfl rfl (r_move (gq 1 rfl))) (oc (ob_sto rfl rfl rfl (vq 0 rfl) ty_26 (Eq.trans (b := 4) rfl rfl)) (oc (ob_sto rfl rfl rfl (vq 1 rfl) ty_26 (Eq.trans (b := 4) rfl rfl)) (oc (ob_v rfl rfl (r_assign (vq 2 rfl))) o0)))))) (fun a w hst => ?_)
      have hst : St B w0 46 [(8, _)] [⟨3, 26, ptrH, _⟩, ⟨4, 26, ptrH, _⟩, ⟨6, 26, ptrH, _⟩, ⟨7, 26, ptrH, _⟩, ⟨9, 70, ptrH, _⟩, ⟨10, 36, ptrH, _⟩, ⟨11, 36, ptrH, _⟩] a w := hst
      refine thn_normal ?_
      refine wp_ret ?_
      refine thn_ret ?_
      refine ret_wk ?_ (ret_many (rs := [.cell 6 26, .cell 7 26, .tmp 8]) rfl hst (.cell (List.mem_of_getElem? (i := 2) rfl) ty_26 (.cell (List.mem_of_getElem? (i := 3) rfl) ty_26 (.tmp (List.mem_of_getElem? (i := 0) rfl) .nil))) (by decide))
      have e : pwF h g xs = (rf0, rf0, 4) := by rw [pwF, if_pos hc, if_pos hl]
      rw [e]; exact tu3w wk_id wk_id (wk_eq (by rw [hl]; rfl))
    · have hl := ne_none hb1
      refine wp_skip ?_
      refine thn_normal ?_
      refine wp_seq ?_
      refine go_draw (anc := [[], [], [0], [0, 1, 2], [0, 1, 2, 3]]) (sts := [none, none, some (2, _), some (3, _), none, none, none]) (news := []) (sp := [.val 44 _, .val 45 _, .sto 2, .sto 3, .val 8 _]) [.o 4] follows_mixed hst (oc (ob_v rfl rfl (r_load (lz0 2 rfl) ty_26)) (oc (ob_v rfl rfl (r_load (lz0 3 rfl) ty_26)) (oc (ob_sto rfl rfl rfl (vq 0 rfl) ty_26 (Eq.trans (b := 4) rfl rfl)) (oc (ob_sto rfl rfl rfl (vq 1 rfl) ty_26 (Eq.trans (b := 4) rfl rfl)) (oc (ob_v rfl rfl (r_assign has_num)) o0))))) (by kernel_rfl) (by kernel_rfl) (by kernel_rfl) (by kernel_rfl) (fun a w hst => ?_)
      have hst : St B w0 46 [(8, _)] [⟨3, 26, ptrH, _⟩, ⟨4, 26, ptrH, _⟩, ⟨6, 26, ptrH, _⟩, ⟨7, 26, ptrH, _⟩, ⟨9, 70, ptrH, _⟩, ⟨10, 36, ptrH, _⟩, ⟨11, 36, ptrH, _⟩] a w := hst
      refine thn_normal ?_
      refine wp_ret ?_
      refine ret_wk ?_ (ret_many (rs := [.cell 6 26, .cell 7 26, .tmp 8]) rfl hst (.cell (List.mem_of_getElem? (i := 2) rfl) ty_26 (.cell (List.mem_of_getElem? (i := 3) rfl) ty_26 (.tmp (List.mem_of_getElem? (i := 0) rfl) .nil))) (by decide))
      have e : pwF h g xs = (rfOf (rV (filmQ xs) (toQ h) (toQ g)), rfOf (1 - (rV (filmQ xs) (toQ h) (toQ g))), 0) := by rw [pwF, if_pos hc, if_neg (by rw [hl]; decide)]
      rw [e]; exact tu3w qaA.va qaA.va wk_id

set_option maxRecDepth 100000 in
theorem argSmall_q {p q : Int} (hp : -9223372036854775808 ≤ p) (hp1 : p < 9223372036854775808) (hq : -9223372036854775808 ≤ q) (hq1 : q < 9223372036854775808) : Cn Tryz.prog 45 [In p, In q] ((QGA 2 ⟨Rat.divInt p 1, Rat.divInt q 1⟩).va) := by
  refine Cn.intro Tryz.func45 rfl (by kernel_rfl) nq (fun B w0 a hst => ?_)
  have hst : St B w0 10 [(0, In p), (1, In q)] [] a w0.w := hst
  refine wp_seq ?_
  refine gl (sts := []) (news := [⟨4, 36, ptrH, some 0, _, none⟩]) (sp := [.alc 0]) [.g 0, .g 1] hst (oc (ob_alc rfl rfl rfl (Str.zero str_gauss)) o0) (fun a w hst => ?_)
  have hst : St B w0 10 [(0, _), (1, _)] [⟨4, 36, ptrH, _⟩] a w := hst
  refine thn_normal ?_
  refine wp_seq ?_
  refine gl (sts := [some (5, _)]) (news := []) (sp := [.val 5 _, .val 6 _, .val 7 _, .val 8 _, .val 9 _, .sto 0]) [] hst (oc (ob_v rfl rfl (r_move (gq 0 rfl))) (oc (ob_v rfl rfl (r_call (xs := [.tmp 5, .const (.int .i64 (1))]) (small_q hp hp1 (by decide) (by decide) (by decide)) (.cons (vq 0 rfl) (.cons has_num .nil)))) (oc (ob_v rfl rfl (r_move (gq 1 rfl))) (oc (ob_v rfl rfl (r_call (xs := [.tmp 7, .const (.int .i64 (1))]) (small_q hq hq1 (by decide) (by decide) (by decide)) (.cons (vq 2 rfl) (.cons has_num .nil)))) (oc (ob_v rfl rfl (r_build (xs := [(0, .tmp 6), (1, .tmp 8)]) (qs := [(0, _), (1, _)]) str_gauss (.cons ⟨rfl, (vq 1 rfl), rfl⟩ (.cons ⟨rfl, (vq 3 rfl), rfl⟩ .nil)))) (oc (ob_sto rfl rfl rfl (vq 4 rfl) ty_36 (Eq.trans (b := 8) rfl rfl)) o0)))))) (fun a w hst => ?_)
  have hst : St B w0 10 [] [⟨4, 36, ptrH, _⟩] a w := hst
  refine thn_normal ?_
  refine wp_ret ?_
  refine ret_wk ?_ (ret_cell rfl hst (List.mem_of_getElem? (i := 0) rfl) ty_36)
  exact wk_id

set_option maxRecDepth 100000 in
theorem gaussOf_q {p q : Int} (hp : -9223372036854775808 ≤ p) (hp1 : p < 9223372036854775808) (hq : -9223372036854775808 ≤ q) (hq1 : q < 9223372036854775808) : Cn Tryz.prog 22 [In p, In q] ((QGA 2 ⟨Rat.divInt p 1, Rat.divInt q 1⟩).va) := by
  refine Cn.intro Tryz.func22 rfl (by kernel_rfl) nq (fun B w0 a hst => ?_)
  have hst : St B w0 8 [(0, In p), (1, In q)] [] a w0.w := hst
  refine wp_seq ?_
  refine gl (sts := []) (news := [⟨4, 36, ptrH, some 0, _, none⟩]) (sp := [.alc 0]) [.g 0, .g 1] hst (oc (ob_alc rfl rfl rfl (Str.zero str_gauss)) o0) (fun a w hst => ?_)
  have hst : St B w0 8 [(0, _), (1, _)] [⟨4, 36, ptrH, _⟩] a w := hst
  refine thn_normal ?_
  refine wp_seq ?_
  refine gl (sts := [some (3, _)]) (news := []) (sp := [.val 5 _, .val 6 _, .val 7 _, .sto 0]) [] hst (oc (ob_v rfl rfl (r_move (gq 0 rfl))) (oc (ob_v rfl rfl (r_move (gq 1 rfl))) (oc (ob_v rfl rfl (r_call (xs := [.tmp 5, .tmp 6]) (argSmall_q hp hp1 hq hq1) (.cons (vq 0 rfl) (.cons (vq 1 rfl) .nil)))) (oc (ob_sto rfl rfl rfl (vq 2 rfl) ty_36 (Eq.trans (b := 8) rfl rfl)) o0)))) (fun a w hst => ?_)
  have hst : St B w0 8 [] [⟨4, 36, ptrH, _⟩] a w := hst
  refine thn_normal ?_
  refine wp_ret ?_
  refine ret_wk ?_ (ret_cell rfl hst (List.mem_of_getElem? (i := 0) rfl) ty_36)
  exact wk_id

set_option maxRecDepth 100000 in
theorem filmOne_c (x : RR) : Cn Tryz.prog 9 [(RRA x).va] (QdR (stkF [x])) := by
  refine Cn.intro Tryz.func9 rfl (by kernel_rfl) nq (fun B w0 a hst => ?_)
  have hst : St B w0 9 [(0, (RRA x).va)] [] a w0.w := hst
  refine wp_seq ?_
  refine gl (sts := []) (news := [⟨1, 28, ptrH, some 0, _, none⟩, ⟨2, 38, ptrH, some 1, _, none⟩]) (sp := [.alc 0, .alc 1, .val 3 _]) [.o 2] hst (oc (ob_box rfl rfl rfl (gq 0 rfl)) (oc (ob_alc rfl rfl rfl (Str.zero str_quad)) (oc (ob_v rfl rfl (r_assign has_num)) o0))) (fun a w hst => ?_)
  have hst : St B w0 9 [(3, _)] [⟨1, 28, ptrH, _⟩, ⟨2, 38, ptrH, _⟩] a w := hst
  refine thn_normal ?_
  refine wp_seq ?_
  refine gl (sts := [none, some (5, _)]) (news := []) (sp := [.val 4 _, .val 5 _, .val 6 _, .val 7 _, .val 8 _, .sto 1, .val 3 _]) [.o 6] hst (oc (ob_v rfl rfl (r_load (lz0 0 rfl) ty_28)) (oc (ob_v rfl rfl (r_slice (D := [U32]) (l := [_]) (xs := [.tmp 4]) (nd_ok (by kernel_rfl)) sl_29 (by kernel_rfl) (n_ok (by kernel_rfl)) nq nq nq (.cons (vq 0 rfl) .nil) rfl rfl)) (oc (ob_v rfl rfl (r_call (xs := [.tmp 5]) (stack_c [x]) (.cons (vq 1 rfl) .nil))) (oc (ob_v rfl rfl (r_ex0 (vq 2 rfl))) (oc (ob_v rfl rfl (r_ex1 (vq 2 rfl))) (oc (ob_sto rfl rfl rfl (vq 3 rfl) ty_38 (Eq.trans (b := 32) rfl rfl)) (oc (ob_v rfl rfl (r_assign (vq 4 rfl))) o0))))))) (fun a w hst => ?_)
  have hst : St B w0 9 [(3, _)] [⟨1, 28, ptrH, _⟩, ⟨2, 38, ptrH, _⟩] a w := hst
  refine thn_normal ?_
  refine wp_ret ?_
  refine ret_wk ?_ (ret_many (rs := [.cell 2 38, .tmp 3]) rfl hst (.cell (List.mem_of_getElem? (i := 1) rfl) ty_38 (.tmp (List.mem_of_getElem? (i := 0) rfl) .nil)) (by decide))
  exact wk_id

def ssF (n : Int) : List RR → Int
  | [] => n
  | x :: xs => if decide (n ≤ 1048576) then ssF (IntKind.i64.wrap (IntKind.i64.wrap (n + fracSizeF x.y) + fracSizeF x.u)) xs else n
theorem ss_go {n : Int} {l : List RR} {j : Nat} (h : j < l.length) (h2 : n ≤ 1048576) : ssF n (l.drop j) = ssF (IntKind.i64.wrap (IntKind.i64.wrap (n + fracSizeF l[j].y) + fracSizeF l[j].u)) (l.drop (j + 1)) := by
  rw [List.drop_eq_getElem_cons h, ssF, if_pos (decide_eq_true h2)]
theorem ss_end {n : Int} {l : List RR} {j : Nat} (h : ¬ (j < l.length ∧ n ≤ 1048576)) : ssF n (l.drop j) = n := by
  by_cases hj : j < l.length
  · rw [List.drop_eq_getElem_cons hj, ssF, if_neg (by simpa using fun hh => h ⟨hj, hh⟩)]
  · rw [List.drop_of_length_le (by omega)]; rfl
def fsF (n : Int) : List RF → Int
  | [] => n
  | x :: xs => fsF (IntKind.i64.wrap (n + fracSizeF x)) xs
theorem fs_go {n : Int} {l : List RF} {j : Nat} (h : j < l.length) : fsF n (l.drop j) = fsF (IntKind.i64.wrap (n + fracSizeF l[j])) (l.drop (j + 1)) := by
  rw [List.drop_eq_getElem_cons h, fsF]
def sm18 (xs : List RR) (fs : List RF) : Bool := decide (fsF (ssF (xs.length : Nat) xs) fs ≤ 200) && decide ((xs.length : Int) ≤ 64)

set_option maxRecDepth 100000 in
theorem sheetsSize_c (xs : List RR) : Cn Tryz.prog 16 [(SlA 28 [U32] (xs.map RRA)).va] (In (ssF (xs.length : Nat) xs)) := by
  refine Cn.intro Tryz.func16 rfl (by kernel_rfl) nq (fun B w0 a hst => ?_)
  have hst : St B w0 33 [(0, (SlA 28 [U32] (xs.map RRA)).va)] [] a w0.w := hst
  have hl := slA_lenm (hst.vals (0, (SlA 28 [U32] (xs.map RRA)).va) (List.mem_of_getElem? (i := 0) rfl))
  refine wp_seq ?_
  refine gl (sts := []) (news := []) (sp := [.val 2 _]) [.g 0, .o 0] hst (oc (ob_v rfl rfl (r_assign has_num)) o0) (fun a w hst => ?_)
  have hst : St B w0 33 [(0, _), (2, _)] [] a w := hst
  refine thn_normal ?_
  refine wp_seq ?_
  refine gl (sts := []) (news := []) (sp := [.val 5 _, .val 6 _, .val 3 _]) [.g 0, .g 1, .o 2] hst (oc (ob_v rfl rfl (r_move (gq 0 rfl))) (oc (ob_v rfl rfl (r_len Tryz.underlying29 (vq 0 rfl))) (oc (ob_v rfl rfl (r_assign (vq 1 rfl))) o0))) (fun a w hst => ?_)
  have hst : St B w0 33 [(0, _), (2, _), (3, _)] [] a w := hst
  refine thn_normal ?_
  refine wp_seq ?_
  refine wp_seq ?_
  refine gl (sts := []) (news := []) (sp := [.val 4 _]) [.g 0, .g 1, .g 2, .o 0] hst (oc (ob_v rfl rfl (r_assign has_num)) o0) (fun a w hst => ?_)
  have hst : St B w0 33 [(0, _), (2, _), (3, _), (4, _)] [] a w := hst
  refine thn_normal ?_
  refine wp_block ?_
  have hst := St.sel hst [0, 2, 3]
  refine wp_loop_ghost (fun n a w => ∃ (j : Nat) (m : Int), (n + j = xs.length ∧ ssF (xs.length : Nat) xs = ssF m (xs.drop j)) ∧ St B w0 33 [(0, (SlA 28 [U32] (xs.map RRA)).va), (3, In m), (4, In (j : Nat))] [] a w) (xs.length) ?_ ?_
  · exact ⟨0, (xs.length : Nat), ⟨by omega, rfl⟩, by rw [List.length_map] at hst; exact hst⟩
  intro n a w hI
  obtain ⟨j, m, ⟨hn, hm⟩, hst⟩ := hI
  refine wp_seq ?_
  refine wp_seq ?_
  refine gl (sts := []) (news := []) (sp := [.val 7 _, .val 8 _, .val 9 _, .val 10 _, .val 11 _, .val 12 (Wh (_ = true) _), .val 13 (Wh (_ = true) _), .val 14 _]) [.g 0, .g 1, .g 2, .o 7] hst (oc (ob_v rfl rfl (r_move (gq 2 rfl))) (oc (ob_v rfl rfl (r_move (gq 0 rfl))) (oc (ob_v rfl rfl (r_len Tryz.underlying29 (vq 1 rfl))) (oc (ob_v rfl rfl (r_lss (vq 0 rfl) (vq 2 rfl))) (oc (ob_v rfl rfl (r_move (vq 3 rfl))) (oc (ob_gd rfl rfl rfl (vq 4 rfl) nq (fun hg => r_move (gq 1 rfl))) (oc (ob_gd rfl rfl rfl (vq 4 rfl) nq (fun hg => r_leq (has_wh (vq 5 rfl) hg) has_num)) (oc (ob_v rfl rfl (r_and (vq 4 rfl) (vq 6 rfl))) o0)))))))) (fun a w hst => ?_)
  have hst : St B w0 33 [(0, _), (3, _), (4, _), (14, _)] [] a w := hst
  refine thn_normal ?_
  refine cond_of hst (List.mem_of_getElem? (i := 3) rfl) (fun hb0 => ?_) (fun hb0 => ?_)
  · rw [Bool.and_eq_true, decide_eq_true_eq, decide_eq_true_eq, List.length_map] at hb0
    have hj : j < xs.length := by omega
    have hm0 := hb0.2
    refine wp_skip ?_
    refine thn_normal ?_
    refine wp_seq ?_
    refine wp_block ?_
    refine go_draw (anc := [[], [], [], [1, 2], [1, 2, 3], [1, 2, 3, 4], [1, 2, 3, 4, 5], [0, 1, 2, 3, 4, 5, 6], [], [], [8, 9], [8, 9, 10], [8, 9, 10, 11], [1, 2, 3, 4, 5, 6, 8, 9, 10, 11, 12], [0, 1, 2, 3, 4, 5, 6, 7, 8, 9, 10, 11, 12, 13], [0, 1, 2, 3, 4, 5, 6, 7, 8, 9, 10, 11, 12, 13, 14]]) (sts := []) (news := []) (sp := [.val 17 _, .val 18 _, .val 19 _, .val 20 _, .val 21 _, .val 22 _, .val 23 _, .val 24 _, .val 25 _, .val 26 _, .val 27 _, .val 28 _, .val 29 _, .val 30 _, .val 31 _, .val 3 _]) [.g 0, .g 2, .o 15] follows_mixed hst (oc (ob_v rfl rfl (r_move (gq 1 rfl))) (oc (ob_v rfl rfl (r_move (gq 0 rfl))) (oc (ob_v rfl rfl (r_move (gq 2 rfl))) (oc (ob_v rfl rfl (r_idx sl_29 (map_n fun _ => rfl) (vq 1 rfl) (vq 2 rfl) (map_at hj))) (oc (ob_v rfl rfl (r_fielde (vq 3 rfl) fld_28_0 (Sub.part 0 rfl rfl))) (oc (ob_v rfl rfl (r_loade (vq 4 rfl) ty_26)) (oc (ob_v rfl rfl (r_call (xs := [.tmp 22]) (fracSize_c _) (.cons (vq 5 rfl) .nil))) (oc (ob_v rfl rfl (r_add (vq 0 rfl) (vq 6 rfl) (rfl))) (oc (ob_v rfl rfl (r_move (gq 0 rfl))) (oc (ob_v rfl rfl (r_move (gq 2 rfl))) (oc (ob_v rfl rfl (r_idx sl_29 (map_n fun _ => rfl) (vq 8 rfl) (vq 9 rfl) (map_at hj))) (oc (ob_v rfl rfl (r_fielde (vq 10 rfl) fld_28_1 (Sub.part 1 rfl rfl))) (oc (ob_v rfl rfl (r_loade (vq 11 rfl) ty_26)) (oc (ob_v rfl rfl (r_call (xs := [.tmp 29]) (fracSize_c _) (.cons (vq 12 rfl) .nil))) (oc (ob_v rfl rfl (r_add (vq 7 rfl) (vq 13 rfl) (rfl))) (oc (ob_v rfl rfl (r_assign (vq 14 rfl))) o0)))))))))))))))) (by kernel_rfl) (by kernel_rfl) (by kernel_rfl) (by kernel_rfl) (fun a w hst => ?_)
    have hst : St B w0 33 [(0, _), (4, _), (3, _)] [] a w := hst
    refine blk_normal ?_
    refine thn_normal ?_
    refine gl (sts := []) (news := []) (sp := [.val 15 _, .val 16 _, .val 4 _]) [.g 0, .g 2, .o 2] hst (oc (ob_v rfl rfl (r_move (gq 1 rfl))) (oc (ob_v rfl rfl (r_add (vq 0 rfl) has_num (wi_nx hj hl))) (oc (ob_v rfl rfl (r_assign (vq 1 rfl))) o0))) (fun a w hst => ?_)
    have hst : St B w0 33 [(0, _), (3, _), (4, _)] [] a w := hst
    refine thn_normal ?_
    have hst := St.sel hst [0, 1, 2]
    exact ⟨n - 1, by omega, j + 1, _, ⟨by omega, hm.trans (ss_go hj hm0)⟩, hst⟩
  · have hnj : ¬ (j < xs.length ∧ m ≤ 1048576) := by rintro ⟨h1, h2⟩; rw [List.length_map, decide_eq_true (by omega : (j : Int) < (xs.length : Int)), decide_eq_true h2] at hb0; exact absurd hb0 (by decide)
    refine wp_exit ?_
    refine thn_exit ?_
    refine thn_exit ?_
    refine blk_exit ?_
    refine thn_normal ?_
    refine wp_seq ?_
    refine gl (sts := []) (news := []) (sp := [.val 32 _, .val 2 _]) [.o 1] hst (oc (ob_v rfl rfl (r_move (gq 1 rfl))) (oc (ob_v rfl rfl (r_assign (vq 0 rfl))) o0)) (fun a w hst => ?_)
    have hst : St B w0 33 [(2, _)] [] a w := hst
    refine thn_normal ?_
    refine wp_ret ?_
    refine ret_wk ?_ (ret_tmp rfl hst (List.mem_of_getElem? (i := 0) rfl))
    exact wk_eq (congrArg In (hm.trans (ss_end hnj)).symm)

set_option maxRecDepth 100000 in
theorem small18_c (xs : List RR) (fs : List RF) : Cn Tryz.prog 4 [(SlA 28 [U32] (xs.map RRA)).va, (SlA 26 [U32] (fs.map RFA)).va] (Bo (sm18 xs fs)) := by
  refine Cn.intro Tryz.func4 rfl (by kernel_rfl) nq (fun B w0 a hst => ?_)
  have hst : St B w0 29 [(0, (SlA 28 [U32] (xs.map RRA)).va), (1, (SlA 26 [U32] (fs.map RFA)).va)] [] a w0.w := hst
  have hl := slA_lenm (hst.vals (1, (SlA 26 [U32] (fs.map RFA)).va) (List.mem_of_getElem? (i := 1) rfl))
  refine wp_seq ?_
  refine gl (sts := []) (news := []) (sp := [.val 4 _]) [.g 0, .g 1, .o 0] hst (oc (ob_v rfl rfl (r_assign has_bo)) o0) (fun a w hst => ?_)
  have hst : St B w0 29 [(0, _), (1, _), (4, _)] [] a w := hst
  refine thn_normal ?_
  refine wp_seq ?_
  refine gl (sts := []) (news := []) (sp := [.val 7 _, .val 8 _, .val 5 _]) [.g 0, .g 1, .g 2, .o 2] hst (oc (ob_v rfl rfl (r_move (gq 0 rfl))) (oc (ob_v rfl rfl (r_call (xs := [.tmp 7]) (sheetsSize_c _) (.cons (vq 0 rfl) .nil))) (oc (ob_v rfl rfl (r_assign (vq 1 rfl))) o0))) (fun a w hst => ?_)
  have hst : St B w0 29 [(0, _), (1, _), (4, _), (5, _)] [] a w := hst
  refine thn_normal ?_
  refine wp_seq ?_
  refine wp_seq ?_
  refine gl (sts := []) (news := []) (sp := [.val 6 _]) [.g 0, .g 1, .g 2, .g 3, .o 0] hst (oc (ob_v rfl rfl (r_assign has_num)) o0) (fun a w hst => ?_)
  have hst : St B w0 29 [(0, _), (1, _), (4, _), (5, _), (6, _)] [] a w := hst
  refine thn_normal ?_
  refine wp_block ?_
  have hst := St.sel hst [0, 1, 3, 4]
  refine wp_loop_ghost (fun n a w => ∃ (j : Nat) (m : Int), (n + j = fs.length ∧ fsF (ssF (xs.length : Nat) xs) fs = fsF m (fs.drop j)) ∧ St B w0 29 [(0, (SlA 28 [U32] (xs.map RRA)).va), (1, (SlA 26 [U32] (fs.map RFA)).va), (5, In m), (6, In (j : Nat))] [] a w) (fs.length) ?_ ?_
  · exact ⟨0, _, ⟨by omega, rfl⟩, hst⟩
  intro n a w hI
  obtain ⟨j, m, ⟨hn, hm⟩, hst⟩ := hI
  refine wp_seq ?_
  refine wp_seq ?_
  refine gl (sts := []) (news := []) (sp := [.val 9 _, .val 10 _, .val 11 _, .val 12 _]) [.g 0, .g 1, .g 2, .g 3, .o 3] hst (oc (ob_v rfl rfl (r_move (gq 3 rfl))) (oc (ob_v rfl rfl (r_move (gq 1 rfl))) (oc (ob_v rfl rfl (r_len Tryz.underlying47 (vq 1 rfl))) (oc (ob_v rfl rfl (r_lss (vq 0 rfl) (vq 2 rfl))) o0)))) (fun a w hst => ?_)
  have hst : St B w0 29 [(0, _), (1, _), (5, _), (6, _), (12, _)] [] a w := hst
  refine thn_normal ?_
  refine cond_of hst (List.mem_of_getElem? (i := 4) rfl) (fun hb0 => ?_) (fun hb0 => ?_)
  · have hj : j < fs.length := by rw [List.length_map] at hb0; have := of_decide_eq_true hb0; omega
    refine wp_skip ?_
    refine thn_normal ?_
    refine wp_seq ?_
    refine wp_block ?_
    refine gl (sts := []) (news := []) (sp := [.val 15 _, .val 16 _, .val 17 _, .val 18 _, .val 19 _, .val 20 _, .val 21 _, .val 5 _]) [.g 0, .g 1, .g 3, .o 7] hst (oc (ob_v rfl rfl (r_move (gq 2 rfl))) (oc (ob_v rfl rfl (r_move (gq 1 rfl))) (oc (ob_v rfl rfl (r_move (gq 3 rfl))) (oc (ob_v rfl rfl (r_idx sl_47 (map_n fun _ => rfl) (vq 1 rfl) (vq 2 rfl) (map_at hj))) (oc (ob_v rfl rfl (r_loade (vq 3 rfl) ty_26)) (oc (ob_v rfl rfl (r_call (xs := [.tmp 19]) (fracSize_c _) (.cons (vq 4 rfl) .nil))) (oc (ob_v rfl rfl (r_add (vq 0 rfl) (vq 5 rfl) (rfl))) (oc (ob_v rfl rfl (r_assign (vq 6 rfl))) o0)))))))) (fun a w hst => ?_)
    have hst : St B w0 29 [(0, _), (1, _), (6, _), (5, _)] [] a w := hst
    refine blk_normal ?_
    refine thn_normal ?_
    refine gl (sts := []) (news := []) (sp := [.val 13 _, .val 14 _, .val 6 _]) [.g 0, .g 1, .g 3, .o 2] hst (oc (ob_v rfl rfl (r_move (gq 2 rfl))) (oc (ob_v rfl rfl (r_add (vq 0 rfl) has_num (wi_nx hj hl))) (oc (ob_v rfl rfl (r_assign (vq 1 rfl))) o0))) (fun a w hst => ?_)
    have hst : St B w0 29 [(0, _), (1, _), (5, _), (6, _)] [] a w := hst
    refine thn_normal ?_
    have hst := St.sel hst [0, 1, 2, 3]
    exact ⟨n - 1, by omega, j + 1, _, ⟨by omega, hm.trans (fs_go hj)⟩, hst⟩
  · obtain rfl : j = fs.length := by rw [List.length_map] at hb0; have := of_decide_eq_false hb0; omega
    refine wp_exit ?_
    refine thn_exit ?_
    refine thn_exit ?_
    refine blk_exit ?_
    refine thn_normal ?_
    refine wp_seq ?_
    refine gl (sts := []) (news := []) (sp := [.val 22 _, .val 23 _, .val 24 _, .val 25 (Wh (_ = true) _), .val 26 (Wh (_ = true) _), .val 27 (Wh (_ = true) _), .val 28 _, .val 4 _]) [.o 7] hst (oc (ob_v rfl rfl (r_move (gq 2 rfl))) (oc (ob_v rfl rfl (r_leq (vq 0 rfl) has_num)) (oc (ob_v rfl rfl (r_move (vq 1 rfl))) (oc (ob_gd rfl rfl rfl (vq 2 rfl) nq (fun hg => r_move (gq 0 rfl))) (oc (ob_gd rfl rfl rfl (vq 2 rfl) nq (fun hg => r_len Tryz.underlying29 (has_wh (vq 3 rfl) hg))) (oc (ob_gd rfl rfl rfl (vq 2 rfl) nq (fun hg => r_leq (has_wh (vq 4 rfl) hg) has_num)) (oc (ob_v rfl rfl (r_and (vq 2 rfl) (vq 5 rfl))) (oc (ob_v rfl rfl (r_assign (vq 6 rfl))) o0)))))))) (fun a w hst => ?_)
    have hst : St B w0 29 [(4, _)] [] a w := hst
    refine thn_normal ?_
    refine wp_ret ?_
    refine ret_wk ?_ (ret_tmp rfl hst (List.mem_of_getElem? (i := 0) rfl))
    rw [List.length_map, sm18, hm, List.drop_of_length_le (Nat.le_refl _)]; exact wk_id

set_option maxRecDepth 100000 in
theorem sheet18_c {p q : Int} (hp : -9223372036854775808 ≤ p) (hp1 : p < 9223372036854775808) (hq : -9223372036854775808 ≤ q) (hq1 : q < 9223372036854775808) : Cn Tryz.prog 19 [In p, In q] ((RRA ⟨rfOf (Rat.divInt p 1), rfOf (Rat.divInt q 1)⟩).va) := by
  refine Cn.intro Tryz.func19 rfl (by kernel_rfl) nq (fun B w0 a hst => ?_)
  have hst : St B w0 12 [(0, In p), (1, In q)] [] a w0.w := hst
  refine wp_seq ?_
  refine gl (sts := []) (news := [⟨4, 28, ptrH, some 0, _, none⟩]) (sp := [.alc 0]) [.g 0, .g 1] hst (oc (ob_alc rfl rfl rfl (Str.zero str_sheet)) o0) (fun a w hst => ?_)
  have hst : St B w0 12 [(0, _), (1, _)] [⟨4, 28, ptrH, _⟩] a w := hst
  refine thn_normal ?_
  refine wp_seq ?_
  refine gl (sts := [some (7, _)]) (news := []) (sp := [.val 5 _, .val 6 _, .val 7 _, .val 8 _, .val 9 _, .val 10 _, .val 11 _, .sto 0]) [] hst (oc (ob_v rfl rfl (r_move (gq 0 rfl))) (oc (ob_v rfl rfl (r_call (xs := [.tmp 5, .const (.int .i64 (0))]) (gaussOf_q hp hp1 (by decide) (by decide)) (.cons (vq 0 rfl) (.cons has_num .nil)))) (oc (ob_v rfl rfl (r_field (vq 1 rfl) rfl rfl Tryz.underlying36 rfl rfl ⟨by kernel_rfl, by kernel_rfl⟩ (Sub.part 0 rfl rfl))) (oc (ob_v rfl rfl (r_move (gq 1 rfl))) (oc (ob_v rfl rfl (r_call (xs := [.tmp 8, .const (.int .i64 (0))]) (gaussOf_q hq hq1 (by decide) (by decide)) (.cons (vq 3 rfl) (.cons has_num .nil)))) (oc (ob_v rfl rfl (r_field (vq 4 rfl) rfl rfl Tryz.underlying36 rfl rfl ⟨by kernel_rfl, by kernel_rfl⟩ (Sub.part 0 rfl rfl))) (oc (ob_v rfl rfl (r_build (xs := [(0, .tmp 7), (1, .tmp 10)]) (qs := [(0, _), (1, _)]) str_sheet (.cons ⟨rfl, (vq 2 rfl), rfl⟩ (.cons ⟨rfl, (vq 5 rfl), rfl⟩ .nil)))) (oc (ob_sto rfl rfl rfl (vq 6 rfl) ty_28 (Eq.trans (b := 8) rfl rfl)) o0)))))))) (fun a w hst => ?_)
  have hst : St B w0 12 [] [⟨4, 28, ptrH, _⟩] a w := hst
  refine thn_normal ?_
  refine wp_ret ?_
  refine ret_wk ?_ (ret_cell rfl hst (List.mem_of_getElem? (i := 0) rfl) ty_28)
  exact (cat_wk (.cons qaA (.cons qaA .nil))).va

theorem nil_sh : Cn Tryz.prog 7 [EqV (.slice none 0 0)] (QdR (stkF [])) := (stack_c []).wk (.cons nil_sl .nil)
theorem of_g {p q : Int} (hp : -9223372036854775808 ≤ p) (hp1 : p < 9223372036854775808) (hq : -9223372036854775808 ≤ q) (hq1 : q < 9223372036854775808) : Cn Tryz.prog 22 [In p, In q] (RGA (rgOf ⟨Rat.divInt p 1, Rat.divInt q 1⟩)).va := (gaussOf_q hp hp1 hq hq1).wkp qgA.va

set_option maxRecDepth 100000 in
set_option maxHeartbeats 4000000 in
theorem alive18_c  : Cn Tryz.prog 5 [] (Bo true) := by
  refine Cn.intro Tryz.func5 rfl (by kernel_rfl) nq (fun B w0 a hst => ?_)
  have hst : St B w0 76 [] [] a w0.w := hst
  refine wp_seq ?_
  refine gl (sts := []) (news := []) (sp := [.val 0 _]) [.o 0] hst (oc (ob_v rfl rfl (r_assign has_bo)) o0) (fun a w hst => ?_)
  have hst : St B w0 76 [(0, _)] [] a w := hst
  refine thn_normal ?_
  refine wp_seq ?_
  refine gl (sts := []) (news := [⟨1, 26, ptrH, some 4, _, some (5, _)⟩]) (sp := [.val 15 _, .val 14 _, .val 16 _, .val 17 _, .alc 0, .sto 0, .val 2 _]) [.g 0] hst (oc (ob_v rfl rfl (r_call (xs := [.const (.int .i64 (1)), .const (.int .i64 (1))]) (ofQ_c (by decide) (by decide) (by decide) (by decide) (by decide)) (.cons has_num (.cons has_num .nil)))) (oc (ob_v rfl rfl (r_move (vq 0 rfl))) (oc (ob_v rfl rfl (r_ex0 (vq 1 rfl))) (oc (ob_v rfl rfl (r_ex1 (vq 1 rfl))) (oc (ob_alc rfl rfl rfl (Str.zero str_frac)) (oc (ob_sto rfl rfl rfl (vq 2 rfl) ty_26 (Eq.trans (b := 4) rfl rfl)) (oc (ob_v rfl rfl (r_assign (vq 3 rfl))) o0))))))) (fun a w hst => ?_)
  have hst : St B w0 76 [(0, _)] [⟨1, 26, ptrH, _⟩] a w := hst
  refine thn_normal ?_
  refine wp_seq ?_
  refine gl (sts := [none]) (news := [⟨3, 26, ptrH, some 4, _, some (5, _)⟩]) (sp := [.val 19 _, .val 18 _, .val 20 _, .val 21 _, .alc 1, .sto 1, .val 4 _]) [.g 0] hst (oc (ob_v rfl rfl (r_call (xs := [.const (.int .i64 (9)), .const (.int .i64 (25))]) (ofQ_c (by decide) (by decide) (by decide) (by decide) (by decide)) (.cons has_num (.cons has_num .nil)))) (oc (ob_v rfl rfl (r_move (vq 0 rfl))) (oc (ob_v rfl rfl (r_ex0 (vq 1 rfl))) (oc (ob_v rfl rfl (r_ex1 (vq 1 rfl))) (oc (ob_alc rfl rfl rfl (Str.zero str_frac)) (oc (ob_sto rfl rfl rfl (vq 2 rfl) ty_26 (Eq.trans (b := 4) rfl rfl)) (oc (ob_v rfl rfl (r_assign (vq 3 rfl))) o0))))))) (fun a w hst => ?_)
  have hst : St B w0 76 [(0, _)] [⟨1, 26, ptrH, _⟩, ⟨3, 26, ptrH, _⟩] a w := hst
  refine thn_normal ?_
  refine wp_seq ?_
  refine gl (sts := [none, none]) (news := [⟨5, 26, ptrH, some 4, _, some (5, _)⟩]) (sp := [.val 23 _, .val 22 _, .val 24 _, .val 25 _, .alc 2, .sto 2, .val 6 _]) [.g 0] hst (oc (ob_v rfl rfl (r_call (xs := [.const (.int .i64 (16)), .const (.int .i64 (25))]) (ofQ_c (by decide) (by decide) (by decide) (by decide) (by decide)) (.cons has_num (.cons has_num .nil)))) (oc (ob_v rfl rfl (r_move (vq 0 rfl))) (oc (ob_v rfl rfl (r_ex0 (vq 1 rfl))) (oc (ob_v rfl rfl (r_ex1 (vq 1 rfl))) (oc (ob_alc rfl rfl rfl (Str.zero str_frac)) (oc (ob_sto rfl rfl rfl (vq 2 rfl) ty_26 (Eq.trans (b := 4) rfl rfl)) (oc (ob_v rfl rfl (r_assign (vq 3 rfl))) o0))))))) (fun a w hst => ?_)
  have hst : St B w0 76 [(0, _)] [⟨1, 26, ptrH, _⟩, ⟨3, 26, ptrH, _⟩, ⟨5, 26, ptrH, _⟩] a w := hst
  refine thn_normal ?_
  refine wp_seq ?_
  refine go_draw (anc := [[], [], [], [2], [0, 1, 2, 3], [0, 1, 2, 3, 4], [0, 1, 2, 3, 4, 5], [0, 1, 2, 3, 4, 5], [0, 1, 2, 3, 4, 5], [], [], [0, 1, 2, 3, 4, 5, 6, 9, 10], [0, 1, 2, 3, 4, 5, 6, 7, 9, 10, 11], [0, 1, 2, 3, 4, 5, 6, 7, 8, 9, 10, 11, 12]]) (sts := [none, none, none]) (news := [⟨7, 26, ptrH, some 9, _, some (11, _)⟩, ⟨8, 26, ptrH, some 10, _, some (12, _)⟩]) (sp := [.val 27 _, .val 28 _, .val 29 _, .val 30 _, .val 31 _, .val 26 _, .val 32 _, .val 33 _, .val 34 _, .alc 3, .alc 4, .sto 3, .sto 4, .val 9 _]) [.g 0, .o 13] follows_mixed hst (oc (ob_v rfl rfl (r_load (lz0 0 rfl) ty_26)) (oc (ob_v rfl rfl (r_load (lz0 0 rfl) ty_26)) (oc (ob_v rfl rfl (r_call (xs := [.const (.int .i64 (2)), .const (.int .i64 (1))]) (sheet18_c (by decide) (by decide) (by decide) (by decide)) (.cons has_num (.cons has_num .nil)))) (oc (ob_v rfl rfl (r_slice (D := [U32]) (l := [_]) (xs := [.tmp 29]) (nd_ok (by kernel_rfl)) sl_29 (by kernel_rfl) (n_ok (by kernel_rfl)) nq nq nq (.cons (vq 2 rfl) .nil) rfl rfl)) (oc (ob_v rfl rfl (r_call (xs := [.tmp 27, .tmp 28, .tmp 30]) (powers_c _ _ [_]) (.cons (vq 0 rfl) (.cons (vq 1 rfl) (.cons (vq 3 rfl) .nil))))) (oc (ob_v rfl rfl (r_move (vq 4 rfl))) (oc (ob_v rfl rfl (r_ex0 (vq 5 rfl))) (oc (ob_v rfl rfl (r_ex1 (vq 5 rfl))) (oc (ob_v rfl rfl (r_ex2 (vq 5 rfl))) (oc (ob_alc rfl rfl rfl (Str.zero str_frac)) (oc (ob_alc rfl rfl rfl (Str.zero str_frac)) (oc (ob_sto rfl rfl rfl (vq 6 rfl) ty_26 (Eq.trans (b := 4) rfl rfl)) (oc (ob_sto rfl rfl rfl (vq 7 rfl) ty_26 (Eq.trans (b := 4) rfl rfl)) (oc (ob_v rfl rfl (r_assign (vq 8 rfl))) o0)))))))))))))) (by kernel_rfl) (by kernel_rfl) (by kernel_rfl) (by kernel_rfl) (fun a w hst => ?_)
  have hst : St B w0 76 [(0, _), (9, _)] [⟨1, 26, ptrH, _⟩, ⟨3, 26, ptrH, _⟩, ⟨5, 26, ptrH, _⟩, ⟨7, 26, ptrH, _⟩, ⟨8, 26, ptrH, _⟩] a w := hst
  refine thn_normal ?_
  refine wp_seq ?_
  refine gl (sts := [none, none, none, none, none]) (news := [⟨10, 38, ptrH, some 5, _, some (6, _)⟩]) (sp := [.val 36 _, .val 37 _, .val 35 _, .val 38 _, .val 39 _, .alc 5, .sto 5, .val 11 _]) [.g 0, .g 1, .o 7] hst (oc (ob_v rfl rfl (r_call (xs := [.const (.int .i64 (0)), .const (.int .i64 (1))]) (sheet18_c (by decide) (by decide) (by decide) (by decide)) (.cons has_num (.cons has_num .nil)))) (oc (ob_v rfl rfl (r_call (xs := [.tmp 36]) (filmOne_c _) (.cons (vq 0 rfl) .nil))) (oc (ob_v rfl rfl (r_move (vq 1 rfl))) (oc (ob_v rfl rfl (r_ex0 (vq 2 rfl))) (oc (ob_v rfl rfl (r_ex1 (vq 2 rfl))) (oc (ob_alc rfl rfl rfl (Str.zero str_quad)) (oc (ob_sto rfl rfl rfl (vq 3 rfl) ty_38 (Eq.trans (b := 32) rfl rfl)) (oc (ob_v rfl rfl (r_assign (vq 4 rfl))) o0)))))))) (fun a w hst => ?_)
  have hst : St B w0 76 [(0, _), (9, _), (11, _)] [⟨1, 26, ptrH, _⟩, ⟨3, 26, ptrH, _⟩, ⟨5, 26, ptrH, _⟩, ⟨7, 26, ptrH, _⟩, ⟨8, 26, ptrH, _⟩, ⟨10, 38, ptrH, _⟩] a w := hst
  refine thn_normal ?_
  refine wp_seq ?_
  refine gl (sts := [none, none, none, none, none, none]) (news := [⟨12, 38, ptrH, some 4, _, some (5, _)⟩]) (sp := [.val 41 _, .val 40 _, .val 42 _, .val 43 _, .alc 6, .sto 6, .val 13 _]) [.g 0, .g 1, .g 2, .o 6] hst (oc (ob_v rfl rfl (r_call (xs := [.const (.slice none 0 0)]) nil_sh (.cons has_const .nil))) (oc (ob_v rfl rfl (r_move (vq 0 rfl))) (oc (ob_v rfl rfl (r_ex0 (vq 1 rfl))) (oc (ob_v rfl rfl (r_ex1 (vq 1 rfl))) (oc (ob_alc rfl rfl rfl (Str.zero str_quad)) (oc (ob_sto rfl rfl rfl (vq 2 rfl) ty_38 (Eq.trans (b := 32) rfl rfl)) (oc (ob_v rfl rfl (r_assign (vq 3 rfl))) o0))))))) (fun a w hst => ?_)
  have hst : St B w0 76 [(0, _), (9, _), (11, _), (13, _)] [⟨1, 26, ptrH, _⟩, ⟨3, 26, ptrH, _⟩, ⟨5, 26, ptrH, _⟩, ⟨7, 26, ptrH, _⟩, ⟨8, 26, ptrH, _⟩, ⟨10, 38, ptrH, _⟩, ⟨12, 38, ptrH, _⟩] a w := hst
  refine thn_normal ?_
  refine wp_seq ?_
  refine go_draw (anc := [[], [0], [0, 1], [0, 1, 2], [0, 1, 2, 3], [0, 1, 2, 3, 4], [0, 1, 2, 3, 4, 5], [0, 1, 2, 3, 4, 5, 6], [0, 1, 2, 3, 4, 5, 6, 7], [0, 1, 2, 3, 4, 5, 6, 7, 8], [0, 1, 2, 3, 4, 5, 6, 7, 8, 9], [0, 1, 2, 3, 4, 5, 6, 7, 8, 9, 10], [0, 1, 2, 3, 4, 5, 6, 7, 8, 9, 10], [0, 1, 2, 3, 4, 5, 6, 7, 8, 9, 10, 11, 12], [0, 1, 2, 3, 4, 5, 6, 7, 8, 9, 10, 11, 12, 13], [0, 1, 2, 3, 4, 5, 6, 7, 8, 9, 10, 11, 12, 13, 14], [0, 1, 2, 3, 4, 5, 6, 7, 8, 9, 10, 11, 12, 13, 14, 15], [0, 1, 2, 3, 4, 5, 6, 7, 8, 9, 10, 11, 12, 13, 14, 15], [0, 1, 2, 3, 4, 5, 6, 7, 8, 9, 10, 11, 12, 13, 14, 15, 16, 17], [0, 1, 2, 3, 4, 5, 6, 7, 8, 9, 10, 11, 12, 13, 14, 15, 16, 17, 18], [0, 1, 2, 3, 4, 5, 6, 7, 8, 9, 10, 11, 12, 13, 14, 15, 16, 17, 18, 19], [0, 1, 2, 3, 4, 5, 6, 7, 8, 9, 10, 11, 12, 13, 14, 15, 16, 17, 18, 19, 20], [0, 1, 2, 3, 4, 5, 6, 7, 8, 9, 10, 11, 12, 13, 14, 15, 16, 17, 18, 19, 20, 21], [0, 1, 2, 3, 4, 5, 6, 7, 8, 9, 10, 11, 12, 13, 14, 15, 16, 17, 18, 19, 20], [0, 1, 2, 3, 4, 5, 6, 7, 8, 9, 10, 11, 12, 13, 14, 15, 16, 17, 18, 19, 20, 21, 22, 23], [0, 1, 2, 3, 4, 5, 6, 7, 8, 9, 10, 11, 12, 13, 14, 15, 16, 17, 18, 19, 20, 21, 22, 23, 24], [0, 1, 2, 3, 4, 5, 6, 7, 8, 9, 10, 11, 12, 13, 14, 15, 16, 17, 18, 19, 20, 21, 22, 23, 24, 25], [0, 1, 2, 3, 4, 5, 6, 7, 8, 9, 10, 11, 12, 13, 14, 15, 16, 17, 18, 19, 20, 21, 22, 23, 24, 25, 26], [0, 1, 2, 3, 4, 5, 6, 7, 8, 9, 10, 11, 12, 13, 14, 15, 16, 17, 18, 19, 20, 21, 22, 23, 24, 25, 26, 27], [0, 1, 2, 3, 4, 5, 6, 7, 8, 9, 10, 11, 12, 13, 14, 15, 16, 17, 18, 19, 20, 21, 22, 23, 24, 25, 26], [0, 1, 2, 3, 4, 5, 6, 7, 8, 9, 10, 11, 12, 13, 14, 15, 16, 17, 18, 19, 20, 21, 22, 23, 24, 25, 26, 27, 28, 29], [0, 1, 2, 3, 4, 5, 6, 7, 8, 9, 10, 11, 12, 13, 14, 15, 16, 17, 18, 19, 20, 21, 22, 23, 24, 25, 26, 27, 28, 29, 30], [0, 1, 2, 3, 4, 5, 6, 7, 8, 9, 10, 11, 12, 13, 14, 15, 16, 17, 18, 19, 20, 21, 22, 23, 24, 25, 26, 27, 28, 29, 30, 31]]) (sts := [none, none, none, none, none, none, none]) (news := []) (sp := ((.val 44 _ : Sp) :: (.val 45 _) :: (.val 46 _) :: (.val 47 (Wh (_ = true) _)) :: (.val 48 (Wh (_ = true) _)) :: (.val 49 _) :: (.val 50 _) :: (.val 51 (Wh (_ = true) _)) :: (.val 52 (Wh (_ = true) _)) :: (.val 53 _) :: (.val 54 _) :: (.val 55 (Wh (_ = true) _)) :: (.val 56 (Wh (_ = true) _)) :: (.val 57 (Wh (_ = true) _)) :: (.val 58 _) :: (.val 59 _) :: (.val 60 (Wh (_ = true) _)) :: (.val 61 (Wh (_ = true) _)) :: (.val 62 (Wh (_ = true) _)) :: (.val 63 _) :: (.val 64 _) :: (.adr 65 12 (.some 0) (_ = true)) :: (.val 66 (Wh (_ = true) _)) :: (.val 67 (Wh (_ = true) _)) :: (.val 68 (Wh (_ = true) _)) :: (.val 69 _) :: (.val 70 _) :: (.adr 71 12 (.some 8) (_ = true)) :: (.val 72 (Wh (_ = true) _)) :: (.val 73 (Wh (_ = true) _)) :: (.val 74 (Wh (_ = true) _)) :: (.val 75 _) :: (.val 0 _) :: [])) [.o 32] follows_mixed hst (oc (ob_v rfl rfl (r_move (gq 1 rfl))) (oc (ob_v rfl rfl (r_eql (vq 0 rfl) has_num)) (oc (ob_v rfl rfl (r_move (vq 1 rfl))) (oc (ob_gd rfl rfl rfl (vq 2 rfl) nq (fun hg => r_move (gq 2 rfl))) (oc (ob_gd rfl rfl rfl (vq 2 rfl) nq (fun hg => r_eql (has_wh (vq 3 rfl) hg) has_num)) (oc (ob_v rfl rfl (r_and (vq 2 rfl) (vq 4 rfl))) (oc (ob_v rfl rfl (r_move (vq 5 rfl))) (oc (ob_gd rfl rfl rfl (vq 6 rfl) nq (fun hg => r_move (gq 3 rfl))) (oc (ob_gd rfl rfl rfl (vq 6 rfl) nq (fun hg => r_eql (has_wh (vq 7 rfl) hg) has_num)) (oc (ob_v rfl rfl (r_and (vq 6 rfl) (vq 8 rfl))) (oc (ob_v rfl rfl (r_move (vq 9 rfl))) (oc (ob_gd rfl rfl rfl (vq 10 rfl) nq (fun hg => r_load (lz0 3 rfl) ty_26)) (oc (ob_gd rfl rfl rfl (vq 10 rfl) nq (fun hg => r_load (lz0 1 rfl) ty_26)) (oc (ob_gd rfl rfl rfl (vq 10 rfl) nq (fun hg => r_call (xs := [.tmp 55, .tmp 56]) (sameFrac_c _ _) (.cons (has_wh (vq 11 rfl) hg) (.cons (has_wh (vq 12 rfl) hg) .nil)))) (oc (ob_v rfl rfl (r_and (vq 10 rfl) (vq 13 rfl))) (oc (ob_v rfl rfl (r_move (vq 14 rfl))) (oc (ob_gd rfl rfl rfl (vq 15 rfl) nq (fun hg => r_load (lz0 4 rfl) ty_26)) (oc (ob_gd rfl rfl rfl (vq 15 rfl) nq (fun hg => r_load (lz0 2 rfl) ty_26)) (oc (ob_gd rfl rfl rfl (vq 15 rfl) nq (fun hg => r_call (xs := [.tmp 60, .tmp 61]) (sameFrac_c _ _) (.cons (has_wh (vq 16 rfl) hg) (.cons (has_wh (vq 17 rfl) hg) .nil)))) (oc (ob_v rfl rfl (r_and (vq 15 rfl) (vq 18 rfl))) (oc (ob_v rfl rfl (r_move (vq 19 rfl))) (oc (ob_ag rfl rfl rfl (vq 20 rfl) nq (fun hg => a_fld (lz0 6 rfl) fld_38_0)) (oc (ob_gd rfl rfl rfl (vq 20 rfl) nq (fun hg => r_loadf 21 rfl (by kernel_rfl) hg (lz0 6 rfl) (Sub.part 0 rfl rfl) ty_36)) (oc (ob_gd rfl rfl rfl (vq 20 rfl) nq (fun hg => r_call (xs := [.const (.int .i64 (1)), .const (.int .i64 (0))]) (of_g (by decide) (by decide) (by decide) (by decide)) (.cons has_num (.cons has_num .nil)))) (oc (ob_gd rfl rfl rfl (vq 20 rfl) nq (fun hg => r_call (xs := [.tmp 66, .tmp 67]) (sameGauss_c _ _) (.cons (has_wh (vq 22 rfl) hg) (.cons (has_wh (vq 23 rfl) hg) .nil)))) (oc (ob_v rfl rfl (r_and (vq 20 rfl) (vq 24 rfl))) (oc (ob_v rfl rfl (r_move (vq 25 rfl))) (oc (ob_ag rfl rfl rfl (vq 26 rfl) nq (fun hg => a_fld (lz0 6 rfl) fld_38_1)) (oc (ob_gd rfl rfl rfl (vq 26 rfl) nq (fun hg => r_loadf 27 rfl (by kernel_rfl) hg (lz0 6 rfl) (Sub.part 1 rfl rfl) ty_36)) (oc (ob_gd rfl rfl rfl (vq 26 rfl) nq (fun hg => r_call (xs := [.const (.int .i64 (0)), .const (.int .i64 (0))]) (of_g (by decide) (by decide) (by decide) (by decide)) (.cons has_num (.cons has_num .nil)))) (oc (ob_gd rfl rfl rfl (vq 26 rfl) nq (fun hg => r_call (xs := [.tmp 72, .tmp 73]) (sameGauss_c _ _) (.cons (has_wh (vq 28 rfl) hg) (.cons (has_wh (vq 29 rfl) hg) .nil)))) (oc (ob_v rfl rfl (r_and (vq 26 rfl) (vq 30 rfl))) (oc (ob_v rfl rfl (r_assign (vq 31 rfl))) o0))))))))))))))))))))))))))))))))) (by kernel_rfl) (by kernel_rfl) (by kernel_rfl) (by kernel_rfl) (fun a w hst => ?_)
  have hst : St B w0 76 [(0, _)] [⟨1, 26, ptrH, _⟩, ⟨3, 26, ptrH, _⟩, ⟨5, 26, ptrH, _⟩, ⟨7, 26, ptrH, _⟩, ⟨8, 26, ptrH, _⟩, ⟨10, 38, ptrH, _⟩, ⟨12, 38, ptrH, _⟩] a w := hst
  refine thn_normal ?_
  refine wp_ret ?_
  refine ret_wk ?_ (ret_tmp rfl hst (List.mem_of_getElem? (i := 0) rfl))
  exact wk_eq (congrArg Bo (by kernel_rfl))

end Go.Proofs.YtaplgnjnhfljnaaGreat
