/- Contract of film.Waves; the film the other way round; ends without a film. -/
import Derived.Test.YtgjolcbehcjhcaaFilF
namespace Go.Proofs.Ytgjolcbehcjhcaa
open Go Go.RowKit
namespace FilG
theorem sl_184 : Sl Try.prog 184 80 8 := ⟨by kernel_rfl, by kernel_rfl⟩
theorem ty_152 : Ty Try.prog 152 24 true := ⟨by kernel_rfl, by kernel_rfl⟩
theorem ty_26 : Ty Try.prog 26 4 true := ⟨by kernel_rfl, by kernel_rfl⟩
theorem ty_80 : Ty Try.prog 80 8 true := ⟨by kernel_rfl, by kernel_rfl⟩
end FilG
open FilG
def wvF (h g : RF) (xs : List RR) : RG × RG × Int := if (overF h g xs).2 = 0 then (if [(backV (filmQ xs) (toQ h) (toQ g)), (thrV (filmQ xs) (toQ h) (toQ g))].any longG then (rg0, rg0, 4) else (rgOf (backV (filmQ xs) (toQ h) (toQ g)), rgOf (thrV (filmQ xs) (toQ h) (toQ g)), 0)) else (rg0, rg0, (overF h g xs).2)
abbrev WvR (r : RG × RG × Int) : VA := Tu [(RGA r.1).va, (RGA r.2.1).va, In r.2.2]

set_option maxRecDepth 100000 in
set_option maxHeartbeats 2000000 in
theorem wavesF_c (h g : RF) (xs : List RR) : Cn Try.prog 58 [(RFA h).va, (RFA g).va, (SlA 96 [U32] (xs.map RRA)).va] (WvR (wvF h g xs)) := by
  refine Cn.introF Try.func58 rfl (by kernel_rfl) nq (fun B w0 a hF hst => ?_)
  have hst : St B w0 39 [(0, (RFA h).va), (1, (RFA g).va), (2, (SlA 96 [U32] (xs.map RRA)).va)] [] a w0.w := hst
  obtain ⟨v2, hv2, hst⟩ := St.eqv hst 2 rfl
  refine wp_seq ?_
  refine gl (sts := []) (news := [⟨3, 26, ptrH, some 0, _, none⟩, ⟨4, 26, ptrH, some 1, _, none⟩, ⟨6, 80, ptrH, some 2, _, none⟩, ⟨7, 80, ptrH, some 3, _, none⟩]) (sp := [.alc 0, .alc 1, .alc 2, .alc 3, .val 8 _]) [.g 2, .o 4] hst (oc (ob_box rfl rfl rfl (gq 0 rfl)) (oc (ob_box rfl rfl rfl (gq 1 rfl)) (oc (ob_alc rfl rfl rfl (Str.zero str_gauss)) (oc (ob_alc rfl rfl rfl (Str.zero str_gauss)) (oc (ob_v rfl rfl (r_assign has_num)) o0))))) (fun a w hst => ?_)
  have hst : St B w0 39 [(2, _), (8, _)] [⟨3, 26, ptrH, _⟩, ⟨4, 26, ptrH, _⟩, ⟨6, 80, ptrH, _⟩, ⟨7, 80, ptrH, _⟩] a w := hst
  refine thn_normal ?_
  refine wp_seq ?_
  refine gl (sts := [none, none, none, none]) (news := [⟨9, 152, ptrH, some 7, _, some (8, _)⟩]) (sp := [.val 12 _, .val 13 _, .val 14 _, .val 15 _, .val 11 _, .val 16 _, .val 17 _, .alc 4, .sto 4, .val 8 _]) [.o 9] hst (oc (ob_v rfl rfl (r_load (lz0 0 rfl) ty_26)) (oc (ob_v rfl rfl (r_load (lz0 1 rfl) ty_26)) (oc (ob_v rfl rfl (r_move (gq 0 rfl))) (oc (ob_v rfl rfl (r_call (xs := [.tmp 12, .tmp 13, .tmp 14]) (over_c h g xs) (.cons (vq 0 rfl) (.cons (vq 1 rfl) (.cons (has_again hF hv2 (vq 2 rfl)) .nil))))) (oc (ob_v rfl rfl (r_move (vq 3 rfl))) (oc (ob_v rfl rfl (r_ex0 (vq 4 rfl))) (oc (ob_v rfl rfl (r_ex1 (vq 4 rfl))) (oc (ob_alc rfl rfl rfl (Str.zero str_light)) (oc (ob_sto rfl rfl rfl (vq 5 rfl) ty_152 (Eq.trans (b := 24) rfl rfl)) (oc (ob_v rfl rfl (r_assign (vq 6 rfl))) o0)))))))))) (fun a w hst => ?_)
  have hst : St B w0 39 [(8, _)] [⟨3, 26, ptrH, _⟩, ⟨4, 26, ptrH, _⟩, ⟨6, 80, ptrH, _⟩, ⟨7, 80, ptrH, _⟩, ⟨9, 152, ptrH, _⟩] a w := hst
  refine thn_normal ?_
  refine wp_seq ?_
  refine wp_seq ?_
  refine gl (sts := [none, none, none, none, none]) (news := []) (sp := [.val 18 _, .val 19 _]) [.g 0, .o 1] hst (oc (ob_v rfl rfl (r_move (gq 0 rfl))) (oc (ob_v rfl rfl (r_neq (vq 0 rfl) has_num)) o0)) (fun a w hst => ?_)
  have hst : St B w0 39 [(8, _), (19, _)] [⟨3, 26, ptrH, _⟩, ⟨4, 26, ptrH, _⟩, ⟨6, 80, ptrH, _⟩, ⟨7, 80, ptrH, _⟩, ⟨9, 152, ptrH, _⟩] a w := hst
  refine thn_normal ?_
  refine cond_of hst (List.mem_of_getElem? (i := 1) rfl) (fun hb0 => ?_) (fun hb0 => ?_)
  · have hc : ¬ (overF h g xs).2 = 0 := by simpa using hb0
    refine wp_seq ?_
    refine gl (sts := [none, none, some (3, _), some (4, _), none]) (news := []) (sp := [.val 20 _, .val 21 _, .val 22 _, .sto 2, .sto 3, .val 8 _]) [.o 5] hst (oc (ob_v rfl rfl (r_build (xs := []) (qs := []) str_gauss .nil)) (oc (ob_v rfl rfl (r_build (xs := []) (qs := []) str_gauss .nil)) (oc (ob_v rfl rfl (r_move (gq 0 rfl))) (oc (ob_sto rfl rfl rfl (vq 0 rfl) ty_80 (Eq.trans (b := 8) rfl rfl)) (oc (ob_sto rfl rfl rfl (vq 1 rfl) ty_80 (Eq.trans (b := 8) rfl rfl)) (oc (ob_v rfl rfl (r_assign (vq 2 rfl))) o0)))))) (fun a w hst => ?_)
    have hst : St B w0 39 [(8, _)] [⟨3, 26, ptrH, _⟩, ⟨4, 26, ptrH, _⟩, ⟨6, 80, ptrH, _⟩, ⟨7, 80, ptrH, _⟩, ⟨9, 152, ptrH, _⟩] a w := hst
    refine thn_normal ?_
    refine wp_ret ?_
    refine thn_ret ?_
    refine ret_wk ?_ (ret_many (rs := [.cell 6 80, .cell 7 80, .tmp 8]) rfl hst (.cell (List.mem_of_getElem? (i := 2) rfl) ty_80 (.cell (List.mem_of_getElem? (i := 3) rfl) ty_80 (.tmp (List.mem_of_getElem? (i := 0) rfl) .nil))) (by decide))
    rw [wvF, if_neg hc]; exact wk_id
  · have hc : (overF h g xs).2 = 0 := by simpa using hb0
    have hn := pw_n hc
    have hst := St.wkL (A := LtA (overF h g xs).1) (A' := QLtA 1048705 2048 2048 (filmQ xs) (toQ h) (toQ g)) hst 4 rfl (pw_lt hc)
    refine wp_skip ?_
    refine thn_normal ?_
    refine wp_seq ?_
    refine gl (sts := [none, none, some (5, _), some (6, _), none]) (news := []) (sp := [.val 24 _, .val 25 _, .val 23 _, .val 26 _, .val 27 _, .sto 2, .sto 3]) [.g 0] hst (oc (ob_v rfl rfl (r_load (lz0 4 rfl) ty_152)) (oc (ob_v rfl rfl (r_call (xs := [.tmp 24]) (waves_q (m := filmQ xs) (h := toQ h) (g := toQ g) hn) (.cons (vq 0 rfl) .nil))) (oc (ob_v rfl rfl (r_move (vq 1 rfl))) (oc (ob_v rfl rfl (r_ex0 (vq 2 rfl))) (oc (ob_v rfl rfl (r_ex1 (vq 2 rfl))) (oc (ob_sto rfl rfl rfl (vq 3 rfl) ty_80 (Eq.trans (b := 8) rfl rfl)) (oc (ob_sto rfl rfl rfl (vq 4 rfl) ty_80 (Eq.trans (b := 8) rfl rfl)) o0))))))) (fun a w hst => ?_)
    have hst : St B w0 39 [(8, _)] [⟨3, 26, ptrH, _⟩, ⟨4, 26, ptrH, _⟩, ⟨6, 80, ptrH, _⟩, ⟨7, 80, ptrH, _⟩, ⟨9, 152, ptrH, _⟩] a w := hst
    refine thn_normal ?_
    refine wp_seq ?_
    refine wp_seq ?_
    refine gl (sts := [none, none, none, none, none]) (news := []) (sp := [.val 28 _, .val 29 _, .val 30 _, .val 31 _, .val 10 _]) [.g 0, .o 4] hst (oc (ob_v rfl rfl (r_load (lz0 2 rfl) ty_80)) (oc (ob_v rfl rfl (r_load (lz0 3 rfl) ty_80)) (oc (ob_v rfl rfl (r_slice (D := [U32]) (l := [_, _]) (xs := [.tmp 28, .tmp 29]) (nd_ok (by kernel_rfl)) sl_184 (by kernel_rfl) (n_ok (by kernel_rfl)) nq nq nq (.cons (vq 0 rfl) (.cons (vq 1 rfl) .nil)) rfl rfl)) (oc (ob_v rfl rfl (r_call (xs := [.tmp 30]) (argAnswer_q [(backV (filmQ xs) (toQ h) (toQ g)), (thrV (filmQ xs) (toQ h) (toQ g))] (.cons ⟨_, rfl⟩ (.cons ⟨_, rfl⟩ .nil)) nq) (.cons (vq 2 rfl) .nil))) (oc (ob_v rfl rfl (r_assign (vq 3 rfl))) o0))))) (fun a w hst => ?_)
    have hst : St B w0 39 [(8, _), (10, _)] [⟨3, 26, ptrH, _⟩, ⟨4, 26, ptrH, _⟩, ⟨6, 80, ptrH, _⟩, ⟨7, 80, ptrH, _⟩, ⟨9, 152, ptrH, _⟩] a w := hst
    refine thn_normal ?_
    refine wp_seq ?_
    refine gl (sts := [none, none, none, none, none]) (news := []) (sp := [.val 32 _, .val 33 _]) [.g 0, .g 1, .o 1] hst (oc (ob_v rfl rfl (r_move (gq 1 rfl))) (oc (ob_v rfl rfl (r_neq (vq 0 rfl) has_num)) o0)) (fun a w hst => ?_)
    have hst : St B w0 39 [(8, _), (10, _), (33, _)] [⟨3, 26, ptrH, _⟩, ⟨4, 26, ptrH, _⟩, ⟨6, 80, ptrH, _⟩, ⟨7, 80, ptrH, _⟩, ⟨9, 152, ptrH, _⟩] a w := hst
    refine thn_normal ?_
    refine cond_of hst (List.mem_of_getElem? (i := 2) rfl) (fun hb1 => ?_) (fun hb1 => ?_)
    · have hl := ne_any hb1
      refine wp_seq ?_
      refine gl (sts := [none, none, some (3, _), some (4, _), none]) (news := []) (sp := [.val 34 _, .val 35 _, .val 36 _, .sto 2, .sto 3, .val 8 _]) [.o 5] hst (oc (ob_v rfl rfl (r_build (xs := []) (qs := []) str_gauss .nil)) (oc (ob_v rfl rfl (r_build (xs := []) (qs := []) str_gauss .nil)) (oc (ob_v rfl rfl (r_move (gq 1 rfl))) (oc (ob_sto rfl rfl rfl (vq 0 rfl) ty_80 (Eq.trans (b := 8) rfl rfl)) (oc (ob_sto rfl rfl rfl (vq 1 rfl) ty_80 (Eq.trans (b := 8) rfl rfl)) (oc (ob_v rfl rfl (r_assign (vq 2 rfl))) o0)))))) (fun a w hst => ?_)
      have hst : St B w0 39 [(8, _)] [⟨3, 26, ptrH, _⟩, ⟨4, 26, ptrH, _⟩, ⟨6, 80, ptrH, _⟩, ⟨7, 80, ptrH, _⟩, ⟨9, 152, ptrH, _⟩] a w := hst
      refine thn_normal ?_
      refine wp_ret ?_
      refine thn_ret ?_
      refine ret_wk ?_ (ret_many (rs := [.cell 6 80, .cell 7 80, .tmp 8]) rfl hst (.cell (List.mem_of_getElem? (i := 2) rfl) ty_80 (.cell (List.mem_of_getElem? (i := 3) rfl) ty_80 (.tmp (List.mem_of_getElem? (i := 0) rfl) .nil))) (by decide))
      have e : wvF h g xs = (rg0, rg0, 4) := by rw [wvF, if_pos hc, if_pos hl]
      rw [e]; exact tu3w wk_id wk_id (wk_eq (by rw [hl]; rfl))
    · have hl := ne_none hb1
      refine wp_skip ?_
      refine thn_normal ?_
      refine wp_seq ?_
      refine go_draw (anc := [[], [], [0], [0, 1, 2], [0, 1, 2, 3]]) (sts := [none, none, some (2, _), some (3, _), none]) (news := []) (sp := [.val 37 _, .val 38 _, .sto 2, .sto 3, .val 8 _]) [.o 4] follows_mixed hst (oc (ob_v rfl rfl (r_load (lz0 2 rfl) ty_80)) (oc (ob_v rfl rfl (r_load (lz0 3 rfl) ty_80)) (oc (ob_sto rfl rfl rfl (vq 0 rfl) ty_80 (Eq.trans (b := 8) rfl rfl)) (oc (ob_sto rfl rfl rfl (vq 1 rfl) ty_80 (Eq.trans (b := 8) rfl rfl)) (oc (ob_v rfl rfl (r_assign has_num)) o0))))) (by kernel_rfl) (by kernel_rfl) (by kernel_rfl) (by kernel_rfl) (fun a w hst => ?_)
      have hst : St B w0 39 [(8, _)] [⟨3, 26, ptrH, _⟩, ⟨4, 26, ptrH, _⟩, ⟨6, 80, ptrH, _⟩, ⟨7, 80, ptrH, _⟩, ⟨9, 152, ptrH, _⟩] a w := hst
      refine thn_normal ?_
      refine wp_ret ?_
      refine ret_wk ?_ (ret_many (rs := [.cell 6 80, .cell 7 80, .tmp 8]) rfl hst (.cell (List.mem_of_getElem? (i := 2) rfl) ty_80 (.cell (List.mem_of_getElem? (i := 3) rfl) ty_80 (.tmp (List.mem_of_getElem? (i := 0) rfl) .nil))) (by decide))
      have e : wvF h g xs = (rgOf (backV (filmQ xs) (toQ h) (toQ g)), rgOf (thrV (filmQ xs) (toQ h) (toQ g)), 0) := by rw [wvF, if_pos hc, if_neg (by rw [hl]; decide)]
      rw [e]; exact tu3w qgA.va qgA.va wk_id

/-! the other way round -/
def swQ (m : MQ) : MQ := ⟨m.d, m.b, m.c, m.a⟩
theorem sw_then (m n : MQ) : swQ (thenQ m n) = thenQ (swQ n) (swQ m) := by
  unfold swQ thenQ
  simp only [MQ.mk.injEq]
  exact ⟨by grind, by grind, by grind, by grind⟩
theorem film_rev (xs : List RR) : filmQ xs.reverse = swQ (filmQ xs) := by
  induction xs with
  | nil => rfl
  | cons x xs ih =>
    have e : swQ (shM x) = shM x := rfl
    rw [List.reverse_cons, film_app, film_cons x xs, sw_then, ih, film_cons x [], e]
    show thenQ _ (thenQ (shM x) ⟨1, 0, 0, 1⟩) = _
    rw [then_one]
theorem rV_sw (m : MQ) (h g : Rat) : rV (swQ m) g h = rV m h g := by
  have e1 : normG (sV (swQ m) g h) = normG (sV m h g) := by
    unfold normG sV addG bV kV swQ
    grind
  have e2 : normG (subG (bV (swQ m) g h) (kV (swQ m) g h)) = normG (subG (bV m h g) (kV m h g)) := by
    unfold normG subG bV kV swQ
    grind
  unfold rV
  rw [e1, e2]
theorem may_rev (xs : List RR) : mayS xs.reverse = mayS xs := by
  unfold mayS
  rw [List.length_reverse, List.all_reverse]
theorem over_rev (h g : RF) (xs : List RR) : (overF g h xs.reverse).2 = (overF h g xs).2 := by
  unfold overF
  rw [may_rev, Bool.and_comm]
  cases okP h && okP g with
  | false => rfl
  | true =>
    by_cases h1 : mayS xs = 0
    · rw [if_pos rfl, if_pos rfl, if_pos h1, if_pos h1]
    · rw [if_pos rfl, if_pos rfl, if_neg h1, if_neg h1]
theorem pw_eB {h g : RF} {xs : List RR} (l : longQ (rV (filmQ xs) (toQ h) (toQ g)) = false ∧ longQ (1 - (rV (filmQ xs) (toQ h) (toQ g))) = false) (ho : (overF h g xs).2 = 0) : pwF h g xs = (rfOf (rV (filmQ xs) (toQ h) (toQ g)), rfOf (1 - (rV (filmQ xs) (toQ h) (toQ g))), 0) := by
  unfold pwF
  rw [if_pos ho]
  simp only [List.any_cons, List.any_nil, Bool.or_false, l.1, l.2]
  rfl
theorem pw_n0 {h g : RF} {xs : List RR} (ho : ¬ (overF h g xs).2 = 0) : (pwF h g xs).2.2 = (overF h g xs).2 := by unfold pwF; rw [if_neg ho]
theorem pw_rev {h g : RF} {xs : List RR} (hs : sm18 xs [h, g] = true) (ho : (overF h g xs).2 = 0) : pwF h g xs = (rfOf (rV (filmQ xs) (toQ h) (toQ g)), rfOf (1 - (rV (filmQ xs) (toQ h) (toQ g))), 0) ∧ pwF g h xs.reverse = (rfOf (rV (filmQ xs) (toQ h) (toQ g)), rfOf (1 - (rV (filmQ xs) (toQ h) (toQ g))), 0) := by
  have l := r_short hs ho
  have e : rV (filmQ xs.reverse) (toQ g) (toQ h) = (rV (filmQ xs) (toQ h) (toQ g)) := by rw [film_rev, rV_sw]
  refine ⟨pw_eB l ho, ?_⟩
  have h2 := pw_eB (h := g) (g := h) (xs := xs.reverse) (by rw [e]; exact l) (by rw [over_rev]; exact ho)
  rwa [e] at h2
theorem rev_no {h g : RF} {xs : List RR} (hs : sm18 xs [h, g] = true) : ((pwF h g xs).2.2 == (pwF g h xs.reverse).2.2) = true := by
  by_cases ho : (overF h g xs).2 = 0
  · obtain ⟨h1, h2⟩ := pw_rev hs ho
    rw [h1, h2]
    exact beq_self_eq_true _
  · have ho' : ¬ (overF g h xs.reverse).2 = 0 := by rw [over_rev]; exact ho
    rw [pw_n0 ho, pw_n0 ho', over_rev]
    exact beq_self_eq_true _
theorem rev_yes {h g : RF} {xs : List RR} (e : (((pwF h g xs).2.2 != 0) || ((pwF g h xs.reverse).2.2 != 0)) = false) : (overF h g xs).2 = 0 := Decidable.byContradiction fun ho => by
  rw [pw_n0 ho, Bool.or_eq_false_iff] at e
  simp only [bne_eq_false_iff_eq] at e
  exact ho e.1
/-! ends without a film -/
theorem ends_b {h g : Rat} (h0 : h + g ≠ 0) : backV (filmQ []) h g = ⟨(h - g) / (h + g), 0⟩ ∧ thrV (filmQ []) h g = ⟨(h + h) / (h + g), 0⟩ := by
  have e : filmQ [] = ⟨1, 0, 0, 1⟩ := rfl
  have hh : (h * 1 + 1 * g) * (h * 1 + 1 * g) + (h * (0 * g) + 0) * (h * (0 * g) + 0) ≠ 0 := fun h2 => by
    have e2 : (h * 1 + 1 * g) * (h * 1 + 1 * g) + (h * (0 * g) + 0) * (h * (0 * g) + 0) = (h + g) * (h + g) := by grind
    rw [e2] at h2
    rcases Rat.mul_eq_zero.1 h2 with h3 | h3 <;> exact h0 h3
  rw [e]
  unfold backV thrV overG sclG mulG conjG normG sV addG subG bV kV
  simp only [GQ.mk.injEq]
  exact ⟨⟨by grind, by grind⟩, ⟨by grind, by grind⟩⟩
theorem ends_ok {h g : RF} {xs : List RR} (hs : sm18 xs [h, g] = true) (ho : (overF h g xs).2 = 0) : wvF h g [] = (rgOf ⟨(toQ h - toQ g) / (toQ h + toQ g), 0⟩, rgOf ⟨(toQ h + toQ h) / (toQ h + toQ g), 0⟩, 0) ∧ subF h g = (rfOf (toQ h - toQ g), 0) ∧ addF h g = (rfOf (toQ h + toQ g), 0) ∧ quoF (rfOf (toQ h - toQ g)) (rfOf (toQ h + toQ g)) = (rfOf ((toQ h - toQ g) / (toQ h + toQ g)), 0) := by
  obtain ⟨h1, h2, h3, _⟩ := ov_ok ho
  have hsm := sm_in hs (may_ok h3).2 (okP_q h1).1 (okP_q h2).1
  have hp := (okP_q h1).2
  have hp2 := (okP_q h2).2
  have h0 : toQ h + toQ g ≠ 0 := Rat.ne_of_gt (by grind)
  have a1 := bQ_add (bQ_sz (toQ h)) (bQ_sz (toQ g))
  have a2 : bQ (szQ (toQ h) + szQ (toQ g) + 1) (toQ h - toQ g) := by
    have := bQ_add (bQ_sz (toQ h)) (bQ_min (bQ_sz (toQ g)))
    have e : toQ h + (0 - toQ g) = toQ h - toQ g := by grind
    rwa [e] at this
  have a3 := bQ_add (bQ_sz (toQ h)) (bQ_sz (toQ h))
  have d1 := bQ_div a2 a1 h0
  have d2 := bQ_div a3 a1 h0
  obtain ⟨e1, e2⟩ := ends_b h0
  have hov : (overF h g []).2 = 0 := by
    unfold overF
    rw [h1, h2]
    rfl
  have x1 := (okP_q h1).1
  have x2 := (okP_q h2).1
  refine ⟨?_, ?_, ?_, ?_⟩
  · unfold wvF
    rw [if_pos hov, e1, e2]
    have l : [(⟨(toQ h - toQ g) / (toQ h + toQ g), 0⟩ : GQ), ⟨(toQ h + toQ h) / (toQ h + toQ g), 0⟩].any longG = false := by
      simp only [List.any_cons, List.any_nil, longG, bQ_long d1 (by omega), bQ_long d2 (by omega), long_zero, Bool.or_false]
    rw [l]
    rfl
  · unfold subF doF
    rw [x1, x2]
    exact ansF_ok (longQ_false.1 (bQ_long a2 (by omega)))
  · unfold addF doF
    rw [x1, x2]
    exact ansF_ok (longQ_false.1 (bQ_long a1 (by omega)))
  · unfold quoF doF
    rw [okX_of, okX_of, bQ_long a2 (by omega), bQ_long a1 (by omega), toQ_of, toQ_of, quoOp, if_neg h0]
    exact ansF_ok (longQ_false.1 (bQ_long d1 (by omega)))
theorem app_sh : ∃ it z, Try.prog.info? 96 = some it ∧ it.zero = some z ∧ it.size = 8 ∧ it.bytes = 128 ∧ z.cells.size = 8 := by
  have h : ((Try.prog.info? 96).bind fun it => it.zero.map fun z => (it.size, it.bytes, z.cells.size)) = some (8, 128, 8) := by kernel_rfl
  cases hi : Try.prog.info? 96 with
  | none => rw [hi] at h; simp at h
  | some it =>
    rw [hi] at h
    cases hz : it.zero with
    | none => simp [hz] at h
    | some z =>
      simp [hz] at h
      exact ⟨it, z, rfl, hz, h.1, h.2.1, h.2.2⟩
theorem rev_nx {xs : List RR} {j : Nat} (h : j < xs.length) (h2 : xs.length - 1 - j < xs.length) : (xs.reverse.take j).map RRA ++ [RRA xs[xs.length - 1 - j]] = (xs.reverse.take (j + 1)).map RRA := by
  rw [List.take_succ_eq_append_getElem (by rw [List.length_reverse]; exact h), List.map_append, List.getElem_reverse]
  rfl

end Go.Proofs.Ytgjolcbehcjhcaa
