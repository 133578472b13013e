/- FilmEnergy: for all ends and sheets the law of chapter 18 on what is thrown back and what goes through answers true. No condition. -/
import Derived.Test.YtgjolcbehcjhcaaFilF
import Derived.Test.YtgjolcbehcjhcaaMatC
import Derived.Test.YtgjolcbehcjhcaaRows
import Derived.WalkKit
import Derived.ProofKit
import Derived.OpenShut
import Derived.ShutString
import Derived.ChangeOld
import Derived.Below
namespace Go.Proofs.Ytgjolcbehcjhcaa
open Go Go.RowKit
namespace LFilmEnergy
theorem fld_82_0 : Fld Try.prog 82 0 0 8 := ⟨_, _, Try.underlying82, rfl, rfl, by kernel_rfl, by decide⟩
theorem fld_82_1 : Fld Try.prog 82 1 8 8 := ⟨_, _, Try.underlying82, rfl, rfl, by kernel_rfl, by decide⟩
theorem fld_82_2 : Fld Try.prog 82 2 16 8 := ⟨_, _, Try.underlying82, rfl, rfl, by kernel_rfl, by decide⟩
theorem fld_82_3 : Fld Try.prog 82 3 24 8 := ⟨_, _, Try.underlying82, rfl, rfl, by kernel_rfl, by decide⟩
theorem sl_111 : Sl Try.prog 111 26 4 := ⟨by kernel_rfl, by kernel_rfl⟩
theorem ty_26 : Ty Try.prog 26 4 true := ⟨by kernel_rfl, by kernel_rfl⟩
theorem ty_80 : Ty Try.prog 80 8 true := ⟨by kernel_rfl, by kernel_rfl⟩
theorem ty_82 : Ty Try.prog 82 32 true := ⟨by kernel_rfl, by kernel_rfl⟩
end LFilmEnergy
open LFilmEnergy
theorem nd_self {A : As} {D : List TypeId} (h : (A.deps.all fun T => D.contains T) = true) : ∀ T ∈ A.deps, T ∈ D := fun T hT => by
  have := List.all_eq_true.1 h T hT
  simpa using this
theorem bo_and {c : Bool} (h : c = true) : Wk (Bo (c && true)) (Bo true) := by subst h; exact wk_id
theorem stk_ok {xs : List RR} (e : (stkF xs).2 = 0) : mayS xs = 0 ∧ stkF xs = (qdOf (filmQ xs), 0) ∧ longQ (filmQ xs).a = false ∧ longQ (filmQ xs).b = false ∧ longQ (filmQ xs).c = false ∧ longQ (filmQ xs).d = false := by
  unfold stkF at e ⊢
  by_cases h : mayS xs = 0
  · rw [if_pos h] at e ⊢
    cases hl : [(filmQ xs).a, (filmQ xs).b, (filmQ xs).c, (filmQ xs).d].any longQ with
    | true => rw [qd_any hl] at e; exact absurd e (by decide)
    | false =>
      rw [qd_none hl]
      simp only [List.any_cons, List.any_nil, Bool.or_false, Bool.or_eq_false_iff] at hl
      exact ⟨h, rfl, hl⟩
  · rw [if_neg h] at e
    exact absurd e h
theorem okX_l {r : Rat} (h : longQ r = false) : okX (rfOf r) = true := by rw [okX_of, h]; rfl
theorem det_e {m : MQ} (hd : dtp m = 1) (ha : longQ m.a = false) (hb : longQ m.b = false) (hc : longQ m.c = false) (hd' : longQ m.d = false) : dtF (qdOf m) = (rgOf ⟨1, 0⟩, 0) := by
  have h0 : okX (rfOf 0) = true := okX_l long_zero
  have e1 : okQ4 (qdOf m) = true := by
    unfold okQ4 qdOf rgOf
    simp only [List.all_cons, List.all_nil, okX_l ha, okX_l hb, okX_l hc, okX_l hd', h0, Bool.and_self, Bool.not_true, Bool.or_self, Bool.not_false]
  have e2 : detG (qdOf m) = ⟨1, 0⟩ := by
    unfold detG qdOf rgOf toG subG mulG
    simp only [toQ_of, GQ.mk.injEq]
    unfold dtp at hd
    exact ⟨by grind, by grind⟩
  unfold dtF ansG
  rw [if_pos e1, e2]
  have e3 : longG ⟨1, 0⟩ = false := by
    unfold longG
    simp only [List.any_cons, List.any_nil, Bool.or_false, long_one, long_zero]
  rw [if_neg (by rw [e3]; decide)]
theorem det_l {m : MQ} (hd : dtp m = 1) (ha : longQ m.a = false) (hb : longQ m.b = false) (hc : longQ m.c = false) (hd' : longQ m.d = false) : Cn Try.prog 48 [(RQA (qdOf m)).va] (GR (rgOf ⟨1, 0⟩, 0)) := (det_c (qdOf m)).post (congrArg GR (det_e hd ha hb hc hd'))
theorem en_no {m : MQ} (h : (((((((0 : Int) != 0) || (!decide (rgOf ⟨1, 0⟩ = rgOf ⟨Rat.divInt 1 1, Rat.divInt 0 1⟩))) || (!(sgF (qdOf m).a.im == 0))) || (!(sgF (qdOf m).d.im == 0))) || (!(sgF (qdOf m).b.re == 0))) || (!(sgF (qdOf m).c.re == 0))) = true) : False := by
  have e0 : sgF (rfOf 0) = 0 := by kernel_rfl
  have e1 : (rgOf ⟨1, 0⟩ : RG) = rgOf ⟨Rat.divInt 1 1, Rat.divInt 0 1⟩ := rfl
  have a1 : (qdOf m).a.im = rfOf 0 := rfl
  have a2 : (qdOf m).d.im = rfOf 0 := rfl
  have a3 : (qdOf m).b.re = rfOf 0 := rfl
  have a4 : (qdOf m).c.re = rfOf 0 := rfl
  rw [decide_eq_true e1, a1, a2, a3, a4, e0] at h
  exact absurd h (by decide)
theorem pw_e {h g : RF} {xs : List RR} (hs : sm18 xs [h, g] = true) (ho : (overF h g xs).2 = 0) : pwF h g xs = (rfOf (rV (filmQ xs) (toQ h) (toQ g)), rfOf (1 - (rV (filmQ xs) (toQ h) (toQ g))), 0) := by
  obtain ⟨l1, l2⟩ := r_short hs ho
  unfold pwF
  rw [if_pos ho]
  simp only [List.any_cons, List.any_nil, Bool.or_false, l1, l2]
  rfl
theorem pw_0 {h g : RF} {xs : List RR} (e : (pwF h g xs).2.2 = 0) : (overF h g xs).2 = 0 := Decidable.byContradiction fun hn => by
  unfold pwF at e
  rw [if_neg hn] at e
  exact hn e
theorem sg_no {x : RF} (h : okP x = false) : (((if okX x then (0 : Int) else 1) != 0) || decide (sgF x ≤ 0)) = true := by
  unfold okP at h
  unfold sgF
  cases hx : okX x with
  | false => rfl
  | true =>
    rw [Bool.not_eq_false', Bool.or_eq_true] at h
    rcases h with h | h
    · simp [hx] at h
    · rw [if_pos rfl, if_pos rfl]
      simpa using of_decide_eq_true h
theorem pw_ref {h g : RF} {xs : List RR} (hs : sm18 xs [h, g] = true) (hm : mayS xs = 0) (e : ((pwF h g xs).2.2 != 0) = true) : ((((pwF h g xs).2.2 == 1)) && ((((((if okX h then (0 : Int) else 1) != 0) || ((if okX g then (0 : Int) else 1) != 0)) || decide (sgF h ≤ 0)) || decide (sgF g ≤ 0)))) = true := by
  have hn : ¬ (overF h g xs).2 = 0 := fun ho => by rw [pw_e hs ho] at e; simp at e
  have e1 : (pwF h g xs).2.2 = (overF h g xs).2 := by unfold pwF; rw [if_neg hn]
  have hp : (okP h && okP g) = false := by
    cases hp : okP h && okP g with
    | false => rfl
    | true => exact absurd (by unfold overF; rw [hp, if_pos rfl, if_pos hm]) hn
  have e2 : (overF h g xs).2 = 1 := by unfold overF; rw [hp]; rfl
  rw [e1, e2]
  cases h1 : okP h with
  | false =>
    have := sg_no h1
    rw [Bool.or_eq_true] at this
    rcases this with t | t <;> rw [t] <;> simp
  | true =>
    rw [h1, Bool.true_and] at hp
    have := sg_no hp
    rw [Bool.or_eq_true] at this
    rcases this with t | t <;> rw [t] <;> simp
theorem add_e {r : Rat} (h1 : longQ r = false) (h2 : longQ (1 - r) = false) : addF (rfOf r) (rfOf (1 - r)) = (rfOf 1, 0) := by
  unfold addF doF
  rw [okX_of, okX_of, h1, h2, toQ_of, toQ_of]
  have e : r + (1 - r) = 1 := by grind
  show ansF (r + (1 - r)) = _
  rw [e]
  exact ansF_ok (longQ_false.1 long_one)
theorem add_l {r : Rat} (h1 : longQ r = false) (h2 : longQ (1 - r) = false) : Cn Try.prog 55 [(RFA (rfOf r)).va, (RFA (rfOf (1 - r))).va] (FrR (rfOf 1, 0)) := (addF_c (rfOf r) (rfOf (1 - r))).post (congrArg FrR (add_e h1 h2))
theorem sg_nn {r : Rat} (hl : longQ r = false) (h : 0 ≤ r) : decide (sgF (rfOf r) ≥ 0) = true := by
  rw [sgF_of hl]
  refine decide_eq_true ?_
  have h2 := Rat.num_nonneg.2 h
  have := Int.sign_nonneg_iff.2 h2
  omega
theorem sg_pp {r : Rat} (hl : longQ r = false) (h : 0 < r) : decide (sgF (rfOf r) > 0) = true := by
  rw [sgF_of hl]
  refine decide_eq_true ?_
  have := sgn_le (x := r)
  exact Decidable.byContradiction fun h2 => (this.1 (by omega)) h
theorem en_end {c d : Bool} (h1 : c = true) (h2 : d = true) : (((((0 : Int) == 0) && decide (rfOf 1 = rfOf (Rat.divInt 1 1))) && c) && d) = true := by
  have e : (rfOf 1 : RF) = rfOf (Rat.divInt 1 1) := rfl
  rw [h1, h2, decide_eq_true e]
  rfl

set_option maxRecDepth 100000 in
set_option maxHeartbeats 4000000 in
theorem energy_w (h g : RF) (xs : List RR) : Cn Try.prog 8 [(RFA h).va, (RFA g).va, (SlA 96 [U32] (xs.map RRA)).va] (Bo true) := by
  refine Cn.introF Try.func8 rfl (by kernel_rfl) nq (fun B w0 a hF hst => ?_)
  have hst : St B w0 132 [(0, (RFA h).va), (1, (RFA g).va), (2, (SlA 96 [U32] (xs.map RRA)).va)] [] a w0.w := hst
  obtain ⟨v2, hv2, hst⟩ := St.eqv hst 2 rfl
  refine wp_seq ?_
  refine gl (sts := []) (news := [⟨3, 26, ptrH, some 0, _, none⟩, ⟨4, 26, ptrH, some 1, _, none⟩]) (sp := [.alc 0, .alc 1, .val 6 _]) [.g 2, .o 2] hst (oc (ob_box rfl rfl rfl (gq 0 rfl)) (oc (ob_box rfl rfl rfl (gq 1 rfl)) (oc (ob_v rfl rfl (r_assign has_bo)) o0))) (fun a w hst => ?_)
  have hst : St B w0 132 [(2, _), (6, _)] [⟨3, 26, ptrH, _⟩, ⟨4, 26, ptrH, _⟩] a w := hst
  refine thn_normal ?_
  refine wp_seq ?_
  refine wp_seq ?_
  refine gl (sts := [none, none]) (news := []) (sp := [.val 15 _, .val 16 _, .val 17 _, .val 18 _, .val 19 _, .val 20 _]) [.g 0, .g 1, .o 5] hst (oc (ob_v rfl rfl (r_move (gq 0 rfl))) (oc (ob_v rfl rfl (r_load (lz0 0 rfl) ty_26)) (oc (ob_v rfl rfl (r_load (lz0 1 rfl) ty_26)) (oc (ob_v rfl rfl (r_slice (D := [U32]) (l := [_, _]) (xs := [.tmp 16, .tmp 17]) (nd_ok (by kernel_rfl)) sl_111 (by kernel_rfl) (n_ok (by kernel_rfl)) nq nq nq (.cons (vq 1 rfl) (.cons (vq 2 rfl) .nil)) rfl rfl)) (oc (ob_v rfl rfl (r_call (xs := [.tmp 15, .tmp 18]) (small18_c xs [_, _]) (.cons (has_again hF hv2 (vq 0 rfl)) (.cons (vq 3 rfl) .nil)))) (oc (ob_v rfl rfl (r_not (vq 4 rfl))) o0)))))) (fun a w hst => ?_)
  have hst : St B w0 132 [(2, _), (6, _), (20, _)] [⟨3, 26, ptrH, _⟩, ⟨4, 26, ptrH, _⟩] a w := hst
  refine thn_normal ?_
  refine cond_of hst (List.mem_of_getElem? (i := 2) rfl) (fun hb0 => ?_) (fun hb0 => ?_)
  · refine wp_seq ?_
    refine gl (sts := [none, none]) (news := []) (sp := [.val 21 _, .val 6 _]) [.g 0, .o 1] hst (oc (ob_v rfl rfl (r_call (xs := []) alive18_c .nil)) (oc (ob_v rfl rfl (r_assign (vq 0 rfl))) o0)) (fun a w hst => ?_)
    have hst : St B w0 132 [(2, _), (6, _)] [⟨3, 26, ptrH, _⟩, ⟨4, 26, ptrH, _⟩] a w := hst
    refine thn_normal ?_
    refine wp_ret ?_
    refine thn_ret ?_
    refine ret_wk ?_ (ret_tmp rfl hst (List.mem_of_getElem? (i := 1) rfl))
    exact wk_id
  · have hs : sm18 xs [h, g] = true := by simpa using hb0
    refine wp_skip ?_
    refine thn_normal ?_
    refine wp_seq ?_
    refine gl (sts := [none, none]) (news := [⟨7, 82, ptrH, some 5, _, some (6, _)⟩]) (sp := [.val 23 _, .val 24 _, .val 22 _, .val 25 _, .val 26 _, .alc 2, .sto 2, .val 8 _]) [.g 0, .g 1, .o 7] hst (oc (ob_v rfl rfl (r_move (gq 0 rfl))) (oc (ob_v rfl rfl (r_call (xs := [.tmp 23]) (stack_c xs) (.cons (has_again hF hv2 (vq 0 rfl)) .nil))) (oc (ob_v rfl rfl (r_move (vq 1 rfl))) (oc (ob_v rfl rfl (r_ex0 (vq 2 rfl))) (oc (ob_v rfl rfl (r_ex1 (vq 2 rfl))) (oc (ob_alc rfl rfl rfl (Str.zero str_quad)) (oc (ob_sto rfl rfl rfl (vq 3 rfl) ty_82 (Eq.trans (b := 32) rfl rfl)) (oc (ob_v rfl rfl (r_assign (vq 4 rfl))) o0)))))))) (fun a w hst => ?_)
    have hst : St B w0 132 [(2, _), (6, _), (8, _)] [⟨3, 26, ptrH, _⟩, ⟨4, 26, ptrH, _⟩, ⟨7, 82, ptrH, _⟩] a w := hst
    refine thn_normal ?_
    refine wp_seq ?_
    refine wp_seq ?_
    refine gl (sts := [none, none, none]) (news := []) (sp := [.val 27 _, .val 28 _]) [.g 0, .g 1, .g 2, .o 1] hst (oc (ob_v rfl rfl (r_move (gq 2 rfl))) (oc (ob_v rfl rfl (r_neq (vq 0 rfl) has_num)) o0)) (fun a w hst => ?_)
    have hst : St B w0 132 [(2, _), (6, _), (8, _), (28, _)] [⟨3, 26, ptrH, _⟩, ⟨4, 26, ptrH, _⟩, ⟨7, 82, ptrH, _⟩] a w := hst
    refine thn_normal ?_
    refine cond_of hst (List.mem_of_getElem? (i := 3) rfl) (fun hb1 => ?_) (fun hb1 => ?_)
    · refine wp_seq ?_
      refine gl (sts := [none, none, none]) (news := []) (sp := [.val 29 _, .val 6 _]) [.g 0, .g 2, .o 1] hst (oc (ob_v rfl rfl (r_call (xs := []) alive18_c .nil)) (oc (ob_v rfl rfl (r_assign (vq 0 rfl))) o0)) (fun a w hst => ?_)
      have hst : St B w0 132 [(2, _), (8, _), (6, _)] [⟨3, 26, ptrH, _⟩, ⟨4, 26, ptrH, _⟩, ⟨7, 82, ptrH, _⟩] a w := hst
      refine thn_normal ?_
      refine wp_ret ?_
      refine thn_ret ?_
      refine ret_wk ?_ (ret_tmp rfl hst (List.mem_of_getElem? (i := 2) rfl))
      exact wk_id
    · have hk := stk_ok (xs := xs) (by simpa using hb1)
      have hst := St.cvA (A' := RQA (qdOf (filmQ xs))) hst 2 rfl (show RQA (stkF xs).1 = RQA (qdOf (filmQ xs)) by rw [hk.2.1])
      refine wp_skip ?_
      refine thn_normal ?_
      refine wp_seq ?_
      refine gl (sts := [none, none, none]) (news := [⟨9, 80, ptrH, some 5, _, some (6, _)⟩]) (sp := [.val 31 _, .val 32 _, .val 30 _, .val 33 _, .val 34 _, .alc 3, .sto 3, .val 8 _]) [.g 0, .g 1, .o 7] hst (oc (ob_v rfl rfl (r_load (lz0 2 rfl) ty_82)) (oc (ob_v rfl rfl (r_call (xs := [.tmp 31]) (det_l (film_det (may_ok hk.1).2) hk.2.2.1 hk.2.2.2.1 hk.2.2.2.2.1 hk.2.2.2.2.2) (.cons (vq 0 rfl) .nil))) (oc (ob_v rfl rfl (r_move (vq 1 rfl))) (oc (ob_v rfl rfl (r_ex0 (vq 2 rfl))) (oc (ob_v rfl rfl (r_ex1 (vq 2 rfl))) (oc (ob_alc rfl rfl rfl (Str.zero str_gauss)) (oc (ob_sto rfl rfl rfl (vq 3 rfl) ty_80 (Eq.trans (b := 8) rfl rfl)) (oc (ob_v rfl rfl (r_assign (vq 4 rfl))) o0)))))))) (fun a w hst => ?_)
      have hst : St B w0 132 [(2, _), (6, _), (8, _)] [⟨3, 26, ptrH, _⟩, ⟨4, 26, ptrH, _⟩, ⟨7, 82, ptrH, _⟩, ⟨9, 80, ptrH, _⟩] a w := hst
      refine thn_normal ?_
      refine wp_seq ?_
      refine wp_seq ?_
      refine go_draw (anc := [[], [0], [0, 1], [0, 1, 2], [0, 1, 2], [0, 1, 2, 3, 4], [0, 1, 2, 3, 4, 5], [0, 1, 2, 3, 4, 5, 6], [0, 1, 2, 3, 4, 5, 6, 7], [0, 1, 2, 3, 4, 5, 6, 7, 8], [0, 1, 2, 3, 4, 5, 6, 7, 8, 9], [0, 1, 2, 3, 4, 5, 6, 7, 8, 9, 10], [0, 1, 2, 3, 4, 5, 6, 7, 8, 9, 10, 11], [0, 1, 2, 3, 4, 5, 6, 7, 8, 9, 10, 11, 12], [0, 1, 2, 3, 4, 5, 6, 7, 8, 9, 10, 11, 12, 13], [0, 1, 2, 3, 4, 5, 6, 7, 8, 9, 10, 11, 12, 13, 14], [0, 1, 2, 3, 4, 5, 6, 7, 8, 9, 10, 11, 12, 13, 14, 15], [0, 1, 2, 3, 4, 5, 6, 7, 8, 9, 10, 11, 12, 13, 14, 15, 16], [0, 1, 2, 3, 4, 5, 6, 7, 8, 9, 10, 11, 12, 13, 14, 15, 16, 17], [0, 1, 2, 3, 4, 5, 6, 7, 8, 9, 10, 11, 12, 13, 14, 15, 16, 17, 18], [0, 1, 2, 3, 4, 5, 6, 7, 8, 9, 10, 11, 12, 13, 14, 15, 16, 17, 18, 19], [0, 1, 2, 3, 4, 5, 6, 7, 8, 9, 10, 11, 12, 13, 14, 15, 16, 17, 18, 19, 20], [0, 1, 2, 3, 4, 5, 6, 7, 8, 9, 10, 11, 12, 13, 14, 15, 16, 17, 18, 19, 20, 21], [0, 1, 2, 3, 4, 5, 6, 7, 8, 9, 10, 11, 12, 13, 14, 15, 16, 17, 18, 19, 20, 21, 22], [0, 1, 2, 3, 4, 5, 6, 7, 8, 9, 10, 11, 12, 13, 14, 15, 16, 17, 18, 19, 20, 21, 22, 23], [0, 1, 2, 3, 4, 5, 6, 7, 8, 9, 10, 11, 12, 13, 14, 15, 16, 17, 18, 19, 20, 21, 22, 23, 24], [0, 1, 2, 3, 4, 5, 6, 7, 8, 9, 10, 11, 12, 13, 14, 15, 16, 17, 18, 19, 20, 21, 22, 23, 24, 25], [0, 1, 2, 3, 4, 5, 6, 7, 8, 9, 10, 11, 12, 13, 14, 15, 16, 17, 18, 19, 20, 21, 22, 23, 24, 25, 26], [0, 1, 2, 3, 4, 5, 6, 7, 8, 9, 10, 11, 12, 13, 14, 15, 16, 17, 18, 19, 20, 21, 22, 23, 24, 25, 26, 27], [0, 1, 2, 3, 4, 5, 6, 7, 8, 9, 10, 11, 12, 13, 14, 15, 16, 17, 18, 19, 20, 21, 22, 23, 24, 25, 26, 27, 28], [0, 1, 2, 3, 4, 5, 6, 7, 8, 9, 10, 11, 12, 13, 14, 15, 16, 17, 18, 19, 20, 21, 22, 23, 24, 25, 26, 27, 28, 29], [0, 1, 2, 3, 4, 5, 6, 7, 8, 9, 10, 11, 12, 13, 14, 15, 16, 17, 18, 19, 20, 21, 22, 23, 24, 25, 26, 27, 28, 29, 30]]) (sts := [none, none, none, none]) (news := []) (sp := ((.val 35 _ : Sp) :: (.val 36 _) :: (.val 37 _) :: (.val 38 (Wh (_ = false) _)) :: (.val 39 (Wh (_ = false) _)) :: (.val 40 (Wh (_ = false) _)) :: (.val 41 (Wh (_ = false) _)) :: (.val 42 _) :: (.val 43 _) :: (.adr 44 7 (.some 0) (_ = false)) :: (.val 45 (Wh (_ = false) _)) :: (.val 46 (Wh (_ = false) _)) :: (.val 47 (Wh (_ = false) _)) :: (.val 48 _) :: (.val 49 _) :: (.adr 50 7 (.some 24) (_ = false)) :: (.val 51 (Wh (_ = false) _)) :: (.val 52 (Wh (_ = false) _)) :: (.val 53 (Wh (_ = false) _)) :: (.val 54 _) :: (.val 55 _) :: (.adr 56 7 (.some 8) (_ = false)) :: (.val 57 (Wh (_ = false) _)) :: (.val 58 (Wh (_ = false) _)) :: (.val 59 (Wh (_ = false) _)) :: (.val 60 _) :: (.val 61 _) :: (.adr 62 7 (.some 16) (_ = false)) :: (.val 63 (Wh (_ = false) _)) :: (.val 64 (Wh (_ = false) _)) :: (.val 65 (Wh (_ = false) _)) :: (.val 66 _) :: [])) [.g 0, .g 1, .g 2, .o 31] follows_mixed hst (oc (ob_v rfl rfl (r_move (gq 2 rfl))) (oc (ob_v rfl rfl (r_neq (vq 0 rfl) has_num)) (oc (ob_v rfl rfl (r_move (vq 1 rfl))) (oc (ob_gd rfl rfl rfl (vq 2 rfl) nq (fun hg => r_load (lz0 3 rfl) ty_80)) (oc (ob_gd rfl rfl rfl (vq 2 rfl) nq (fun hg => r_call (xs := [.const (.int .i64 (1)), .const (.int .i64 (0))]) (of_g (by decide) (by decide) (by decide) (by decide)) (.cons has_num (.cons has_num .nil)))) (oc (ob_gd rfl rfl rfl (vq 2 rfl) nq (fun hg => r_call (xs := [.tmp 38, .tmp 39]) (sameGauss_c _ _) (.cons (has_wh (vq 3 rfl) hg) (.cons (has_wh (vq 4 rfl) hg) .nil)))) (oc (ob_gd rfl rfl rfl (vq 2 rfl) nq (fun hg => r_not (has_wh (vq 5 rfl) hg))) (oc (ob_v rfl rfl (r_or (vq 2 rfl) (vq 6 rfl))) (oc (ob_v rfl rfl (r_move (vq 7 rfl))) (oc (ob_ag rfl rfl rfl (vq 8 rfl) nq (fun hg => a_fld (lz0 2 rfl) fld_82_0)) (oc (ob_gd rfl rfl rfl (vq 8 rfl) nq (fun hg => r_loadf 9 rfl (by kernel_rfl) hg (lz0 2 rfl) (Sub.part 0 rfl rfl) ty_80)) (oc (ob_gd rfl rfl rfl (vq 8 rfl) nq (fun hg => r_call (xs := [.tmp 45]) (realOne_c _) (.cons (has_wh (vq 10 rfl) hg) .nil))) (oc (ob_gd rfl rfl rfl (vq 8 rfl) nq (fun hg => r_not (has_wh (vq 11 rfl) hg))) (oc (ob_v rfl rfl (r_or (vq 8 rfl) (vq 12 rfl))) (oc (ob_v rfl rfl (r_move (vq 13 rfl))) (oc (ob_ag rfl rfl rfl (vq 14 rfl) nq (fun hg => a_fld (lz0 2 rfl) fld_82_3)) (oc (ob_gd rfl rfl rfl (vq 14 rfl) nq (fun hg => r_loadf 15 rfl (by kernel_rfl) hg (lz0 2 rfl) (Sub.part 3 rfl rfl) ty_80)) (oc (ob_gd rfl rfl rfl (vq 14 rfl) nq (fun hg => r_call (xs := [.tmp 51]) (realOne_c _) (.cons (has_wh (vq 16 rfl) hg) .nil))) (oc (ob_gd rfl rfl rfl (vq 14 rfl) nq (fun hg => r_not (has_wh (vq 17 rfl) hg))) (oc (ob_v rfl rfl (r_or (vq 14 rfl) (vq 18 rfl))) (oc (ob_v rfl rfl (r_move (vq 19 rfl))) (oc (ob_ag rfl rfl rfl (vq 20 rfl) nq (fun hg => a_fld (lz0 2 rfl) fld_82_1)) (oc (ob_gd rfl rfl rfl (vq 20 rfl) nq (fun hg => r_loadf 21 rfl (by kernel_rfl) hg (lz0 2 rfl) (Sub.part 1 rfl rfl) ty_80)) (oc (ob_gd rfl rfl rfl (vq 20 rfl) nq (fun hg => r_call (xs := [.tmp 57]) (imag_c _) (.cons (has_wh (vq 22 rfl) hg) .nil))) (oc (ob_gd rfl rfl rfl (vq 20 rfl) nq (fun hg => r_not (has_wh (vq 23 rfl) hg))) (oc (ob_v rfl rfl (r_or (vq 20 rfl) (vq 24 rfl))) (oc (ob_v rfl rfl (r_move (vq 25 rfl))) (oc (ob_ag rfl rfl rfl (vq 26 rfl) nq (fun hg => a_fld (lz0 2 rfl) fld_82_2)) (oc (ob_gd rfl rfl rfl (vq 26 rfl) nq (fun hg => r_loadf 27 rfl (by kernel_rfl) hg (lz0 2 rfl) (Sub.part 2 rfl rfl) ty_80)) (oc (ob_gd rfl rfl rfl (vq 26 rfl) nq (fun hg => r_call (xs := [.tmp 63]) (imag_c _) (.cons (has_wh (vq 28 rfl) hg) .nil))) (oc (ob_gd rfl rfl rfl (vq 26 rfl) nq (fun hg => r_not (has_wh (vq 29 rfl) hg))) (oc (ob_v rfl rfl (r_or (vq 26 rfl) (vq 30 rfl))) o0)))))))))))))))))))))))))))))))) (by kernel_rfl) (by kernel_rfl) (by kernel_rfl) (by kernel_rfl) (fun a w hst => ?_)
      have hst : St B w0 132 [(2, _), (6, _), (8, _), (66, _)] [⟨3, 26, ptrH, _⟩, ⟨4, 26, ptrH, _⟩, ⟨7, 82, ptrH, _⟩, ⟨9, 80, ptrH, _⟩] a w := hst
      refine thn_normal ?_
      refine cond_of hst (List.mem_of_getElem? (i := 3) rfl) (fun hb2 => ?_) (fun hb2 => ?_)
      · exact (en_no hb2).elim
      · refine wp_skip ?_
        refine thn_normal ?_
        refine wp_seq ?_
        refine gl (sts := [none, none, none, none]) (news := [⟨10, 26, ptrH, some 8, _, some (10, _)⟩, ⟨11, 26, ptrH, some 9, _, some (11, _)⟩]) (sp := [.val 68 _, .val 69 _, .val 70 _, .val 71 _, .val 67 _, .val 72 _, .val 73 _, .val 74 _, .alc 4, .alc 5, .sto 4, .sto 5, .val 8 _]) [.g 1, .o 12] hst (oc (ob_v rfl rfl (r_load (lz0 0 rfl) ty_26)) (oc (ob_v rfl rfl (r_load (lz0 1 rfl) ty_26)) (oc (ob_v rfl rfl (r_move (gq 0 rfl))) (oc (ob_v rfl rfl (r_call (xs := [.tmp 68, .tmp 69, .tmp 70]) (powers_c h g xs) (.cons (vq 0 rfl) (.cons (vq 1 rfl) (.cons (has_again hF hv2 (vq 2 rfl)) .nil))))) (oc (ob_v rfl rfl (r_move (vq 3 rfl))) (oc (ob_v rfl rfl (r_ex0 (vq 4 rfl))) (oc (ob_v rfl rfl (r_ex1 (vq 4 rfl))) (oc (ob_v rfl rfl (r_ex2 (vq 4 rfl))) (oc (ob_alc rfl rfl rfl (Str.zero str_frac)) (oc (ob_alc rfl rfl rfl (Str.zero str_frac)) (oc (ob_sto rfl rfl rfl (vq 5 rfl) ty_26 (Eq.trans (b := 4) rfl rfl)) (oc (ob_sto rfl rfl rfl (vq 6 rfl) ty_26 (Eq.trans (b := 4) rfl rfl)) (oc (ob_v rfl rfl (r_assign (vq 7 rfl))) o0))))))))))))) (fun a w hst => ?_)
        have hst : St B w0 132 [(6, _), (8, _)] [⟨3, 26, ptrH, _⟩, ⟨4, 26, ptrH, _⟩, ⟨7, 82, ptrH, _⟩, ⟨9, 80, ptrH, _⟩, ⟨10, 26, ptrH, _⟩, ⟨11, 26, ptrH, _⟩] a w := hst
        refine thn_normal ?_
        refine wp_seq ?_
        refine wp_seq ?_
        refine gl (sts := [none, none, none, none, none, none]) (news := []) (sp := [.val 75 _, .val 76 _]) [.g 0, .g 1, .o 1] hst (oc (ob_v rfl rfl (r_move (gq 1 rfl))) (oc (ob_v rfl rfl (r_neq (vq 0 rfl) has_num)) o0)) (fun a w hst => ?_)
        have hst : St B w0 132 [(6, _), (8, _), (76, _)] [⟨3, 26, ptrH, _⟩, ⟨4, 26, ptrH, _⟩, ⟨7, 82, ptrH, _⟩, ⟨9, 80, ptrH, _⟩, ⟨10, 26, ptrH, _⟩, ⟨11, 26, ptrH, _⟩] a w := hst
        refine thn_normal ?_
        refine cond_of hst (List.mem_of_getElem? (i := 2) rfl) (fun hb3 => ?_) (fun hb3 => ?_)
        · have hr := pw_ref hs hk.1 hb3
          refine wp_seq ?_
          refine gl (sts := [none, none, none, none, none, none]) (news := []) (sp := ((.val 77 _ : Sp) :: (.val 78 _) :: (.val 79 _) :: (.val 80 (Wh (_ = true) _)) :: (.val 81 (Wh (_ = true) _)) :: (.val 82 (Wh (_ = true) _)) :: (.val 83 (Wh (_ = true) _)) :: (.val 84 (Wh ((_ = true) ∧ _ = false) _)) :: (.val 85 (Wh ((_ = true) ∧ _ = false) _)) :: (.val 86 (Wh ((_ = true) ∧ _ = false) _)) :: (.val 87 (Wh (_ = true) _)) :: (.val 88 (Wh (_ = true) _)) :: (.val 89 (Wh ((_ = true) ∧ _ = false) _)) :: (.val 90 (Wh ((_ = true) ∧ _ = false) _)) :: (.val 91 (Wh ((_ = true) ∧ _ = false) _)) :: (.val 92 (Wh (_ = true) _)) :: (.val 93 (Wh (_ = true) _)) :: (.val 94 (Wh ((_ = true) ∧ _ = false) _)) :: (.val 95 (Wh ((_ = true) ∧ _ = false) _)) :: (.val 96 (Wh ((_ = true) ∧ _ = false) _)) :: (.val 97 (Wh (_ = true) _)) :: (.val 98 _) :: (.val 99 _) :: (.val 100 (Wh (_ = true) _)) :: (.val 101 _) :: (.val 6 _) :: [])) [.g 1, .o 25] hst (oc (ob_v rfl rfl (r_move (gq 1 rfl))) (oc (ob_v rfl rfl (r_eql (vq 0 rfl) has_num)) (oc (ob_v rfl rfl (r_move (vq 1 rfl))) (oc (ob_gd rfl rfl rfl (vq 2 rfl) nq (fun hg => r_load (lz0 0 rfl) ty_26)) (oc (ob_gd rfl rfl rfl (vq 2 rfl) nq (fun hg => r_call (xs := [.tmp 80]) (fracCheck_c _) (.cons (has_wh (vq 3 rfl) hg) .nil))) (oc (ob_gd rfl rfl rfl (vq 2 rfl) nq (fun hg => r_neq (has_wh (vq 4 rfl) hg) has_num)) (oc (ob_gd rfl rfl rfl (vq 2 rfl) nq (fun hg => r_move (has_wh (vq 5 rfl) hg))) (oc (ob_gd2 rfl rfl rfl (vq 6 rfl) nq (fun hg => r_load (lz0 1 rfl) ty_26)) (oc (ob_gd2 rfl rfl rfl (vq 6 rfl) nq (fun hg => r_call (xs := [.tmp 84]) (fracCheck_c _) (.cons (has_wh (vq 7 rfl) hg) .nil))) (oc (ob_gd2 rfl rfl rfl (vq 6 rfl) nq (fun hg => r_neq (has_wh (vq 8 rfl) hg) has_num)) (oc (ob_gd rfl rfl rfl (vq 2 rfl) nq (fun hg => r_or (has_wh (vq 6 rfl) hg) (has_wh2 (vq 9 rfl) hg))) (oc (ob_gd rfl rfl rfl (vq 2 rfl) nq (fun hg => r_move (has_wh (vq 10 rfl) hg))) (oc (ob_gd2 rfl rfl rfl (vq 11 rfl) nq (fun hg => r_load (lz0 0 rfl) ty_26)) (oc (ob_gd2 rfl rfl rfl (vq 11 rfl) nq (fun hg => r_call (xs := [.tmp 89]) (fracSign_c _) (.cons (has_wh (vq 12 rfl) hg) .nil))) (oc (ob_gd2 rfl rfl rfl (vq 11 rfl) nq (fun hg => r_leq (has_wh (vq 13 rfl) hg) has_num)) (oc (ob_gd rfl rfl rfl (vq 2 rfl) nq (fun hg => r_or (has_wh (vq 11 rfl) hg) (has_wh2 (vq 14 rfl) hg))) (oc (ob_gd rfl rfl rfl (vq 2 rfl) nq (fun hg => r_move (has_wh (vq 15 rfl) hg))) (oc (ob_gd2 rfl rfl rfl (vq 16 rfl) nq (fun hg => r_load (lz0 1 rfl) ty_26)) (oc (ob_gd2 rfl rfl rfl (vq 16 rfl) nq (fun hg => r_call (xs := [.tmp 94]) (fracSign_c _) (.cons (has_wh (vq 17 rfl) hg) .nil))) (oc (ob_gd2 rfl rfl rfl (vq 16 rfl) nq (fun hg => r_leq (has_wh (vq 18 rfl) hg) has_num)) (oc (ob_gd rfl rfl rfl (vq 2 rfl) nq (fun hg => r_or (has_wh (vq 16 rfl) hg) (has_wh2 (vq 19 rfl) hg))) (oc (ob_v rfl rfl (r_and (vq 2 rfl) (vq 20 rfl))) (oc (ob_v rfl rfl (r_move (vq 21 rfl))) (oc (ob_gd rfl rfl rfl (vq 22 rfl) nq (fun hg => r_call (xs := []) alive18_c .nil)) (oc (ob_v rfl rfl (r_and (vq 22 rfl) (vq 23 rfl))) (oc (ob_v rfl rfl (r_assign (vq 24 rfl))) o0)))))))))))))))))))))))))) (fun a w hst => ?_)
          have hst : St B w0 132 [(8, _), (6, _)] [⟨3, 26, ptrH, _⟩, ⟨4, 26, ptrH, _⟩, ⟨7, 82, ptrH, _⟩, ⟨9, 80, ptrH, _⟩, ⟨10, 26, ptrH, _⟩, ⟨11, 26, ptrH, _⟩] a w := hst
          refine thn_normal ?_
          refine wp_ret ?_
          refine thn_ret ?_
          refine ret_wk ?_ (ret_tmp rfl hst (List.mem_of_getElem? (i := 1) rfl))
          exact bo_and hr
        · have ho := pw_0 (h := h) (g := g) (xs := xs) (by simpa using hb3)
          have ep := pw_e hs ho
          have ls := r_short hs ho
          have ok := ov_ok ho
          have hst := St.cvA (A' := RFA (rfOf (rV (filmQ xs) (toQ h) (toQ g)))) hst 4 rfl (show RFA (pwF h g xs).1 = RFA (rfOf (rV (filmQ xs) (toQ h) (toQ g))) by rw [ep])
          have hst := St.cvA (A' := RFA (rfOf (1 - (rV (filmQ xs) (toQ h) (toQ g))))) hst 5 rfl (show RFA (pwF h g xs).2.1 = RFA (rfOf (1 - (rV (filmQ xs) (toQ h) (toQ g)))) by rw [ep])
          refine wp_skip ?_
          refine thn_normal ?_
          refine wp_seq ?_
          refine gl (sts := [none, none, none, none, none, none]) (news := [⟨12, 26, ptrH, some 4, _, some (5, _)⟩]) (sp := [.val 103 _, .val 102 _, .val 104 _, .val 105 _, .alc 6, .sto 6, .val 13 _]) [.g 0, .g 1] hst (oc (ob_v rfl rfl (r_call (xs := [.const (.int .i64 (1)), .const (.int .i64 (1))]) (ofQ_c (by decide) (by decide) (by decide) (by decide) (by decide)) (.cons has_num (.cons has_num .nil)))) (oc (ob_v rfl rfl (r_move (vq 0 rfl))) (oc (ob_v rfl rfl (r_ex0 (vq 1 rfl))) (oc (ob_v rfl rfl (r_ex1 (vq 1 rfl))) (oc (ob_alc rfl rfl rfl (Str.zero str_frac)) (oc (ob_sto rfl rfl rfl (vq 2 rfl) ty_26 (Eq.trans (b := 4) rfl rfl)) (oc (ob_v rfl rfl (r_assign (vq 3 rfl))) o0))))))) (fun a w hst => ?_)
          have hst : St B w0 132 [(6, _), (8, _)] [⟨3, 26, ptrH, _⟩, ⟨4, 26, ptrH, _⟩, ⟨7, 82, ptrH, _⟩, ⟨9, 80, ptrH, _⟩, ⟨10, 26, ptrH, _⟩, ⟨11, 26, ptrH, _⟩, ⟨12, 26, ptrH, _⟩] a w := hst
          refine thn_normal ?_
          refine wp_seq ?_
          refine gl (sts := [none, none, none, none, none, none, none]) (news := [⟨14, 26, ptrH, some 6, _, some (7, _)⟩]) (sp := [.val 107 _, .val 108 _, .val 109 _, .val 106 _, .val 110 _, .val 111 _, .alc 7, .sto 7, .val 8 _]) [.g 0, .o 8] hst (oc (ob_v rfl rfl (r_load (lz0 4 rfl) ty_26)) (oc (ob_v rfl rfl (r_load (lz0 5 rfl) ty_26)) (oc (ob_v rfl rfl (r_call (xs := [.tmp 107, .tmp 108]) (add_l ls.1 ls.2) (.cons (vq 0 rfl) (.cons (vq 1 rfl) .nil)))) (oc (ob_v rfl rfl (r_move (vq 2 rfl))) (oc (ob_v rfl rfl (r_ex0 (vq 3 rfl))) (oc (ob_v rfl rfl (r_ex1 (vq 3 rfl))) (oc (ob_alc rfl rfl rfl (Str.zero str_frac)) (oc (ob_sto rfl rfl rfl (vq 4 rfl) ty_26 (Eq.trans (b := 4) rfl rfl)) (oc (ob_v rfl rfl (r_assign (vq 5 rfl))) o0))))))))) (fun a w hst => ?_)
          have hst : St B w0 132 [(6, _), (8, _)] [⟨3, 26, ptrH, _⟩, ⟨4, 26, ptrH, _⟩, ⟨7, 82, ptrH, _⟩, ⟨9, 80, ptrH, _⟩, ⟨10, 26, ptrH, _⟩, ⟨11, 26, ptrH, _⟩, ⟨12, 26, ptrH, _⟩, ⟨14, 26, ptrH, _⟩] a w := hst
          refine thn_normal ?_
          refine wp_seq ?_
          refine gl (sts := [none, none, none, none, none, none, none, none]) (news := []) (sp := [.val 112 _, .val 113 _, .val 114 _, .val 115 (Wh (_ = true) _), .val 116 (Wh (_ = true) _), .val 117 (Wh (_ = true) _), .val 118 _, .val 119 _, .val 120 (Wh (_ = true) _), .val 121 (Wh (_ = true) _), .val 122 (Wh (_ = true) _), .val 123 _, .val 124 _, .val 125 (Wh (_ = true) _), .val 126 (Wh (_ = true) _), .val 127 (Wh (_ = true) _), .val 128 _, .val 129 _, .val 130 (Wh (_ = true) _), .val 131 _, .val 6 _]) [.o 20] hst (oc (ob_v rfl rfl (r_move (gq 1 rfl))) (oc (ob_v rfl rfl (r_eql (vq 0 rfl) has_num)) (oc (ob_v rfl rfl (r_move (vq 1 rfl))) (oc (ob_gd rfl rfl rfl (vq 2 rfl) nq (fun hg => r_load (lz0 7 rfl) ty_26)) (oc (ob_gd rfl rfl rfl (vq 2 rfl) nq (fun hg => r_load (lz0 6 rfl) ty_26)) (oc (ob_gd rfl rfl rfl (vq 2 rfl) nq (fun hg => r_call (xs := [.tmp 115, .tmp 116]) (sameFrac_c _ _) (.cons (has_wh (vq 3 rfl) hg) (.cons (has_wh (vq 4 rfl) hg) .nil)))) (oc (ob_v rfl rfl (r_and (vq 2 rfl) (vq 5 rfl))) (oc (ob_v rfl rfl (r_move (vq 6 rfl))) (oc (ob_gd rfl rfl rfl (vq 7 rfl) nq (fun hg => r_load (lz0 4 rfl) ty_26)) (oc (ob_gd rfl rfl rfl (vq 7 rfl) nq (fun hg => r_call (xs := [.tmp 120]) (fracSign_c _) (.cons (has_wh (vq 8 rfl) hg) .nil))) (oc (ob_gd rfl rfl rfl (vq 7 rfl) nq (fun hg => r_geq (has_wh (vq 9 rfl) hg) has_num)) (oc (ob_v rfl rfl (r_and (vq 7 rfl) (vq 10 rfl))) (oc (ob_v rfl rfl (r_move (vq 11 rfl))) (oc (ob_gd rfl rfl rfl (vq 12 rfl) nq (fun hg => r_load (lz0 5 rfl) ty_26)) (oc (ob_gd rfl rfl rfl (vq 12 rfl) nq (fun hg => r_call (xs := [.tmp 125]) (fracSign_c _) (.cons (has_wh (vq 13 rfl) hg) .nil))) (oc (ob_gd rfl rfl rfl (vq 12 rfl) nq (fun hg => r_gtr (has_wh (vq 14 rfl) hg) has_num)) (oc (ob_v rfl rfl (r_and (vq 12 rfl) (vq 15 rfl))) (oc (ob_v rfl rfl (r_move (vq 16 rfl))) (oc (ob_gd rfl rfl rfl (vq 17 rfl) nq (fun hg => r_call (xs := []) alive18_c .nil)) (oc (ob_v rfl rfl (r_and (vq 17 rfl) (vq 18 rfl))) (oc (ob_v rfl rfl (r_assign (vq 19 rfl))) o0))))))))))))))))))))) (fun a w hst => ?_)
          have hst : St B w0 132 [(6, _)] [⟨3, 26, ptrH, _⟩, ⟨4, 26, ptrH, _⟩, ⟨7, 82, ptrH, _⟩, ⟨9, 80, ptrH, _⟩, ⟨10, 26, ptrH, _⟩, ⟨11, 26, ptrH, _⟩, ⟨12, 26, ptrH, _⟩, ⟨14, 26, ptrH, _⟩] a w := hst
          refine thn_normal ?_
          refine wp_ret ?_
          refine ret_wk ?_ (ret_tmp rfl hst (List.mem_of_getElem? (i := 0) rfl))
          exact bo_and (en_end (sg_nn ls.1 (r_nn _ _ _)) (sg_pp ls.2 (t_pos (film_det (may_ok ok.2.2.1).2) (okP_q ok.1).2 (okP_q ok.2.1).2)))

open Go.ChangeShapes Go.WideShapes Go.ChangeAt
open Go.ChangeMaps (open_string shut_string)
set_option linter.unusedVariables false
theorem own : ownKnob Try.prog.godebug = none := by kernel_rfl
theorem laidOut : laidOutB Try.prog = true := by kernel_rfl
set_option maxRecDepth 100000 in
theorem lifted (os : Os) (started : os.Started) (H : Type) (enc : TypeId × Value → H) :
    ReturnsInHanded {} Try.checked os 8 .any (Rows.filmEnergySpec.pre6 enc Try.prog Try.f8 Rows.filmEnergyRow.domain false) (Rows.filmEnergySpec.post enc Try.prog Try.f8 false true false false) := by
  refine returnsInHanded_of_change (C := Try.checked) own started (by kernel_rfl) Try.func8
    (ChangeSpec.witness6 (enc := enc) (C := Try.checked) false ⟨#[], #[.agg #[.bool false, .slice none 0 0, .bool false, .slice none 0 0], .agg #[.bool false, .slice none 0 0, .bool false, .slice none 0 0], .slice none 0 0], []⟩ 8 (by kernel_rfl) (by kernel_rfl) (by kernel_rfl) (by kernel_rfl)) ?_
  intro W base args ds gs before hval0 hW hcnd _
  have hval : ∀ (j : Nat) t v, Try.f8.params[j]? = some t → args[j]? = some v → Value.okWide Try.prog W .any base t v := hval0
  have hW' := hW
  obtain ⟨p, q, hA0, hV, rfl, hfz, hnd⟩ := hW
  have hA : DataW.TrodAll enc Try.prog W 0 (fun _ => true) true Try.f8.params.toList args.toList ds p := hA0
  rw [Try.params8] at hA hval
  obtain ⟨v0, vs0, d0, ds0, p0, q0, hargs, rfl, rfl, h0, r0⟩ := trodAll_cons hA
  obtain ⟨v1, vs1, d1, ds1, p1, q1, rfl, rfl, rfl, h1, r1⟩ := trodAll_cons r0
  obtain ⟨v2, vs2, d2, ds2, p2, q2, rfl, rfl, rfl, h2, r2⟩ := trodAll_cons r1
  obtain ⟨rfl, rfl, rfl⟩ := trodAll_nil r2
  obtain rfl : args = #[v0, v1, v2] := by cases args; simp_all
  obtain ⟨rfl, rfl⟩ := trodVars_none hV
  have k0 := h0
  have lt0 : ∀ x ∈ p0, x.block < W.heap.size := by obtain ⟨m, hm⟩ := k0; exact DataW.trod_lt m _ _ _ hm
  have k1 := h1
  have lt1 : ∀ x ∈ p1, x.block < W.heap.size := by obtain ⟨m, hm⟩ := k1; exact DataW.trod_lt m _ _ _ hm
  have k2 := h2
  have lt2 : ∀ x ∈ p2, x.block < W.heap.size := by obtain ⟨m, hm⟩ := k2; exact DataW.trod_lt m _ _ _ hm
  obtain ⟨x0, a0⟩ := arg_of (A := RFA) (fun _ => rfl) Try.underlying26 rd_rf (hval 0 26 v0 rfl rfl) h0
  obtain ⟨x1, a1⟩ := arg_of (A := RFA) (fun _ => rfl) Try.underlying26 rd_rf (hval 1 26 v1 rfl rfl) h1
  obtain ⟨x2, a2⟩ := arg_sl (A := RRA) (m := 8) (D := [175]) Try.underlying77 (by kernel_rfl) (by decide) (fun _ => nd_self (by kernel_rfl)) rd_sh (hval 2 77 v2 rfl rfl) h2
  clear hA0 hval0
  refine ((energy_w x0 x1 x2).2 W.heap.size W [v0, v1, v2] (Nat.le_refl _) (.cons a0 (.cons a1 (.cons a2 .nil)))).mono fun e W' ⟨v, he, hv, bel⟩ => ?_
  have hv' := bo_val hv
  subst hv' he
  exact ⟨_, rfl, _, _, _, [], _, [], hW', trodAll_mk1 (shut_bool Try.underlying4 _), (trodAll_cons_mk (Below.trod laidOut (by kernel_rfl) (of_decide_eq_true (by kernel_rfl)) k0 bel lt0) (trodAll_cons_mk (Below.trod laidOut (by kernel_rfl) (of_decide_eq_true (by kernel_rfl)) k1 bel lt1) (trodAll_cons_mk (Below.trod laidOut (by kernel_rfl) (of_decide_eq_true (by kernel_rfl)) k2 bel lt2) trodAll_mk0))), rfl, bel.frame _, fun h => by cases h⟩
theorem over : Rows.filmEnergyRow.holds Try.pinned (OpenSpec.ofChange Rows.filmEnergySpec) :=
  OpenClaim.holds_of_wide 8 Try.f8 rfl rfl rfl rfl rfl rfl rfl ⟨rfl, rfl, rfl, rfl, rfl⟩ rfl rfl rfl rfl rfl (by kernel_rfl) Try.func8 (by kernel_rfl)
    (of_decide_eq_true (by kernel_rfl)) (by unfold Func.isWrapper; rw [if_neg (of_decide_eq_false (by kernel_rfl))]; exact ⟨rfl, rfl⟩)
    (fun os started H enc _ => lifted os started H enc)
theorem provedFilmEnergy : Rows.FilmEnergySaid := over
#print axioms provedFilmEnergy

end Go.Proofs.Ytgjolcbehcjhcaa
