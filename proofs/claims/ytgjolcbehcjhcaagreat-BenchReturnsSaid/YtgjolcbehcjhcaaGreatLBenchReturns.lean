/- BenchReturns: for all benches and rays the law of chapter 10 on the way back answers true. No condition. -/
import Derived.Test.YtgjolcbehcjhcaaGreatBenH
import Derived.Test.YtgjolcbehcjhcaaGreatBenE
import Derived.Test.YtgjolcbehcjhcaaGreatCavB
import Derived.Test.YtgjolcbehcjhcaaGreatRayL
import Derived.Test.YtgjolcbehcjhcaaGreatRows
import Derived.WalkKit
import Derived.ProofKit
import Derived.OpenShut
import Derived.ShutString
import Derived.ChangeOld
import Derived.Below
namespace Go.Proofs.YtgjolcbehcjhcaaGreat
open Go Go.RowKit
namespace LBenchReturns
theorem fld_49_0 : Fld Tryz.prog 49 0 0 4 := ⟨_, _, Tryz.underlying49, rfl, rfl, by kernel_rfl, by decide⟩
theorem fld_49_1 : Fld Tryz.prog 49 1 4 4 := ⟨_, _, Tryz.underlying49, rfl, rfl, by kernel_rfl, by decide⟩
theorem sl_96 : Sl Tryz.prog 96 3 1 := ⟨by kernel_rfl, by kernel_rfl⟩
theorem ty_26 : Ty Tryz.prog 26 4 true := ⟨by kernel_rfl, by kernel_rfl⟩
theorem ty_49 : Ty Tryz.prog 49 8 true := ⟨by kernel_rfl, by kernel_rfl⟩
theorem ty_56 : Ty Tryz.prog 56 16 true := ⟨by kernel_rfl, by kernel_rfl⟩
end LBenchReturns
open LBenchReturns
abbrev Lr (q : YQ) : Prop := longQ q.y = false ∧ longQ q.u = false
theorem br_in {xs : List RE} {c : Bool} (h : (((!true) || (!fiF xs [])) || c) = false) : chF xs = 0 := by
  have h1 : fiF xs [] = true := by
    cases h2 : fiF xs [] with
    | true => rfl
    | false => rw [h2] at h; simp at h
  exact (fi_ok h1).1
theorem br_M {xs : List RE} (h : chF xs = 0) : benF xs = asM 0 (prodQ xs) ∧ benF xs.reverse = asM 0 (mirQ (prodQ xs)) := by
  unfold benF
  rw [rev_ch, if_pos h, if_pos h, prod_rev]
  exact ⟨rfl, rfl⟩
theorem br_k4 {xs : List RE} (h : chF xs = 0) (h2 : ((benF xs).2 != 0) = true) : ((((benF xs).2 == 4)) && ((benF xs.reverse).2 == 4)) = true := by
  obtain ⟨e1, e2⟩ := br_M h
  rw [e1] at h2
  rw [e1, e2]
  unfold asM at *
  rw [if_pos rfl] at *
  rw [if_pos rfl]
  have e3 : [(mirQ (prodQ xs)).a, (mirQ (prodQ xs)).b, (mirQ (prodQ xs)).c, (mirQ (prodQ xs)).d].any longQ = [(prodQ xs).a, (prodQ xs).b, (prodQ xs).c, (prodQ xs).d].any longQ := by
    simp only [mirQ, List.any_cons, List.any_nil, Bool.or_false]
    cases longQ (prodQ xs).a <;> cases longQ (prodQ xs).b <;> cases longQ (prodQ xs).c <;> cases longQ (prodQ xs).d <;> rfl
  rw [e3]
  cases h3 : [(prodQ xs).a, (prodQ xs).b, (prodQ xs).c, (prodQ xs).d].any longQ with
  | true => rfl
  | false => rw [h3] at h2; simp at h2
theorem br_ok {xs : List RE} (h : chF xs = 0) (h2 : ((benF xs).2 != 0) = false) : benF xs = (rmOf (prodQ xs), 0) ∧ benF xs.reverse = (rmOf (mirQ (prodQ xs)), 0) ∧ okM (rmOf (prodQ xs)) = true := by
  obtain ⟨e1, e2⟩ := br_M h
  rw [e1] at h2
  cases h3 : [(prodQ xs).a, (prodQ xs).b, (prodQ xs).c, (prodQ xs).d].any longQ with
  | true => rw [as_any h3] at h2; exact absurd h2 (by decide)
  | false =>
    have h4 := h3
    simp only [List.any_cons, List.any_nil, Bool.or_false, Bool.or_eq_false_iff] at h4
    refine ⟨by rw [e1, as_none h3], ?_, okM_of h4.1 h4.2.1 h4.2.2.1 h4.2.2.2 (prod_det (ch_ok h).2)⟩
    rw [e2]
    exact asM_of rfl ⟨h4.2.2.2, h4.2.1, h4.2.2.1, h4.1⟩
theorem br_w {M : RM} {r : RR} (hm : okM M = true) (h : ((goF M r).2 != 0) = true) : (((goF M r).2 == 1) || ((goF M r).2 == 4)) = true := by
  revert h
  unfold goF kR
  have e : kM 0 M = 0 := by unfold kM; rw [if_pos rfl, if_pos hm]
  rw [e, if_pos rfl]
  split
  · unfold asY
    rw [if_pos rfl]
    split
    · intro _; rfl
    · intro h; simp at h
  · intro _; rfl
theorem br_r {M : MQ} {r : RR} (hm : okM (rmOf M) = true) (h : ((goF (rmOf M) r).2 != 0) = false) : ∃ R, r = rrOf R ∧ okR (rrOf R) = true ∧ Lr R ∧ Lr (goQ M R) ∧ goF (rmOf M) r = (rrOf (goQ M R), 0) := by
  have e : kM 0 (rmOf M) = 0 := by unfold kM; rw [if_pos rfl, if_pos hm]
  cases hr : okR r with
  | false =>
    unfold goF kR at h
    unfold okR at hr
    rw [e, if_pos rfl, hr] at h
    simp [asY] at h
  | true =>
    have er := okR_rr hr
    have hk := kR_of hr
    have hg : goF (rmOf M) r = asY 0 (goQ M (toY r)) := by unfold goF; rw [e, hk, toM_of]
    have hl : Lr (goQ M (toY r)) := by
      rw [hg] at h
      unfold asY at h
      rw [if_pos rfl] at h
      cases h3 : [(goQ M (toY r)).y, (goQ M (toY r)).u].any longQ with
      | true => rw [h3] at h; simp at h
      | false => simpa using h3
    exact ⟨toY r, er, er ▸ hr, okR_longs hr, hl, by rw [hg]; exact asY_of rfl hl⟩
theorem br_home {M : MQ} {R : YQ} (hd : detM M = 1) : goQ (mirQ M) ⟨(goQ M R).y, 0 - (goQ M R).u⟩ = ⟨R.y, 0 - R.u⟩ := by
  unfold detM at hd
  unfold goQ mirQ
  simp only [YQ.mk.injEq]
  exact ⟨by grind, by grind⟩
theorem ln0 {x : Rat} (h : longQ x = false) : longQ (0 - x) = false := by
  have e : (0 : Rat) - x = -x := by grind
  rw [e, long_min]
  exact h
theorem sub0_l {x : Rat} (h : longQ x = false) : Cn Tryz.prog 13 [(RFA (rfOf (Rat.divInt 0 1))).va, (RFA (rfOf x)).va] (FrR (rfOf (0 - x), 0)) := (subF_c (rfOf (Rat.divInt 0 1)) (rfOf x)).post (congrArg FrR (by
  have e0 : (Rat.divInt 0 1 : Rat) = 0 := by kernel_rfl
  rw [e0, sub_of long_zero h, ansF_ok (longQ_false.1 (ln0 h))]))
theorem bgo_l {M : MQ} {R : YQ} (hm : okM (rmOf M) = true) (hr : okR (rrOf R) = true) (hl : Lr (goQ M R)) {R' : YQ} (e : goQ M R = R') : Cn Tryz.prog 27 [(RMA (rmOf M)).va, (RRA (rrOf R)).va] (YR (rrOf R', 0)) := (through_c (rmOf M) (rrOf R)).post (congrArg YR (by rw [← e]; exact (go_eval hm hr hl).1))
theorem br_no1 {xs : List RE} (h : (((((0 : Int) != 0) || ((0 : Int) != 0)) || (!decide (xs = xs))) = true)) : False := by simp at h
theorem br_no2 {u v : RM} (e : u = v) (h : (((((0 : Int) != 0) || ((0 : Int) != 0)) || (!decide (u = v))) = true)) : False := by subst e; simp at h
theorem sub_sub0 (x : Rat) : (0 : Rat) - (0 - x) = x := by grind
theorem br_end {a b : RF} {u v : RF} (h1 : a = b) (h2 : u = v) : ((((((0 : Int) == 0)) && decide (a = b)) && decide (u = v))) = true := by subst h1 h2; simp

set_option maxRecDepth 100000 in
set_option maxHeartbeats 4000000 in
theorem returns_w (xs : List RE) (r : RR) : Cn Tryz.prog 4 [(SlA 94 [U32] (xs.map REA)).va, (RRA r).va] (Bo true) := by
  refine Cn.intro Tryz.func4 rfl (by kernel_rfl) nq (fun B w0 a hst => ?_)
  have hst : St B w0 150 [(0, (SlA 94 [U32] (xs.map REA)).va), (1, (RRA r).va)] [] a w0.w := hst
  refine wp_seq ?_
  refine gl (sts := []) (news := [⟨3, 49, ptrH, some 0, _, none⟩]) (sp := [.alc 0, .val 4 _]) [.g 0, .o 1] hst (oc (ob_box rfl rfl rfl (gq 1 rfl)) (oc (ob_v rfl rfl (r_assign has_bo)) o0)) (fun a w hst => ?_)
  have hst : St B w0 150 [(0, _), (4, _)] [⟨3, 49, ptrH, _⟩] a w := hst
  refine thn_normal ?_
  refine wp_seq ?_
  refine wp_seq ?_
  refine gl (sts := [none]) (news := []) (sp := [.val 21 _, .val 22 _, .val 23 _, .val 24 (Wh (_ = false) _), .val 25 (Wh (_ = false) _), .val 26 (Wh (_ = false) _), .val 27 _, .val 28 _, .val 29 (Wh (_ = false) _), .val 30 (Wh (_ = false) _), .val 31 (Wh (_ = false) _), .val 32 (Wh (_ = false) _), .val 33 _]) [.g 0, .g 1, .o 12] hst (oc (ob_v rfl rfl (r_call (xs := []) alive10_c .nil)) (oc (ob_v rfl rfl (r_not (vq 0 rfl))) (oc (ob_v rfl rfl (r_move (vq 1 rfl))) (oc (ob_gd rfl rfl rfl (vq 2 rfl) nq (fun hg => r_move (gq 0 rfl))) (oc (ob_gd rfl rfl rfl (vq 2 rfl) nq (fun hg => r_call (xs := [.tmp 24, .const (.slice none 0 0)]) ((fits10_c xs []).wk (.cons wk_id (.cons nil_sl .nil))) (.cons (has_wh (vq 3 rfl) hg) (.cons has_const .nil)))) (oc (ob_gd rfl rfl rfl (vq 2 rfl) nq (fun hg => r_not (has_wh (vq 4 rfl) hg))) (oc (ob_v rfl rfl (r_or (vq 2 rfl) (vq 5 rfl))) (oc (ob_v rfl rfl (r_move (vq 6 rfl))) (oc (ob_gd rfl rfl rfl (vq 7 rfl) nq (fun hg => r_load (lz0 0 rfl) ty_49)) (oc (ob_gd rfl rfl rfl (vq 7 rfl) nq (fun hg => r_call (xs := [.tmp 29]) (rayCost_c _) (.cons (has_wh (vq 8 rfl) hg) .nil))) (oc (ob_gd rfl rfl rfl (vq 7 rfl) nq (fun hg => r_slice (D := []) (l := [_]) (xs := [.tmp 30]) (nd_ok (by kernel_rfl)) sl_96 (by kernel_rfl) (n_ok (by kernel_rfl)) nq nq nq (.cons (has_wh (vq 9 rfl) hg) .nil) rfl rfl)) (oc (ob_gd rfl rfl rfl (vq 7 rfl) nq (fun hg => r_call (xs := [.tmp 31]) (beyond_c [_]) (.cons (has_wh (vq 10 rfl) hg) .nil))) (oc (ob_v rfl rfl (r_or (vq 7 rfl) (vq 11 rfl))) o0))))))))))))) (fun a w hst => ?_)
  have hst : St B w0 150 [(0, _), (4, _), (33, _)] [⟨3, 49, ptrH, _⟩] a w := hst
  refine thn_normal ?_
  refine cond_of hst (List.mem_of_getElem? (i := 2) rfl) (fun hb0 => ?_) (fun hb0 => ?_)
  · refine wp_seq ?_
    refine gl (sts := [none]) (news := []) (sp := [.val 34 _, .val 4 _]) [.g 0, .o 1] hst (oc (ob_v rfl rfl (r_call (xs := []) alive10_c .nil)) (oc (ob_v rfl rfl (r_assign (vq 0 rfl))) o0)) (fun a w hst => ?_)
    have hst : St B w0 150 [(0, _), (4, _)] [⟨3, 49, ptrH, _⟩] a w := hst
    refine thn_normal ?_
    refine wp_ret ?_
    refine thn_ret ?_
    refine ret_wk ?_ (ret_tmp rfl hst (List.mem_of_getElem? (i := 1) rfl))
    exact wk_id
  · have hc := br_in hb0
    refine wp_skip ?_
    refine thn_normal ?_
    refine wp_seq ?_
    refine gl (sts := [none]) (news := []) (sp := [.val 36 _, .val 37 _, .val 35 _, .val 38 _, .val 39 _, .val 5 _, .val 6 _]) [.g 0, .g 1, .o 5, .o 6] hst (oc (ob_v rfl rfl (r_move (gq 0 rfl))) (oc (ob_v rfl rfl (r_call (xs := [.tmp 36]) (rev_l hc) (.cons (vq 0 rfl) .nil))) (oc (ob_v rfl rfl (r_move (vq 1 rfl))) (oc (ob_v rfl rfl (r_ex0 (vq 2 rfl))) (oc (ob_v rfl rfl (r_ex1 (vq 2 rfl))) (oc (ob_v rfl rfl (r_assign (vq 3 rfl))) (oc (ob_v rfl rfl (r_assign (vq 4 rfl))) o0))))))) (fun a w hst => ?_)
    have hst : St B w0 150 [(0, _), (4, _), (5, _), (6, _)] [⟨3, 49, ptrH, _⟩] a w := hst
    refine thn_normal ?_
    refine wp_seq ?_
    refine gl (sts := [none]) (news := []) (sp := [.val 41 _, .val 42 _, .val 40 _, .val 43 _, .val 44 _, .val 7 _, .val 8 _]) [.g 0, .g 1, .g 2, .g 3, .o 5, .o 6] hst (oc (ob_v rfl rfl (r_move (gq 2 rfl))) (oc (ob_v rfl rfl (r_call (xs := [.tmp 41]) ((rev_l (xs := xs.reverse) (rev_ch.trans hc)).post (by rw [List.reverse_reverse])) (.cons (vq 0 rfl) .nil))) (oc (ob_v rfl rfl (r_move (vq 1 rfl))) (oc (ob_v rfl rfl (r_ex0 (vq 2 rfl))) (oc (ob_v rfl rfl (r_ex1 (vq 2 rfl))) (oc (ob_v rfl rfl (r_assign (vq 3 rfl))) (oc (ob_v rfl rfl (r_assign (vq 4 rfl))) o0))))))) (fun a w hst => ?_)
    have hst : St B w0 150 [(0, _), (4, _), (5, _), (6, _), (7, _), (8, _)] [⟨3, 49, ptrH, _⟩] a w := hst
    refine thn_normal ?_
    refine wp_seq ?_
    refine wp_seq ?_
    refine gl (sts := [none]) (news := []) (sp := [.val 45 _, .val 46 _, .val 47 _, .val 48 (Wh (_ = false) _), .val 49 (Wh (_ = false) _), .val 50 _, .val 51 _, .val 52 (Wh (_ = false) _), .val 53 (Wh (_ = false) _), .val 54 (Wh (_ = false) _), .val 55 (Wh (_ = false) _), .val 56 _]) [.g 0, .g 1, .g 2, .o 11] hst (oc (ob_v rfl rfl (r_move (gq 3 rfl))) (oc (ob_v rfl rfl (r_neq (vq 0 rfl) has_num)) (oc (ob_v rfl rfl (r_move (vq 1 rfl))) (oc (ob_gd rfl rfl rfl (vq 2 rfl) nq (fun hg => r_move (gq 5 rfl))) (oc (ob_gd rfl rfl rfl (vq 2 rfl) nq (fun hg => r_neq (has_wh (vq 3 rfl) hg) has_num)) (oc (ob_v rfl rfl (r_or (vq 2 rfl) (vq 4 rfl))) (oc (ob_v rfl rfl (r_move (vq 5 rfl))) (oc (ob_gd rfl rfl rfl (vq 6 rfl) nq (fun hg => r_move (gq 4 rfl))) (oc (ob_gd rfl rfl rfl (vq 6 rfl) nq (fun hg => r_move (gq 0 rfl))) (oc (ob_gd rfl rfl rfl (vq 6 rfl) nq (fun hg => r_call (xs := [.tmp 52, .tmp 53]) (sameEls_c xs xs) (.cons (has_wh (vq 7 rfl) hg) (.cons (has_wh (vq 8 rfl) hg) .nil)))) (oc (ob_gd rfl rfl rfl (vq 6 rfl) nq (fun hg => r_not (has_wh (vq 9 rfl) hg))) (oc (ob_v rfl rfl (r_or (vq 6 rfl) (vq 10 rfl))) o0)))))))))))) (fun a w hst => ?_)
    have hst : St B w0 150 [(0, _), (4, _), (5, _), (56, _)] [⟨3, 49, ptrH, _⟩] a w := hst
    refine thn_normal ?_
    refine cond_of hst (List.mem_of_getElem? (i := 3) rfl) (fun hb1 => ?_) (fun hb1 => ?_)
    · exact (br_no1 hb1).elim
    · refine wp_skip ?_
      refine thn_normal ?_
      refine wp_seq ?_
      refine gl (sts := [none]) (news := [⟨9, 56, ptrH, some 5, _, some (6, _)⟩]) (sp := [.val 58 _, .val 59 _, .val 57 _, .val 60 _, .val 61 _, .alc 1, .sto 1, .val 10 _]) [.g 1, .g 2, .o 7] hst (oc (ob_v rfl rfl (r_move (gq 0 rfl))) (oc (ob_v rfl rfl (r_call (xs := [.tmp 58]) (benMatrix_c xs) (.cons (vq 0 rfl) .nil))) (oc (ob_v rfl rfl (r_move (vq 1 rfl))) (oc (ob_v rfl rfl (r_ex0 (vq 2 rfl))) (oc (ob_v rfl rfl (r_ex1 (vq 2 rfl))) (oc (ob_alc rfl rfl rfl (Str.zero str_matrix)) (oc (ob_sto rfl rfl rfl (vq 3 rfl) ty_56 (Eq.trans (b := 16) rfl rfl)) (oc (ob_v rfl rfl (r_assign (vq 4 rfl))) o0)))))))) (fun a w hst => ?_)
      have hst : St B w0 150 [(4, _), (5, _), (10, _)] [⟨3, 49, ptrH, _⟩, ⟨9, 56, ptrH, _⟩] a w := hst
      refine thn_normal ?_
      refine wp_seq ?_
      refine gl (sts := [none, none]) (news := [⟨11, 56, ptrH, some 5, _, some (6, _)⟩]) (sp := [.val 63 _, .val 64 _, .val 62 _, .val 65 _, .val 66 _, .alc 2, .sto 2, .val 12 _]) [.g 0, .g 2, .o 7] hst (oc (ob_v rfl rfl (r_move (gq 1 rfl))) (oc (ob_v rfl rfl (r_call (xs := [.tmp 63]) (benMatrix_c xs.reverse) (.cons (vq 0 rfl) .nil))) (oc (ob_v rfl rfl (r_move (vq 1 rfl))) (oc (ob_v rfl rfl (r_ex0 (vq 2 rfl))) (oc (ob_v rfl rfl (r_ex1 (vq 2 rfl))) (oc (ob_alc rfl rfl rfl (Str.zero str_matrix)) (oc (ob_sto rfl rfl rfl (vq 3 rfl) ty_56 (Eq.trans (b := 16) rfl rfl)) (oc (ob_v rfl rfl (r_assign (vq 4 rfl))) o0)))))))) (fun a w hst => ?_)
      have hst : St B w0 150 [(4, _), (10, _), (12, _)] [⟨3, 49, ptrH, _⟩, ⟨9, 56, ptrH, _⟩, ⟨11, 56, ptrH, _⟩] a w := hst
      refine thn_normal ?_
      refine wp_seq ?_
      refine wp_seq ?_
      refine gl (sts := [none, none, none]) (news := []) (sp := [.val 67 _, .val 68 _]) [.g 0, .g 1, .g 2, .o 1] hst (oc (ob_v rfl rfl (r_move (gq 1 rfl))) (oc (ob_v rfl rfl (r_neq (vq 0 rfl) has_num)) o0)) (fun a w hst => ?_)
      have hst : St B w0 150 [(4, _), (10, _), (12, _), (68, _)] [⟨3, 49, ptrH, _⟩, ⟨9, 56, ptrH, _⟩, ⟨11, 56, ptrH, _⟩] a w := hst
      refine thn_normal ?_
      refine cond_of hst (List.mem_of_getElem? (i := 3) rfl) (fun hb2 => ?_) (fun hb2 => ?_)
      · have hr := br_k4 hc hb2
        refine wp_seq ?_
        refine gl (sts := [none, none, none]) (news := []) (sp := [.val 69 _, .val 70 _, .val 71 _, .val 72 (Wh (_ = true) _), .val 73 (Wh (_ = true) _), .val 74 _, .val 4 _]) [.g 2, .o 6] hst (oc (ob_v rfl rfl (r_move (gq 1 rfl))) (oc (ob_v rfl rfl (r_eql (vq 0 rfl) has_num)) (oc (ob_v rfl rfl (r_move (vq 1 rfl))) (oc (ob_gd rfl rfl rfl (vq 2 rfl) nq (fun hg => r_move (gq 2 rfl))) (oc (ob_gd rfl rfl rfl (vq 2 rfl) nq (fun hg => r_eql (has_wh (vq 3 rfl) hg) has_num)) (oc (ob_v rfl rfl (r_and (vq 2 rfl) (vq 4 rfl))) (oc (ob_v rfl rfl (r_assign (vq 5 rfl))) o0))))))) (fun a w hst => ?_)
        have hst : St B w0 150 [(12, _), (4, _)] [⟨3, 49, ptrH, _⟩, ⟨9, 56, ptrH, _⟩, ⟨11, 56, ptrH, _⟩] a w := hst
        refine thn_normal ?_
        refine wp_ret ?_
        refine thn_ret ?_
        refine ret_wk ?_ (ret_tmp rfl hst (List.mem_of_getElem? (i := 1) rfl))
        exact wk_eq (congrArg Bo hr)
      · obtain ⟨z1, z2, k1⟩ := br_ok hc hb2
        have hst := St.cvA (A' := RMA (rmOf (prodQ xs))) hst 1 rfl (congrArg (fun r : RM × Int => RMA r.1) z1)
        have hst := St.cvA (A' := RMA (rmOf (mirQ (prodQ xs)))) hst 2 rfl (congrArg (fun r : RM × Int => RMA r.1) z2)
        have hst := St.cvG (A' := In 0) hst 2 rfl (congrArg (fun r : RM × Int => In r.2) z2)
        refine wp_skip ?_
        refine thn_normal ?_
        refine wp_seq ?_
        refine gl (sts := [none, none, none]) (news := [⟨13, 56, ptrH, some 5, _, some (6, _)⟩]) (sp := [.val 76 _, .val 77 _, .val 75 _, .val 78 _, .val 79 _, .alc 3, .sto 3, .val 14 _]) [.g 0, .g 2, .o 7] hst (oc (ob_v rfl rfl (r_load (lz0 1 rfl) ty_56)) (oc (ob_v rfl rfl (r_call (xs := [.tmp 76]) (mir_l k1) (.cons (vq 0 rfl) .nil))) (oc (ob_v rfl rfl (r_move (vq 1 rfl))) (oc (ob_v rfl rfl (r_ex0 (vq 2 rfl))) (oc (ob_v rfl rfl (r_ex1 (vq 2 rfl))) (oc (ob_alc rfl rfl rfl (Str.zero str_matrix)) (oc (ob_sto rfl rfl rfl (vq 3 rfl) ty_56 (Eq.trans (b := 16) rfl rfl)) (oc (ob_v rfl rfl (r_assign (vq 4 rfl))) o0)))))))) (fun a w hst => ?_)
        have hst : St B w0 150 [(4, _), (12, _), (14, _)] [⟨3, 49, ptrH, _⟩, ⟨9, 56, ptrH, _⟩, ⟨11, 56, ptrH, _⟩, ⟨13, 56, ptrH, _⟩] a w := hst
        refine thn_normal ?_
        refine wp_seq ?_
        refine wp_seq ?_
        refine gl (sts := [none, none, none, none]) (news := []) (sp := [.val 80 _, .val 81 _, .val 82 _, .val 83 (Wh (_ = false) _), .val 84 (Wh (_ = false) _), .val 85 _, .val 86 _, .val 87 (Wh (_ = false) _), .val 88 (Wh (_ = false) _), .val 89 (Wh (_ = false) _), .val 90 (Wh (_ = false) _), .val 91 _]) [.g 0, .o 11] hst (oc (ob_v rfl rfl (r_move (gq 1 rfl))) (oc (ob_v rfl rfl (r_neq (vq 0 rfl) has_num)) (oc (ob_v rfl rfl (r_move (vq 1 rfl))) (oc (ob_gd rfl rfl rfl (vq 2 rfl) nq (fun hg => r_move (gq 2 rfl))) (oc (ob_gd rfl rfl rfl (vq 2 rfl) nq (fun hg => r_neq (has_wh (vq 3 rfl) hg) has_num)) (oc (ob_v rfl rfl (r_or (vq 2 rfl) (vq 4 rfl))) (oc (ob_v rfl rfl (r_move (vq 5 rfl))) (oc (ob_gd rfl rfl rfl (vq 6 rfl) nq (fun hg => r_load (lz0 3 rfl) ty_56)) (oc (ob_gd rfl rfl rfl (vq 6 rfl) nq (fun hg => r_load (lz0 2 rfl) ty_56)) (oc (ob_gd rfl rfl rfl (vq 6 rfl) nq (fun hg => r_call (xs := [.tmp 87, .tmp 88]) (sameMatrix_c _ _) (.cons (has_wh (vq 7 rfl) hg) (.cons (has_wh (vq 8 rfl) hg) .nil)))) (oc (ob_gd rfl rfl rfl (vq 6 rfl) nq (fun hg => r_not (has_wh (vq 9 rfl) hg))) (oc (ob_v rfl rfl (r_or (vq 6 rfl) (vq 10 rfl))) o0)))))))))))) (fun a w hst => ?_)
        have hst : St B w0 150 [(4, _), (91, _)] [⟨3, 49, ptrH, _⟩, ⟨9, 56, ptrH, _⟩, ⟨11, 56, ptrH, _⟩, ⟨13, 56, ptrH, _⟩] a w := hst
        refine thn_normal ?_
        refine cond_of hst (List.mem_of_getElem? (i := 1) rfl) (fun hb3 => ?_) (fun hb3 => ?_)
        · exact (br_no2 rfl hb3).elim
        · refine wp_skip ?_
          refine thn_normal ?_
          refine wp_seq ?_
          refine gl (sts := [none, none, none, none]) (news := [⟨15, 49, ptrH, some 6, _, some (7, _)⟩]) (sp := [.val 93 _, .val 94 _, .val 95 _, .val 92 _, .val 96 _, .val 97 _, .alc 4, .sto 4, .val 16 _]) [.g 0, .o 8] hst (oc (ob_v rfl rfl (r_load (lz0 1 rfl) ty_56)) (oc (ob_v rfl rfl (r_load (lz0 0 rfl) ty_49)) (oc (ob_v rfl rfl (r_call (xs := [.tmp 93, .tmp 94]) (through_c (rmOf (prodQ xs)) r) (.cons (vq 0 rfl) (.cons (vq 1 rfl) .nil)))) (oc (ob_v rfl rfl (r_move (vq 2 rfl))) (oc (ob_v rfl rfl (r_ex0 (vq 3 rfl))) (oc (ob_v rfl rfl (r_ex1 (vq 3 rfl))) (oc (ob_alc rfl rfl rfl (Str.zero str_ray)) (oc (ob_sto rfl rfl rfl (vq 4 rfl) ty_49 (Eq.trans (b := 8) rfl rfl)) (oc (ob_v rfl rfl (r_assign (vq 5 rfl))) o0))))))))) (fun a w hst => ?_)
          have hst : St B w0 150 [(4, _), (16, _)] [⟨3, 49, ptrH, _⟩, ⟨9, 56, ptrH, _⟩, ⟨11, 56, ptrH, _⟩, ⟨13, 56, ptrH, _⟩, ⟨15, 49, ptrH, _⟩] a w := hst
          refine thn_normal ?_
          refine wp_seq ?_
          refine wp_seq ?_
          refine gl (sts := [none, none, none, none, none]) (news := []) (sp := [.val 98 _, .val 99 _]) [.g 0, .g 1, .o 1] hst (oc (ob_v rfl rfl (r_move (gq 1 rfl))) (oc (ob_v rfl rfl (r_neq (vq 0 rfl) has_num)) o0)) (fun a w hst => ?_)
          have hst : St B w0 150 [(4, _), (16, _), (99, _)] [⟨3, 49, ptrH, _⟩, ⟨9, 56, ptrH, _⟩, ⟨11, 56, ptrH, _⟩, ⟨13, 56, ptrH, _⟩, ⟨15, 49, ptrH, _⟩] a w := hst
          refine thn_normal ?_
          refine cond_of hst (List.mem_of_getElem? (i := 2) rfl) (fun hb4 => ?_) (fun hb4 => ?_)
          · have hr := br_w k1 hb4
            refine wp_seq ?_
            refine gl (sts := [none, none, none, none, none]) (news := []) (sp := [.val 100 _, .val 101 _, .val 102 _, .val 103 (Wh (_ = false) _), .val 104 (Wh (_ = false) _), .val 105 _, .val 4 _]) [.o 6] hst (oc (ob_v rfl rfl (r_move (gq 1 rfl))) (oc (ob_v rfl rfl (r_eql (vq 0 rfl) has_num)) (oc (ob_v rfl rfl (r_move (vq 1 rfl))) (oc (ob_gd rfl rfl rfl (vq 2 rfl) nq (fun hg => r_move (gq 1 rfl))) (oc (ob_gd rfl rfl rfl (vq 2 rfl) nq (fun hg => r_eql (has_wh (vq 3 rfl) hg) has_num)) (oc (ob_v rfl rfl (r_or (vq 2 rfl) (vq 4 rfl))) (oc (ob_v rfl rfl (r_assign (vq 5 rfl))) o0))))))) (fun a w hst => ?_)
            have hst : St B w0 150 [(4, _)] [⟨3, 49, ptrH, _⟩, ⟨9, 56, ptrH, _⟩, ⟨11, 56, ptrH, _⟩, ⟨13, 56, ptrH, _⟩, ⟨15, 49, ptrH, _⟩] a w := hst
            refine thn_normal ?_
            refine wp_ret ?_
            refine thn_ret ?_
            refine ret_wk ?_ (ret_tmp rfl hst (List.mem_of_getElem? (i := 0) rfl))
            exact wk_eq (congrArg Bo hr)
          · obtain ⟨R, rfl, hR0, hR, hS, z3⟩ := br_r k1 hb4
            have hst := St.cvA (A' := RRA (rrOf (goQ (prodQ xs) R))) hst 4 rfl (congrArg (fun r : RR × Int => RRA r.1) z3)
            refine wp_skip ?_
            refine thn_normal ?_
            refine wp_seq ?_
            refine go_draw (anc := [[], [], [1], [0, 1, 2], [0, 1, 2, 3], [0, 1, 2, 3, 4], [0, 1, 2, 3, 4], [], [0, 1, 2, 3, 4, 5, 7], [0, 1, 2, 3, 4, 5, 6, 7, 8]]) (sts := [none, none, none, none, none]) (news := [⟨17, 26, ptrH, some 7, _, some (8, _)⟩]) (sp := [.val 107 _, .adr 108 15 (.some 4) True, .val 109 _, .val 110 _, .val 106 _, .val 111 _, .val 112 _, .alc 5, .sto 5, .val 18 _]) [.g 0, .o 9] follows_mixed hst (oc (ob_v rfl rfl (r_call (xs := [.const (.int .i64 (0)), .const (.int .i64 (1))]) (small10_c (by decide) (by decide) (by decide) (by decide) (by decide)) (.cons has_num (.cons has_num .nil)))) (oc (ob_a rfl rfl (a_fld (lz0 4 rfl) fld_49_1)) (oc (ob_v rfl rfl (r_loadf 1 rfl (by kernel_rfl) trivial (lz0 4 rfl) (Sub.part 1 rfl rfl) ty_26)) (oc (ob_v rfl rfl (r_call (xs := [.tmp 107, .tmp 109]) (sub0_l hS.2) (.cons (vq 0 rfl) (.cons (vq 2 rfl) .nil)))) (oc (ob_v rfl rfl (r_move (vq 3 rfl))) (oc (ob_v rfl rfl (r_ex0 (vq 4 rfl))) (oc (ob_v rfl rfl (r_ex1 (vq 4 rfl))) (oc (ob_alc rfl rfl rfl (Str.zero str_frac)) (oc (ob_sto rfl rfl rfl (vq 5 rfl) ty_26 (Eq.trans (b := 4) rfl rfl)) (oc (ob_v rfl rfl (r_assign (vq 6 rfl))) o0)))))))))) (by kernel_rfl) (by kernel_rfl) (by kernel_rfl) (by kernel_rfl) (fun a w hst => ?_)
            have hst : St B w0 150 [(4, _), (18, _)] [⟨3, 49, ptrH, _⟩, ⟨9, 56, ptrH, _⟩, ⟨11, 56, ptrH, _⟩, ⟨13, 56, ptrH, _⟩, ⟨15, 49, ptrH, _⟩, ⟨17, 26, ptrH, _⟩] a w := hst
            refine thn_normal ?_
            refine wp_seq ?_
            refine gl (sts := [none, none, none, none, none, none]) (news := [⟨19, 49, ptrH, some 9, _, some (10, _)⟩]) (sp := [.val 114 _, .adr 115 15 (.some 0) True, .val 116 _, .val 117 _, .val 118 _, .val 119 _, .val 113 _, .val 120 _, .val 121 _, .alc 6, .sto 6, .val 20 _]) [.g 0, .g 1, .o 11] hst (oc (ob_v rfl rfl (r_load (lz0 2 rfl) ty_56)) (oc (ob_a rfl rfl (a_fld (lz0 4 rfl) fld_49_0)) (oc (ob_v rfl rfl (r_loadf 1 rfl (by kernel_rfl) trivial (lz0 4 rfl) (Sub.part 0 rfl rfl) ty_26)) (oc (ob_v rfl rfl (r_load (lz0 5 rfl) ty_26)) (oc (ob_v rfl rfl (r_build (xs := [(0, .tmp 116), (1, .tmp 117)]) (qs := [(0, _), (1, _)]) str_ray (.cons ⟨rfl, (vq 2 rfl), rfl⟩ (.cons ⟨rfl, (vq 3 rfl), rfl⟩ .nil)))) (oc (ob_v rfl rfl (r_call (xs := [.tmp 114, .tmp 118]) (bgo_l (R := ⟨(goQ (prodQ xs) R).y, 0 - (goQ (prodQ xs) R).u⟩) (mir_k k1) (okR_of hS.1 (ln0 hS.2)) (by rw [br_home (det_of k1)]; exact ⟨hR.1, ln0 hR.2⟩) (br_home (det_of k1))) (.cons (vq 0 rfl) (.cons (vq 4 rfl) .nil)))) (oc (ob_v rfl rfl (r_move (vq 5 rfl))) (oc (ob_v rfl rfl (r_ex0 (vq 6 rfl))) (oc (ob_v rfl rfl (r_ex1 (vq 6 rfl))) (oc (ob_alc rfl rfl rfl (Str.zero str_ray)) (oc (ob_sto rfl rfl rfl (vq 7 rfl) ty_49 (Eq.trans (b := 8) rfl rfl)) (oc (ob_v rfl rfl (r_assign (vq 8 rfl))) o0)))))))))))) (fun a w hst => ?_)
            have hst : St B w0 150 [(4, _), (18, _), (20, _)] [⟨3, 49, ptrH, _⟩, ⟨9, 56, ptrH, _⟩, ⟨11, 56, ptrH, _⟩, ⟨13, 56, ptrH, _⟩, ⟨15, 49, ptrH, _⟩, ⟨17, 26, ptrH, _⟩, ⟨19, 49, ptrH, _⟩] a w := hst
            refine thn_normal ?_
            refine wp_seq ?_
            refine wp_seq ?_
            refine gl (sts := [none, none, none, none, none, none, none]) (news := []) (sp := [.val 122 _, .val 123 _, .val 124 _, .val 125 (Wh (_ = false) _), .val 126 (Wh (_ = false) _), .val 127 _]) [.g 0, .g 1, .o 5] hst (oc (ob_v rfl rfl (r_move (gq 1 rfl))) (oc (ob_v rfl rfl (r_neq (vq 0 rfl) has_num)) (oc (ob_v rfl rfl (r_move (vq 1 rfl))) (oc (ob_gd rfl rfl rfl (vq 2 rfl) nq (fun hg => r_move (gq 2 rfl))) (oc (ob_gd rfl rfl rfl (vq 2 rfl) nq (fun hg => r_neq (has_wh (vq 3 rfl) hg) has_num)) (oc (ob_v rfl rfl (r_or (vq 2 rfl) (vq 4 rfl))) o0)))))) (fun a w hst => ?_)
            have hst : St B w0 150 [(4, _), (18, _), (127, _)] [⟨3, 49, ptrH, _⟩, ⟨9, 56, ptrH, _⟩, ⟨11, 56, ptrH, _⟩, ⟨13, 56, ptrH, _⟩, ⟨15, 49, ptrH, _⟩, ⟨17, 26, ptrH, _⟩, ⟨19, 49, ptrH, _⟩] a w := hst
            refine thn_normal ?_
            refine cond_of hst (List.mem_of_getElem? (i := 2) rfl) (fun hb5 => ?_) (fun hb5 => ?_)
            · simp at hb5
            · refine wp_skip ?_
              refine thn_normal ?_
              refine wp_seq ?_
              refine go_draw (anc := [[], [], [1], [0, 1, 2], [0, 1, 2, 3], [0, 1, 2, 3, 4], [0, 1, 2, 3, 4], [0, 1, 2, 3, 4, 5], [0, 1, 2, 3, 4, 5, 6, 7]]) (sts := [none, none, none, none, none, some (7, _), none]) (news := []) (sp := [.val 129 _, .adr 130 19 (.some 4) True, .val 131 _, .val 132 _, .val 128 _, .val 133 _, .val 134 _, .sto 5, .val 18 _]) [.g 0, .o 8] follows_mixed hst (oc (ob_v rfl rfl (r_call (xs := [.const (.int .i64 (0)), .const (.int .i64 (1))]) (small10_c (by decide) (by decide) (by decide) (by decide) (by decide)) (.cons has_num (.cons has_num .nil)))) (oc (ob_a rfl rfl (a_fld (lz0 6 rfl) fld_49_1)) (oc (ob_v rfl rfl (r_loadf 1 rfl (by kernel_rfl) trivial (lz0 6 rfl) (Sub.part 1 rfl rfl) ty_26)) (oc (ob_v rfl rfl (r_call (xs := [.tmp 129, .tmp 131]) (sub0_l (ln0 hR.2)) (.cons (vq 0 rfl) (.cons (vq 2 rfl) .nil)))) (oc (ob_v rfl rfl (r_move (vq 3 rfl))) (oc (ob_v rfl rfl (r_ex0 (vq 4 rfl))) (oc (ob_v rfl rfl (r_ex1 (vq 4 rfl))) (oc (ob_sto rfl rfl rfl (vq 5 rfl) ty_26 (Eq.trans (b := 4) rfl rfl)) (oc (ob_v rfl rfl (r_assign (vq 6 rfl))) o0))))))))) (by kernel_rfl) (by kernel_rfl) (by kernel_rfl) (by kernel_rfl) (fun a w hst => ?_)
              have hst : St B w0 150 [(4, _), (18, _)] [⟨3, 49, ptrH, _⟩, ⟨9, 56, ptrH, _⟩, ⟨11, 56, ptrH, _⟩, ⟨13, 56, ptrH, _⟩, ⟨15, 49, ptrH, _⟩, ⟨17, 26, ptrH, _⟩, ⟨19, 49, ptrH, _⟩] a w := hst
              refine thn_normal ?_
              refine wp_seq ?_
              refine gl (sts := [none, none, none, none, none, none, none]) (news := []) (sp := [.val 135 _, .val 136 _, .val 137 _, .adr 138 19 (.some 0) (_ = true), .val 139 (Wh (_ = true) _), .adr 140 3 (.some 0) (_ = true), .val 141 (Wh (_ = true) _), .val 142 (Wh (_ = true) _), .val 143 _, .val 144 _, .val 145 (Wh (_ = true) _), .adr 146 3 (.some 4) (_ = true), .val 147 (Wh (_ = true) _), .val 148 (Wh (_ = true) _), .val 149 _, .val 4 _]) [.o 15] hst (oc (ob_v rfl rfl (r_move (gq 1 rfl))) (oc (ob_v rfl rfl (r_eql (vq 0 rfl) has_num)) (oc (ob_v rfl rfl (r_move (vq 1 rfl))) (oc (ob_ag rfl rfl rfl (vq 2 rfl) nq (fun hg => a_fld (lz0 6 rfl) fld_49_0)) (oc (ob_gd rfl rfl rfl (vq 2 rfl) nq (fun hg => r_loadf 3 rfl (by kernel_rfl) hg (lz0 6 rfl) (Sub.part 0 rfl rfl) ty_26)) (oc (ob_ag rfl rfl rfl (vq 2 rfl) nq (fun hg => a_fld (lz0 0 rfl) fld_49_0)) (oc (ob_gd rfl rfl rfl (vq 2 rfl) nq (fun hg => r_loadf 5 rfl (by kernel_rfl) hg (lz0 0 rfl) (Sub.part 0 rfl rfl) ty_26)) (oc (ob_gd rfl rfl rfl (vq 2 rfl) nq (fun hg => r_call (xs := [.tmp 139, .tmp 141]) (sameFrac_c _ _) (.cons (has_wh (vq 4 rfl) hg) (.cons (has_wh (vq 6 rfl) hg) .nil)))) (oc (ob_v rfl rfl (r_and (vq 2 rfl) (vq 7 rfl))) (oc (ob_v rfl rfl (r_move (vq 8 rfl))) (oc (ob_gd rfl rfl rfl (vq 9 rfl) nq (fun hg => r_load (lz0 5 rfl) ty_26)) (oc (ob_ag rfl rfl rfl (vq 9 rfl) nq (fun hg => a_fld (lz0 0 rfl) fld_49_1)) (oc (ob_gd rfl rfl rfl (vq 9 rfl) nq (fun hg => r_loadf 11 rfl (by kernel_rfl) hg (lz0 0 rfl) (Sub.part 1 rfl rfl) ty_26)) (oc (ob_gd rfl rfl rfl (vq 9 rfl) nq (fun hg => r_call (xs := [.tmp 145, .tmp 147]) (sameFrac_c _ _) (.cons (has_wh (vq 10 rfl) hg) (.cons (has_wh (vq 12 rfl) hg) .nil)))) (oc (ob_v rfl rfl (r_and (vq 9 rfl) (vq 13 rfl))) (oc (ob_v rfl rfl (r_assign (vq 14 rfl))) o0)))))))))))))))) (fun a w hst => ?_)
              have hst : St B w0 150 [(4, _)] [⟨3, 49, ptrH, _⟩, ⟨9, 56, ptrH, _⟩, ⟨11, 56, ptrH, _⟩, ⟨13, 56, ptrH, _⟩, ⟨15, 49, ptrH, _⟩, ⟨17, 26, ptrH, _⟩, ⟨19, 49, ptrH, _⟩] a w := hst
              refine thn_normal ?_
              refine wp_ret ?_
              refine ret_wk ?_ (ret_tmp rfl hst (List.mem_of_getElem? (i := 0) rfl))
              exact wk_eq (congrArg Bo (br_end rfl (congrArg rfOf (sub_sub0 _))))

open Go.ChangeShapes Go.WideShapes Go.ChangeAt
open Go.ChangeMaps (open_string shut_string)
set_option linter.unusedVariables false
theorem own : ownKnob Tryz.prog.godebug = none := by kernel_rfl
theorem laidOut : laidOutB Tryz.prog = true := by kernel_rfl
set_option maxRecDepth 100000 in
theorem lifted (os : Os) (started : os.Started) (H : Type) (enc : TypeId × Value → H) :
    ReturnsInHanded {} Tryz.checked os 4 .any (Rows.benchReturnsSpec.pre6 enc Tryz.prog Tryz.f4 Rows.benchReturnsRow.domain false) (Rows.benchReturnsSpec.post enc Tryz.prog Tryz.f4 false true false false) := by
  refine returnsInHanded_of_change (C := Tryz.checked) own started (by kernel_rfl) Tryz.func4
    (ChangeSpec.witness6 (enc := enc) (C := Tryz.checked) false ⟨#[], #[.slice none 0 0, .agg #[.bool false, .slice none 0 0, .bool false, .slice none 0 0, .bool false, .slice none 0 0, .bool false, .slice none 0 0]], []⟩ 8 (by kernel_rfl) (by kernel_rfl) (by kernel_rfl) (by kernel_rfl)) ?_
  intro W base args ds gs before hval0 hW hcnd _
  have hval : ∀ (j : Nat) t v, Tryz.f4.params[j]? = some t → args[j]? = some v → Value.okWide Tryz.prog W .any base t v := hval0
  have hW' := hW
  obtain ⟨p, q, hA0, hV, rfl, hfz, hnd⟩ := hW
  have hA : DataW.TrodAll enc Tryz.prog W 0 (fun _ => true) true Tryz.f4.params.toList args.toList ds p := hA0
  rw [Tryz.params4] at hA hval
  obtain ⟨v0, vs0, d0, ds0, p0, q0, hargs, rfl, rfl, h0, r0⟩ := trodAll_cons hA
  obtain ⟨v1, vs1, d1, ds1, p1, q1, rfl, rfl, rfl, h1, r1⟩ := trodAll_cons r0
  obtain ⟨rfl, rfl, rfl⟩ := trodAll_nil r1
  obtain rfl : args = #[v0, v1] := by cases args; simp_all
  obtain ⟨rfl, rfl⟩ := trodVars_none hV
  have k0 := h0
  have lt0 : ∀ x ∈ p0, x.block < W.heap.size := by obtain ⟨m, hm⟩ := k0; exact DataW.trod_lt m _ _ _ hm
  have k1 := h1
  have lt1 : ∀ x ∈ p1, x.block < W.heap.size := by obtain ⟨m, hm⟩ := k1; exact DataW.trod_lt m _ _ _ hm
  obtain ⟨x0, a0⟩ := arg_sl (A := REA) (m := 9) (D := [145]) Tryz.underlying47 (by kernel_rfl) (by decide) (fun _ => nd_self (by kernel_rfl)) rd_re (hval 0 47 v0 rfl rfl) h0
  obtain ⟨x1, a1⟩ := arg_of (A := RRA) (fun _ => rfl) Tryz.underlying49 rd_rr (hval 1 49 v1 rfl rfl) h1
  clear hA0 hval0
  refine ((returns_w x0 x1).2 W.heap.size W [v0, v1] (Nat.le_refl _) (.cons a0 (.cons a1 .nil))).mono fun e W' ⟨v, he, hv, bel⟩ => ?_
  have hv' := bo_val hv
  subst hv' he
  exact ⟨_, rfl, _, _, _, [], _, [], hW', trodAll_mk1 (shut_bool Tryz.underlying4 _), (trodAll_cons_mk (Below.trod laidOut (by kernel_rfl) (of_decide_eq_true (by kernel_rfl)) k0 bel lt0) (trodAll_cons_mk (Below.trod laidOut (by kernel_rfl) (of_decide_eq_true (by kernel_rfl)) k1 bel lt1) trodAll_mk0)), rfl, bel.frame _, fun h => by cases h⟩
theorem over : Rows.benchReturnsRow.holds Tryz.pinned (OpenSpec.ofChange Rows.benchReturnsSpec) :=
  OpenClaim.holds_of_wide 4 Tryz.f4 rfl rfl rfl rfl rfl rfl rfl ⟨rfl, rfl, rfl, rfl, rfl⟩ rfl rfl rfl rfl rfl (by kernel_rfl) Tryz.func4 (by kernel_rfl)
    (of_decide_eq_true (by kernel_rfl)) (by unfold Func.isWrapper; rw [if_neg (of_decide_eq_false (by kernel_rfl))]; exact ⟨rfl, rfl⟩)
    (fun os started H enc _ => lifted os started H enc)
theorem provedBenchReturns : Rows.BenchReturnsSaid := over
#print axioms provedBenchReturns

end Go.Proofs.YtgjolcbehcjhcaaGreat
