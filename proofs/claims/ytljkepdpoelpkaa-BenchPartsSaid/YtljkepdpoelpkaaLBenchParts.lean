/- BenchParts: for all matrices the law of chapter 10 on the bench of a matrix answers true. No condition. -/
import Derived.Test.YtljkepdpoelpkaaBenO
import Derived.Test.YtljkepdpoelpkaaBenE
import Derived.Test.YtljkepdpoelpkaaRayL
import Derived.Test.YtljkepdpoelpkaaRows
import Derived.WalkKit
import Derived.ProofKit
import Derived.OpenShut
import Derived.ShutString
import Derived.ChangeOld
import Derived.Below
namespace Go.Proofs.Ytljkepdpoelpkaa
open Go Go.RowKit
namespace LBenchParts
theorem sl_62 : Sl Try.prog 62 3 1 := ⟨by kernel_rfl, by kernel_rfl⟩
theorem ty_37 : Ty Try.prog 37 16 true := ⟨by kernel_rfl, by kernel_rfl⟩
end LBenchParts
open LBenchParts
theorem parts_s (m : RM) : Cn Try.prog 16 [(RMA m).va] (Tu [(SlA 49 [U32] (((parF m).1.map reOf).map REA)).va, In (parF m).2]) := (parts_c m).wkp (tu2w eb_sl wk_id)
theorem par_no {m : RM} (h : okM m = false) : parF m = ([], 1) := by rw [parF, h]; rfl
theorem par_ok {m : RM} (h : okM m = true) : parF m = toldL (partsQ (toM m)) := if_pos h
theorem bp_err {m : RM} (h : ((parF m).2 != 0) = true) : (((parF m).2 == 1) && ((if okM m then (0 : Int) else 1) != 0) || ((parF m).2 == 4) && ((if okM m then (0 : Int) else 1) == 0)) = true := by
  cases hm : okM m with
  | false => rw [par_no hm]; rfl
  | true =>
    rw [par_ok hm] at h ⊢
    rcases tlF_2 ((partsQ (toM m)).map reOf) with h1 | h1
    · rw [toldL_0 h1] at h; simp at h
    · rw [toldL_4 h1]; rfl
theorem bp_ok {m : RM} (h : ((parF m).2 != 0) = false) : okM m = true ∧ parF m = (partsQ (toM m), 0) ∧ ∀ e ∈ partsQ (toM m), longQ e.2 = false := by
  cases hm : okM m with
  | false => rw [par_no hm] at h; exact absurd h (by decide)
  | true =>
    rw [par_ok hm] at h ⊢
    rcases tlF_2 ((partsQ (toM m)).map reOf) with h1 | h1
    · exact ⟨rfl, toldL_0 h1, told_all h1⟩
    · rw [toldL_4 h1] at h; exact absurd h (by decide)
theorem okX_lg {x : RF} (h : okX x = true) : longQ (toQ x) = false := longQ_false.2 (okX_q h).2
theorem bp_mat {m : RM} (hm : okM m = true) (hl : ∀ e ∈ partsQ (toM m), longQ e.2 = false) : benF ((partsQ (toM m)).map reOf) = (m, 0) := by
  obtain ⟨hp, h5⟩ := parts_plain (toM m)
  have hx := okM_q hm
  have e1 : prodQ ((partsQ (toM m)).map reOf) = toM m := by
    rw [prod_re hp.1]
    exact parts_prd hx.2
  have h4 := hx.1
  simp only [List.all_cons, List.all_nil, Bool.and_true, Bool.and_eq_true] at h4
  rw [benF, if_pos (ch_re hp hl (by omega)), e1]
  have h9 : [(toM m).a, (toM m).b, (toM m).c, (toM m).d].any longQ = false := by
    simp only [List.any_cons, List.any_nil, Bool.or_false, Bool.or_eq_false_iff]
    exact ⟨okX_lg h4.1, okX_lg h4.2.1, okX_lg h4.2.2.1, okX_lg h4.2.2.2⟩
  rw [as_none h9, ← okM_rm hm]
theorem bp_end {L : List EQ} {m n : RM} (h : L.length ≤ 5) (e : m = n) : ((((((0 : Int) == 0) && decide ((((L.map reOf).map REA).length : Int) ≤ 5)) && true)) && decide (m = n)) = true := by
  subst e
  simp
  omega

set_option maxRecDepth 100000 in
set_option maxHeartbeats 4000000 in
theorem parts_w (m : RM) : Cn Try.prog 4 [(RMA m).va] (Bo true) := by
  refine Cn.intro Try.func4 rfl (by kernel_rfl) nq (fun B w0 a hst => ?_)
  have hst : St B w0 60 [(0, (RMA m).va)] [] a w0.w := hst
  refine wp_seq ?_
  refine gl (sts := []) (news := [⟨1, 37, ptrH, some 0, _, none⟩]) (sp := [.alc 0, .val 2 _]) [.o 1] hst (oc (ob_box rfl rfl rfl (gq 0 rfl)) (oc (ob_v rfl rfl (r_assign has_bo)) o0)) (fun a w hst => ?_)
  have hst : St B w0 60 [(2, _)] [⟨1, 37, ptrH, _⟩] a w := hst
  refine thn_normal ?_
  refine wp_seq ?_
  refine wp_seq ?_
  refine gl (sts := [none]) (news := []) (sp := [.val 7 _, .val 8 _, .val 9 _, .val 10 (Wh (_ = false) _), .val 11 (Wh (_ = false) _), .val 12 (Wh (_ = false) _), .val 13 (Wh (_ = false) _), .val 14 _]) [.g 0, .o 7] hst (oc (ob_v rfl rfl (r_call (xs := []) alive10_c .nil)) (oc (ob_v rfl rfl (r_not (vq 0 rfl))) (oc (ob_v rfl rfl (r_move (vq 1 rfl))) (oc (ob_gd rfl rfl rfl (vq 2 rfl) nq (fun hg => r_load (lz0 0 rfl) ty_37)) (oc (ob_gd rfl rfl rfl (vq 2 rfl) nq (fun hg => r_call (xs := [.tmp 10]) (matCost_c _) (.cons (has_wh (vq 3 rfl) hg) .nil))) (oc (ob_gd rfl rfl rfl (vq 2 rfl) nq (fun hg => r_slice (D := []) (l := [_]) (xs := [.tmp 11]) (nd_ok (by kernel_rfl)) sl_62 (by kernel_rfl) (n_ok (by kernel_rfl)) nq nq nq (.cons (has_wh (vq 4 rfl) hg) .nil) rfl rfl)) (oc (ob_gd rfl rfl rfl (vq 2 rfl) nq (fun hg => r_call (xs := [.tmp 12]) (beyond_c [_]) (.cons (has_wh (vq 5 rfl) hg) .nil))) (oc (ob_v rfl rfl (r_or (vq 2 rfl) (vq 6 rfl))) o0)))))))) (fun a w hst => ?_)
  have hst : St B w0 60 [(2, _), (14, _)] [⟨1, 37, ptrH, _⟩] a w := hst
  refine thn_normal ?_
  refine cond_of hst (List.mem_of_getElem? (i := 1) rfl) (fun hb0 => ?_) (fun hb0 => ?_)
  · refine wp_seq ?_
    refine gl (sts := [none]) (news := []) (sp := [.val 15 _, .val 2 _]) [.o 1] hst (oc (ob_v rfl rfl (r_call (xs := []) alive10_c .nil)) (oc (ob_v rfl rfl (r_assign (vq 0 rfl))) o0)) (fun a w hst => ?_)
    have hst : St B w0 60 [(2, _)] [⟨1, 37, ptrH, _⟩] a w := hst
    refine thn_normal ?_
    refine wp_ret ?_
    refine thn_ret ?_
    refine ret_wk ?_ (ret_tmp rfl hst (List.mem_of_getElem? (i := 0) rfl))
    exact wk_id
  · refine wp_skip ?_
    refine thn_normal ?_
    refine wp_seq ?_
    refine gl (sts := [none]) (news := []) (sp := [.val 17 _, .val 18 _, .val 16 _, .val 19 _, .val 20 _, .val 3 _, .val 4 _]) [.g 0, .o 5, .o 6] hst (oc (ob_v rfl rfl (r_load (lz0 0 rfl) ty_37)) (oc (ob_v rfl rfl (r_call (xs := [.tmp 17]) (parts_s m) (.cons (vq 0 rfl) .nil))) (oc (ob_v rfl rfl (r_move (vq 1 rfl))) (oc (ob_v rfl rfl (r_ex0 (vq 2 rfl))) (oc (ob_v rfl rfl (r_ex1 (vq 2 rfl))) (oc (ob_v rfl rfl (r_assign (vq 3 rfl))) (oc (ob_v rfl rfl (r_assign (vq 4 rfl))) o0))))))) (fun a w hst => ?_)
    have hst : St B w0 60 [(2, _), (3, _), (4, _)] [⟨1, 37, ptrH, _⟩] a w := hst
    refine thn_normal ?_
    refine wp_seq ?_
    refine wp_seq ?_
    refine gl (sts := [none]) (news := []) (sp := [.val 21 _, .val 22 _]) [.g 0, .g 1, .g 2, .o 1] hst (oc (ob_v rfl rfl (r_move (gq 2 rfl))) (oc (ob_v rfl rfl (r_neq (vq 0 rfl) has_num)) o0)) (fun a w hst => ?_)
    have hst : St B w0 60 [(2, _), (3, _), (4, _), (22, _)] [⟨1, 37, ptrH, _⟩] a w := hst
    refine thn_normal ?_
    refine cond_of hst (List.mem_of_getElem? (i := 3) rfl) (fun hb1 => ?_) (fun hb1 => ?_)
    · have hr := bp_err hb1
      refine wp_seq ?_
      refine gl (sts := [none]) (news := []) (sp := [.val 23 _, .val 24 _, .val 25 _, .val 26 (Wh (_ = true) _), .val 27 (Wh (_ = true) _), .val 28 (Wh (_ = true) _), .val 29 _, .val 30 _, .val 31 (Wh (_ = false) _), .val 32 (Wh (_ = false) _), .val 33 (Wh (_ = false) _), .val 34 (Wh ((_ = false) ∧ _ = true) _), .val 35 (Wh ((_ = false) ∧ _ = true) _), .val 36 (Wh ((_ = false) ∧ _ = true) _), .val 37 (Wh (_ = false) _), .val 38 _, .val 2 _]) [.g 1, .o 16] hst (oc (ob_v rfl rfl (r_move (gq 2 rfl))) (oc (ob_v rfl rfl (r_eql (vq 0 rfl) has_num)) (oc (ob_v rfl rfl (r_move (vq 1 rfl))) (oc (ob_gd rfl rfl rfl (vq 2 rfl) nq (fun hg => r_load (lz0 0 rfl) ty_37)) (oc (ob_gd rfl rfl rfl (vq 2 rfl) nq (fun hg => r_call (xs := [.tmp 26]) (rayCheck_c _) (.cons (has_wh (vq 3 rfl) hg) .nil))) (oc (ob_gd rfl rfl rfl (vq 2 rfl) nq (fun hg => r_neq (has_wh (vq 4 rfl) hg) has_num)) (oc (ob_v rfl rfl (r_and (vq 2 rfl) (vq 5 rfl))) (oc (ob_v rfl rfl (r_move (vq 6 rfl))) (oc (ob_gd rfl rfl rfl (vq 7 rfl) nq (fun hg => r_move (gq 2 rfl))) (oc (ob_gd rfl rfl rfl (vq 7 rfl) nq (fun hg => r_eql (has_wh (vq 8 rfl) hg) has_num)) (oc (ob_gd rfl rfl rfl (vq 7 rfl) nq (fun hg => r_move (has_wh (vq 9 rfl) hg))) (oc (ob_gd2 rfl rfl rfl (vq 10 rfl) nq (fun hg => r_load (lz0 0 rfl) ty_37)) (oc (ob_gd2 rfl rfl rfl (vq 10 rfl) nq (fun hg => r_call (xs := [.tmp 34]) (rayCheck_c _) (.cons (has_wh (vq 11 rfl) hg) .nil))) (oc (ob_gd2 rfl rfl rfl (vq 10 rfl) nq (fun hg => r_eql (has_wh (vq 12 rfl) hg) has_num)) (oc (ob_gd rfl rfl rfl (vq 7 rfl) nq (fun hg => r_and (has_wh (vq 10 rfl) hg) (has_wh2 (vq 13 rfl) hg))) (oc (ob_v rfl rfl (r_or (vq 7 rfl) (vq 14 rfl))) (oc (ob_v rfl rfl (r_assign (vq 15 rfl))) o0))))))))))))))))) (fun a w hst => ?_)
      have hst : St B w0 60 [(3, _), (2, _)] [⟨1, 37, ptrH, _⟩] a w := hst
      refine thn_normal ?_
      refine wp_ret ?_
      refine thn_ret ?_
      refine ret_wk ?_ (ret_tmp rfl hst (List.mem_of_getElem? (i := 1) rfl))
      exact wk_eq (congrArg Bo hr)
    · obtain ⟨hm, hP, hL⟩ := bp_ok hb1
      have hp := parts_plain (toM m)
      have hst := St.cvG (A' := (SlA 49 [U32] (((partsQ (toM m)).map reOf).map REA)).va) hst 1 rfl (congrArg (fun r : List EQ × Int => (SlA 49 [U32] ((r.1.map reOf).map REA)).va) hP)
      refine wp_skip ?_
      refine thn_normal ?_
      refine wp_seq ?_
      refine gl (sts := [none]) (news := [⟨5, 37, ptrH, some 5, _, some (6, _)⟩]) (sp := [.val 40 _, .val 41 _, .val 39 _, .val 42 _, .val 43 _, .alc 1, .sto 1, .val 6 _]) [.g 0, .g 1, .o 7] hst (oc (ob_v rfl rfl (r_move (gq 1 rfl))) (oc (ob_v rfl rfl (r_call (xs := [.tmp 40]) (benMatrix_c ((partsQ (toM m)).map reOf)) (.cons (vq 0 rfl) .nil))) (oc (ob_v rfl rfl (r_move (vq 1 rfl))) (oc (ob_v rfl rfl (r_ex0 (vq 2 rfl))) (oc (ob_v rfl rfl (r_ex1 (vq 2 rfl))) (oc (ob_alc rfl rfl rfl (Str.zero str_matrix)) (oc (ob_sto rfl rfl rfl (vq 3 rfl) ty_37 (Eq.trans (b := 16) rfl rfl)) (oc (ob_v rfl rfl (r_assign (vq 4 rfl))) o0)))))))) (fun a w hst => ?_)
      have hst : St B w0 60 [(2, _), (3, _), (6, _)] [⟨1, 37, ptrH, _⟩, ⟨5, 37, ptrH, _⟩] a w := hst
      have hst := St.cvA (A' := RMA m) hst 1 rfl (congrArg (fun r : RM × Int => RMA r.1) (bp_mat hm hL))
      have hst := St.cvG (A' := In 0) hst 2 rfl (congrArg (fun r : RM × Int => In r.2) (bp_mat hm hL))
      refine thn_normal ?_
      refine wp_seq ?_
      refine gl (sts := [none, none]) (news := []) (sp := [.val 44 _, .val 45 _, .val 46 _, .val 47 (Wh (_ = true) _), .val 48 (Wh (_ = true) _), .val 49 (Wh (_ = true) _), .val 50 _, .val 51 _, .val 52 (Wh (_ = true) _), .val 53 (Wh (_ = true) _), .val 54 _, .val 55 _, .val 56 (Wh (_ = true) _), .val 57 (Wh (_ = true) _), .val 58 (Wh (_ = true) _), .val 59 _, .val 2 _]) [.o 16] hst (oc (ob_v rfl rfl (r_move (gq 2 rfl))) (oc (ob_v rfl rfl (r_eql (vq 0 rfl) has_num)) (oc (ob_v rfl rfl (r_move (vq 1 rfl))) (oc (ob_gd rfl rfl rfl (vq 2 rfl) nq (fun hg => r_move (gq 1 rfl))) (oc (ob_gd rfl rfl rfl (vq 2 rfl) nq (fun hg => r_len Try.underlying22 (has_wh (vq 3 rfl) hg))) (oc (ob_gd rfl rfl rfl (vq 2 rfl) nq (fun hg => r_leq (has_wh (vq 4 rfl) hg) has_num)) (oc (ob_v rfl rfl (r_and (vq 2 rfl) (vq 5 rfl))) (oc (ob_v rfl rfl (r_move (vq 6 rfl))) (oc (ob_gd rfl rfl rfl (vq 7 rfl) nq (fun hg => r_move (gq 1 rfl))) (oc (ob_gd rfl rfl rfl (vq 7 rfl) nq (fun hg => r_call (xs := [.tmp 52]) (plain_c (partsQ (toM m)) hp.1 hL) (.cons (has_wh (vq 8 rfl) hg) .nil))) (oc (ob_v rfl rfl (r_and (vq 7 rfl) (vq 9 rfl))) (oc (ob_v rfl rfl (r_move (vq 10 rfl))) (oc (ob_gd rfl rfl rfl (vq 11 rfl) nq (fun hg => r_load (lz0 0 rfl) ty_37)) (oc (ob_gd rfl rfl rfl (vq 11 rfl) nq (fun hg => r_load (lz0 1 rfl) ty_37)) (oc (ob_gd rfl rfl rfl (vq 11 rfl) nq (fun hg => r_call (xs := [.tmp 56, .tmp 57]) (sameMatrix_c _ _) (.cons (has_wh (vq 12 rfl) hg) (.cons (has_wh (vq 13 rfl) hg) .nil)))) (oc (ob_v rfl rfl (r_and (vq 11 rfl) (vq 14 rfl))) (oc (ob_v rfl rfl (r_assign (vq 15 rfl))) o0))))))))))))))))) (fun a w hst => ?_)
      have hst : St B w0 60 [(2, _)] [⟨1, 37, ptrH, _⟩, ⟨5, 37, ptrH, _⟩] a w := hst
      refine thn_normal ?_
      refine wp_ret ?_
      refine ret_wk ?_ (ret_tmp rfl hst (List.mem_of_getElem? (i := 0) rfl))
      exact wk_eq (congrArg Bo (bp_end hp.2 rfl))

open Go.ChangeShapes Go.WideShapes Go.ChangeAt
open Go.ChangeMaps (open_string shut_string)
set_option linter.unusedVariables false
theorem own : ownKnob Try.prog.godebug = none := by kernel_rfl
theorem laidOut : laidOutB Try.prog = true := by kernel_rfl
set_option maxRecDepth 100000 in
theorem lifted (os : Os) (started : os.Started) (H : Type) (enc : TypeId × Value → H) :
    ReturnsInHanded {} Try.checked os 4 .any (Rows.benchPartsSpec.pre6 enc Try.prog Try.f4 Rows.benchPartsRow.domain false) (Rows.benchPartsSpec.post enc Try.prog Try.f4 false true false false) := by
  refine returnsInHanded_of_change (C := Try.checked) own started (by kernel_rfl) Try.func4
    (ChangeSpec.witness6 (enc := enc) (C := Try.checked) false ⟨#[], #[.agg #[.bool false, .slice none 0 0, .bool false, .slice none 0 0, .bool false, .slice none 0 0, .bool false, .slice none 0 0, .bool false, .slice none 0 0, .bool false, .slice none 0 0, .bool false, .slice none 0 0, .bool false, .slice none 0 0]], []⟩ 8 (by kernel_rfl) (by kernel_rfl) (by kernel_rfl) (by kernel_rfl)) ?_
  intro W base args ds gs before hval0 hW hcnd _
  have hval : ∀ (j : Nat) t v, Try.f4.params[j]? = some t → args[j]? = some v → Value.okWide Try.prog W .any base t v := hval0
  have hW' := hW
  obtain ⟨p, q, hA0, hV, rfl, hfz, hnd⟩ := hW
  have hA : DataW.TrodAll enc Try.prog W 0 (fun _ => true) true Try.f4.params.toList args.toList ds p := hA0
  rw [Try.params4] at hA hval
  obtain ⟨v0, vs0, d0, ds0, p0, q0, hargs, rfl, rfl, h0, r0⟩ := trodAll_cons hA
  obtain ⟨rfl, rfl, rfl⟩ := trodAll_nil r0
  obtain rfl : args = #[v0] := by cases args; simp_all
  obtain ⟨rfl, rfl⟩ := trodVars_none hV
  have k0 := h0
  have lt0 : ∀ x ∈ p0, x.block < W.heap.size := by obtain ⟨m, hm⟩ := k0; exact DataW.trod_lt m _ _ _ hm
  obtain ⟨x0, a0⟩ := arg_of (A := RMA) (fun _ => rfl) Try.underlying37 rd_rm (hval 0 37 v0 rfl rfl) h0
  clear hA0 hval0
  refine ((parts_w x0).2 W.heap.size W [v0] (Nat.le_refl _) (.cons a0 .nil)).mono fun e W' ⟨v, he, hv, bel⟩ => ?_
  have hv' := bo_val hv
  subst hv' he
  exact ⟨_, rfl, _, _, _, [], _, [], hW', trodAll_mk1 (shut_bool Try.underlying4 _), (trodAll_cons_mk (Below.trod laidOut (by kernel_rfl) (of_decide_eq_true (by kernel_rfl)) k0 bel lt0) trodAll_mk0), rfl, bel.frame _, fun h => by cases h⟩
theorem over : Rows.benchPartsRow.holds Try.pinned (OpenSpec.ofChange Rows.benchPartsSpec) :=
  OpenClaim.holds_of_wide 4 Try.f4 rfl rfl rfl rfl rfl rfl rfl ⟨rfl, rfl, rfl, rfl, rfl⟩ rfl rfl rfl rfl rfl (by kernel_rfl) Try.func4 (by kernel_rfl)
    (of_decide_eq_true (by kernel_rfl)) (by unfold Func.isWrapper; rw [if_neg (of_decide_eq_false (by kernel_rfl))]; exact ⟨rfl, rfl⟩)
    (fun os started H enc _ => lifted os started H enc)
theorem provedBenchParts : Rows.BenchPartsSaid := over
#print axioms provedBenchParts

end Go.Proofs.Ytljkepdpoelpkaa
