/- CavityKinds: for all matrices the law of chapter 12 on the kind of a matrix, held against the reference, answers true. No condition. -/
import Derived.Test.YtmghfjcjcfaagaaGreatRefL
import Derived.Test.YtmghfjcjcfaagaaGreatCavB
import Derived.Test.YtmghfjcjcfaagaaGreatTwiC
import Derived.Test.YtmghfjcjcfaagaaGreatRdB
import Derived.Test.YtmghfjcjcfaagaaGreatRows
import Derived.WalkKit
import Derived.ProofKit
import Derived.OpenShut
import Derived.ShutString
import Derived.ChangeOld
import Derived.Below
namespace Go.Proofs.YtmghfjcjcfaagaaGreat
open Go Go.RowKit
namespace LCavityKinds
theorem sl_69 : Sl Tryz.prog 69 3 1 := ⟨by kernel_rfl, by kernel_rfl⟩
theorem ty_28 : Ty Tryz.prog 28 16 true := ⟨by kernel_rfl, by kernel_rfl⟩
end LCavityKinds
open LCavityKinds
theorem byd_m {x : RM} (hx : wdM x) (h : bydF 0 [matCostF x] = false) : bdF x.a ∧ bdF x.b ∧ bdF x.c ∧ bdF x.d := by
  obtain ⟨a, b, c, d, e, l, hs⟩ := mat_cost hx
  rw [e] at h
  have := byd_0 (l := [a + b + c + d]) (by simp; omega) h
  simp at this
  unfold bdF
  omega

set_option maxRecDepth 100000 in
theorem kinds_w (x : RM) (hx : wdM x) : Cn Tryz.prog 4 [(RMA x).va] (Bo true) := by
  refine Cn.intro Tryz.func4 rfl (by kernel_rfl) nq (fun B w0 a hst => ?_)
  have hst : St B w0 40 [(0, (RMA x).va)] [] a w0.w := hst
  refine wp_seq ?_
  refine gl (sts := []) (news := [⟨1, 28, ptrH, some 0, _, none⟩]) (sp := [.alc 0, .val 2 _]) [.o 1] hst (oc (ob_box rfl rfl rfl (gq 0 rfl)) (oc (ob_v rfl rfl (r_assign has_bo)) o0)) (fun a w hst => ?_)
  have hst : St B w0 40 [(2, _)] [⟨1, 28, ptrH, _⟩] a w := hst
  refine thn_normal ?_
  refine wp_seq ?_
  refine wp_seq ?_
  refine gl (sts := [none]) (news := []) (sp := [.val 8 _, .val 9 _, .val 10 _, .val 11 _]) [.g 0, .o 3] hst (oc (ob_v rfl rfl (r_load (lz0 0 rfl) ty_28)) (oc (ob_v rfl rfl (r_call (xs := [.tmp 8]) (matCost_c _) (.cons (vq 0 rfl) .nil))) (oc (ob_v rfl rfl (r_slice (D := []) (l := [_]) (xs := [.tmp 9]) (nd_ok (by kernel_rfl)) sl_69 (by kernel_rfl) (n_ok (by kernel_rfl)) nq nq nq (.cons (vq 1 rfl) .nil) rfl rfl)) (oc (ob_v rfl rfl (r_call (xs := [.tmp 10]) (beyond_c [_]) (.cons (vq 2 rfl) .nil))) o0)))) (fun a w hst => ?_)
  have hst : St B w0 40 [(2, _), (11, _)] [⟨1, 28, ptrH, _⟩] a w := hst
  refine thn_normal ?_
  refine cond_of hst (List.mem_of_getElem? (i := 1) rfl) (fun hb0 => ?_) (fun hb0 => ?_)
  · refine wp_seq ?_
    refine gl (sts := [none]) (news := []) (sp := [.val 2 _]) [.o 0] hst (oc (ob_v rfl rfl (r_assign has_bo)) o0) (fun a w hst => ?_)
    have hst : St B w0 40 [(2, _)] [⟨1, 28, ptrH, _⟩] a w := hst
    refine thn_normal ?_
    refine wp_ret ?_
    refine thn_ret ?_
    refine ret_wk ?_ (ret_tmp rfl hst (List.mem_of_getElem? (i := 0) rfl))
    exact wk_id
  · have hbd := byd_m hx hb0
    refine wp_skip ?_
    refine thn_normal ?_
    refine wp_seq ?_
    refine gl (sts := [none]) (news := [⟨3, 28, ptrH, some 2, _, some (3, _)⟩]) (sp := [.val 12 _, .val 13 _, .alc 1, .sto 1]) [.g 0] hst (oc (ob_v rfl rfl (r_load (lz0 0 rfl) ty_28)) (oc (ob_v rfl rfl (r_call (xs := [.tmp 12]) (twinMatrix_c x hbd) (.cons (vq 0 rfl) .nil))) (oc (ob_alc rfl rfl rfl (Str.zero str_matrix)) (oc (ob_sto rfl rfl rfl (vq 1 rfl) ty_28 (Eq.trans (b := 16) rfl rfl)) o0)))) (fun a w hst => ?_)
    have hst : St B w0 40 [(2, _)] [⟨1, 28, ptrH, _⟩, ⟨3, 28, ptrH, _⟩] a w := hst
    refine thn_normal ?_
    refine wp_seq ?_
    refine gl (sts := [none, none]) (news := []) (sp := [.val 15 _, .val 16 _, .val 14 _, .val 17 _, .val 18 _, .val 4 _, .val 5 _]) [.g 0, .o 5, .o 6] hst (oc (ob_v rfl rfl (r_load (lz0 1 rfl) ty_28)) (oc (ob_v rfl rfl (r_call (xs := [.tmp 15]) ((kind_c x).wk (.cons wkA_rmt.va .nil)) (.cons (vq 0 rfl) .nil))) (oc (ob_v rfl rfl (r_move (vq 1 rfl))) (oc (ob_v rfl rfl (r_ex0 (vq 2 rfl))) (oc (ob_v rfl rfl (r_ex1 (vq 2 rfl))) (oc (ob_v rfl rfl (r_assign (vq 3 rfl))) (oc (ob_v rfl rfl (r_assign (vq 4 rfl))) o0))))))) (fun a w hst => ?_)
    have hst : St B w0 40 [(2, _), (4, _), (5, _)] [⟨1, 28, ptrH, _⟩, ⟨3, 28, ptrH, _⟩] a w := hst
    refine thn_normal ?_
    refine wp_seq ?_
    refine gl (sts := [none, none]) (news := []) (sp := [.val 20 _, .val 21 _, .val 19 _, .val 22 _, .val 23 _, .val 6 _, .val 7 _]) [.g 0, .g 1, .g 2, .o 5, .o 6] hst (oc (ob_v rfl rfl (r_load (lz0 0 rfl) ty_28)) (oc (ob_v rfl rfl (r_call (xs := [.tmp 20]) ((r12kind0_c x).post rfl) (.cons (vq 0 rfl) .nil))) (oc (ob_v rfl rfl (r_move (vq 1 rfl))) (oc (ob_v rfl rfl (r_ex0 (vq 2 rfl))) (oc (ob_v rfl rfl (r_ex1 (vq 2 rfl))) (oc (ob_v rfl rfl (r_assign (vq 3 rfl))) (oc (ob_v rfl rfl (r_assign (vq 4 rfl))) o0))))))) (fun a w hst => ?_)
    have hst : St B w0 40 [(2, _), (4, _), (5, _), (6, _), (7, _)] [⟨1, 28, ptrH, _⟩, ⟨3, 28, ptrH, _⟩] a w := hst
    refine thn_normal ?_
    refine wp_seq ?_
    refine gl (sts := [none, none]) (news := []) (sp := [.val 24 _, .val 25 _, .val 26 _, .val 27 _, .val 28 (Wh (_ = true) _), .val 29 (Wh (_ = true) _), .val 30 (Wh (_ = true) _), .val 31 _, .val 32 _, .val 33 (Wh (_ = true) _), .val 34 (Wh (_ = true) _), .val 35 (Wh (_ = true) _), .val 36 _, .val 37 _, .val 38 (Wh (_ = true) _), .val 39 _, .val 2 _]) [.o 16] hst (oc (ob_v rfl rfl (r_move (gq 1 rfl))) (oc (ob_v rfl rfl (r_move (gq 3 rfl))) (oc (ob_v rfl rfl (r_eql (vq 0 rfl) (vq 1 rfl))) (oc (ob_v rfl rfl (r_move (vq 2 rfl))) (oc (ob_gd rfl rfl rfl (vq 3 rfl) nq (fun hg => r_move (gq 2 rfl))) (oc (ob_gd rfl rfl rfl (vq 3 rfl) nq (fun hg => r_move (gq 4 rfl))) (oc (ob_gd rfl rfl rfl (vq 3 rfl) nq (fun hg => r_eql (has_wh (vq 4 rfl) hg) (has_wh (vq 5 rfl) hg))) (oc (ob_v rfl rfl (r_and (vq 3 rfl) (vq 6 rfl))) (oc (ob_v rfl rfl (r_move (vq 7 rfl))) (oc (ob_gd rfl rfl rfl (vq 8 rfl) nq (fun hg => r_load (lz0 1 rfl) ty_28)) (oc (ob_gd rfl rfl rfl (vq 8 rfl) nq (fun hg => r_load (lz0 0 rfl) ty_28)) (oc (ob_gd rfl rfl rfl (vq 8 rfl) nq (fun hg => r_call (xs := [.tmp 33, .tmp 34]) (leftMatrix_c x x hbd) (.cons (has_wh (vq 9 rfl) hg) (.cons (has_wh (vq 10 rfl) hg) .nil)))) (oc (ob_v rfl rfl (r_and (vq 8 rfl) (vq 11 rfl))) (oc (ob_v rfl rfl (r_move (vq 12 rfl))) (oc (ob_gd rfl rfl rfl (vq 13 rfl) nq (fun hg => r_call (xs := []) alive12_c .nil)) (oc (ob_v rfl rfl (r_and (vq 13 rfl) (vq 14 rfl))) (oc (ob_v rfl rfl (r_assign (vq 15 rfl))) o0))))))))))))))))) (fun a w hst => ?_)
    have hst : St B w0 40 [(2, _)] [⟨1, 28, ptrH, _⟩, ⟨3, 28, ptrH, _⟩] a w := hst
    refine thn_normal ?_
    refine wp_ret ?_
    refine ret_wk ?_ (ret_tmp rfl hst (List.mem_of_getElem? (i := 0) rfl))
    refine wk_eq (congrArg Bo ?_); unfold kiF; rw [← rk_ki]; simp

open Go.ChangeShapes Go.WideShapes Go.ChangeAt
open Go.ChangeMaps (open_string shut_string)
set_option linter.unusedVariables false
theorem own : ownKnob Tryz.prog.godebug = none := by kernel_rfl
theorem laidOut : laidOutB Tryz.prog = true := by kernel_rfl
set_option maxRecDepth 100000 in
theorem lifted (os : Os) (started : os.Started) (H : Type) (enc : TypeId × Value → H) :
    ReturnsInHanded {} Tryz.checked os 4 .any (Rows.cavityKindsSpec.pre6 enc Tryz.prog Tryz.f4 Rows.cavityKindsRow.domain false) (Rows.cavityKindsSpec.post enc Tryz.prog Tryz.f4 false true false false) := by
  refine returnsInHanded_of_change_sized (C := Tryz.checked) own started (by kernel_rfl) Tryz.func4
    (ChangeSpec.witness6 (enc := enc) (C := Tryz.checked) false ⟨#[], #[.agg #[.bool false, .slice none 0 0, .bool false, .slice none 0 0, .bool false, .slice none 0 0, .bool false, .slice none 0 0, .bool false, .slice none 0 0, .bool false, .slice none 0 0, .bool false, .slice none 0 0, .bool false, .slice none 0 0]], []⟩ 8 (by kernel_rfl) (by kernel_rfl) (by kernel_rfl) (by kernel_rfl)) ?_
  intro W base args ds gs before hval0 hW hcnd hwt _
  have hval : ∀ (j : Nat) t v, Tryz.f4.params[j]? = some t → args[j]? = some v → Value.okWide Tryz.prog W .any base t v := hval0
  have hW' := hW
  obtain ⟨p, q, hA0, hV, rfl, hfz, hnd⟩ := hW
  have hA : DataW.TrodAll enc Tryz.prog W 0 (fun _ => true) true Tryz.f4.params.toList args.toList ds p := hA0
  rw [Tryz.params4] at hA hval hwt
  obtain ⟨v0, vs0, d0, ds0, p0, q0, hargs, rfl, rfl, h0, r0⟩ := trodAll_cons hA
  obtain ⟨rfl, rfl, rfl⟩ := trodAll_nil r0
  obtain rfl : args = #[v0] := by cases args; simp_all
  obtain ⟨rfl, rfl⟩ := trodVars_none hV
  have k0 := h0
  have lt0 : ∀ x ∈ p0, x.block < W.heap.size := by obtain ⟨m, hm⟩ := k0; exact DataW.trod_lt m _ _ _ hm
  obtain ⟨x0, a0, b0⟩ := arg_ofB (A := RMA) (bd := wdM) (fun _ => rfl) Tryz.underlying28 rb_rm (hval 0 28 v0 rfl rfl) h0 (wt_of hwt 0 rfl rfl)
  clear hA0 hval0
  refine ((kinds_w x0 b0).2 W.heap.size W [v0] (Nat.le_refl _) (.cons a0 .nil)).mono fun e W' ⟨v, he, hv, bel⟩ => ?_
  have hv' := bo_val hv
  subst hv' he
  exact ⟨_, rfl, _, _, _, [], _, [], hW', trodAll_mk1 (shut_bool Tryz.underlying4 _), (trodAll_cons_mk (Below.trod laidOut (by kernel_rfl) (of_decide_eq_true (by kernel_rfl)) k0 bel lt0) trodAll_mk0), rfl, bel.frame _, fun h => by cases h⟩
theorem over : Rows.cavityKindsRow.holds Tryz.pinned (OpenSpec.ofChange Rows.cavityKindsSpec) :=
  OpenClaim.holds_of_wide 4 Tryz.f4 rfl rfl rfl rfl rfl rfl rfl ⟨rfl, rfl, rfl, rfl, rfl⟩ rfl rfl rfl rfl rfl (by kernel_rfl) Tryz.func4 (by kernel_rfl)
    (of_decide_eq_true (by kernel_rfl)) (by unfold Func.isWrapper; rw [if_neg (of_decide_eq_false (by kernel_rfl))]; exact ⟨rfl, rfl⟩)
    (fun os started H enc _ => lifted os started H enc)
theorem provedCavityKinds : Rows.CavityKindsSaid := over
#print axioms provedCavityKinds

end Go.Proofs.YtmghfjcjcfaagaaGreat
