/- MatchBests: for all beams the law of chapter 20 on the best of several, held against the reference, answers true. No condition. -/
import Derived.Test.YtmghfjcjcfaagaaGreatRefN
import Derived.Test.YtmghfjcjcfaagaaGreatTwiD
import Derived.Test.YtmghfjcjcfaagaaGreatRdB
import Derived.Test.YtmghfjcjcfaagaaGreatLeafW
import Derived.Test.YtmghfjcjcfaagaaGreatRows
import Derived.WalkKit
import Derived.ProofKit
import Derived.OpenShut
import Derived.ShutString
import Derived.ChangeOld
import Derived.Below
namespace Go.Proofs.YtmghfjcjcfaagaaGreat
open Go Go.RowKit
namespace LMatchBests
theorem sl_69 : Sl Tryz.prog 69 3 1 := ⟨by kernel_rfl, by kernel_rfl⟩
theorem ty_52 : Ty Tryz.prog 52 8 true := ⟨by kernel_rfl, by kernel_rfl⟩
end LMatchBests
open LMatchBests
set_option linter.unusedVariables false
theorem byd_gg {x : RG} {xs : List RG} (hx : wdG x) (hs : (∀ y ∈ xs, wdG y) ∧ xs.length ≤ 140737488355328) (h : bydF 0 [gaussCostF x, gcsF (xs.length : Nat) xs] = false) : (bdF x.re ∧ bdF x.im) ∧ xs.length ≤ 10000000 ∧ bdLGausses xs := by
  obtain ⟨a, b, e, l, hs1⟩ := gauss_cost hx
  obtain ⟨c, h1, h2, h3⟩ := gcs_ok xs xs.length hs.1 (by omega)
  rw [e, h1] at h
  have := byd_0 (l := [a + b, c]) (by simp; omega) h
  simp at this
  obtain ⟨h4, h5⟩ := h3 (by omega)
  refine ⟨by unfold bdF; omega, by omega, fun y hy => ?_⟩
  have := h5 y hy
  unfold shG at this
  unfold bdF
  omega

set_option maxRecDepth 100000 in
set_option maxHeartbeats 1000000 in
theorem bests_w (p : RG) (hp : wdG p) (xs : List RG) (hxs : (∀ y ∈ xs, wdG y) ∧ xs.length ≤ 140737488355328) : Cn Tryz.prog 5 [(RGA p).va, (SlA 52 [U32] (xs.map RGA)).va] (Bo true) := by
  refine Cn.introF Tryz.func5 rfl (by kernel_rfl) nq (fun B w0 a hF hst => ?_)
  have hst : St B w0 54 [(0, (RGA p).va), (1, (SlA 52 [U32] (xs.map RGA)).va)] [] a w0.w := hst
  obtain ⟨v1, hv1, hst⟩ := St.eqv hst 1 rfl
  refine wp_seq ?_
  refine gl (sts := []) (news := [⟨2, 52, ptrH, some 0, _, none⟩]) (sp := [.alc 0, .val 4 _]) [.g 1, .o 1] hst (oc (ob_box rfl rfl rfl (gq 0 rfl)) (oc (ob_v rfl rfl (r_assign has_bo)) o0)) (fun a w hst => ?_)
  have hst : St B w0 54 [(1, _), (4, _)] [⟨2, 52, ptrH, _⟩] a w := hst
  refine thn_normal ?_
  refine wp_seq ?_
  refine wp_seq ?_
  refine gl (sts := [none]) (news := []) (sp := [.val 11 _, .val 12 _, .val 13 _, .val 14 _, .val 15 _, .val 16 _]) [.g 0, .g 1, .o 5] hst (oc (ob_v rfl rfl (r_load (lz0 0 rfl) ty_52)) (oc (ob_v rfl rfl (r_call (xs := [.tmp 11]) (gaussCost_c _) (.cons (vq 0 rfl) .nil))) (oc (ob_v rfl rfl (r_move (gq 0 rfl))) (oc (ob_v rfl rfl (r_call (xs := [.tmp 13]) (gaussesCost_c _) (.cons (has_again hF hv1 (vq 2 rfl)) .nil))) (oc (ob_v rfl rfl (r_slice (D := []) (l := [_, _]) (xs := [.tmp 12, .tmp 14]) (nd_ok (by kernel_rfl)) sl_69 (by kernel_rfl) (n_ok (by kernel_rfl)) nq nq nq (.cons (vq 1 rfl) (.cons (vq 3 rfl) .nil)) rfl rfl)) (oc (ob_v rfl rfl (r_call (xs := [.tmp 15]) (beyond_c [_, _]) (.cons (vq 4 rfl) .nil))) o0)))))) (fun a w hst => ?_)
  have hst : St B w0 54 [(1, _), (4, _), (16, _)] [⟨2, 52, ptrH, _⟩] a w := hst
  refine thn_normal ?_
  refine cond_of hst (List.mem_of_getElem? (i := 2) rfl) (fun hb0 => ?_) (fun hb0 => ?_)
  · refine wp_seq ?_
    refine gl (sts := [none]) (news := []) (sp := [.val 4 _]) [.g 0, .o 0] hst (oc (ob_v rfl rfl (r_assign has_bo)) o0) (fun a w hst => ?_)
    have hst : St B w0 54 [(1, _), (4, _)] [⟨2, 52, ptrH, _⟩] a w := hst
    refine thn_normal ?_
    refine wp_ret ?_
    refine thn_ret ?_
    refine ret_wk ?_ (ret_tmp rfl hst (List.mem_of_getElem? (i := 1) rfl))
    exact wk_id
  · obtain ⟨hb, hl, hbs⟩ := byd_gg hp hxs hb0
    refine wp_skip ?_
    refine thn_normal ?_
    refine wp_seq ?_
    refine gl (sts := [none]) (news := [⟨5, 52, ptrH, some 2, _, some (3, _)⟩]) (sp := [.val 17 _, .val 18 _, .alc 1, .sto 1]) [.g 0, .g 1] hst (oc (ob_v rfl rfl (r_load (lz0 0 rfl) ty_52)) (oc (ob_v rfl rfl (r_call (xs := [.tmp 17]) (twinGauss_c p hb) (.cons (vq 0 rfl) .nil))) (oc (ob_alc rfl rfl rfl (Str.zero str_gauss)) (oc (ob_sto rfl rfl rfl (vq 1 rfl) ty_52 (Eq.trans (b := 8) rfl rfl)) o0)))) (fun a w hst => ?_)
    have hst : St B w0 54 [(1, _), (4, _)] [⟨2, 52, ptrH, _⟩, ⟨5, 52, ptrH, _⟩] a w := hst
    refine thn_normal ?_
    refine wp_seq ?_
    refine gl (sts := [none, none]) (news := []) (sp := [.val 19 _, .val 20 _, .val 6 _]) [.g 0, .g 1, .o 2] hst (oc (ob_v rfl rfl (r_move (gq 0 rfl))) (oc (ob_v rfl rfl (r_call (xs := [.tmp 19]) (twinGausses_c xs hl hbs) (.cons (has_again hF hv1 (vq 0 rfl)) .nil))) (oc (ob_v rfl rfl (r_assign (vq 1 rfl))) o0))) (fun a w hst => ?_)
    have hst : St B w0 54 [(1, _), (4, _), (6, _)] [⟨2, 52, ptrH, _⟩, ⟨5, 52, ptrH, _⟩] a w := hst
    refine thn_normal ?_
    refine wp_seq ?_
    refine gl (sts := [none, none]) (news := []) (sp := [.val 22 _, .val 23 _, .val 24 _, .val 21 _, .val 25 _, .val 26 _, .val 7 _, .val 8 _]) [.g 0, .g 1, .g 2, .o 6, .o 7] hst (oc (ob_v rfl rfl (r_load (lz0 1 rfl) ty_52)) (oc (ob_v rfl rfl (r_move (gq 2 rfl))) (oc (ob_v rfl rfl (r_call (xs := [.tmp 22, .tmp 23]) ((best_c p xs).wk (.cons wkA_rgt.va (.cons (wk_trans twS_sl (sl_wk (map_all2 fun x => wkA_rgt) (map_all (p := fun A => ∀ T ∈ A.deps, T ∈ [U32]) fun x => nd_selfB (by kernel_rfl))).va) .nil))) (.cons (vq 0 rfl) (.cons (vq 1 rfl) .nil)))) (oc (ob_v rfl rfl (r_move (vq 2 rfl))) (oc (ob_v rfl rfl (r_ex0 (vq 3 rfl))) (oc (ob_v rfl rfl (r_ex1 (vq 3 rfl))) (oc (ob_v rfl rfl (r_assign (vq 4 rfl))) (oc (ob_v rfl rfl (r_assign (vq 5 rfl))) o0)))))))) (fun a w hst => ?_)
    have hst : St B w0 54 [(1, _), (4, _), (6, _), (7, _), (8, _)] [⟨2, 52, ptrH, _⟩, ⟨5, 52, ptrH, _⟩] a w := hst
    refine thn_normal ?_
    refine wp_seq ?_
    refine gl (sts := [none, none]) (news := []) (sp := [.val 28 _, .val 29 _, .val 30 _, .val 27 _, .val 31 _, .val 32 _, .val 9 _, .val 10 _]) [.g 0, .g 1, .g 2, .g 3, .g 4, .o 6, .o 7] hst (oc (ob_v rfl rfl (r_load (lz0 0 rfl) ty_52)) (oc (ob_v rfl rfl (r_move (gq 0 rfl))) (oc (ob_v rfl rfl (r_call (xs := [.tmp 28, .tmp 29]) (r20best_c p xs hl) (.cons (vq 0 rfl) (.cons (has_again hF hv1 (vq 1 rfl)) .nil)))) (oc (ob_v rfl rfl (r_move (vq 2 rfl))) (oc (ob_v rfl rfl (r_ex0 (vq 3 rfl))) (oc (ob_v rfl rfl (r_ex1 (vq 3 rfl))) (oc (ob_v rfl rfl (r_assign (vq 4 rfl))) (oc (ob_v rfl rfl (r_assign (vq 5 rfl))) o0)))))))) (fun a w hst => ?_)
    have hst : St B w0 54 [(1, _), (4, _), (6, _), (7, _), (8, _), (9, _), (10, _)] [⟨2, 52, ptrH, _⟩, ⟨5, 52, ptrH, _⟩] a w := hst
    refine thn_normal ?_
    refine wp_seq ?_
    refine gl (sts := [none, none]) (news := []) (sp := [.val 33 _, .val 34 _, .val 35 _, .val 36 _, .val 37 (Wh (_ = true) _), .val 38 (Wh (_ = true) _), .val 39 (Wh (_ = true) _), .val 40 _, .val 41 _, .val 42 (Wh (_ = true) _), .val 43 (Wh (_ = true) _), .val 44 (Wh (_ = true) _), .val 45 _, .val 46 _, .val 47 (Wh (_ = true) _), .val 48 (Wh (_ = true) _), .val 49 (Wh (_ = true) _), .val 50 _, .val 51 _, .val 52 (Wh (_ = true) _), .val 53 _, .val 4 _]) [.o 21] hst (oc (ob_v rfl rfl (r_move (gq 3 rfl))) (oc (ob_v rfl rfl (r_move (gq 5 rfl))) (oc (ob_v rfl rfl (r_eql (vq 0 rfl) (vq 1 rfl))) (oc (ob_v rfl rfl (r_move (vq 2 rfl))) (oc (ob_gd rfl rfl rfl (vq 3 rfl) nq (fun hg => r_move (gq 4 rfl))) (oc (ob_gd rfl rfl rfl (vq 3 rfl) nq (fun hg => r_move (gq 6 rfl))) (oc (ob_gd rfl rfl rfl (vq 3 rfl) nq (fun hg => r_eql (has_wh (vq 4 rfl) hg) (has_wh (vq 5 rfl) hg))) (oc (ob_v rfl rfl (r_and (vq 3 rfl) (vq 6 rfl))) (oc (ob_v rfl rfl (r_move (vq 7 rfl))) (oc (ob_gd rfl rfl rfl (vq 8 rfl) nq (fun hg => r_load (lz0 1 rfl) ty_52)) (oc (ob_gd rfl rfl rfl (vq 8 rfl) nq (fun hg => r_load (lz0 0 rfl) ty_52)) (oc (ob_gd rfl rfl rfl (vq 8 rfl) nq (fun hg => r_call (xs := [.tmp 42, .tmp 43]) (leftGauss_c p p hb) (.cons (has_wh (vq 9 rfl) hg) (.cons (has_wh (vq 10 rfl) hg) .nil)))) (oc (ob_v rfl rfl (r_and (vq 8 rfl) (vq 11 rfl))) (oc (ob_v rfl rfl (r_move (vq 12 rfl))) (oc (ob_gd rfl rfl rfl (vq 13 rfl) nq (fun hg => r_move (gq 2 rfl))) (oc (ob_gd rfl rfl rfl (vq 13 rfl) nq (fun hg => r_move (gq 0 rfl))) (oc (ob_gd rfl rfl rfl (vq 13 rfl) nq (fun hg => r_call (xs := [.tmp 47, .tmp 48]) (leftGausses_c xs xs hl hbs) (.cons (has_wh (vq 14 rfl) hg) (.cons (has_again hF hv1 (has_wh (vq 15 rfl) hg)) .nil)))) (oc (ob_v rfl rfl (r_and (vq 13 rfl) (vq 16 rfl))) (oc (ob_v rfl rfl (r_move (vq 17 rfl))) (oc (ob_gd rfl rfl rfl (vq 18 rfl) nq (fun hg => r_call (xs := []) lives20_c .nil)) (oc (ob_v rfl rfl (r_and (vq 18 rfl) (vq 19 rfl))) (oc (ob_v rfl rfl (r_assign (vq 20 rfl))) o0)))))))))))))))))))))) (fun a w hst => ?_)
    have hst : St B w0 54 [(4, _)] [⟨2, 52, ptrH, _⟩, ⟨5, 52, ptrH, _⟩] a w := hst
    refine thn_normal ?_
    refine wp_ret ?_
    refine ret_wk ?_ (ret_tmp rfl hst (List.mem_of_getElem? (i := 0) rfl))
    refine wk_eq (congrArg Bo ?_); simp

open Go.ChangeShapes Go.WideShapes Go.ChangeAt
open Go.ChangeMaps (open_string shut_string)
set_option linter.unusedVariables false
theorem own : ownKnob Tryz.prog.godebug = none := by kernel_rfl
theorem laidOut : laidOutB Tryz.prog = true := by kernel_rfl
set_option maxRecDepth 100000 in
theorem lifted (os : Os) (started : os.Started) (H : Type) (enc : TypeId × Value → H) :
    ReturnsInHanded {} Tryz.checked os 5 .any (Rows.matchBestsSpec.pre6 enc Tryz.prog Tryz.f5 Rows.matchBestsRow.domain false) (Rows.matchBestsSpec.post enc Tryz.prog Tryz.f5 false true false false) := by
  refine returnsInHanded_of_change_sized (C := Tryz.checked) own started (by kernel_rfl) Tryz.func5
    (ChangeSpec.witness6 (enc := enc) (C := Tryz.checked) false ⟨#[], #[.agg #[.bool false, .slice none 0 0, .bool false, .slice none 0 0, .bool false, .slice none 0 0, .bool false, .slice none 0 0], .slice none 0 0], []⟩ 8 (by kernel_rfl) (by kernel_rfl) (by kernel_rfl) (by kernel_rfl)) ?_
  intro W base args ds gs before hval0 hW hcnd hwt _
  have hval : ∀ (j : Nat) t v, Tryz.f5.params[j]? = some t → args[j]? = some v → Value.okWide Tryz.prog W .any base t v := hval0
  have hW' := hW
  obtain ⟨p, q, hA0, hV, rfl, hfz, hnd⟩ := hW
  have hA : DataW.TrodAll enc Tryz.prog W 0 (fun _ => true) true Tryz.f5.params.toList args.toList ds p := hA0
  rw [Tryz.params5] at hA hval hwt
  obtain ⟨v0, vs0, d0, ds0, p0, q0, hargs, rfl, rfl, h0, r0⟩ := trodAll_cons hA
  obtain ⟨v1, vs1, d1, ds1, p1, q1, rfl, rfl, rfl, h1, r1⟩ := trodAll_cons r0
  obtain ⟨rfl, rfl, rfl⟩ := trodAll_nil r1
  obtain rfl : args = #[v0, v1] := by cases args; simp_all
  obtain ⟨rfl, rfl⟩ := trodVars_none hV
  have k0 := h0
  have lt0 : ∀ x ∈ p0, x.block < W.heap.size := by obtain ⟨m, hm⟩ := k0; exact DataW.trod_lt m _ _ _ hm
  have k1 := h1
  have lt1 : ∀ x ∈ p1, x.block < W.heap.size := by obtain ⟨m, hm⟩ := k1; exact DataW.trod_lt m _ _ _ hm
  obtain ⟨x0, a0, b0⟩ := arg_ofB (A := RGA) (bd := wdG) (fun _ => rfl) Tryz.underlying52 rb_rg (hval 0 52 v0 rfl rfl) h0 (wt_of hwt 0 rfl rfl)
  obtain ⟨x1, a1, b1⟩ := arg_slB (A := RGA) (bd := wdG) (m := 8) (D := [122]) Tryz.underlying53 (by kernel_rfl) (by decide) (Nat.lt_of_lt_of_eq (by decide) (show 128 = Tryz.prog.bytesOf 52 from by kernel_rfl)) (fun _ => nd_selfB (by kernel_rfl)) rb_rg (hval 1 53 v1 rfl rfl) h1 (wt_of hwt 1 rfl rfl)
  clear hA0 hval0
  refine ((bests_w x0 b0 x1 b1).2 W.heap.size W [v0, v1] (Nat.le_refl _) (.cons a0 (.cons a1 .nil))).mono fun e W' ⟨v, he, hv, bel⟩ => ?_
  have hv' := bo_val hv
  subst hv' he
  exact ⟨_, rfl, _, _, _, [], _, [], hW', trodAll_mk1 (shut_bool Tryz.underlying4 _), (trodAll_cons_mk (Below.trod laidOut (by kernel_rfl) (of_decide_eq_true (by kernel_rfl)) k0 bel lt0) (trodAll_cons_mk (Below.trod laidOut (by kernel_rfl) (of_decide_eq_true (by kernel_rfl)) k1 bel lt1) trodAll_mk0)), rfl, bel.frame _, fun h => by cases h⟩
theorem over : Rows.matchBestsRow.holds Tryz.pinned (OpenSpec.ofChange Rows.matchBestsSpec) :=
  OpenClaim.holds_of_wide 5 Tryz.f5 rfl rfl rfl rfl rfl rfl rfl ⟨rfl, rfl, rfl, rfl, rfl⟩ rfl rfl rfl rfl rfl (by kernel_rfl) Tryz.func5 (by kernel_rfl)
    (of_decide_eq_true (by kernel_rfl)) (by unfold Func.isWrapper; rw [if_neg (of_decide_eq_false (by kernel_rfl))]; exact ⟨rfl, rfl⟩)
    (fun os started H enc _ => lifted os started H enc)
theorem provedMatchBests : Rows.MatchBestsSaid := over
#print axioms provedMatchBests

end Go.Proofs.YtmghfjcjcfaagaaGreat
