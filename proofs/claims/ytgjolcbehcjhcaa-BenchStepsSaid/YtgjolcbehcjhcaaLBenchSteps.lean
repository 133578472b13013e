/- BenchSteps: for all benches and rays the law of chapter 10 on traces answers true. No condition. -/
import Derived.Test.YtgjolcbehcjhcaaBenG
import Derived.Test.YtgjolcbehcjhcaaRows
import Derived.WalkKit
import Derived.ProofKit
import Derived.OpenShut
import Derived.ShutString
import Derived.ChangeOld
import Derived.Below
namespace Go.Proofs.Ytgjolcbehcjhcaa
open Go Go.RowKit
namespace LBenchSteps
theorem sl_135 : Sl Try.prog 135 3 1 := ⟨by kernel_rfl, by kernel_rfl⟩
theorem sl_53 : Sl Try.prog 53 70 9 := ⟨by kernel_rfl, by kernel_rfl⟩
theorem sl_65 : Sl Try.prog 65 62 8 := ⟨by kernel_rfl, by kernel_rfl⟩
theorem ty_28 : Ty Try.prog 28 16 true := ⟨by kernel_rfl, by kernel_rfl⟩
theorem ty_62 : Ty Try.prog 62 8 true := ⟨by kernel_rfl, by kernel_rfl⟩
theorem ty_70 : Ty Try.prog 70 9 true := ⟨by kernel_rfl, by kernel_rfl⟩
end LBenchSteps
open LBenchSteps
theorem bo_t {c : Bool} (h : c = true) : Wk (Bo c) (Bo true) := by subst h; exact wk_id
theorem as_two (m : MQ) : (asM 0 m = (rm0, 4)) ∨ (asM 0 m = (rmOf m, 0) ∧ Ls m) := by
  cases h : [m.a, m.b, m.c, m.d].any longQ with
  | true => exact .inl (as_any h)
  | false =>
    refine .inr ⟨as_none h, ?_⟩
    simp only [List.any_cons, List.any_nil, Bool.or_false, Bool.or_eq_false_iff] at h
    exact h
theorem okM_d {m : MQ} (h : Ls m) (hd : detM m = 1) : okM (rmOf m) = true := okM_of h.1 h.2.1 h.2.2.1 h.2.2.2 hd
theorem ben_two {xs : List RE} (h : chF xs = 0) : (benF xs = (rm0, 4)) ∨ (benF xs = (rmOf (prodQ xs), 0) ∧ okM (rmOf (prodQ xs)) = true) := by
  have e : benF xs = asM 0 (prodQ xs) := by rw [benF, if_pos h]
  rw [e]
  rcases as_two (prodQ xs) with h1 | ⟨h1, h2⟩
  · exact .inl h1
  · exact .inr ⟨h1, okM_d h2 (prod_det (ch_ok h).2)⟩
theorem e04 {xs : List RE} (h : chF xs = 0) : (((benF xs).2 == 0) || ((benF xs).2 == 4)) = true := by
  rcases ben_two h with h1 | ⟨h1, _⟩ <;> rw [h1] <;> rfl
theorem one_two {x : RE} (h : elF x = true) : (be1F x = (rm0, 4)) ∨ (be1F x = (rmOf (elM x), 0) ∧ okM (rmOf (elM x)) = true) := by
  have e : be1F x = asM 0 (elM x) := by rw [be1F, if_pos h]
  rw [e]
  rcases as_two (elM x) with h1 | ⟨h1, h2⟩
  · exact .inl h1
  · exact .inr ⟨h1, okM_d h2 (el_det h)⟩
theorem one_4 {x : RE} (h : elF x = true) (h2 : ((be1F x).2 != 0) = true) : ((be1F x).2 == 4) = true := by
  rcases one_two h with h1 | ⟨h1, _⟩ <;> rw [h1] at h2 ⊢
  · rfl
  · simp at h2
theorem one_0 {x : RE} (h : elF x = true) (h2 : ((be1F x).2 != 0) = false) : be1F x = (rmOf (elM x), 0) ∧ okM (rmOf (elM x)) = true := by
  rcases one_two h with h1 | h1
  · rw [h1] at h2; exact absurd h2 (by decide)
  · exact h1
theorem ch_app {xs ys : List RE} (h1 : chF xs = 0) (h2 : chF ys = 0) (h3 : xs.length + ys.length ≤ 4096) : chF (xs ++ ys) = 0 := ch_mk (by rw [List.length_append]; omega) (by rw [List.all_append, (ch_ok h1).2, (ch_ok h2).2]; rfl)
theorem st_in {xs ys : List RE} {c : Bool} (h : (((!true) || (!fiF xs ys)) || c) = false) : chF xs = 0 ∧ chF ys = 0 ∧ xs.length + ys.length ≤ 4096 := fi_ok (by cases h2 : fiF xs ys with | true => rfl | false => rw [h2] at h; simp at h)
theorem tra_no {xs : List RE} {r : RR} (hc : chF xs = 0) : (((traF xs r).2 == 1) || ((traF xs r).2 == 4)) = true ∨ (traF xs r).2 = 0 := by
  unfold traF
  rw [if_pos hc]
  by_cases h1 : [r.y, r.u].all okX = true
  · rw [if_pos h1]
    by_cases h2 : (frsL xs (toY r) xs.length).any longQ = true
    · rw [if_pos h2]; exact .inl rfl
    · rw [if_neg h2]; exact .inr rfl
  · rw [if_neg h1]; exact .inl rfl
theorem frs_l {xs : List RE} {q : YQ} {n : Nat} (h : (frsL xs q n).any longQ = false) : ∀ j, j < n → longQ (rayQ xs q (j + 1)).y = false ∧ longQ (rayQ xs q (j + 1)).u = false := fun j hj => by
  rw [List.any_eq_false] at h
  have key : ∀ x ∈ [(rayQ xs q (j + 1)).y, (rayQ xs q (j + 1)).u], longQ x = false := fun x hx => by
    have := h x (List.mem_flatMap.2 ⟨rayQ xs q (j + 1), List.mem_map.2 ⟨j, List.mem_range.2 hj, rfl⟩, hx⟩)
    simpa using this
  exact ⟨key _ (by simp), key _ (by simp)⟩
theorem frs_any {xs : List RE} {q : YQ} {n : Nat} (h : ∀ j, j < n → longQ (rayQ xs q (j + 1)).y = false ∧ longQ (rayQ xs q (j + 1)).u = false) : (frsL xs q n).any longQ = false := by
  rw [List.any_eq_false]
  intro x hx
  obtain ⟨y, hy, hx⟩ := List.mem_flatMap.1 hx
  obtain ⟨j, hj, rfl⟩ := List.mem_map.1 hy
  obtain ⟨h1, h2⟩ := h j (List.mem_range.1 hj)
  rcases List.mem_cons.1 hx with rfl | hx
  · simp [h1]
  · cases List.mem_singleton.1 hx
    simp [h2]
theorem tra_ok {xs : List RE} {r : RR} (hc : chF xs = 0) (h : (traF xs r).2 = 0) : okR r = true ∧ (∀ j, j ≤ xs.length → okR (rrOf (rayQ xs (toY r) j)) = true) ∧ traF xs r = ((raysL xs (toY r) xs.length).map rrOf, 0) := by
  unfold traF at h ⊢
  rw [if_pos hc] at h ⊢
  by_cases h1 : [r.y, r.u].all okX = true
  · rw [if_pos h1] at h ⊢
    cases h2 : (frsL xs (toY r) xs.length).any longQ with
    | true => rw [h2, if_pos rfl] at h; exact absurd h (by decide)
    | false =>
      refine ⟨h1, fun j hj => ?_, rfl⟩
      cases j with
      | zero => rw [ray_0, ← okR_rr h1]; exact h1
      | succ j =>
        obtain ⟨a1, a2⟩ := frs_l h2 j (by omega)
        exact okR_of a1 a2
  · rw [if_neg h1] at h
    exact absurd h (by decide)
theorem step_go {M : MQ} {R R' : YQ} (hm : okM (rmOf M) = true) (hr : okR (rrOf R) = true) (e : goQ M R = R') (hr' : okR (rrOf R') = true) : goF (rmOf M) (rrOf R) = (rrOf R', 0) := by
  subst e
  have := okR_longs hr'
  rw [toY_of] at this
  exact (go_eval hm hr this).1
theorem el_at {xs : List RE} {q : YQ} {n j : Nat} (h : j < ((raysL xs q n).map rrOf).length) : ((raysL xs q n).map rrOf)[j] = rrOf (rayQ xs q (j + 1)) := by
  unfold raysL
  simp
theorem jx_of {n : Nat} {xs : List RE} (h : decide ((n : Int) < ((xs.map REA).length : Int)) = true) : n < xs.length := by
  rw [List.length_map] at h
  have := of_decide_eq_true h
  omega
theorem jn_of {n : Nat} {xs : List RE} (h : decide ((n : Int) < ((xs.map REA).length : Int)) = false) : xs.length ≤ n := by
  rw [List.length_map] at h
  have := of_decide_eq_false h
  omega
theorem jl_of {xs ys : List RE} {q : YQ} (h : decide (((xs.map REA).length : Int) > 0) = true) : xs.length - 1 < ((raysL (xs ++ ys) q (xs ++ ys).length).map rrOf).length := by
  rw [List.length_map, rays_len, List.length_append]
  rw [List.length_map] at h
  have := of_decide_eq_true h
  omega
theorem ray_app {xs ys : List RE} {q : YQ} (j : Nat) : rayQ ys (rayQ (xs ++ ys) q xs.length) j = rayQ (xs ++ ys) q (xs.length + j) := by
  unfold rayQ
  rw [go_go, List.take_append_of_le_length (Nat.le_refl _), List.take_length, ← prod_app, List.take_length_add_append]
theorem rays_drop {xs ys : List RE} {q : YQ} : (raysL (xs ++ ys) q (xs ++ ys).length).drop xs.length = raysL ys (rayQ (xs ++ ys) q xs.length) ys.length := by
  unfold raysL
  apply List.ext_getElem
  · simp
  · intro i h1 h2
    simp only [List.getElem_drop, List.getElem_map, List.getElem_range, ray_app]
    rfl
theorem tra_2 {xs ys : List RE} {q : YQ} (hc : chF ys = 0) (h : ∀ j, j ≤ (xs ++ ys).length → okR (rrOf (rayQ (xs ++ ys) q j)) = true) : traF ys (rrOf (rayQ (xs ++ ys) q xs.length)) = ((raysL ys (rayQ (xs ++ ys) q xs.length) ys.length).map rrOf, 0) := by
  have h0 : [(rrOf (rayQ (xs ++ ys) q xs.length)).y, (rrOf (rayQ (xs ++ ys) q xs.length)).u].all okX = true := h xs.length (by rw [List.length_append]; omega)
  have h1 : (frsL ys (toY (rrOf (rayQ (xs ++ ys) q xs.length))) ys.length).any longQ = false := by
    rw [toY_of]
    refine frs_any fun j hj => ?_
    rw [ray_app]
    have := okR_longs (h (xs.length + (j + 1)) (by rw [List.length_append]; omega))
    rwa [toY_of] at this
  unfold traF
  rw [if_pos hc, if_pos h0, h1, toY_of]
  rfl
theorem st_len {n : Int} {xs ys : List RE} {q : YQ} (h : n = ((xs.map REA).length : Int) + ((ys.map REA).length : Int)) : (((((((raysL (xs ++ ys) q (xs ++ ys).length).map rrOf).map RRA).length : Nat) : Int)) != n) = false := by
  subst h
  simp only [List.length_map, rays_len, List.length_append, bne_eq_false_iff_eq]
  omega
theorem wh_no {x y : RR} (h : x = y) : (((0 : Int) != 0) || (!decide (x = y))) = false := by subst h; simp
theorem wl_no {x y : List RR} (h : x = y) : (((0 : Int) != 0) || (!decide (x = y))) = false := by subst h; simp
theorem wh_go {Z : List RE} {r : RR} (h : okR r = true) (hm : okM (rmOf (prodQ Z)) = true) (h2 : okR (rrOf (rayQ Z (toY r) Z.length)) = true) : goF (rmOf (prodQ Z)) r = (rrOf (rayQ Z (toY r) Z.length), 0) := by
  have e := okR_rr h
  have h3 : okR (rrOf (toY r)) = true := by rw [← e]; exact h
  have := step_go hm h3 (show goQ (prodQ Z) (toY r) = rayQ Z (toY r) Z.length by unfold rayQ; rw [List.take_length]) h2
  rwa [← e] at this
theorem st_end {x y : RR} (h : x = y) : (((0 : Int) == 0) && decide (x = y)) = true := by subst h; simp

set_option maxRecDepth 100000 in
set_option maxHeartbeats 4000000 in
theorem steps_w (xs ys : List RE) (r : RR) : Cn Try.prog 7 [(SlA 70 [U32] (xs.map REA)).va, (SlA 70 [U32] (ys.map REA)).va, (RRA r).va] (Bo true) := by
  refine Cn.introF Try.func7 rfl (by kernel_rfl) nq (fun B w0 a hF hst => ?_)
  have hst : St B w0 176 [(0, (SlA 70 [U32] (xs.map REA)).va), (1, (SlA 70 [U32] (ys.map REA)).va), (2, (RRA r).va)] [] a w0.w := hst
  obtain ⟨v0, hv0, hst⟩ := St.eqv hst 0 rfl
  obtain ⟨v1, hv1, hst⟩ := St.eqv hst 1 rfl
  refine wp_seq ?_
  refine gl (sts := []) (news := [⟨5, 62, ptrH, some 0, _, none⟩]) (sp := [.alc 0, .val 6 _]) [.g 0, .g 1, .o 1] hst (oc (ob_box rfl rfl rfl (gq 2 rfl)) (oc (ob_v rfl rfl (r_assign has_bo)) o0)) (fun a w hst => ?_)
  have hst : St B w0 176 [(0, _), (1, _), (6, _)] [⟨5, 62, ptrH, _⟩] a w := hst
  refine thn_normal ?_
  refine wp_seq ?_
  refine wp_seq ?_
  refine gl (sts := [none]) (news := []) (sp := [.val 22 _, .val 23 _, .val 24 _, .val 25 (Wh (_ = false) _), .val 26 (Wh (_ = false) _), .val 27 (Wh (_ = false) _), .val 28 (Wh (_ = false) _), .val 29 _, .val 30 _, .val 31 (Wh (_ = false) _), .val 32 (Wh (_ = false) _), .val 33 (Wh (_ = false) _), .val 34 (Wh (_ = false) _), .val 35 _]) [.g 0, .g 1, .g 2, .o 13] hst (oc (ob_v rfl rfl (r_call (xs := []) alive10_c .nil)) (oc (ob_v rfl rfl (r_not (vq 0 rfl))) (oc (ob_v rfl rfl (r_move (vq 1 rfl))) (oc (ob_gd rfl rfl rfl (vq 2 rfl) nq (fun hg => r_move (gq 0 rfl))) (oc (ob_gd rfl rfl rfl (vq 2 rfl) nq (fun hg => r_move (gq 1 rfl))) (oc (ob_gd rfl rfl rfl (vq 2 rfl) nq (fun hg => r_call (xs := [.tmp 25, .tmp 26]) (fits10_c _ _) (.cons (has_again hF hv0 (has_wh (vq 3 rfl) hg)) (.cons (has_again hF hv1 (has_wh (vq 4 rfl) hg)) .nil)))) (oc (ob_gd rfl rfl rfl (vq 2 rfl) nq (fun hg => r_not (has_wh (vq 5 rfl) hg))) (oc (ob_v rfl rfl (r_or (vq 2 rfl) (vq 6 rfl))) (oc (ob_v rfl rfl (r_move (vq 7 rfl))) (oc (ob_gd rfl rfl rfl (vq 8 rfl) nq (fun hg => r_load (lz0 0 rfl) ty_62)) (oc (ob_gd rfl rfl rfl (vq 8 rfl) nq (fun hg => r_call (xs := [.tmp 31]) (rayCost_c _) (.cons (has_wh (vq 9 rfl) hg) .nil))) (oc (ob_gd rfl rfl rfl (vq 8 rfl) nq (fun hg => r_slice (D := []) (l := [_]) (xs := [.tmp 32]) (nd_ok (by kernel_rfl)) sl_135 (by kernel_rfl) (n_ok (by kernel_rfl)) nq nq nq (.cons (has_wh (vq 10 rfl) hg) .nil) rfl rfl)) (oc (ob_gd rfl rfl rfl (vq 8 rfl) nq (fun hg => r_call (xs := [.tmp 33]) (beyond_c [_]) (.cons (has_wh (vq 11 rfl) hg) .nil))) (oc (ob_v rfl rfl (r_or (vq 8 rfl) (vq 12 rfl))) o0)))))))))))))) (fun a w hst => ?_)
  have hst : St B w0 176 [(0, _), (1, _), (6, _), (35, _)] [⟨5, 62, ptrH, _⟩] a w := hst
  refine thn_normal ?_
  refine cond_of hst (List.mem_of_getElem? (i := 3) rfl) (fun hb0 => ?_) (fun hb0 => ?_)
  · refine wp_seq ?_
    refine gl (sts := [none]) (news := []) (sp := [.val 36 _, .val 6 _]) [.g 0, .g 1, .o 1] hst (oc (ob_v rfl rfl (r_call (xs := []) alive10_c .nil)) (oc (ob_v rfl rfl (r_assign (vq 0 rfl))) o0)) (fun a w hst => ?_)
    have hst : St B w0 176 [(0, _), (1, _), (6, _)] [⟨5, 62, ptrH, _⟩] a w := hst
    refine thn_normal ?_
    refine wp_ret ?_
    refine thn_ret ?_
    refine ret_wk ?_ (ret_tmp rfl hst (List.mem_of_getElem? (i := 2) rfl))
    exact wk_id
  · have hin := st_in hb0
    have hch := ch_app hin.1 hin.2.1 hin.2.2
    have hl4 : (xs ++ ys).length ≤ 4096 := (ch_ok hch).1
    have hle : (xs ++ ys).length = xs.length + ys.length := List.length_append
    have hev := (ch_ok hch).2
    refine wp_skip ?_
    refine thn_normal ?_
    refine wp_seq ?_
    refine go_draw (anc := [[], [], [0, 1], [], [0, 1, 2, 3], [0, 1, 2, 3, 4], [0, 1, 2, 3, 4, 5], [0, 1, 2, 3, 4, 5], [0, 1, 2, 3, 4, 5, 6], [0, 1, 2, 3, 4, 5, 6, 7, 8]]) (sts := [none]) (news := []) (sp := [.val 38 _, .val 39 _, .val 40 _, .val 41 _, .val 42 _, .val 37 _, .val 43 _, .val 44 _, .val 7 _, .val 8 _]) [.g 0, .g 1, .g 2, .o 8, .o 9] follows_mixed hst (oc (ob_v rfl rfl (r_move (gq 0 rfl))) (oc (ob_v rfl rfl (r_move (gq 1 rfl))) (oc (ob_v rfl rfl (r_call (xs := [.tmp 38, .tmp 39]) (both10_c _ _ hin.2.2) (.cons (has_again hF hv0 (vq 0 rfl)) (.cons (has_again hF hv1 (vq 1 rfl)) .nil)))) (oc (ob_v rfl rfl (r_load (lz0 0 rfl) ty_62)) (oc (ob_v rfl rfl (r_call (xs := [.tmp 40, .tmp 41]) (trace10_c (xs ++ ys) r) (.cons (vq 2 rfl) (.cons (vq 3 rfl) .nil)))) (oc (ob_v rfl rfl (r_move (vq 4 rfl))) (oc (ob_v rfl rfl (r_ex0 (vq 5 rfl))) (oc (ob_v rfl rfl (r_ex1 (vq 5 rfl))) (oc (ob_v rfl rfl (r_assign (vq 6 rfl))) (oc (ob_v rfl rfl (r_assign (vq 7 rfl))) o0)))))))))) (by kernel_rfl) (by kernel_rfl) (by kernel_rfl) (by kernel_rfl) (fun a w hst => ?_)
    have hst : St B w0 176 [(0, _), (1, _), (6, _), (7, _), (8, _)] [⟨5, 62, ptrH, _⟩] a w := hst
    refine thn_normal ?_
    refine wp_seq ?_
    refine wp_seq ?_
    refine gl (sts := [none]) (news := []) (sp := [.val 45 _, .val 46 _]) [.g 0, .g 1, .g 2, .g 3, .g 4, .o 1] hst (oc (ob_v rfl rfl (r_move (gq 4 rfl))) (oc (ob_v rfl rfl (r_neq (vq 0 rfl) has_num)) o0)) (fun a w hst => ?_)
    have hst : St B w0 176 [(0, _), (1, _), (6, _), (7, _), (8, _), (46, _)] [⟨5, 62, ptrH, _⟩] a w := hst
    refine thn_normal ?_
    refine cond_of hst (List.mem_of_getElem? (i := 5) rfl) (fun hb1 => ?_) (fun hb1 => ?_)
    · have hr : (((traF (xs ++ ys) r).2 == 1) || ((traF (xs ++ ys) r).2 == 4)) = true := by rcases tra_no (r := r) hch with h | h; exact h; rw [h] at hb1; exact absurd hb1 (by decide)
      refine wp_seq ?_
      refine gl (sts := [none]) (news := []) (sp := [.val 47 _, .val 48 _, .val 49 _, .val 50 (Wh (_ = false) _), .val 51 (Wh (_ = false) _), .val 52 _, .val 6 _]) [.g 0, .g 1, .g 3, .o 6] hst (oc (ob_v rfl rfl (r_move (gq 4 rfl))) (oc (ob_v rfl rfl (r_eql (vq 0 rfl) has_num)) (oc (ob_v rfl rfl (r_move (vq 1 rfl))) (oc (ob_gd rfl rfl rfl (vq 2 rfl) nq (fun hg => r_move (gq 4 rfl))) (oc (ob_gd rfl rfl rfl (vq 2 rfl) nq (fun hg => r_eql (has_wh (vq 3 rfl) hg) has_num)) (oc (ob_v rfl rfl (r_or (vq 2 rfl) (vq 4 rfl))) (oc (ob_v rfl rfl (r_assign (vq 5 rfl))) o0))))))) (fun a w hst => ?_)
      have hst : St B w0 176 [(0, _), (1, _), (7, _), (6, _)] [⟨5, 62, ptrH, _⟩] a w := hst
      refine thn_normal ?_
      refine wp_ret ?_
      refine thn_ret ?_
      refine ret_wk ?_ (ret_tmp rfl hst (List.mem_of_getElem? (i := 3) rfl))
      exact bo_t hr
    · have ht0 : (traF (xs ++ ys) r).2 = 0 := by simpa using hb1
      have hall := tra_ok hch ht0
      have hst := St.wkG (A' := (SlA 62 [U32] (((raysL (xs ++ ys) (toY r) (xs ++ ys).length).map rrOf).map RRA)).va) hst 3 rfl (wk_eq (by rw [hall.2.2]))
      have hT := tra_2 (xs := xs) hin.2.1 hall.2.1
      refine wp_skip ?_
      refine thn_normal ?_
      refine wp_seq ?_
      refine wp_seq ?_
      refine gl (sts := [none]) (news := []) (sp := [.val 53 _, .val 54 _, .val 55 _, .val 56 _, .val 57 _, .val 58 _, .val 59 _, .val 60 _]) [.g 0, .g 1, .g 2, .g 3, .o 7] hst (oc (ob_v rfl rfl (r_move (gq 3 rfl))) (oc (ob_v rfl rfl (r_len Try.underlying65 (vq 0 rfl))) (oc (ob_v rfl rfl (r_move (gq 0 rfl))) (oc (ob_v rfl rfl (r_len Try.underlying53 (has_again hF hv0 (vq 2 rfl)))) (oc (ob_v rfl rfl (r_move (gq 1 rfl))) (oc (ob_v rfl rfl (r_len Try.underlying53 (has_again hF hv1 (vq 4 rfl)))) (oc (ob_v rfl rfl (r_add (vq 3 rfl) (vq 5 rfl) ((wi64 (by simp only [List.length_map]; omega) (by simp only [List.length_map]; omega))))) (oc (ob_v rfl rfl (r_neq (vq 1 rfl) (vq 6 rfl))) o0)))))))) (fun a w hst => ?_)
      have hst : St B w0 176 [(0, _), (1, _), (6, _), (7, _), (60, _)] [⟨5, 62, ptrH, _⟩] a w := hst
      refine thn_normal ?_
      refine cond_of hst (List.mem_of_getElem? (i := 4) rfl) (fun hb2 => ?_) (fun hb2 => ?_)
      · rw [st_len rfl] at hb2; exact absurd hb2 (by decide)
      · refine wp_skip ?_
        refine thn_normal ?_
        refine wp_seq ?_
        have hst := St.locG hst
        obtain ⟨v5, hv5, hst⟩ := St.eqvw hst 5 rfl
        obtain ⟨v7, hv7, hst⟩ := St.eqvw hst 3 rfl
        have hv0 := St.up hF hst hv0
        have hv1 := St.up hF hst hv1
        obtain ⟨w1, hw1, hF, hst, hback⟩ := St.rebase hst
        rw [← hw1] at hv0 hv1 hv5 hv7
        have hst : St B w1 176 [(0, _), (1, _), (6, _), (7, _), (60, _), (5, _)] [] a w := hst
        refine gl (sts := []) (news := [⟨9, 62, ptrH, some 1, _, some (2, _)⟩]) (sp := [.val 61 _, .alc 0, .sto 0]) [.g 0, .g 1, .g 2, .g 3, .g 5] hst (oc (ob_v rfl rfl (r_loade (has_again hF hv5 (gq 5 rfl)) ty_62)) (oc (ob_alc rfl rfl rfl (Str.zero str_ray)) (oc (ob_sto rfl rfl rfl (vq 0 rfl) ty_62 (Eq.trans (b := 8) rfl rfl)) o0))) (fun a w hst => ?_)
        have hst : St B w1 176 [(0, _), (1, _), (6, _), (7, _), (5, _)] [⟨9, 62, ptrH, _⟩] a w := hst
        refine thn_normal ?_
        refine wp_seq ?_
        refine wp_seq ?_
        refine gl (sts := [none]) (news := []) (sp := [.val 10 _]) [.g 0, .g 1, .g 2, .g 3, .g 4, .o 0] hst (oc (ob_v rfl rfl (r_assign has_num)) o0) (fun a w hst => ?_)
        have hst : St B w1 176 [(0, _), (1, _), (6, _), (7, _), (5, _), (10, _)] [⟨9, 62, ptrH, _⟩] a w := hst
        refine thn_normal ?_
        refine wp_block ?_
        have hst := St.sel hst [0, 1, 3, 5, 4]
        refine wp_loop_ghost (fun n a w => ∃ j : Nat, (n + j = (xs ++ ys).length) ∧ St B w1 176 [(0, EqV v0), (1, EqV v1), (7, EqV v7), (10, In (j : Nat)), (5, EqV v5)] [⟨9, 62, ptrH, RRA (rrOf (rayQ (xs ++ ys) (toY r) j))⟩] a w) ((xs ++ ys).length) ?_ ?_
        · exact ⟨0, by omega, St.cvA hst 0 rfl (congrArg RRA (by rw [ray_0]; exact okR_rr hall.1))⟩
        intro n a w hI
        obtain ⟨j, hn, hst⟩ := hI
        refine wp_seq ?_
        refine wp_seq ?_
        refine gl (sts := [none]) (news := []) (sp := [.val 62 _, .val 63 _, .val 64 _, .val 65 _]) [.g 0, .g 1, .g 2, .g 3, .g 4, .o 3] hst (oc (ob_v rfl rfl (r_move (gq 3 rfl))) (oc (ob_v rfl rfl (r_move (gq 2 rfl))) (oc (ob_v rfl rfl (r_len Try.underlying65 (has_again hF hv7 (vq 1 rfl)))) (oc (ob_v rfl rfl (r_lss (vq 0 rfl) (vq 2 rfl))) o0)))) (fun a w hst => ?_)
        have hst : St B w1 176 [(0, _), (1, _), (7, _), (10, _), (5, _), (65, _)] [⟨9, 62, ptrH, _⟩] a w := hst
        refine thn_normal ?_
        refine cond_of hst (List.mem_of_getElem? (i := 5) rfl) (fun hb3 => ?_) (fun hb3 => ?_)
        · have hj : j < (xs ++ ys).length := by rw [List.length_map, List.length_map, rays_len] at hb3; have := of_decide_eq_true hb3; omega
          refine wp_skip ?_
          refine thn_normal ?_
          refine wp_seq ?_
          refine wp_block ?_
          refine wp_seq ?_
          refine gl (sts := [none]) (news := [⟨11, 70, ptrH, some 1, _, some (2, _)⟩]) (sp := [.val 68 _, .alc 1, .sto 1]) [.g 0, .g 1, .g 2, .g 3, .g 4] hst (oc (ob_v rfl rfl (r_build (xs := []) (qs := []) str_elem .nil)) (oc (ob_alc rfl rfl rfl (Str.zero str_elem)) (oc (ob_sto rfl rfl rfl (vq 0 rfl) ty_70 (Eq.trans (b := 9) rfl rfl)) o0))) (fun a w hst => ?_)
          have hst : St B w1 176 [(0, _), (1, _), (7, _), (10, _), (5, _)] [⟨9, 62, ptrH, _⟩, ⟨11, 70, ptrH, _⟩] a w := hst
          refine thn_normal ?_
          refine wp_seq ?_
          refine wp_seq ?_
          refine gl (sts := [none, none]) (news := []) (sp := [.val 69 _, .val 70 _, .val 71 _, .val 72 _]) [.g 0, .g 1, .g 2, .g 3, .g 4, .o 3] hst (oc (ob_v rfl rfl (r_move (gq 3 rfl))) (oc (ob_v rfl rfl (r_move (gq 0 rfl))) (oc (ob_v rfl rfl (r_len Try.underlying53 (has_again hF hv0 (vq 1 rfl)))) (oc (ob_v rfl rfl (r_lss (vq 0 rfl) (vq 2 rfl))) o0)))) (fun a w hst => ?_)
          have hst : St B w1 176 [(0, _), (1, _), (7, _), (10, _), (5, _), (72, _)] [⟨9, 62, ptrH, _⟩, ⟨11, 70, ptrH, _⟩] a w := hst
          refine thn_normal ?_
          refine cond_join (fun a w =>  St B w1 176 [(0, EqV v0), (1, EqV v1), (7, EqV v7), (10, In (j : Nat)), (5, EqV v5)] [⟨9, 62, ptrH, RRA (rrOf (rayQ (xs ++ ys) (toY r) j))⟩, ⟨11, 70, ptrH, REA (xs ++ ys)[j]⟩] a w) hst (List.mem_of_getElem? (i := 5) rfl) (fun hb4 => ?_) (fun hb4 => ?_) (fun a w hst => ?_)
          · refine gl (sts := [none, some (4, _)]) (news := []) (sp := [.val 73 _, .val 74 _, .val 75 _, .val 76 _, .sto 1]) [.g 0, .g 1, .g 2, .g 3, .g 4] hst (oc (ob_v rfl rfl (r_move (gq 0 rfl))) (oc (ob_v rfl rfl (r_move (gq 3 rfl))) (oc (ob_v rfl rfl (r_idx sl_53 (map_n fun _ => rfl) (has_again hF hv0 (vq 0 rfl)) (vq 1 rfl) (map_at (jx_of hb4)))) (oc (ob_v rfl rfl (r_loade (vq 2 rfl) ty_70)) (oc (ob_sto rfl rfl rfl (vq 3 rfl) ty_70 (Eq.trans (b := 9) rfl rfl)) o0))))) (fun a w hst => ?_)
            have hst : St B w1 176 [(0, _), (1, _), (7, _), (10, _), (5, _)] [⟨9, 62, ptrH, _⟩, ⟨11, 70, ptrH, _⟩] a w := hst
            refine thn_normal ?_
            have hst := St.sel hst [0, 1, 2, 3, 4]
            exact St.cvA hst 1 rfl (congrArg REA (List.getElem_append_left (jx_of hb4)).symm)
          · refine gl (sts := [none, some (7, _)]) (news := []) (sp := [.val 77 _, .val 78 _, .val 79 _, .val 80 _, .val 81 _, .val 82 _, .val 83 _, .sto 1]) [.g 0, .g 1, .g 2, .g 3, .g 4] hst (oc (ob_v rfl rfl (r_move (gq 1 rfl))) (oc (ob_v rfl rfl (r_move (gq 3 rfl))) (oc (ob_v rfl rfl (r_move (gq 0 rfl))) (oc (ob_v rfl rfl (r_len Try.underlying53 (has_again hF hv0 (vq 2 rfl)))) (oc (ob_v rfl rfl (r_sub (vq 1 rfl) (vq 3 rfl) ((wi64 (by rw [List.length_map]; omega) (by rw [List.length_map]; omega)).trans (by rw [List.length_map]; have := jn_of hb4; omega : (_ : Int) = ((j - xs.length : Nat) : Int))))) (oc (ob_v rfl rfl (r_idx sl_53 (map_n fun _ => rfl) (has_again hF hv1 (vq 0 rfl)) (vq 4 rfl) (map_at (show j - xs.length < ys.length by have := jn_of hb4; omega)))) (oc (ob_v rfl rfl (r_loade (vq 5 rfl) ty_70)) (oc (ob_sto rfl rfl rfl (vq 6 rfl) ty_70 (Eq.trans (b := 9) rfl rfl)) o0)))))))) (fun a w hst => ?_)
            have hst : St B w1 176 [(0, _), (1, _), (7, _), (10, _), (5, _)] [⟨9, 62, ptrH, _⟩, ⟨11, 70, ptrH, _⟩] a w := hst
            refine thn_normal ?_
            have hst := St.sel hst [0, 1, 2, 3, 4]
            exact St.cvA hst 1 rfl (congrArg REA (List.getElem_append_right (jn_of hb4)).symm)
          refine thn_normal ?_
          refine wp_seq ?_
          refine gl (sts := [none, none]) (news := [⟨12, 28, ptrH, some 5, _, some (6, _)⟩]) (sp := [.val 85 _, .val 86 _, .val 84 _, .val 87 _, .val 88 _, .alc 2, .sto 2, .val 13 _]) [.g 0, .g 1, .g 2, .g 3, .g 4, .o 7] hst (oc (ob_v rfl rfl (r_load (lz0 1 rfl) ty_70)) (oc (ob_v rfl rfl (r_call (xs := [.tmp 85]) (benOne_c ((xs ++ ys)[j])) (.cons (vq 0 rfl) .nil))) (oc (ob_v rfl rfl (r_move (vq 1 rfl))) (oc (ob_v rfl rfl (r_ex0 (vq 2 rfl))) (oc (ob_v rfl rfl (r_ex1 (vq 2 rfl))) (oc (ob_alc rfl rfl rfl (Str.zero str_matrix)) (oc (ob_sto rfl rfl rfl (vq 3 rfl) ty_28 (Eq.trans (b := 16) rfl rfl)) (oc (ob_v rfl rfl (r_assign (vq 4 rfl))) o0)))))))) (fun a w hst => ?_)
          have hst : St B w1 176 [(0, _), (1, _), (7, _), (10, _), (5, _), (13, _)] [⟨9, 62, ptrH, _⟩, ⟨11, 70, ptrH, _⟩, ⟨12, 28, ptrH, _⟩] a w := hst
          refine thn_normal ?_
          refine wp_seq ?_
          refine wp_seq ?_
          refine gl (sts := [none, none, none]) (news := []) (sp := [.val 89 _, .val 90 _]) [.g 0, .g 1, .g 2, .g 3, .g 4, .g 5, .o 1] hst (oc (ob_v rfl rfl (r_move (gq 5 rfl))) (oc (ob_v rfl rfl (r_neq (vq 0 rfl) has_num)) o0)) (fun a w hst => ?_)
          have hst : St B w1 176 [(0, _), (1, _), (7, _), (10, _), (5, _), (13, _), (90, _)] [⟨9, 62, ptrH, _⟩, ⟨11, 70, ptrH, _⟩, ⟨12, 28, ptrH, _⟩] a w := hst
          refine thn_normal ?_
          refine cond_of hst (List.mem_of_getElem? (i := 6) rfl) (fun hb5 => ?_) (fun hb5 => ?_)
          · have hr := one_4 (List.all_eq_true.1 hev _ (List.getElem_mem hj)) hb5
            refine wp_seq ?_
            refine gl (sts := [none, none, none]) (news := []) (sp := [.val 91 _, .val 92 _, .val 6 _]) [.g 0, .g 1, .g 2, .g 3, .g 4, .o 2] hst (oc (ob_v rfl rfl (r_move (gq 5 rfl))) (oc (ob_v rfl rfl (r_eql (vq 0 rfl) has_num)) (oc (ob_v rfl rfl (r_assign (vq 1 rfl))) o0))) (fun a w hst => ?_)
            have hst : St B w1 176 [(0, _), (1, _), (7, _), (10, _), (5, _), (6, _)] [⟨9, 62, ptrH, _⟩, ⟨11, 70, ptrH, _⟩, ⟨12, 28, ptrH, _⟩] a w := hst
            refine thn_normal ?_
            refine wp_ret ?_
            refine thn_ret ?_
            refine blk_ret ?_
            refine thn_ret ?_
            refine thn_ret ?_
            refine blk_ret ?_
            refine thn_ret ?_
            have hst := hback hst
            refine ret_wk ?_ (ret_tmp rfl hst (List.mem_of_getElem? (i := 5) rfl))
            exact bo_t hr
          · have hm1 := one_0 (List.all_eq_true.1 hev _ (List.getElem_mem hj)) hb5
            have hjr : j < ((raysL (xs ++ ys) (toY r) (xs ++ ys).length).map rrOf).length := by rw [List.length_map, rays_len]; exact hj
            have hst := St.cvA (A' := RMA (rmOf (elM (xs ++ ys)[j]))) hst 2 rfl (show RMA (be1F (xs ++ ys)[j]).1 = RMA (rmOf (elM (xs ++ ys)[j])) by rw [hm1.1])
            refine wp_skip ?_
            refine thn_normal ?_
            refine wp_seq ?_
            refine gl (sts := [none, none, none]) (news := [⟨14, 62, ptrH, some 6, _, some (7, _)⟩]) (sp := [.val 94 _, .val 95 _, .val 96 _, .val 93 _, .val 97 _, .val 98 _, .alc 3, .sto 3, .val 15 _]) [.g 0, .g 1, .g 2, .g 3, .g 4, .o 8] hst (oc (ob_v rfl rfl (r_load (lz0 2 rfl) ty_28)) (oc (ob_v rfl rfl (r_load (lz0 0 rfl) ty_62)) (oc (ob_v rfl rfl (r_call (xs := [.tmp 94, .tmp 95]) ((through_c (rmOf (elM (xs ++ ys)[j])) (rrOf (rayQ (xs ++ ys) (toY r) j))).post (congrArg YR (step_go hm1.2 (hall.2.1 j (by omega)) (ray_nx hj) (hall.2.1 (j + 1) (by omega))))) (.cons (vq 0 rfl) (.cons (vq 1 rfl) .nil)))) (oc (ob_v rfl rfl (r_move (vq 2 rfl))) (oc (ob_v rfl rfl (r_ex0 (vq 3 rfl))) (oc (ob_v rfl rfl (r_ex1 (vq 3 rfl))) (oc (ob_alc rfl rfl rfl (Str.zero str_ray)) (oc (ob_sto rfl rfl rfl (vq 4 rfl) ty_62 (Eq.trans (b := 8) rfl rfl)) (oc (ob_v rfl rfl (r_assign (vq 5 rfl))) o0))))))))) (fun a w hst => ?_)
            have hst : St B w1 176 [(0, _), (1, _), (7, _), (10, _), (5, _), (15, _)] [⟨9, 62, ptrH, _⟩, ⟨11, 70, ptrH, _⟩, ⟨12, 28, ptrH, _⟩, ⟨14, 62, ptrH, _⟩] a w := hst
            refine thn_normal ?_
            refine wp_seq ?_
            refine wp_seq ?_
            refine go_draw (anc := [[], [0], [0, 1], [0, 1, 2], [0, 1, 2], [0, 1, 2], [0, 1, 2, 4, 5], [0, 1, 2, 4, 5, 6], [0, 1, 2, 3, 4, 5, 6, 7], [0, 1, 2, 3, 4, 5, 6, 7, 8], [0, 1, 2, 3, 4, 5, 6, 7, 8, 9]]) (sts := [none, none, none, none]) (news := []) (sp := [.val 99 _, .val 100 _, .val 101 _, .val 102 (Wh (_ = false) _), .val 103 (Wh (_ = false) _), .val 104 (Wh (_ = false) _), .val 105 (Wh (_ = false) _), .val 106 (Wh (_ = false) _), .val 107 (Wh (_ = false) _), .val 108 (Wh (_ = false) _), .val 109 _]) [.g 0, .g 1, .g 2, .g 3, .g 4, .o 10] follows_mixed hst (oc (ob_v rfl rfl (r_move (gq 5 rfl))) (oc (ob_v rfl rfl (r_neq (vq 0 rfl) has_num)) (oc (ob_v rfl rfl (r_move (vq 1 rfl))) (oc (ob_gd rfl rfl rfl (vq 2 rfl) nq (fun hg => r_load (lz0 3 rfl) ty_62)) (oc (ob_gd rfl rfl rfl (vq 2 rfl) nq (fun hg => r_move (gq 2 rfl))) (oc (ob_gd rfl rfl rfl (vq 2 rfl) nq (fun hg => r_move (gq 3 rfl))) (oc (ob_gd rfl rfl rfl (vq 2 rfl) nq (fun hg => r_idx sl_65 (map_n fun _ => rfl) (has_again hF hv7 (has_wh (vq 4 rfl) hg)) (has_wh (vq 5 rfl) hg) (map_at hjr))) (oc (ob_gd rfl rfl rfl (vq 2 rfl) nq (fun hg => r_loade (has_wh (vq 6 rfl) hg) ty_62)) (oc (ob_gd rfl rfl rfl (vq 2 rfl) nq (fun hg => r_call (xs := [.tmp 102, .tmp 106]) (sameRay_c _ _) (.cons (has_wh (vq 3 rfl) hg) (.cons (has_wh (vq 7 rfl) hg) .nil)))) (oc (ob_gd rfl rfl rfl (vq 2 rfl) nq (fun hg => r_not (has_wh (vq 8 rfl) hg))) (oc (ob_v rfl rfl (r_or (vq 2 rfl) (vq 9 rfl))) o0))))))))))) (by kernel_rfl) (by kernel_rfl) (by kernel_rfl) (by kernel_rfl) (fun a w hst => ?_)
            have hst : St B w1 176 [(0, _), (1, _), (7, _), (10, _), (5, _), (109, _)] [⟨9, 62, ptrH, _⟩, ⟨11, 70, ptrH, _⟩, ⟨12, 28, ptrH, _⟩, ⟨14, 62, ptrH, _⟩] a w := hst
            refine thn_normal ?_
            refine cond_of hst (List.mem_of_getElem? (i := 5) rfl) (fun hb6 => ?_) (fun hb6 => ?_)
            · rw [wh_no (el_at _).symm] at hb6; exact absurd hb6 (by decide)
            · refine wp_skip ?_
              refine thn_normal ?_
              refine gl (sts := [some (1, _), none, none, none]) (news := []) (sp := [.val 110 _, .sto 0]) [.g 0, .g 1, .g 2, .g 3, .g 4] hst (oc (ob_v rfl rfl (r_load (lz0 3 rfl) ty_62)) (oc (ob_sto rfl rfl rfl (vq 0 rfl) ty_62 (Eq.trans (b := 8) rfl rfl)) o0)) (fun a w hst => ?_)
              have hst : St B w1 176 [(0, _), (1, _), (7, _), (10, _), (5, _)] [⟨9, 62, ptrH, _⟩, ⟨11, 70, ptrH, _⟩, ⟨12, 28, ptrH, _⟩, ⟨14, 62, ptrH, _⟩] a w := hst
              refine blk_normal ?_
              refine thn_normal ?_
              refine gl (sts := [none, none, none, none]) (news := []) (sp := [.val 66 _, .val 67 _, .val 10 _]) [.g 0, .g 1, .g 2, .g 4, .o 2] hst (oc (ob_v rfl rfl (r_move (gq 3 rfl))) (oc (ob_v rfl rfl (r_add (vq 0 rfl) has_num ((wi64 (by omega) (by omega)).trans (by omega : (_ : Int) = ((j + 1 : Nat) : Int))))) (oc (ob_v rfl rfl (r_assign (vq 1 rfl))) o0))) (fun a w hst => ?_)
              have hst : St B w1 176 [(0, _), (1, _), (7, _), (5, _), (10, _)] [⟨9, 62, ptrH, _⟩, ⟨11, 70, ptrH, _⟩, ⟨12, 28, ptrH, _⟩, ⟨14, 62, ptrH, _⟩] a w := hst
              refine thn_normal ?_
              have hst := St.sel hst [0, 1, 2, 4, 3]
              have hst := St.selL hst [0]
              exact ⟨n - 1, by omega, j + 1, by omega, hst⟩
        · obtain rfl : j = (xs ++ ys).length := by rw [List.length_map, List.length_map, rays_len] at hb3; have := of_decide_eq_false hb3; omega
          refine wp_exit ?_
          refine thn_exit ?_
          refine thn_exit ?_
          refine blk_exit ?_
          refine thn_normal ?_
          refine wp_seq ?_
          refine wp_seq ?_
          refine gl (sts := [none]) (news := []) (sp := [.val 111 _, .val 112 _, .val 113 _]) [.g 0, .g 1, .g 2, .g 4, .o 2] hst (oc (ob_v rfl rfl (r_move (gq 0 rfl))) (oc (ob_v rfl rfl (r_len Try.underlying53 (has_again hF hv0 (vq 0 rfl)))) (oc (ob_v rfl rfl (r_gtr (vq 1 rfl) has_num)) o0))) (fun a w hst => ?_)
          have hst : St B w1 176 [(0, _), (1, _), (7, _), (5, _), (113, _)] [⟨9, 62, ptrH, _⟩] a w := hst
          refine thn_normal ?_
          refine cond_join (fun a w =>  St B w1 176 [(0, EqV v0), (1, EqV v1), (7, EqV v7), (5, EqV v5)] [⟨9, 62, ptrH, RRA (rrOf (rayQ (xs ++ ys) (toY r) xs.length))⟩] a w) hst (List.mem_of_getElem? (i := 4) rfl) (fun hb7 => ?_) (fun hb7 => ?_) (fun a w hst => ?_)
          · refine gl (sts := [some (6, _)]) (news := []) (sp := [.val 114 _, .val 115 _, .val 116 _, .val 117 _, .val 118 _, .val 119 _, .sto 0]) [.g 0, .g 1, .g 2, .g 3] hst (oc (ob_v rfl rfl (r_move (gq 2 rfl))) (oc (ob_v rfl rfl (r_move (gq 0 rfl))) (oc (ob_v rfl rfl (r_len Try.underlying53 (has_again hF hv0 (vq 1 rfl)))) (oc (ob_v rfl rfl (r_sub (vq 2 rfl) has_num ((wi64 (by rw [List.length_map]; omega) (by rw [List.length_map]; omega)).trans (by rw [List.length_map] at hb7 ⊢; have := of_decide_eq_true hb7; omega : (_ : Int) = ((xs.length - 1 : Nat) : Int))))) (oc (ob_v rfl rfl (r_idx sl_65 (map_n fun _ => rfl) (has_again hF hv7 (vq 0 rfl)) (vq 3 rfl) (map_at (jl_of hb7)))) (oc (ob_v rfl rfl (r_loade (vq 4 rfl) ty_62)) (oc (ob_sto rfl rfl rfl (vq 5 rfl) ty_62 (Eq.trans (b := 8) rfl rfl)) o0))))))) (fun a w hst => ?_)
            have hst : St B w1 176 [(0, _), (1, _), (7, _), (5, _)] [⟨9, 62, ptrH, _⟩] a w := hst
            refine thn_normal ?_
            have hst := St.sel hst [0, 1, 2, 3]
            have hx0 : 0 < xs.length := by rw [List.length_map] at hb7; have := of_decide_eq_true hb7; omega
            exact St.cvA hst 0 rfl (congrArg RRA ((el_at _).trans (by rw [Nat.sub_add_cancel hx0])))
          · refine gl (sts := [some (1, _)]) (news := []) (sp := [.val 120 _, .sto 0]) [.g 0, .g 1, .g 2, .g 3] hst (oc (ob_v rfl rfl (r_loade (has_again hF hv5 (gq 3 rfl)) ty_62)) (oc (ob_sto rfl rfl rfl (vq 0 rfl) ty_62 (Eq.trans (b := 8) rfl rfl)) o0)) (fun a w hst => ?_)
            have hst : St B w1 176 [(0, _), (1, _), (7, _), (5, _)] [⟨9, 62, ptrH, _⟩] a w := hst
            refine thn_normal ?_
            have hst := St.sel hst [0, 1, 2, 3]
            have hx0 : xs.length = 0 := by rw [List.length_map] at hb7; have := of_decide_eq_false hb7; omega
            exact St.cvA hst 0 rfl (congrArg RRA (by rw [hx0, ray_0]; exact okR_rr hall.1))
          refine thn_normal ?_
          refine wp_seq ?_
          refine gl (sts := [none]) (news := []) (sp := [.val 122 _, .val 123 _, .val 124 _, .val 121 _, .val 125 _, .val 126 _, .val 16 _, .val 17 _]) [.g 0, .g 1, .g 2, .g 3, .o 6, .o 7] hst (oc (ob_v rfl rfl (r_move (gq 1 rfl))) (oc (ob_v rfl rfl (r_load (lz0 0 rfl) ty_62)) (oc (ob_v rfl rfl (r_call (xs := [.tmp 122, .tmp 123]) ((trace10_c ys (rrOf (rayQ (xs ++ ys) (toY r) xs.length))).post (congrArg TrR hT)) (.cons (has_again hF hv1 (vq 0 rfl)) (.cons (vq 1 rfl) .nil)))) (oc (ob_v rfl rfl (r_move (vq 2 rfl))) (oc (ob_v rfl rfl (r_ex0 (vq 3 rfl))) (oc (ob_v rfl rfl (r_ex1 (vq 3 rfl))) (oc (ob_v rfl rfl (r_assign (vq 4 rfl))) (oc (ob_v rfl rfl (r_assign (vq 5 rfl))) o0)))))))) (fun a w hst => ?_)
          have hst : St B w1 176 [(0, _), (1, _), (7, _), (5, _), (16, _), (17, _)] [⟨9, 62, ptrH, _⟩] a w := hst
          refine thn_normal ?_
          refine wp_seq ?_
          refine wp_seq ?_
          refine gl (sts := [none]) (news := []) (sp := [.val 127 _, .val 128 _, .val 129 _, .val 130 (Wh (_ = false) _), .val 131 (Wh (_ = false) _), .val 132 (Wh (_ = false) _), .val 133 (Wh (_ = false) _), .val 134 (Wh (_ = false) _), .val 135 (Wh (_ = false) _), .val 136 (Wh (_ = false) _), .val 137 _]) [.g 0, .g 1, .g 2, .g 3, .o 10] hst (oc (ob_v rfl rfl (r_move (gq 5 rfl))) (oc (ob_v rfl rfl (r_neq (vq 0 rfl) has_num)) (oc (ob_v rfl rfl (r_move (vq 1 rfl))) (oc (ob_gd rfl rfl rfl (vq 2 rfl) nq (fun hg => r_move (gq 4 rfl))) (oc (ob_gd rfl rfl rfl (vq 2 rfl) nq (fun hg => r_move (gq 2 rfl))) (oc (ob_gd rfl rfl rfl (vq 2 rfl) nq (fun hg => r_move (gq 0 rfl))) (oc (ob_gd rfl rfl rfl (vq 2 rfl) nq (fun hg => r_len Try.underlying53 (has_again hF hv0 (has_wh (vq 5 rfl) hg)))) (oc (ob_gd rfl rfl rfl (vq 2 rfl) nq (fun hg => r_slL sl_65 (map_n fun _ => rfl) (has_again hF hv7 (has_wh (vq 4 rfl) hg)) (has_wh (vq 6 rfl) hg) (by simp only [List.length_map, rays_len]; omega))) (oc (ob_gd rfl rfl rfl (vq 2 rfl) nq (fun hg => r_call (xs := [.tmp 130, .tmp 134]) ((sameRays_c ((raysL ys (rayQ (xs ++ ys) (toY r) xs.length) ys.length).map rrOf) ((((raysL (xs ++ ys) (toY r) (xs ++ ys).length)).map rrOf).drop xs.length)).wk (.cons wk_id (.cons (wk_eq (congrArg (fun l => (SlA 62 [U32] l).va) (by rw [List.length_map, List.map_drop]))) .nil))) (.cons (has_wh (vq 3 rfl) hg) (.cons (has_wh (vq 7 rfl) hg) .nil)))) (oc (ob_gd rfl rfl rfl (vq 2 rfl) nq (fun hg => r_not (has_wh (vq 8 rfl) hg))) (oc (ob_v rfl rfl (r_or (vq 2 rfl) (vq 9 rfl))) o0))))))))))) (fun a w hst => ?_)
          have hst : St B w1 176 [(0, _), (1, _), (7, _), (5, _), (137, _)] [⟨9, 62, ptrH, _⟩] a w := hst
          refine thn_normal ?_
          refine cond_of hst (List.mem_of_getElem? (i := 4) rfl) (fun hb8 => ?_) (fun hb8 => ?_)
          · rw [wl_no (by rw [← List.map_drop, rays_drop])] at hb8; exact absurd hb8 (by decide)
          · refine wp_skip ?_
            refine thn_normal ?_
            refine wp_seq ?_
            refine gl (sts := [none]) (news := [⟨18, 28, ptrH, some 7, _, some (8, _)⟩]) (sp := [.val 139 _, .val 140 _, .val 141 _, .val 142 _, .val 138 _, .val 143 _, .val 144 _, .alc 1, .sto 1, .val 19 _]) [.g 2, .g 3, .o 9] hst (oc (ob_v rfl rfl (r_move (gq 0 rfl))) (oc (ob_v rfl rfl (r_move (gq 1 rfl))) (oc (ob_v rfl rfl (r_call (xs := [.tmp 139, .tmp 140]) (both10_c _ _ hin.2.2) (.cons (has_again hF hv0 (vq 0 rfl)) (.cons (has_again hF hv1 (vq 1 rfl)) .nil)))) (oc (ob_v rfl rfl (r_call (xs := [.tmp 141]) (benMatrix_c _) (.cons (vq 2 rfl) .nil))) (oc (ob_v rfl rfl (r_move (vq 3 rfl))) (oc (ob_v rfl rfl (r_ex0 (vq 4 rfl))) (oc (ob_v rfl rfl (r_ex1 (vq 4 rfl))) (oc (ob_alc rfl rfl rfl (Str.zero str_matrix)) (oc (ob_sto rfl rfl rfl (vq 5 rfl) ty_28 (Eq.trans (b := 16) rfl rfl)) (oc (ob_v rfl rfl (r_assign (vq 6 rfl))) o0)))))))))) (fun a w hst => ?_)
            have hst : St B w1 176 [(7, _), (5, _), (19, _)] [⟨9, 62, ptrH, _⟩, ⟨18, 28, ptrH, _⟩] a w := hst
            refine thn_normal ?_
            refine wp_seq ?_
            refine wp_seq ?_
            refine gl (sts := [none, none]) (news := []) (sp := [.val 145 _, .val 146 _, .val 147 _, .val 148 (Wh (_ = false) _), .val 149 (Wh (_ = false) _), .val 150 (Wh (_ = false) _), .val 151 _]) [.g 0, .g 1, .g 2, .o 6] hst (oc (ob_v rfl rfl (r_move (gq 2 rfl))) (oc (ob_v rfl rfl (r_neq (vq 0 rfl) has_num)) (oc (ob_v rfl rfl (r_move (vq 1 rfl))) (oc (ob_gd rfl rfl rfl (vq 2 rfl) nq (fun hg => r_move (gq 0 rfl))) (oc (ob_gd rfl rfl rfl (vq 2 rfl) nq (fun hg => r_len Try.underlying65 (has_again hF hv7 (has_wh (vq 3 rfl) hg)))) (oc (ob_gd rfl rfl rfl (vq 2 rfl) nq (fun hg => r_eql (has_wh (vq 4 rfl) hg) has_num)) (oc (ob_v rfl rfl (r_or (vq 2 rfl) (vq 5 rfl))) o0))))))) (fun a w hst => ?_)
            have hst : St B w1 176 [(7, _), (5, _), (19, _), (151, _)] [⟨9, 62, ptrH, _⟩, ⟨18, 28, ptrH, _⟩] a w := hst
            refine thn_normal ?_
            refine cond_of hst (List.mem_of_getElem? (i := 3) rfl) (fun hb9 => ?_) (fun hb9 => ?_)
            · have hr := e04 hch
              refine wp_seq ?_
              refine gl (sts := [none, none]) (news := []) (sp := [.val 152 _, .val 153 _, .val 154 _, .val 155 (Wh (_ = false) _), .val 156 (Wh (_ = false) _), .val 157 _, .val 6 _]) [.g 0, .g 1, .o 6] hst (oc (ob_v rfl rfl (r_move (gq 2 rfl))) (oc (ob_v rfl rfl (r_eql (vq 0 rfl) has_num)) (oc (ob_v rfl rfl (r_move (vq 1 rfl))) (oc (ob_gd rfl rfl rfl (vq 2 rfl) nq (fun hg => r_move (gq 2 rfl))) (oc (ob_gd rfl rfl rfl (vq 2 rfl) nq (fun hg => r_eql (has_wh (vq 3 rfl) hg) has_num)) (oc (ob_v rfl rfl (r_or (vq 2 rfl) (vq 4 rfl))) (oc (ob_v rfl rfl (r_assign (vq 5 rfl))) o0))))))) (fun a w hst => ?_)
              have hst : St B w1 176 [(7, _), (5, _), (6, _)] [⟨9, 62, ptrH, _⟩, ⟨18, 28, ptrH, _⟩] a w := hst
              refine thn_normal ?_
              refine wp_ret ?_
              refine thn_ret ?_
              have hst := hback hst
              refine ret_wk ?_ (ret_tmp rfl hst (List.mem_of_getElem? (i := 2) rfl))
              exact bo_t hr
            · have h9 : (benF (xs ++ ys)).2 = 0 ∧ ¬ (xs ++ ys).length = 0 := by rw [Bool.or_eq_false_iff] at hb9; simp only [List.length_map, rays_len] at hb9; exact ⟨by simpa using hb9.1, by have h8 := hb9.2; rw [beq_eq_false_iff_ne] at h8; omega⟩
              have hB : benF (xs ++ ys) = (rmOf (prodQ (xs ++ ys)), 0) ∧ okM (rmOf (prodQ (xs ++ ys))) = true := by rcases ben_two hch with h1 | h1; rw [h1] at h9; exact absurd h9.1 (by decide); exact h1
              have hst := St.cvA (A' := RMA (rmOf (prodQ (xs ++ ys)))) hst 1 rfl (show RMA (benF (xs ++ ys)).1 = RMA (rmOf (prodQ (xs ++ ys))) by rw [hB.1])
              have hjl : (xs ++ ys).length - 1 < ((raysL (xs ++ ys) (toY r) (xs ++ ys).length).map rrOf).length := by rw [List.length_map, rays_len]; omega
              have hW := wh_go hall.1 hB.2 (hall.2.1 _ (Nat.le_refl _))
              refine wp_skip ?_
              refine thn_normal ?_
              refine wp_seq ?_
              refine gl (sts := [none, none]) (news := [⟨20, 62, ptrH, some 6, _, some (7, _)⟩]) (sp := [.val 159 _, .val 160 _, .val 161 _, .val 158 _, .val 162 _, .val 163 _, .alc 2, .sto 2, .val 21 _]) [.g 0, .o 8] hst (oc (ob_v rfl rfl (r_load (lz0 1 rfl) ty_28)) (oc (ob_v rfl rfl (r_loade (has_again hF hv5 (gq 1 rfl)) ty_62)) (oc (ob_v rfl rfl (r_call (xs := [.tmp 159, .tmp 160]) ((through_c (rmOf (prodQ (xs ++ ys))) r).post (congrArg YR hW)) (.cons (vq 0 rfl) (.cons (vq 1 rfl) .nil)))) (oc (ob_v rfl rfl (r_move (vq 2 rfl))) (oc (ob_v rfl rfl (r_ex0 (vq 3 rfl))) (oc (ob_v rfl rfl (r_ex1 (vq 3 rfl))) (oc (ob_alc rfl rfl rfl (Str.zero str_ray)) (oc (ob_sto rfl rfl rfl (vq 4 rfl) ty_62 (Eq.trans (b := 8) rfl rfl)) (oc (ob_v rfl rfl (r_assign (vq 5 rfl))) o0))))))))) (fun a w hst => ?_)
              have hst : St B w1 176 [(7, _), (21, _)] [⟨9, 62, ptrH, _⟩, ⟨18, 28, ptrH, _⟩, ⟨20, 62, ptrH, _⟩] a w := hst
              refine thn_normal ?_
              refine wp_seq ?_
              refine go_draw (anc := [[], [0], [0, 1], [0, 1, 2], [0, 1, 2], [0, 1, 2], [0, 1, 2, 5], [0, 1, 2, 5, 6], [0, 1, 2, 4, 5, 6, 7], [0, 1, 2, 4, 5, 6, 7, 8], [0, 1, 2, 3, 4, 5, 6, 7, 8, 9], [0, 1, 2, 3, 4, 5, 6, 7, 8, 9, 10], [0, 1, 2, 3, 4, 5, 6, 7, 8, 9, 10, 11]]) (sts := [none, none, none]) (news := []) (sp := [.val 164 _, .val 165 _, .val 166 _, .val 167 (Wh (_ = true) _), .val 168 (Wh (_ = true) _), .val 169 (Wh (_ = true) _), .val 170 (Wh (_ = true) _), .val 171 (Wh (_ = true) _), .val 172 (Wh (_ = true) _), .val 173 (Wh (_ = true) _), .val 174 (Wh (_ = true) _), .val 175 _, .val 6 _]) [.o 12] follows_mixed hst (oc (ob_v rfl rfl (r_move (gq 1 rfl))) (oc (ob_v rfl rfl (r_eql (vq 0 rfl) has_num)) (oc (ob_v rfl rfl (r_move (vq 1 rfl))) (oc (ob_gd rfl rfl rfl (vq 2 rfl) nq (fun hg => r_load (lz0 2 rfl) ty_62)) (oc (ob_gd rfl rfl rfl (vq 2 rfl) nq (fun hg => r_move (gq 0 rfl))) (oc (ob_gd rfl rfl rfl (vq 2 rfl) nq (fun hg => r_move (gq 0 rfl))) (oc (ob_gd rfl rfl rfl (vq 2 rfl) nq (fun hg => r_len Try.underlying65 (has_again hF hv7 (has_wh (vq 5 rfl) hg)))) (oc (ob_gd rfl rfl rfl (vq 2 rfl) nq (fun hg => r_sub (has_wh (vq 6 rfl) hg) has_num ((wi64 (by simp only [List.length_map, rays_len]; omega) (by simp only [List.length_map, rays_len]; omega)).trans (by simp only [List.length_map, rays_len]; omega : (_ : Int) = (((xs ++ ys).length - 1 : Nat) : Int))))) (oc (ob_gd rfl rfl rfl (vq 2 rfl) nq (fun hg => r_idx sl_65 (map_n fun _ => rfl) (has_again hF hv7 (has_wh (vq 4 rfl) hg)) (has_wh (vq 7 rfl) hg) (map_at hjl))) (oc (ob_gd rfl rfl rfl (vq 2 rfl) nq (fun hg => r_loade (has_wh (vq 8 rfl) hg) ty_62)) (oc (ob_gd rfl rfl rfl (vq 2 rfl) nq (fun hg => r_call (xs := [.tmp 167, .tmp 173]) (sameRay_c _ _) (.cons (has_wh (vq 3 rfl) hg) (.cons (has_wh (vq 9 rfl) hg) .nil)))) (oc (ob_v rfl rfl (r_and (vq 2 rfl) (vq 10 rfl))) (oc (ob_v rfl rfl (r_assign (vq 11 rfl))) o0))))))))))))) (by kernel_rfl) (by kernel_rfl) (by kernel_rfl) (by kernel_rfl) (fun a w hst => ?_)
              have hst : St B w1 176 [(6, _)] [⟨9, 62, ptrH, _⟩, ⟨18, 28, ptrH, _⟩, ⟨20, 62, ptrH, _⟩] a w := hst
              refine thn_normal ?_
              refine wp_ret ?_
              have hst := hback hst
              refine ret_wk ?_ (ret_tmp rfl hst (List.mem_of_getElem? (i := 0) rfl))
              exact bo_t (st_end ((el_at _).trans (by rw [Nat.sub_add_cancel (by omega)])).symm)

open Go.ChangeShapes Go.WideShapes Go.ChangeAt
open Go.ChangeMaps (open_string shut_string)
set_option linter.unusedVariables false
theorem own : ownKnob Try.prog.godebug = none := by kernel_rfl
theorem laidOut : laidOutB Try.prog = true := by kernel_rfl
set_option maxRecDepth 100000 in
theorem lifted (os : Os) (started : os.Started) (H : Type) (enc : TypeId × Value → H) :
    ReturnsInHanded {} Try.checked os 7 .any (Rows.benchStepsSpec.pre6 enc Try.prog Try.f7 Rows.benchStepsRow.domain false) (Rows.benchStepsSpec.post enc Try.prog Try.f7 false true false false) := by
  refine returnsInHanded_of_change (C := Try.checked) own started (by kernel_rfl) Try.func7
    (ChangeSpec.witness6 (enc := enc) (C := Try.checked) false ⟨#[], #[.slice none 0 0, .slice none 0 0, .agg #[.bool false, .slice none 0 0, .bool false, .slice none 0 0, .bool false, .slice none 0 0, .bool false, .slice none 0 0]], []⟩ 8 (by kernel_rfl) (by kernel_rfl) (by kernel_rfl) (by kernel_rfl)) ?_
  intro W base args ds gs before hval0 hW hcnd _
  have hval : ∀ (j : Nat) t v, Try.f7.params[j]? = some t → args[j]? = some v → Value.okWide Try.prog W .any base t v := hval0
  have hW' := hW
  obtain ⟨p, q, hA0, hV, rfl, hfz, hnd⟩ := hW
  have hA : DataW.TrodAll enc Try.prog W 0 (fun _ => true) true Try.f7.params.toList args.toList ds p := hA0
  rw [Try.params7] at hA hval
  obtain ⟨v0, vs0, d0, ds0, p0, q0, hargs, rfl, rfl, h0, r0⟩ := trodAll_cons hA
  obtain ⟨v1, vs1, d1, ds1, p1, q1, rfl, rfl, rfl, h1, r1⟩ := trodAll_cons r0
  obtain ⟨v2, vs2, d2, ds2, p2, q2, rfl, rfl, rfl, h2, r2⟩ := trodAll_cons r1
  obtain ⟨rfl, rfl, rfl⟩ := trodAll_nil r2
  obtain rfl : args = #[v0, v1, v2] := by cases args; simp_all
  obtain ⟨rfl, rfl⟩ := trodVars_none hV
  have k0 := h0
  have lt0 : ∀ x ∈ p0, x.block < W.heap.size := by obtain ⟨m, hm⟩ := k0; exact DataW.trod_lt m _ _ _ hm
  have k1 := h1
  have lt1 : ∀ x ∈ p1, x.block < W.heap.size := by obtain ⟨m, hm⟩ := k1; exact DataW.trod_lt m _ _ _ hm
  have k2 := h2
  have lt2 : ∀ x ∈ p2, x.block < W.heap.size := by obtain ⟨m, hm⟩ := k2; exact DataW.trod_lt m _ _ _ hm
  obtain ⟨x0, a0⟩ := arg_sl (A := REA) (m := 9) (D := [175]) Try.underlying53 (by kernel_rfl) (by decide) (fun _ => nd_self (by kernel_rfl)) rd_re (hval 0 53 v0 rfl rfl) h0
  obtain ⟨x1, a1⟩ := arg_sl (A := REA) (m := 9) (D := [175]) Try.underlying53 (by kernel_rfl) (by decide) (fun _ => nd_self (by kernel_rfl)) rd_re (hval 1 53 v1 rfl rfl) h1
  obtain ⟨x2, a2⟩ := arg_of (A := RRA) (fun _ => rfl) Try.underlying62 rd_rr (hval 2 62 v2 rfl rfl) h2
  clear hA0 hval0
  refine ((steps_w x0 x1 x2).2 W.heap.size W [v0, v1, v2] (Nat.le_refl _) (.cons a0 (.cons a1 (.cons a2 .nil)))).mono fun e W' ⟨v, he, hv, bel⟩ => ?_
  have hv' := bo_val hv
  subst hv' he
  exact ⟨_, rfl, _, _, _, [], _, [], hW', trodAll_mk1 (shut_bool Try.underlying4 _), (trodAll_cons_mk (Below.trod laidOut (by kernel_rfl) (of_decide_eq_true (by kernel_rfl)) k0 bel lt0) (trodAll_cons_mk (Below.trod laidOut (by kernel_rfl) (of_decide_eq_true (by kernel_rfl)) k1 bel lt1) (trodAll_cons_mk (Below.trod laidOut (by kernel_rfl) (of_decide_eq_true (by kernel_rfl)) k2 bel lt2) trodAll_mk0))), rfl, bel.frame _, fun h => by cases h⟩
theorem over : Rows.benchStepsRow.holds Try.pinned (OpenSpec.ofChange Rows.benchStepsSpec) :=
  OpenClaim.holds_of_wide 7 Try.f7 rfl rfl rfl rfl rfl rfl rfl ⟨rfl, rfl, rfl, rfl, rfl⟩ rfl rfl rfl rfl rfl (by kernel_rfl) Try.func7 (by kernel_rfl)
    (of_decide_eq_true (by kernel_rfl)) (by unfold Func.isWrapper; rw [if_neg (of_decide_eq_false (by kernel_rfl))]; exact ⟨rfl, rfl⟩)
    (fun os started H enc _ => lifted os started H enc)
theorem provedBenchSteps : Rows.BenchStepsSaid := over
#print axioms provedBenchSteps

end Go.Proofs.Ytgjolcbehcjhcaa
