/- MatchFirst: for all beams the law of chapter 20 on the best one answers true. No condition. -/
import Derived.Test.YtiokhlpbdabaeaaMatB
import Derived.Test.YtiokhlpbdabaeaaMatC
import Derived.Test.YtiokhlpbdabaeaaRows
import Derived.WalkKit
import Derived.ProofKit
import Derived.OpenShut
import Derived.ShutString
import Derived.ChangeOld
import Derived.Below
namespace Go.Proofs.Ytiokhlpbdabaeaa
open Go Go.RowKit
namespace LMatchFirst
theorem sl_29 : Sl Try.prog 29 28 8 := ⟨by kernel_rfl, by kernel_rfl⟩
theorem sl_91 : Sl Try.prog 91 3 1 := ⟨by kernel_rfl, by kernel_rfl⟩
theorem ty_26 : Ty Try.prog 26 4 true := ⟨by kernel_rfl, by kernel_rfl⟩
theorem ty_28 : Ty Try.prog 28 8 true := ⟨by kernel_rfl, by kernel_rfl⟩
end LMatchFirst
open LMatchFirst
theorem nd_self {A : As} {D : List TypeId} (h : (A.deps.all fun T => D.contains T) = true) : ∀ T ∈ A.deps, T ∈ D := fun T hT => by
  have := List.all_eq_true.1 h T hT
  simpa using this
theorem cm_le {x y : Rat} : cmQ x y ≤ 0 ↔ x ≤ y := by
  unfold cmQ
  by_cases h : x < y
  · rw [if_pos h]; exact ⟨fun _ => Rat.le_of_lt h, fun _ => by decide⟩
  · rw [if_neg h]
    by_cases h2 : y < x
    · rw [if_pos h2]; exact ⟨fun h3 => absurd h3 (by decide), fun h3 => absurd h3 (Rat.not_le.2 h2)⟩
    · rw [if_neg h2]; exact ⟨fun _ => Rat.not_lt.1 h2, fun _ => by decide⟩
theorem lt_le {x y z : Rat} (h : x ≤ y) (h2 : y < z) : x < z := by grind
theorem bI_spec (f : Nat → Rat) : ∀ j, 0 < j → (bI f j).1 < j ∧ (bI f j).2 = f (bI f j).1 ∧ (∀ i, i < j → f i ≤ (bI f j).2) ∧ ∀ i, i < (bI f j).1 → f i < (bI f j).2
  | 0, h => absurd h (by decide)
  | 1, _ => by
    have e : bI f 1 = (0, f 0) := bI_n rfl
    rw [e]
    refine ⟨Nat.zero_lt_one, rfl, fun i hi => ?_, fun i hi => absurd hi (Nat.not_lt_zero i)⟩
    have : i = 0 := by omega
    subst this
    exact Rat.le_refl
  | j + 2, _ => by
    obtain ⟨h1, h2, h3, h4⟩ := bI_spec f (j + 1) (by omega)
    cases hb : bet (decide (0 < j + 1)) (f (j + 1)) (bI f (j + 1)).2 with
    | true =>
      rw [bI_y hb]
      have hle : f (j + 1) ≤ (bI f (j + 1)).2 := by
        unfold bet at hb
        rw [Bool.and_eq_true] at hb
        exact cm_le.1 (of_decide_eq_true hb.2)
      refine ⟨by omega, h2, fun i hi => ?_, h4⟩
      by_cases e : i = j + 1
      · subst e; exact hle
      · exact h3 i (by omega)
    | false =>
      rw [bI_n hb]
      have hgt : (bI f (j + 1)).2 < f (j + 1) := by
        unfold bet at hb
        rw [show decide (0 < j + 1) = true by simp, Bool.true_and, decide_eq_false_iff_not, cm_le, Rat.not_le] at hb
        exact hb
      refine ⟨by omega, rfl, fun i hi => ?_, fun i hi => lt_le (h3 i hi) hgt⟩
      by_cases e : i = j + 1
      · subst e; exact Rat.le_refl
      · exact Rat.le_of_lt (lt_le (h3 i (by omega)) hgt)
/-- what Best tells, place n; or a refusal. -/
theorem best_tells (p : RG) (xs : List RG) : bestF p xs = (0, 1) ∨ (xs.length = 0 ∧ bestF p xs = (0, 3)) ∨ ∃ n : Nat, bestF p xs = ((n : Int), 0) ∧ n < xs.length ∧ okB p = true ∧ xs.all okB = true ∧ (∀ i, i < xs.length → ovs p xs i ≤ ovs p xs n) ∧ ∀ i, i < n → ovs p xs i < ovs p xs n := by
  cases hp : okB p with
  | false => exact .inl (by rw [bestF, hp]; rfl)
  | true =>
    cases hx : xs.all okB with
    | false => exact .inl (by rw [bestF, hp, hx]; rfl)
    | true =>
      by_cases h0 : xs.length = 0
      · exact .inr (.inl ⟨h0, bf_zero ⟨hp, hx⟩ h0⟩)
      · obtain ⟨h1, h2, h3, h4⟩ := bI_spec (ovs p xs) xs.length (by omega)
        exact .inr (.inr ⟨_, bf_some ⟨hp, hx⟩ h0, h1, rfl, rfl, fun i hi => h2 ▸ h3 i hi, fun i hi => h2 ▸ h4 i hi⟩)
theorem ov_at {p : RG} {xs : List RG} {j : Nat} (hp : okB p = true) (hx : xs.all okB = true) (hj : j < xs.length) : ovF p (xs[j]) = ansF (ovs p xs j) := by
  have hy := List.all_eq_true.1 hx _ (List.getElem_mem hj)
  have e : ovs p xs j = alkQ (toG p) (toG xs[j]) := by unfold ovs; rw [List.getD_eq_getElem?_getD, List.getElem?_eq_getElem hj]; rfl
  rw [e, ovF, hp, hy]
  rfl
theorem mf_ref {a b : Int} {n : Nat} (h : (a = 0 ∧ b = 1) ∨ (n = 0 ∧ a = 0 ∧ b = 3)) : ((a == 0) && ((b == 1) || ((b == 3) && ((n : Int) == 0)))) = true := by
  rcases h with ⟨rfl, rfl⟩ | ⟨rfl, rfl, rfl⟩ <;> rfl
/-- no one is better, none ahead as good. -/
theorem mf_no {x y : Rat} {i n : Nat} (h : x ≤ y) (h2 : i < n → x < y) (hy : ansF y = (rfOf y, 0)) (hx : (((ansF x).2 == 0) && (decide (cmF (ansF x).1 (ansF y).1 > 0) || (decide ((i : Int) < (n : Int)) && (cmF (ansF x).1 (ansF y).1 == 0)))) = true) : False := by
  have ly : longQ y = false := by
    cases hl : longQ y with
    | false => rfl
    | true => rw [ansF, hl] at hy; simp at hy
  have lx : longQ x = false := by
    cases hl : longQ x with
    | false => rfl
    | true => rw [ansF, hl] at hx; simp at hx
  have ex : ansF x = (rfOf x, 0) := by rw [ansF, lx]; rfl
  rw [ex, hy, cmF_of lx ly] at hx
  rw [Bool.and_eq_true, Bool.or_eq_true, Bool.and_eq_true] at hx
  rcases hx.2 with h3 | ⟨h3, h4⟩
  · have h5 := of_decide_eq_true h3
    have := cm_le.2 h
    omega
  · have h5 : i < n := by have := of_decide_eq_true h3; omega
    have h6 := h2 h5
    have h7 : cmQ x y = 0 := by simpa using h4
    unfold cmQ at h7
    rw [if_pos h6] at h7
    exact absurd h7 (by decide)
theorem bo_lives {c : Bool} (h : c = true) : Wk (Bo (c && true)) (Bo true) := by subst h; exact wk_id

set_option maxRecDepth 100000 in
set_option maxHeartbeats 4000000 in
theorem matchFirst_w (p : RG) (xs : List RG) : Cn Try.prog 3 [(RGA p).va, (SlA 28 [U32] (xs.map RGA)).va] (Bo true) := by
  refine Cn.intro Try.func3 rfl (by kernel_rfl) (Nat.le_of_ble_eq_true (by kernel_rfl)) (fun B w0 a hst => ?_)
  have hst : St B w0 98 [(0, (RGA p).va), (1, (SlA 28 [U32] (xs.map RGA)).va)] [] a w0.w := hst
  have hl := slA_lenm (hst.vals (1, (SlA 28 [U32] (xs.map RGA)).va) (List.mem_of_getElem? (i := 1) rfl))
  have hbt := best_tells p xs
  refine wp_seq ?_
  refine go_lin (sts := []) (news := [⟨2, 28, ptrH, some 0, _, none⟩]) (sp := [.alc 0, .val 4 _]) [.g 1, .o 1] hst (obs_cons (ob_box rfl rfl rfl (has_g 0 rfl (by kernel_rfl) (by kernel_rfl))) (obs_cons (ob_v rfl rfl (r_assign has_bo)) (obs_nil))) (by kernel_rfl) (by kernel_rfl) (by kernel_rfl) (fun a w hst => ?_)
  have hst : St B w0 98 [(1, _), (4, _)] [⟨2, 28, ptrH, _⟩] a w := hst
  refine thn_normal ?_
  refine wp_seq ?_
  refine wp_seq ?_
  refine go_lin (sts := [none]) (news := []) (sp := [.val 11 _, .val 12 _, .val 13 _, .val 14 _, .val 15 _, .val 16 _]) [.g 0, .g 1, .o 5] hst (obs_cons (ob_v rfl rfl (r_load (loc_at0 0 rfl (by kernel_rfl)) ty_28)) (obs_cons (ob_v rfl rfl (r_call (xs := [.tmp 11]) (gaussCost_c _) (.cons (has_v 0 rfl (by kernel_rfl) (by kernel_rfl)) .nil))) (obs_cons (ob_v rfl rfl (r_move (has_g 0 rfl (by kernel_rfl) (by kernel_rfl)))) (obs_cons (ob_v rfl rfl (r_call (xs := [.tmp 13]) (gaussesCost_c _) (.cons (has_v 2 rfl (by kernel_rfl) (by kernel_rfl)) .nil))) (obs_cons (ob_v rfl rfl (r_slice (D := []) (l := [_, _]) (xs := [.tmp 12, .tmp 14]) (nd_ok (by kernel_rfl)) sl_91 (by kernel_rfl) (n_ok (by kernel_rfl)) (Nat.le_of_ble_eq_true (by kernel_rfl)) (Nat.le_of_ble_eq_true (by kernel_rfl)) (Nat.le_of_ble_eq_true (by kernel_rfl)) (.cons (has_v 1 rfl (by kernel_rfl) (by kernel_rfl)) (.cons (has_v 3 rfl (by kernel_rfl) (by kernel_rfl)) .nil)) rfl rfl)) (obs_cons (ob_v rfl rfl (r_call (xs := [.tmp 15]) (beyond_c [_, _]) (.cons (has_v 4 rfl (by kernel_rfl) (by kernel_rfl)) .nil))) (obs_nil))))))) (by kernel_rfl) (by kernel_rfl) (by kernel_rfl) (fun a w hst => ?_)
  have hst : St B w0 98 [(1, _), (4, _), (16, _)] [⟨2, 28, ptrH, _⟩] a w := hst
  refine thn_normal ?_
  refine cond_of hst (List.mem_of_getElem? (i := 2) rfl) (fun hb0 => ?_) (fun hb0 => ?_)
  · refine wp_seq ?_
    refine go_lin (sts := [none]) (news := []) (sp := [.val 4 _]) [.g 0, .o 0] hst (obs_cons (ob_v rfl rfl (r_assign has_bo)) (obs_nil)) (by kernel_rfl) (by kernel_rfl) (by kernel_rfl) (fun a w hst => ?_)
    have hst : St B w0 98 [(1, _), (4, _)] [⟨2, 28, ptrH, _⟩] a w := hst
    refine thn_normal ?_
    refine wp_ret ?_
    refine thn_ret ?_
    refine ret_wk ?_ (ret_tmp rfl hst (List.mem_of_getElem? (i := 1) rfl))
    exact wk_id
  · refine wp_skip ?_
    refine thn_normal ?_
    refine wp_seq ?_
    refine go_lin (sts := [none]) (news := []) (sp := [.val 18 _, .val 19 _, .val 20 _, .val 17 _, .val 21 _, .val 22 _, .val 5 _, .val 6 _]) [.g 0, .g 1, .o 6, .o 7] hst (obs_cons (ob_v rfl rfl (r_load (loc_at0 0 rfl (by kernel_rfl)) ty_28)) (obs_cons (ob_v rfl rfl (r_move (has_g 0 rfl (by kernel_rfl) (by kernel_rfl)))) (obs_cons (ob_v rfl rfl (r_call (xs := [.tmp 18, .tmp 19]) (best_c _ _) (.cons (has_v 0 rfl (by kernel_rfl) (by kernel_rfl)) (.cons (has_v 1 rfl (by kernel_rfl) (by kernel_rfl)) .nil)))) (obs_cons (ob_v rfl rfl (r_move (has_v 2 rfl (by kernel_rfl) (by kernel_rfl)))) (obs_cons (ob_v rfl rfl (r_ex0 (has_v 3 rfl (by kernel_rfl) (by kernel_rfl)))) (obs_cons (ob_v rfl rfl (r_ex1 (has_v 3 rfl (by kernel_rfl) (by kernel_rfl)))) (obs_cons (ob_v rfl rfl (r_assign (has_v 4 rfl (by kernel_rfl) (by kernel_rfl)))) (obs_cons (ob_v rfl rfl (r_assign (has_v 5 rfl (by kernel_rfl) (by kernel_rfl)))) (obs_nil))))))))) (by kernel_rfl) (by kernel_rfl) (by kernel_rfl) (fun a w hst => ?_)
    have hst : St B w0 98 [(1, _), (4, _), (5, _), (6, _)] [⟨2, 28, ptrH, _⟩] a w := hst
    refine thn_normal ?_
    refine wp_seq ?_
    refine wp_seq ?_
    refine go_lin (sts := [none]) (news := []) (sp := [.val 23 _, .val 24 _]) [.g 0, .g 1, .g 2, .g 3, .o 1] hst (obs_cons (ob_v rfl rfl (r_move (has_g 3 rfl (by kernel_rfl) (by kernel_rfl)))) (obs_cons (ob_v rfl rfl (r_neq (has_v 0 rfl (by kernel_rfl) (by kernel_rfl)) has_num)) (obs_nil))) (by kernel_rfl) (by kernel_rfl) (by kernel_rfl) (fun a w hst => ?_)
    have hst : St B w0 98 [(1, _), (4, _), (5, _), (6, _), (24, _)] [⟨2, 28, ptrH, _⟩] a w := hst
    refine thn_normal ?_
    refine cond_of hst (List.mem_of_getElem? (i := 4) rfl) (fun hb1 => ?_) (fun hb1 => ?_)
    · have hr : ((bestF p xs).1 = 0 ∧ (bestF p xs).2 = 1) ∨ (xs.length = 0 ∧ (bestF p xs).1 = 0 ∧ (bestF p xs).2 = 3) := by
        rcases hbt with h | ⟨h0, h⟩ | ⟨n, h, _⟩
        · rw [h]; exact .inl ⟨rfl, rfl⟩
        · rw [h]; exact .inr ⟨h0, rfl, rfl⟩
        · rw [h] at hb1; simp at hb1
      refine wp_seq ?_
      refine go_lin (sts := [none]) (news := []) (sp := [.val 25 _, .val 26 _, .val 27 _, .val 28 (Wh (_ = true) _), .val 29 (Wh (_ = true) _), .val 30 (Wh (_ = true) _), .val 31 (Wh ((_ = true) ∧ _ = false) _), .val 32 (Wh ((_ = true) ∧ _ = false) _), .val 33 (Wh ((_ = true) ∧ _ = false) _), .val 34 (Wh (((_ = true) ∧ _ = false) ∧ _ = true) _), .val 35 (Wh (((_ = true) ∧ _ = false) ∧ _ = true) _), .val 36 (Wh (((_ = true) ∧ _ = false) ∧ _ = true) _), .val 37 (Wh ((_ = true) ∧ _ = false) _), .val 38 (Wh (_ = true) _), .val 39 _, .val 40 _, .val 41 (Wh (_ = true) _), .val 42 _, .val 4 _]) [.g 0, .g 2, .g 3, .o 18] hst (obs_cons (ob_v rfl rfl (r_move (has_g 2 rfl (by kernel_rfl) (by kernel_rfl)))) (obs_cons (ob_v rfl rfl (r_eql (has_v 0 rfl (by kernel_rfl) (by kernel_rfl)) has_num)) (obs_cons (ob_v rfl rfl (r_move (has_v 1 rfl (by kernel_rfl) (by kernel_rfl)))) (obs_cons (ob_gd rfl rfl rfl (has_v 2 rfl (by kernel_rfl) (by kernel_rfl)) (Nat.le_of_ble_eq_true (by kernel_rfl)) (fun hg => r_move (has_g 3 rfl (by kernel_rfl) (by kernel_rfl)))) (obs_cons (ob_gd rfl rfl rfl (has_v 2 rfl (by kernel_rfl) (by kernel_rfl)) (Nat.le_of_ble_eq_true (by kernel_rfl)) (fun hg => r_eql (has_wh (has_v 3 rfl (by kernel_rfl) (by kernel_rfl)) hg) has_num)) (obs_cons (ob_gd rfl rfl rfl (has_v 2 rfl (by kernel_rfl) (by kernel_rfl)) (Nat.le_of_ble_eq_true (by kernel_rfl)) (fun hg => r_move (has_wh (has_v 4 rfl (by kernel_rfl) (by kernel_rfl)) hg))) (obs_cons (ob_gd2 rfl rfl rfl (has_v 5 rfl (by kernel_rfl) (by kernel_rfl)) (Nat.le_of_ble_eq_true (by kernel_rfl)) (fun hg => r_move (has_g 3 rfl (by kernel_rfl) (by kernel_rfl)))) (obs_cons (ob_gd2 rfl rfl rfl (has_v 5 rfl (by kernel_rfl) (by kernel_rfl)) (Nat.le_of_ble_eq_true (by kernel_rfl)) (fun hg => r_eql (has_wh (has_v 6 rfl (by kernel_rfl) (by kernel_rfl)) hg) has_num)) (obs_cons (ob_gd2 rfl rfl rfl (has_v 5 rfl (by kernel_rfl) (by kernel_rfl)) (Nat.le_of_ble_eq_true (by kernel_rfl)) (fun hg => r_move (has_wh (has_v 7 rfl (by kernel_rfl) (by kernel_rfl)) hg))) (obs_cons (ob_gd2 rfl rfl rfl (has_v 8 rfl (by kernel_rfl) (by kernel_rfl)) (Nat.le_of_ble_eq_true (by kernel_rfl)) (fun hg => r_move (has_g 0 rfl (by kernel_rfl) (by kernel_rfl)))) (obs_cons (ob_gd2 rfl rfl rfl (has_v 8 rfl (by kernel_rfl) (by kernel_rfl)) (Nat.le_of_ble_eq_true (by kernel_rfl)) (fun hg => r_len Try.underlying29 (has_wh (has_v 9 rfl (by kernel_rfl) (by kernel_rfl)) hg))) (obs_cons (ob_gd2 rfl rfl rfl (has_v 8 rfl (by kernel_rfl) (by kernel_rfl)) (Nat.le_of_ble_eq_true (by kernel_rfl)) (fun hg => r_eql (has_wh (has_v 10 rfl (by kernel_rfl) (by kernel_rfl)) hg) has_num)) (obs_cons (ob_gd2 rfl rfl rfl (has_v 5 rfl (by kernel_rfl) (by kernel_rfl)) (Nat.le_of_ble_eq_true (by kernel_rfl)) (fun hg => r_and (has_wh (has_v 8 rfl (by kernel_rfl) (by kernel_rfl)) hg) (has_wh2 (has_v 11 rfl (by kernel_rfl) (by kernel_rfl)) hg))) (obs_cons (ob_gd rfl rfl rfl (has_v 2 rfl (by kernel_rfl) (by kernel_rfl)) (Nat.le_of_ble_eq_true (by kernel_rfl)) (fun hg => r_or (has_wh (has_v 5 rfl (by kernel_rfl) (by kernel_rfl)) hg) (has_wh2 (has_v 12 rfl (by kernel_rfl) (by kernel_rfl)) hg))) (obs_cons (ob_v rfl rfl (r_and (has_v 2 rfl (by kernel_rfl) (by kernel_rfl)) (has_v 13 rfl (by kernel_rfl) (by kernel_rfl)))) (obs_cons (ob_v rfl rfl (r_move (has_v 14 rfl (by kernel_rfl) (by kernel_rfl)))) (obs_cons (ob_gd rfl rfl rfl (has_v 15 rfl (by kernel_rfl) (by kernel_rfl)) (Nat.le_of_ble_eq_true (by kernel_rfl)) (fun hg => r_call (xs := []) lives20_c .nil)) (obs_cons (ob_v rfl rfl (r_and (has_v 15 rfl (by kernel_rfl) (by kernel_rfl)) (has_v 16 rfl (by kernel_rfl) (by kernel_rfl)))) (obs_cons (ob_v rfl rfl (r_assign (has_v 17 rfl (by kernel_rfl) (by kernel_rfl)))) (obs_nil)))))))))))))))))))) (by kernel_rfl) (by kernel_rfl) (by kernel_rfl) (fun a w hst => ?_)
      have hst : St B w0 98 [(1, _), (5, _), (6, _), (4, _)] [⟨2, 28, ptrH, _⟩] a w := hst
      refine thn_normal ?_
      refine wp_ret ?_
      refine thn_ret ?_
      refine ret_wk ?_ (ret_tmp rfl hst (List.mem_of_getElem? (i := 3) rfl))
      rw [List.length_map]; exact bo_lives (mf_ref hr)
    · obtain ⟨m, hm, hmx, hp, hx, hle, hlt⟩ : ∃ n : Nat, bestF p xs = ((n : Int), 0) ∧ n < xs.length ∧ okB p = true ∧ xs.all okB = true ∧ (∀ i, i < xs.length → ovs p xs i ≤ ovs p xs n) ∧ ∀ i, i < n → ovs p xs i < ovs p xs n := by
        rcases hbt with h | ⟨h0, h⟩ | h
        · rw [h] at hb1; simp at hb1
        · rw [h] at hb1; simp at hb1
        · exact h
      have hst := St.cvG (A' := In ((m : Nat) : Int)) hst 2 rfl (by rw [hm])
      refine wp_skip ?_
      refine thn_normal ?_
      refine wp_seq ?_
      refine wp_seq ?_
      refine go_lin (sts := [none]) (news := []) (sp := [.val 43 _, .val 44 _, .val 45 _, .val 46 (Wh (_ = false) _), .val 47 (Wh (_ = false) _), .val 48 (Wh (_ = false) _), .val 49 (Wh (_ = false) _), .val 50 _]) [.g 0, .g 1, .g 2, .g 3, .o 7] hst (obs_cons (ob_v rfl rfl (r_move (has_g 2 rfl (by kernel_rfl) (by kernel_rfl)))) (obs_cons (ob_v rfl rfl (r_lss (has_v 0 rfl (by kernel_rfl) (by kernel_rfl)) has_num)) (obs_cons (ob_v rfl rfl (r_move (has_v 1 rfl (by kernel_rfl) (by kernel_rfl)))) (obs_cons (ob_gd rfl rfl rfl (has_v 2 rfl (by kernel_rfl) (by kernel_rfl)) (Nat.le_of_ble_eq_true (by kernel_rfl)) (fun hg => r_move (has_g 2 rfl (by kernel_rfl) (by kernel_rfl)))) (obs_cons (ob_gd rfl rfl rfl (has_v 2 rfl (by kernel_rfl) (by kernel_rfl)) (Nat.le_of_ble_eq_true (by kernel_rfl)) (fun hg => r_move (has_g 0 rfl (by kernel_rfl) (by kernel_rfl)))) (obs_cons (ob_gd rfl rfl rfl (has_v 2 rfl (by kernel_rfl) (by kernel_rfl)) (Nat.le_of_ble_eq_true (by kernel_rfl)) (fun hg => r_len Try.underlying29 (has_wh (has_v 4 rfl (by kernel_rfl) (by kernel_rfl)) hg))) (obs_cons (ob_gd rfl rfl rfl (has_v 2 rfl (by kernel_rfl) (by kernel_rfl)) (Nat.le_of_ble_eq_true (by kernel_rfl)) (fun hg => r_geq (has_wh (has_v 3 rfl (by kernel_rfl) (by kernel_rfl)) hg) (has_wh (has_v 5 rfl (by kernel_rfl) (by kernel_rfl)) hg))) (obs_cons (ob_v rfl rfl (r_or (has_v 2 rfl (by kernel_rfl) (by kernel_rfl)) (has_v 6 rfl (by kernel_rfl) (by kernel_rfl)))) (obs_nil))))))))) (by kernel_rfl) (by kernel_rfl) (by kernel_rfl) (fun a w hst => ?_)
      have hst : St B w0 98 [(1, _), (4, _), (5, _), (6, _), (50, _)] [⟨2, 28, ptrH, _⟩] a w := hst
      refine thn_normal ?_
      refine cond_of hst (List.mem_of_getElem? (i := 4) rfl) (fun hb2 => ?_) (fun hb2 => ?_)
      · rw [List.length_map, Bool.or_eq_true] at hb2; rcases hb2 with h | h <;> (have := of_decide_eq_true h; omega)
      · refine wp_skip ?_
        refine thn_normal ?_
        refine wp_seq ?_
        refine go_draw (anc := [[], [], [], [1, 2], [1, 2, 3], [0, 1, 2, 3, 4], [0, 1, 2, 3, 4, 5], [0, 1, 2, 3, 4, 5, 6], [0, 1, 2, 3, 4, 5, 6], [], [0, 1, 2, 3, 4, 5, 6, 7, 9], [0, 1, 2, 3, 4, 5, 6, 7, 8, 9, 10]]) (sts := [none]) (news := [⟨7, 26, ptrH, some 9, _, some (10, _)⟩]) (sp := [.val 52 _, .val 53 _, .val 54 _, .val 55 _, .val 56 _, .val 57 _, .val 51 _, .val 58 _, .val 59 _, .alc 1, .sto 1, .val 6 _]) [.g 0, .g 1, .g 2, .o 11] follows_mixed hst (obs_cons (ob_v rfl rfl (r_load (loc_at0 0 rfl (by kernel_rfl)) ty_28)) (obs_cons (ob_v rfl rfl (r_move (has_g 0 rfl (by kernel_rfl) (by kernel_rfl)))) (obs_cons (ob_v rfl rfl (r_move (has_g 2 rfl (by kernel_rfl) (by kernel_rfl)))) (obs_cons (ob_v rfl rfl (r_idx sl_29 (map_n fun _ => rfl) (has_v 1 rfl (by kernel_rfl) (by kernel_rfl)) (has_v 2 rfl (by kernel_rfl) (by kernel_rfl)) (map_at hmx))) (obs_cons (ob_v rfl rfl (r_loade (has_v 3 rfl (by kernel_rfl) (by kernel_rfl)) ty_28)) (obs_cons (ob_v rfl rfl (r_call (xs := [.tmp 52, .tmp 56]) (overlap_c _ (xs[m])) (.cons (has_v 0 rfl (by kernel_rfl) (by kernel_rfl)) (.cons (has_v 4 rfl (by kernel_rfl) (by kernel_rfl)) .nil)))) (obs_cons (ob_v rfl rfl (r_move (has_v 5 rfl (by kernel_rfl) (by kernel_rfl)))) (obs_cons (ob_v rfl rfl (r_ex0 (has_v 6 rfl (by kernel_rfl) (by kernel_rfl)))) (obs_cons (ob_v rfl rfl (r_ex1 (has_v 6 rfl (by kernel_rfl) (by kernel_rfl)))) (obs_cons (ob_alc rfl rfl rfl (Str.zero str_frac)) (obs_cons (ob_sto rfl rfl rfl (has_v 7 rfl (by kernel_rfl) (by kernel_rfl)) ty_26 rfl) (obs_cons (ob_v rfl rfl (r_assign (has_v 8 rfl (by kernel_rfl) (by kernel_rfl)))) (obs_nil))))))))))))) (by kernel_rfl) (by kernel_rfl) (by kernel_rfl) (by kernel_rfl) (fun a w hst => ?_)
        have hst : St B w0 98 [(1, _), (4, _), (5, _), (6, _)] [⟨2, 28, ptrH, _⟩, ⟨7, 26, ptrH, _⟩] a w := hst
        refine thn_normal ?_
        refine wp_seq ?_
        refine wp_seq ?_
        refine go_lin (sts := [none, none]) (news := []) (sp := [.val 60 _, .val 61 _]) [.g 0, .g 1, .g 2, .o 1] hst (obs_cons (ob_v rfl rfl (r_move (has_g 3 rfl (by kernel_rfl) (by kernel_rfl)))) (obs_cons (ob_v rfl rfl (r_neq (has_v 0 rfl (by kernel_rfl) (by kernel_rfl)) has_num)) (obs_nil))) (by kernel_rfl) (by kernel_rfl) (by kernel_rfl) (fun a w hst => ?_)
        have hst : St B w0 98 [(1, _), (4, _), (5, _), (61, _)] [⟨2, 28, ptrH, _⟩, ⟨7, 26, ptrH, _⟩] a w := hst
        refine thn_normal ?_
        refine cond_of hst (List.mem_of_getElem? (i := 3) rfl) (fun hb3 => ?_) (fun hb3 => ?_)
        · skip
          refine wp_seq ?_
          refine go_lin (sts := [none, none]) (news := []) (sp := [.val 62 _, .val 4 _]) [.g 0, .g 2, .o 1] hst (obs_cons (ob_v rfl rfl (r_call (xs := []) lives20_c .nil)) (obs_cons (ob_v rfl rfl (r_assign (has_v 0 rfl (by kernel_rfl) (by kernel_rfl)))) (obs_nil))) (by kernel_rfl) (by kernel_rfl) (by kernel_rfl) (fun a w hst => ?_)
          have hst : St B w0 98 [(1, _), (5, _), (4, _)] [⟨2, 28, ptrH, _⟩, ⟨7, 26, ptrH, _⟩] a w := hst
          refine thn_normal ?_
          refine wp_ret ?_
          refine thn_ret ?_
          refine ret_wk ?_ (ret_tmp rfl hst (List.mem_of_getElem? (i := 2) rfl))
          exact wk_id
        · have hy : ansF (ovs p xs m) = (rfOf (ovs p xs m), 0) := by
            rw [ov_at hp hx hmx] at hb3
            unfold ansF at hb3 ⊢
            cases hl : longQ (ovs p xs m) with
            | false => rfl
            | true => rw [hl] at hb3; simp at hb3
          refine wp_skip ?_
          refine thn_normal ?_
          refine wp_seq ?_
          refine wp_seq ?_
          refine go_lin (sts := [none, none]) (news := []) (sp := [.val 8 _]) [.g 0, .g 1, .g 2, .o 0] hst (obs_cons (ob_v rfl rfl (r_assign has_num)) (obs_nil)) (by kernel_rfl) (by kernel_rfl) (by kernel_rfl) (fun a w hst => ?_)
          have hst : St B w0 98 [(1, _), (4, _), (5, _), (8, _)] [⟨2, 28, ptrH, _⟩, ⟨7, 26, ptrH, _⟩] a w := hst
          refine thn_normal ?_
          refine wp_block ?_
          have hst := St.sel hst [0, 2, 3]
          refine wp_loop_ghost (fun n a w => ∃ j : Nat, n + j = xs.length ∧ St B w0 98 [(1, (SlA 28 [U32] (xs.map RGA)).va), (5, In (m : Nat)), (8, In (j : Nat))] [⟨2, 28, ptrH, RGA p⟩, ⟨7, 26, ptrH, RFA (ovF p (xs[m])).1⟩] a w) (xs.length) ?_ ?_
          · exact ⟨0, by omega, hst⟩
          intro n a w hI
          obtain ⟨j, hn, hst⟩ := hI
          refine wp_seq ?_
          refine wp_seq ?_
          refine go_lin (sts := [none, none]) (news := []) (sp := [.val 63 _, .val 64 _, .val 65 _, .val 66 _]) [.g 0, .g 1, .g 2, .o 3] hst (obs_cons (ob_v rfl rfl (r_move (has_g 2 rfl (by kernel_rfl) (by kernel_rfl)))) (obs_cons (ob_v rfl rfl (r_move (has_g 0 rfl (by kernel_rfl) (by kernel_rfl)))) (obs_cons (ob_v rfl rfl (r_len Try.underlying29 (has_v 1 rfl (by kernel_rfl) (by kernel_rfl)))) (obs_cons (ob_v rfl rfl (r_lss (has_v 0 rfl (by kernel_rfl) (by kernel_rfl)) (has_v 2 rfl (by kernel_rfl) (by kernel_rfl)))) (obs_nil))))) (by kernel_rfl) (by kernel_rfl) (by kernel_rfl) (fun a w hst => ?_)
          have hst : St B w0 98 [(1, _), (5, _), (8, _), (66, _)] [⟨2, 28, ptrH, _⟩, ⟨7, 26, ptrH, _⟩] a w := hst
          refine thn_normal ?_
          refine cond_of hst (List.mem_of_getElem? (i := 3) rfl) (fun hb4 => ?_) (fun hb4 => ?_)
          · have hj : j < xs.length := by rw [List.length_map] at hb4; have := of_decide_eq_true hb4; omega
            refine wp_skip ?_
            refine thn_normal ?_
            refine wp_seq ?_
            refine wp_block ?_
            refine wp_seq ?_
            refine go_draw (anc := [[], [], [], [1, 2], [1, 2, 3], [0, 1, 2, 3, 4], [0, 1, 2, 3, 4, 5], [0, 1, 2, 3, 4, 5, 6], [0, 1, 2, 3, 4, 5, 6], [], [0, 1, 2, 3, 4, 5, 6, 7, 9], [0, 1, 2, 3, 4, 5, 6, 7, 8, 9, 10]]) (sts := [none, none]) (news := [⟨9, 26, ptrH, some 9, _, some (10, _)⟩]) (sp := [.val 70 _, .val 71 _, .val 72 _, .val 73 _, .val 74 _, .val 75 _, .val 69 _, .val 76 _, .val 77 _, .alc 2, .sto 2, .val 10 _]) [.g 0, .g 1, .g 2, .o 11] follows_mixed hst (obs_cons (ob_v rfl rfl (r_load (loc_at0 0 rfl (by kernel_rfl)) ty_28)) (obs_cons (ob_v rfl rfl (r_move (has_g 0 rfl (by kernel_rfl) (by kernel_rfl)))) (obs_cons (ob_v rfl rfl (r_move (has_g 2 rfl (by kernel_rfl) (by kernel_rfl)))) (obs_cons (ob_v rfl rfl (r_idx sl_29 (map_n fun _ => rfl) (has_v 1 rfl (by kernel_rfl) (by kernel_rfl)) (has_v 2 rfl (by kernel_rfl) (by kernel_rfl)) (map_at hj))) (obs_cons (ob_v rfl rfl (r_loade (has_v 3 rfl (by kernel_rfl) (by kernel_rfl)) ty_28)) (obs_cons (ob_v rfl rfl (r_call (xs := [.tmp 70, .tmp 74]) (overlap_c _ (xs[j])) (.cons (has_v 0 rfl (by kernel_rfl) (by kernel_rfl)) (.cons (has_v 4 rfl (by kernel_rfl) (by kernel_rfl)) .nil)))) (obs_cons (ob_v rfl rfl (r_move (has_v 5 rfl (by kernel_rfl) (by kernel_rfl)))) (obs_cons (ob_v rfl rfl (r_ex0 (has_v 6 rfl (by kernel_rfl) (by kernel_rfl)))) (obs_cons (ob_v rfl rfl (r_ex1 (has_v 6 rfl (by kernel_rfl) (by kernel_rfl)))) (obs_cons (ob_alc rfl rfl rfl (Str.zero str_frac)) (obs_cons (ob_sto rfl rfl rfl (has_v 7 rfl (by kernel_rfl) (by kernel_rfl)) ty_26 rfl) (obs_cons (ob_v rfl rfl (r_assign (has_v 8 rfl (by kernel_rfl) (by kernel_rfl)))) (obs_nil))))))))))))) (by kernel_rfl) (by kernel_rfl) (by kernel_rfl) (by kernel_rfl) (fun a w hst => ?_)
            have hst : St B w0 98 [(1, _), (5, _), (8, _), (10, _)] [⟨2, 28, ptrH, _⟩, ⟨7, 26, ptrH, _⟩, ⟨9, 26, ptrH, _⟩] a w := hst
            refine thn_normal ?_
            refine wp_seq ?_
            refine go_lin (sts := [none, none, none]) (news := []) (sp := [.val 78 _, .val 79 _, .val 80 _, .val 81 (Wh (_ = true) _), .val 82 (Wh (_ = true) _), .val 83 (Wh (_ = true) _), .val 84 (Wh (_ = true) _), .val 85 (Wh (_ = true) _), .val 86 (Wh ((_ = true) ∧ _ = false) _), .val 87 (Wh ((_ = true) ∧ _ = false) _), .val 88 (Wh ((_ = true) ∧ _ = false) _), .val 89 (Wh ((_ = true) ∧ _ = false) _), .val 90 (Wh (((_ = true) ∧ _ = false) ∧ _ = true) _), .val 91 (Wh (((_ = true) ∧ _ = false) ∧ _ = true) _), .val 92 (Wh (((_ = true) ∧ _ = false) ∧ _ = true) _), .val 93 (Wh (((_ = true) ∧ _ = false) ∧ _ = true) _), .val 94 (Wh ((_ = true) ∧ _ = false) _), .val 95 (Wh (_ = true) _), .val 96 _]) [.g 0, .g 1, .g 2, .o 18] hst (obs_cons (ob_v rfl rfl (r_move (has_g 3 rfl (by kernel_rfl) (by kernel_rfl)))) (obs_cons (ob_v rfl rfl (r_eql (has_v 0 rfl (by kernel_rfl) (by kernel_rfl)) has_num)) (obs_cons (ob_v rfl rfl (r_move (has_v 1 rfl (by kernel_rfl) (by kernel_rfl)))) (obs_cons (ob_gd rfl rfl rfl (has_v 2 rfl (by kernel_rfl) (by kernel_rfl)) (Nat.le_of_ble_eq_true (by kernel_rfl)) (fun hg => r_load (loc_at0 2 rfl (by kernel_rfl)) ty_26)) (obs_cons (ob_gd rfl rfl rfl (has_v 2 rfl (by kernel_rfl) (by kernel_rfl)) (Nat.le_of_ble_eq_true (by kernel_rfl)) (fun hg => r_load (loc_at0 1 rfl (by kernel_rfl)) ty_26)) (obs_cons (ob_gd rfl rfl rfl (has_v 2 rfl (by kernel_rfl) (by kernel_rfl)) (Nat.le_of_ble_eq_true (by kernel_rfl)) (fun hg => r_call (xs := [.tmp 81, .tmp 82]) (fracCmp_c _ _) (.cons (has_wh (has_v 3 rfl (by kernel_rfl) (by kernel_rfl)) hg) (.cons (has_wh (has_v 4 rfl (by kernel_rfl) (by kernel_rfl)) hg) .nil)))) (obs_cons (ob_gd rfl rfl rfl (has_v 2 rfl (by kernel_rfl) (by kernel_rfl)) (Nat.le_of_ble_eq_true (by kernel_rfl)) (fun hg => r_gtr (has_wh (has_v 5 rfl (by kernel_rfl) (by kernel_rfl)) hg) has_num)) (obs_cons (ob_gd rfl rfl rfl (has_v 2 rfl (by kernel_rfl) (by kernel_rfl)) (Nat.le_of_ble_eq_true (by kernel_rfl)) (fun hg => r_move (has_wh (has_v 6 rfl (by kernel_rfl) (by kernel_rfl)) hg))) (obs_cons (ob_gd2 rfl rfl rfl (has_v 7 rfl (by kernel_rfl) (by kernel_rfl)) (Nat.le_of_ble_eq_true (by kernel_rfl)) (fun hg => r_move (has_g 2 rfl (by kernel_rfl) (by kernel_rfl)))) (obs_cons (ob_gd2 rfl rfl rfl (has_v 7 rfl (by kernel_rfl) (by kernel_rfl)) (Nat.le_of_ble_eq_true (by kernel_rfl)) (fun hg => r_move (has_g 1 rfl (by kernel_rfl) (by kernel_rfl)))) (obs_cons (ob_gd2 rfl rfl rfl (has_v 7 rfl (by kernel_rfl) (by kernel_rfl)) (Nat.le_of_ble_eq_true (by kernel_rfl)) (fun hg => r_lss (has_wh (has_v 8 rfl (by kernel_rfl) (by kernel_rfl)) hg) (has_wh (has_v 9 rfl (by kernel_rfl) (by kernel_rfl)) hg))) (obs_cons (ob_gd2 rfl rfl rfl (has_v 7 rfl (by kernel_rfl) (by kernel_rfl)) (Nat.le_of_ble_eq_true (by kernel_rfl)) (fun hg => r_move (has_wh (has_v 10 rfl (by kernel_rfl) (by kernel_rfl)) hg))) (obs_cons (ob_gd2 rfl rfl rfl (has_v 11 rfl (by kernel_rfl) (by kernel_rfl)) (Nat.le_of_ble_eq_true (by kernel_rfl)) (fun hg => r_load (loc_at0 2 rfl (by kernel_rfl)) ty_26)) (obs_cons (ob_gd2 rfl rfl rfl (has_v 11 rfl (by kernel_rfl) (by kernel_rfl)) (Nat.le_of_ble_eq_true (by kernel_rfl)) (fun hg => r_load (loc_at0 1 rfl (by kernel_rfl)) ty_26)) (obs_cons (ob_gd2 rfl rfl rfl (has_v 11 rfl (by kernel_rfl) (by kernel_rfl)) (Nat.le_of_ble_eq_true (by kernel_rfl)) (fun hg => r_call (xs := [.tmp 90, .tmp 91]) (fracCmp_c _ _) (.cons (has_wh (has_v 12 rfl (by kernel_rfl) (by kernel_rfl)) hg) (.cons (has_wh (has_v 13 rfl (by kernel_rfl) (by kernel_rfl)) hg) .nil)))) (obs_cons (ob_gd2 rfl rfl rfl (has_v 11 rfl (by kernel_rfl) (by kernel_rfl)) (Nat.le_of_ble_eq_true (by kernel_rfl)) (fun hg => r_eql (has_wh (has_v 14 rfl (by kernel_rfl) (by kernel_rfl)) hg) has_num)) (obs_cons (ob_gd2 rfl rfl rfl (has_v 7 rfl (by kernel_rfl) (by kernel_rfl)) (Nat.le_of_ble_eq_true (by kernel_rfl)) (fun hg => r_and (has_wh (has_v 11 rfl (by kernel_rfl) (by kernel_rfl)) hg) (has_wh2 (has_v 15 rfl (by kernel_rfl) (by kernel_rfl)) hg))) (obs_cons (ob_gd rfl rfl rfl (has_v 2 rfl (by kernel_rfl) (by kernel_rfl)) (Nat.le_of_ble_eq_true (by kernel_rfl)) (fun hg => r_or (has_wh (has_v 7 rfl (by kernel_rfl) (by kernel_rfl)) hg) (has_wh2 (has_v 16 rfl (by kernel_rfl) (by kernel_rfl)) hg))) (obs_cons (ob_v rfl rfl (r_and (has_v 2 rfl (by kernel_rfl) (by kernel_rfl)) (has_v 17 rfl (by kernel_rfl) (by kernel_rfl)))) (obs_nil)))))))))))))))))))) (by kernel_rfl) (by kernel_rfl) (by kernel_rfl) (fun a w hst => ?_)
            have hst : St B w0 98 [(1, _), (5, _), (8, _), (96, _)] [⟨2, 28, ptrH, _⟩, ⟨7, 26, ptrH, _⟩, ⟨9, 26, ptrH, _⟩] a w := hst
            refine thn_normal ?_
            refine cond_of hst (List.mem_of_getElem? (i := 3) rfl) (fun hb5 => ?_) (fun hb5 => ?_)
            · rw [ov_at hp hx hj, ov_at hp hx hmx] at hb5; exact (mf_no (hle j hj) (hlt j) hy hb5).elim
            · refine wp_skip ?_
              refine blk_normal ?_
              refine thn_normal ?_
              refine go_lin (sts := [none, none, none]) (news := []) (sp := [.val 67 _, .val 68 _, .val 8 _]) [.g 0, .g 1, .o 2] hst (obs_cons (ob_v rfl rfl (r_move (has_g 2 rfl (by kernel_rfl) (by kernel_rfl)))) (obs_cons (ob_v rfl rfl (r_add (has_v 0 rfl (by kernel_rfl) (by kernel_rfl)) has_num ((wi64 (by omega) (by omega)).trans (by omega : (_ : Int) = ((j + 1 : Nat) : Int))))) (obs_cons (ob_v rfl rfl (r_assign (has_v 1 rfl (by kernel_rfl) (by kernel_rfl)))) (obs_nil)))) (by kernel_rfl) (by kernel_rfl) (by kernel_rfl) (fun a w hst => ?_)
              have hst : St B w0 98 [(1, _), (5, _), (8, _)] [⟨2, 28, ptrH, _⟩, ⟨7, 26, ptrH, _⟩, ⟨9, 26, ptrH, _⟩] a w := hst
              refine thn_normal ?_
              have hst := St.sel hst [0, 1, 2]
              have hst := St.selL hst [0, 1]
              exact ⟨n - 1, by omega, j + 1, by omega, hst⟩
          · obtain rfl : j = xs.length := by rw [List.length_map] at hb4; have := of_decide_eq_false hb4; omega
            refine wp_exit ?_
            refine thn_exit ?_
            refine thn_exit ?_
            refine blk_exit ?_
            refine thn_normal ?_
            refine wp_seq ?_
            refine go_lin (sts := [none, none]) (news := []) (sp := [.val 97 _, .val 4 _]) [.o 1] hst (obs_cons (ob_v rfl rfl (r_call (xs := []) lives20_c .nil)) (obs_cons (ob_v rfl rfl (r_assign (has_v 0 rfl (by kernel_rfl) (by kernel_rfl)))) (obs_nil))) (by kernel_rfl) (by kernel_rfl) (by kernel_rfl) (fun a w hst => ?_)
            have hst : St B w0 98 [(4, _)] [⟨2, 28, ptrH, _⟩, ⟨7, 26, ptrH, _⟩] a w := hst
            refine thn_normal ?_
            refine wp_ret ?_
            refine ret_wk ?_ (ret_tmp rfl hst (List.mem_of_getElem? (i := 0) rfl))
            exact wk_id

open Go.ChangeShapes Go.WideShapes Go.ChangeAt
open Go.ChangeMaps (open_string shut_string)
set_option linter.unusedVariables false
theorem own : ownKnob Try.prog.godebug = none := by kernel_rfl
theorem laidOut : laidOutB Try.prog = true := by kernel_rfl
set_option maxRecDepth 100000 in
theorem lifted (os : Os) (started : os.Started) (H : Type) (enc : TypeId × Value → H) :
    ReturnsInHanded {} Try.checked os 3 .any (Rows.matchFirstSpec.pre6 enc Try.prog Try.f3 Rows.matchFirstRow.domain false) (Rows.matchFirstSpec.post enc Try.prog Try.f3 false true false false) := by
  refine returnsInHanded_of_change (C := Try.checked) own started (by kernel_rfl) Try.func3
    (ChangeSpec.witness6 (enc := enc) (C := Try.checked) false ⟨#[], #[.agg #[.bool false, .slice none 0 0, .bool false, .slice none 0 0, .bool false, .slice none 0 0, .bool false, .slice none 0 0], .slice none 0 0], []⟩ 8 (by kernel_rfl) (by kernel_rfl) (by kernel_rfl) (by kernel_rfl)) ?_
  intro W base args ds gs before hval0 hW hcnd _
  have hval : ∀ (j : Nat) t v, Try.f3.params[j]? = some t → args[j]? = some v → Value.okWide Try.prog W .any base t v := hval0
  have hW' := hW
  obtain ⟨p, q, hA0, hV, rfl, hfz, hnd⟩ := hW
  have hA : DataW.TrodAll enc Try.prog W 0 (fun _ => true) true Try.f3.params.toList args.toList ds p := hA0
  rw [Try.params3] at hA hval
  obtain ⟨v0, vs0, d0, ds0, p0, q0, hargs, rfl, rfl, h0, r0⟩ := trodAll_cons hA
  obtain ⟨v1, vs1, d1, ds1, p1, q1, rfl, rfl, rfl, h1, r1⟩ := trodAll_cons r0
  obtain ⟨rfl, rfl, rfl⟩ := trodAll_nil r1
  obtain rfl : args = #[v0, v1] := by cases args; simp_all
  obtain ⟨rfl, rfl⟩ := trodVars_none hV
  have k0 := h0
  have lt0 : ∀ x ∈ p0, x.block < W.heap.size := by obtain ⟨m, hm⟩ := k0; exact DataW.trod_lt m _ _ _ hm
  have k1 := h1
  have lt1 : ∀ x ∈ p1, x.block < W.heap.size := by obtain ⟨m, hm⟩ := k1; exact DataW.trod_lt m _ _ _ hm
  obtain ⟨x0, a0⟩ := arg_of (A := RGA) (fun _ => rfl) Try.underlying28 rd_rg (hval 0 28 v0 rfl rfl) h0
  obtain ⟨x1, a1⟩ := arg_sl (A := RGA) (m := 8) (D := [141]) Try.underlying29 (by kernel_rfl) (by decide) (fun _ => nd_self (by kernel_rfl)) rd_rg (hval 1 29 v1 rfl rfl) h1
  clear hA0 hval0
  refine ((matchFirst_w x0 x1).2 W.heap.size W [v0, v1] (Nat.le_refl _) (.cons a0 (.cons a1 .nil))).mono fun e W' ⟨v, he, hv, bel⟩ => ?_
  have hv' := bo_val hv
  subst hv' he
  exact ⟨_, rfl, _, _, _, [], _, [], hW', trodAll_mk1 (shut_bool Try.underlying4 _), (trodAll_cons_mk (Below.trod laidOut (by kernel_rfl) (of_decide_eq_true (by kernel_rfl)) k0 bel lt0) (trodAll_cons_mk (Below.trod laidOut (by kernel_rfl) (of_decide_eq_true (by kernel_rfl)) k1 bel lt1) trodAll_mk0)), rfl, bel.frame _, fun h => by cases h⟩
theorem over : Rows.matchFirstRow.holds Try.pinned (OpenSpec.ofChange Rows.matchFirstSpec) :=
  OpenClaim.holds_of_wide 3 Try.f3 rfl rfl rfl rfl rfl rfl rfl ⟨rfl, rfl, rfl, rfl, rfl⟩ rfl rfl rfl rfl rfl (by kernel_rfl) Try.func3 (by kernel_rfl)
    (of_decide_eq_true (by kernel_rfl)) (by unfold Func.isWrapper; rw [if_neg (of_decide_eq_false (by kernel_rfl))]; exact ⟨rfl, rfl⟩)
    (fun os started H enc _ => lifted os started H enc)
theorem provedMatchFirst : Rows.MatchFirstSaid := over
#print axioms provedMatchFirst

end Go.Proofs.Ytiokhlpbdabaeaa
