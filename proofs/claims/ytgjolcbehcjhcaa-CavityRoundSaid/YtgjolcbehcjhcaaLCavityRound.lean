/- CavityRound: for all benches and numbers the law of chapter 12 on where a bench begins answers true. No condition. -/
import Derived.Test.YtgjolcbehcjhcaaCavC
import Derived.Test.YtgjolcbehcjhcaaRows
import Derived.WalkKit
import Derived.ProofKit
import Derived.OpenShut
import Derived.ShutString
import Derived.ChangeOld
import Derived.Below
namespace Go.Proofs.Ytgjolcbehcjhcaa
open Go Go.RowKit
namespace LCavityRound
theorem sl_53 : Sl Try.prog 53 70 9 := ⟨by kernel_rfl, by kernel_rfl⟩
theorem ty_26 : Ty Try.prog 26 4 true := ⟨by kernel_rfl, by kernel_rfl⟩
theorem ty_28 : Ty Try.prog 28 16 true := ⟨by kernel_rfl, by kernel_rfl⟩
end LCavityRound
open LCavityRound
theorem tr_l {M : MQ} (hm : okM (rmOf M) = true) (hl : longQ (M.a + M.d) = false) : Cn Try.prog 22 [(RMA (rmOf M)).va] (FrR (rfOf (M.a + M.d), 0)) :=
  (trace_c (rmOf M)).post (congrArg FrR (by
    unfold trF asF kM
    rw [hm, toM_of]
    exact ansF_ok (longQ_false.1 hl)))
def kN (q : Int) (n : Nat) : Nat := (q % (n : Int)).toNat
theorem kN_eq {q : Int} {n : Nat} (hn : 0 < n) : ((kN q n : Nat) : Int) = q % (n : Int) := Int.toNat_of_nonneg (Int.emod_nonneg _ (by omega))
theorem kN_lt {q : Int} {n : Nat} (hn : 0 < n) : kN q n < n := by
  have h1 := kN_eq (q := q) hn
  have h2 := Int.emod_lt_of_pos q (show (0 : Int) < n by omega)
  omega
theorem tm_q (q : Int) (n : Nat) : q % (n : Int) = (Int.tmod q n) % (n : Int) := by
  have h := Int.mul_tdiv_add_tmod q n
  conv => lhs; rw [← h]
  rw [Int.add_comm, Int.add_mul_emod_self_left]
theorem kN_f {q : Int} {n : Nat} (hn : 0 < n) (h : decide (Int.tmod q n < 0) = false) : Int.tmod q n = ((kN q n : Nat) : Int) := by
  have h0 := of_decide_eq_false h
  have h1 := Int.tmod_lt_of_pos q (show (0 : Int) < n by omega)
  rw [kN_eq hn, tm_q, Int.emod_eq_of_lt (by omega) h1]
theorem kN_t {q : Int} {n : Nat} (hn : 0 < n) (hn2 : n ≤ 4096) (h : decide (Int.tmod q n < 0) = true) : IntKind.i64.wrap (Int.tmod q n + (n : Int)) = ((kN q n : Nat) : Int) := by
  have h0 := of_decide_eq_true h
  have h1 := Int.lt_tmod_of_pos q (show (0 : Int) < n by omega)
  rw [wi64 (by omega) (by omega), kN_eq hn, tm_q]
  have h2 : (Int.tmod q n + (n : Int)) % (n : Int) = Int.tmod q n % (n : Int) := Int.add_emod_right _ _
  rw [← h2, Int.emod_eq_of_lt (by omega) (by omega)]
theorem rd_in {xs : List RE} {m : Nat} (hm : m = xs.length) (h : ((decide (elszF (xs.length : Nat) xs > 400) || (chF xs != 0)) || (((m : Nat) : Int) == 0)) = false) : elszF (xs.length : Nat) xs ≤ 400 ∧ chF xs = 0 ∧ 0 < xs.length := by
  subst hm
  simp only [Bool.or_eq_false_iff, decide_eq_false_iff_not] at h
  obtain ⟨⟨h1, h2⟩, h3⟩ := h
  refine ⟨by omega, by simpa using h2, ?_⟩
  have : ¬ ((xs.length : Int) = 0) := by simpa using h3
  omega
/-- small benches: nothing is long. -/
theorem small_ok {xs : List RE} {k : Nat} (ha : xs.all elF = true) (hs : sumE xs ≤ k) (hk : k ≤ 400) : Ls (prodQ xs) ∧ okM (rmOf (prodQ xs)) = true ∧ longQ ((prodQ xs).a + (prodQ xs).d) = false := by
  obtain ⟨h1, h2, h3, h4⟩ := rep_bQ (prod_rep' xs ha)
  have hl : Ls (prodQ xs) := ⟨bQ_long h1 (by omega), bQ_long h2 (by omega), bQ_long h3 (by omega), bQ_long h4 (by omega)⟩
  exact ⟨hl, okM_of hl.1 hl.2.1 hl.2.2.1 hl.2.2.2 (prod_det ha), bQ_long (bQ_add h1 h4) (by omega)⟩
theorem trip_l {xs : List RE} (hc : chF xs = 0) (hl : Ls (prodQ xs)) : tripF xs true = (rmOf (prodQ xs), 0) := by
  rw [tripF, if_pos hc]
  exact asM_of rfl hl
theorem turn_all {xs : List RE} {k : Nat} (h : xs.all elF = true) : (xs.drop k ++ xs.take k).all elF = true := by
  have h2 := h
  rw [← List.take_append_drop k xs, List.all_append, Bool.and_eq_true] at h2
  rw [List.all_append, h2.1, h2.2]
  rfl
theorem turn_sum {xs : List RE} {k : Nat} : sumE (xs.drop k ++ xs.take k) = sumE xs := by
  have h : sumE xs = sumE (xs.take k ++ xs.drop k) := by rw [List.take_append_drop]
  rw [h]
  simp only [sumE, List.map_append, List.sum_append]
  omega
theorem turn_ch {xs : List RE} {k : Nat} (h : chF xs = 0) : chF (xs.drop k ++ xs.take k) = 0 := ch_mk (by
  have := (ch_ok h).1
  rw [List.length_append, List.length_drop, List.length_take]
  omega) (turn_all (ch_ok h).2)
theorem turn_xy (xs : List RE) (k : Nat) (ha : xs.all elF = true) : ∃ X Y, detM X = 1 ∧ prodQ xs = mulQ Y X ∧ prodQ (xs.drop k ++ xs.take k) = mulQ X Y := by
  have h2 := ha
  rw [← List.take_append_drop k xs, List.all_append, Bool.and_eq_true] at h2
  refine ⟨prodQ (xs.take k), prodQ (xs.drop k), prod_det h2.1, ?_, prod_app _ _⟩
  rw [← prod_app, List.take_append_drop]
theorem ki_turn (xs : List RE) (k : Nat) (ha : xs.all elF = true) : kiQ (prodQ xs) = kiQ (prodQ (xs.drop k ++ xs.take k)) := by
  obtain ⟨X, Y, hd, e1, e2⟩ := turn_xy xs k ha
  rw [e1, e2, ← ki_conj hd (mulQ Y X)]
  congr 1
  rw [← mul_assoc3, (back_mul hd).2, mul_i1]
theorem tr_turn (xs : List RE) (k : Nat) (ha : xs.all elF = true) : (prodQ xs).a + (prodQ xs).d = (prodQ (xs.drop k ++ xs.take k)).a + (prodQ (xs.drop k ++ xs.take k)).d := by
  obtain ⟨X, Y, _, e1, e2⟩ := turn_xy xs k ha
  rw [e1, e2, tr_ab]
theorem rd_end {x y : Int} {u v : RF} (h0 : (x != 0) = true) (h1 : x = y) (h2 : u = v) : ((((((((((0 : Int) == 0) && ((0 : Int) == 0)) && ((0 : Int) == 0)) && ((0 : Int) == 0)) && ((0 : Int) == 0)) && ((0 : Int) == 0)) && (x == y)) && (x != 0)) && decide (u = v)) = true := by
  subst h1 h2
  rw [h0]
  simp

set_option maxRecDepth 100000 in
set_option maxHeartbeats 4000000 in
theorem round_w (xs : List RE) (q : Int) : Cn Try.prog 11 [(SlA 70 [U32] (xs.map REA)).va, In q] (Bo true) := by
  obtain ⟨it, z, e1, e2, e3, e4, e5⟩ := app_elem
  refine Cn.introF Try.func11 rfl (by kernel_rfl) (Nat.le_of_ble_eq_true (by kernel_rfl)) (fun B w0 a hF hst => ?_)
  have hst : St B w0 121 [(0, (SlA 70 [U32] (xs.map REA)).va), (1, In q)] [] a w0.w := hst
  obtain ⟨v0, hv0, hst⟩ := St.eqv hst 0 rfl
  refine wp_seq ?_
  refine go_lin (sts := []) (news := []) (sp := [.val 4 _]) [.g 0, .g 1, .o 0] hst (obs_cons (ob_v rfl rfl (r_assign has_bo)) (obs_nil)) (by kernel_rfl) (by kernel_rfl) (by kernel_rfl) (fun a w hst => ?_)
  have hst : St B w0 121 [(0, _), (1, _), (4, _)] [] a w := hst
  refine thn_normal ?_
  refine wp_seq ?_
  refine wp_seq ?_
  refine go_lin (sts := []) (news := []) (sp := [.val 19 _, .val 20 _, .val 21 _, .val 22 _, .val 23 (Wh (_ = false) _), .val 24 (Wh (_ = false) _), .val 25 (Wh (_ = false) _), .val 26 _, .val 27 _, .val 28 (Wh (_ = false) _), .val 29 (Wh (_ = false) _), .val 30 (Wh (_ = false) _), .val 31 _]) [.g 0, .g 1, .g 2, .o 12] hst (obs_cons (ob_v rfl rfl (r_move (has_g 0 rfl (by kernel_rfl) (by kernel_rfl)))) (obs_cons (ob_v rfl rfl (r_call (xs := [.tmp 19]) (elsSize_c _) (.cons (has_again hF hv0 (has_v 0 rfl (by kernel_rfl) (by kernel_rfl))) .nil))) (obs_cons (ob_v rfl rfl (r_gtr (has_v 1 rfl (by kernel_rfl) (by kernel_rfl)) has_num)) (obs_cons (ob_v rfl rfl (r_move (has_v 2 rfl (by kernel_rfl) (by kernel_rfl)))) (obs_cons (ob_gd rfl rfl rfl (has_v 3 rfl (by kernel_rfl) (by kernel_rfl)) (Nat.le_of_ble_eq_true (by kernel_rfl)) (fun hg => r_move (has_g 0 rfl (by kernel_rfl) (by kernel_rfl)))) (obs_cons (ob_gd rfl rfl rfl (has_v 3 rfl (by kernel_rfl) (by kernel_rfl)) (Nat.le_of_ble_eq_true (by kernel_rfl)) (fun hg => r_call (xs := [.tmp 23]) (benCheck_c _) (.cons (has_again hF hv0 (has_wh (has_v 4 rfl (by kernel_rfl) (by kernel_rfl)) hg)) .nil))) (obs_cons (ob_gd rfl rfl rfl (has_v 3 rfl (by kernel_rfl) (by kernel_rfl)) (Nat.le_of_ble_eq_true (by kernel_rfl)) (fun hg => r_neq (has_wh (has_v 5 rfl (by kernel_rfl) (by kernel_rfl)) hg) has_num)) (obs_cons (ob_v rfl rfl (r_or (has_v 3 rfl (by kernel_rfl) (by kernel_rfl)) (has_v 6 rfl (by kernel_rfl) (by kernel_rfl)))) (obs_cons (ob_v rfl rfl (r_move (has_v 7 rfl (by kernel_rfl) (by kernel_rfl)))) (obs_cons (ob_gd rfl rfl rfl (has_v 8 rfl (by kernel_rfl) (by kernel_rfl)) (Nat.le_of_ble_eq_true (by kernel_rfl)) (fun hg => r_move (has_g 0 rfl (by kernel_rfl) (by kernel_rfl)))) (obs_cons (ob_gd rfl rfl rfl (has_v 8 rfl (by kernel_rfl) (by kernel_rfl)) (Nat.le_of_ble_eq_true (by kernel_rfl)) (fun hg => r_len Try.underlying53 (has_again hF hv0 (has_wh (has_v 9 rfl (by kernel_rfl) (by kernel_rfl)) hg)))) (obs_cons (ob_gd rfl rfl rfl (has_v 8 rfl (by kernel_rfl) (by kernel_rfl)) (Nat.le_of_ble_eq_true (by kernel_rfl)) (fun hg => r_eql (has_wh (has_v 10 rfl (by kernel_rfl) (by kernel_rfl)) hg) has_num)) (obs_cons (ob_v rfl rfl (r_or (has_v 8 rfl (by kernel_rfl) (by kernel_rfl)) (has_v 11 rfl (by kernel_rfl) (by kernel_rfl)))) (obs_nil)))))))))))))) (by kernel_rfl) (by kernel_rfl) (by kernel_rfl) (fun a w hst => ?_)
  have hst : St B w0 121 [(0, _), (1, _), (4, _), (31, _)] [] a w := hst
  refine thn_normal ?_
  refine cond_of hst (List.mem_of_getElem? (i := 3) rfl) (fun hb0 => ?_) (fun hb0 => ?_)
  · refine wp_seq ?_
    refine go_lin (sts := []) (news := []) (sp := [.val 32 _, .val 4 _]) [.g 0, .g 1, .o 1] hst (obs_cons (ob_v rfl rfl (r_call (xs := []) alive12_c .nil)) (obs_cons (ob_v rfl rfl (r_assign (has_v 0 rfl (by kernel_rfl) (by kernel_rfl)))) (obs_nil))) (by kernel_rfl) (by kernel_rfl) (by kernel_rfl) (fun a w hst => ?_)
    have hst : St B w0 121 [(0, _), (1, _), (4, _)] [] a w := hst
    refine thn_normal ?_
    refine wp_ret ?_
    refine thn_ret ?_
    refine ret_wk ?_ (ret_tmp rfl hst (List.mem_of_getElem? (i := 2) rfl))
    exact wk_id
  · have hin := rd_in (List.length_map _) hb0
    have hle := (ch_ok hin.2.1).1
    have hall := (ch_ok hin.2.1).2
    have hsz := elsz_le xs _ (by omega) hall hin.1
    have s1 := small_ok hall (k := 400) (by omega) (Nat.le_refl _)
    refine wp_skip ?_
    refine thn_normal ?_
    refine wp_seq ?_
    refine go_lin (sts := []) (news := []) (sp := [.val 33 _, .val 34 _, .val 35 _, .val 36 _, .val 5 _]) [.g 0, .g 2, .o 4] hst (obs_cons (ob_v rfl rfl (r_move (has_g 1 rfl (by kernel_rfl) (by kernel_rfl)))) (obs_cons (ob_v rfl rfl (r_move (has_g 0 rfl (by kernel_rfl) (by kernel_rfl)))) (obs_cons (ob_v rfl rfl (r_len Try.underlying53 (has_again hF hv0 (has_v 1 rfl (by kernel_rfl) (by kernel_rfl))))) (obs_cons (ob_v rfl rfl (r_rem (has_v 0 rfl (by kernel_rfl) (by kernel_rfl)) (has_v 2 rfl (by kernel_rfl) (by kernel_rfl)) (by rw [List.length_map]; omega) (rfl))) (obs_cons (ob_v rfl rfl (r_assign (has_v 3 rfl (by kernel_rfl) (by kernel_rfl)))) (obs_nil)))))) (by kernel_rfl) (by kernel_rfl) (by kernel_rfl) (fun a w hst => ?_)
    have hst : St B w0 121 [(0, _), (4, _), (5, _)] [] a w := hst
    refine thn_normal ?_
    refine wp_seq ?_
    refine wp_seq ?_
    refine go_lin (sts := []) (news := []) (sp := [.val 37 _, .val 38 _]) [.g 0, .g 1, .g 2, .o 1] hst (obs_cons (ob_v rfl rfl (r_move (has_g 2 rfl (by kernel_rfl) (by kernel_rfl)))) (obs_cons (ob_v rfl rfl (r_lss (has_v 0 rfl (by kernel_rfl) (by kernel_rfl)) has_num)) (obs_nil))) (by kernel_rfl) (by kernel_rfl) (by kernel_rfl) (fun a w hst => ?_)
    have hst : St B w0 121 [(0, _), (4, _), (5, _), (38, _)] [] a w := hst
    refine thn_normal ?_
    refine cond_join (fun a w => ∃ k : Nat, k < xs.length ∧ St B w0 121 [(0, EqV v0), (5, In ((k : Nat) : Int))] [] a w) hst (List.mem_of_getElem? (i := 3) rfl) (fun hb1 => ?_) (fun hb1 => ?_) (fun a w hst => ?_)
    · refine go_lin (sts := []) (news := []) (sp := [.val 39 _, .val 40 _, .val 41 _, .val 42 _, .val 5 _]) [.g 0, .g 1, .o 4] hst (obs_cons (ob_v rfl rfl (r_move (has_g 2 rfl (by kernel_rfl) (by kernel_rfl)))) (obs_cons (ob_v rfl rfl (r_move (has_g 0 rfl (by kernel_rfl) (by kernel_rfl)))) (obs_cons (ob_v rfl rfl (r_len Try.underlying53 (has_again hF hv0 (has_v 1 rfl (by kernel_rfl) (by kernel_rfl))))) (obs_cons (ob_v rfl rfl (r_add (has_v 0 rfl (by kernel_rfl) (by kernel_rfl)) (has_v 2 rfl (by kernel_rfl) (by kernel_rfl)) (rfl))) (obs_cons (ob_v rfl rfl (r_assign (has_v 3 rfl (by kernel_rfl) (by kernel_rfl)))) (obs_nil)))))) (by kernel_rfl) (by kernel_rfl) (by kernel_rfl) (fun a w hst => ?_)
      have hst : St B w0 121 [(0, _), (4, _), (5, _)] [] a w := hst
      refine thn_normal ?_
      have hst := St.sel hst [0, 2]
      rw [List.length_map] at hst hb1
      exact ⟨kN q xs.length, kN_lt hin.2.2, St.cvG (A' := In ((kN q xs.length : Nat) : Int)) hst 1 rfl (congrArg In (kN_t hin.2.2 hle hb1))⟩
    · refine wp_skip ?_
      refine thn_normal ?_
      have hst := St.sel hst [0, 2]
      rw [List.length_map] at hst hb1
      exact ⟨kN q xs.length, kN_lt hin.2.2, St.cvG (A' := In ((kN q xs.length : Nat) : Int)) hst 1 rfl (congrArg In (kN_f hin.2.2 hb1))⟩
    obtain ⟨k, hk, hst⟩ := hst
    have s2 := small_ok (turn_all (k := k) hall) (k := 400) (by rw [turn_sum]; omega) (Nat.le_refl _)
    refine thn_normal ?_
    refine wp_seq ?_
    refine go_appM (sp := [.val 43 _, .val 44 _, .val 45 _, .val 46 _, .val 47 _, .val 48 _, .val 49 _, .val 50 _, .val 51 VT, .val 6 VT]) [[], [], [], [1, 2], [0, 1, 2, 3], [], [], [5, 6], [0, 1, 2, 3, 4, 5, 6, 7], [0, 1, 2, 3, 4, 5, 6, 7, 8]] 8 [0] 4 7 follows_mixed hst (obs_cons (ob_v rfl rfl (r_build0 sl_53)) (obs_cons (ob_v rfl rfl (r_move (has_g 0 rfl (by kernel_rfl) (by kernel_rfl)))) (obs_cons (ob_v rfl rfl (r_move (has_g 1 rfl (by kernel_rfl) (by kernel_rfl)))) (obs_cons (ob_v rfl rfl (r_slL sl_53 (map_n fun _ => rfl) (has_again hF hv0 (has_v 1 rfl (by kernel_rfl) (by kernel_rfl))) (has_v 2 rfl (by kernel_rfl) (by kernel_rfl)) (by rw [List.length_map]; omega))) (obs_cons (ob_v rfl rfl (r_app0 (has_v 0 rfl (by kernel_rfl) (by kernel_rfl)) (has_v 3 rfl (by kernel_rfl) (by kernel_rfl)) Try.underlying53 e1 e2 e3 e4 e5 (by decide) (by rw [List.length_drop, List.length_map]; omega) (by decide) (fun T hT => hT) (fun A hA => map_n (f := REA) (m := 9) (fun _ => rfl) A (List.mem_of_mem_drop hA)) (by rw [List.length_drop, List.length_map]; omega) (cat_len (fun A hA => map_n (f := REA) (m := 9) (fun _ => rfl) A (List.mem_of_mem_drop hA))))) (obs_cons (ob_v rfl rfl (r_move (has_g 0 rfl (by kernel_rfl) (by kernel_rfl)))) (obs_cons (ob_v rfl rfl (r_move (has_g 1 rfl (by kernel_rfl) (by kernel_rfl)))) (obs_cons (ob_v rfl rfl (r_slH sl_53 (map_n fun _ => rfl) (has_again hF hv0 (has_v 5 rfl (by kernel_rfl) (by kernel_rfl))) (has_v 6 rfl (by kernel_rfl) (by kernel_rfl)) (by rw [List.length_map]; omega))) (obs_nil))))))))) rfl (by kernel_rfl) (by kernel_rfl) (by kernel_rfl) (by kernel_rfl) rfl rfl (by decide) rfl (by decide) rfl (fun _ _ h _ => h) Try.underlying53 e1 e2 e3 e4 e5 (by decide) (by rw [List.length_drop, List.length_take, List.length_map]; omega) (by decide) (fun T hT => hT) (by decide) (fun A hA => map_n (f := REA) (m := 9) (fun _ => rfl) A (List.mem_of_mem_take hA)) (by kernel_rfl) (Nat.le_of_ble_eq_true (by kernel_rfl)) (Nat.le_of_ble_eq_true (by kernel_rfl)) (by kernel_rfl) (by kernel_rfl) (fun a w hst => ?_)
    have hst : St B w0 121 [(6, _), (0, _)] [] a w := hst
    refine thn_normal ?_
    refine wp_seq ?_
    refine go_lin (sts := []) (news := [⟨7, 28, ptrH, some 5, _, some (6, _)⟩]) (sp := [.val 53 _, .val 54 _, .val 52 _, .val 55 _, .val 56 _, .alc 0, .sto 0, .val 8 _]) [.g 0, .o 7] hst (obs_cons (ob_v rfl rfl (r_move (has_g 1 rfl (by kernel_rfl) (by kernel_rfl)))) (obs_cons (ob_v rfl rfl (r_call (xs := [.tmp 53, .const (.bool true)]) ((trip_c xs true).post (congrArg MR (trip_l hin.2.1 s1.1))) (.cons (has_again hF hv0 (has_v 0 rfl (by kernel_rfl) (by kernel_rfl))) (.cons has_bo .nil)))) (obs_cons (ob_v rfl rfl (r_move (has_v 1 rfl (by kernel_rfl) (by kernel_rfl)))) (obs_cons (ob_v rfl rfl (r_ex0 (has_v 2 rfl (by kernel_rfl) (by kernel_rfl)))) (obs_cons (ob_v rfl rfl (r_ex1 (has_v 2 rfl (by kernel_rfl) (by kernel_rfl)))) (obs_cons (ob_alc rfl rfl rfl (Str.zero str_matrix)) (obs_cons (ob_sto rfl rfl rfl (has_v 3 rfl (by kernel_rfl) (by kernel_rfl)) ty_28 (Eq.trans (b := 16) rfl rfl)) (obs_cons (ob_v rfl rfl (r_assign (has_v 4 rfl (by kernel_rfl) (by kernel_rfl)))) (obs_nil))))))))) (by kernel_rfl) (by kernel_rfl) (by kernel_rfl) (fun a w hst => ?_)
    have hst : St B w0 121 [(6, _), (8, _)] [⟨7, 28, ptrH, _⟩] a w := hst
    refine thn_normal ?_
    refine wp_seq ?_
    refine go_lin (sts := [none]) (news := [⟨9, 28, ptrH, some 5, _, some (6, _)⟩]) (sp := [.val 58 _, .val 59 _, .val 57 _, .val 60 _, .val 61 _, .alc 1, .sto 1, .val 10 _]) [.g 1, .o 7] hst (obs_cons (ob_v rfl rfl (r_move (has_g 0 rfl (by kernel_rfl) (by kernel_rfl)))) (obs_cons (ob_v rfl rfl (r_call (xs := [.tmp 58, .const (.bool true)]) (((trip_c (xs.drop k ++ xs.take k) true).post (congrArg MR (trip_l (turn_ch hin.2.1) s2.1))).wk (.cons (wk_trans own_sl (wk_eq (by rw [List.map_append, List.map_drop, List.map_take]))) (.cons wk_id .nil))) (.cons (has_v 0 rfl (by kernel_rfl) (by kernel_rfl)) (.cons has_bo .nil)))) (obs_cons (ob_v rfl rfl (r_move (has_v 1 rfl (by kernel_rfl) (by kernel_rfl)))) (obs_cons (ob_v rfl rfl (r_ex0 (has_v 2 rfl (by kernel_rfl) (by kernel_rfl)))) (obs_cons (ob_v rfl rfl (r_ex1 (has_v 2 rfl (by kernel_rfl) (by kernel_rfl)))) (obs_cons (ob_alc rfl rfl rfl (Str.zero str_matrix)) (obs_cons (ob_sto rfl rfl rfl (has_v 3 rfl (by kernel_rfl) (by kernel_rfl)) ty_28 (Eq.trans (b := 16) rfl rfl)) (obs_cons (ob_v rfl rfl (r_assign (has_v 4 rfl (by kernel_rfl) (by kernel_rfl)))) (obs_nil))))))))) (by kernel_rfl) (by kernel_rfl) (by kernel_rfl) (fun a w hst => ?_)
    have hst : St B w0 121 [(8, _), (10, _)] [⟨7, 28, ptrH, _⟩, ⟨9, 28, ptrH, _⟩] a w := hst
    refine thn_normal ?_
    refine wp_seq ?_
    refine go_lin (sts := [none, none]) (news := []) (sp := [.val 63 _, .val 64 _, .val 62 _, .val 65 _, .val 66 _, .val 11 _, .val 12 _]) [.g 0, .g 1, .o 5, .o 6] hst (obs_cons (ob_v rfl rfl (r_load (loc_at0 0 rfl (by kernel_rfl)) ty_28)) (obs_cons (ob_v rfl rfl (r_call (xs := [.tmp 63]) (ki_l s1.2.1) (.cons (has_v 0 rfl (by kernel_rfl) (by kernel_rfl)) .nil))) (obs_cons (ob_v rfl rfl (r_move (has_v 1 rfl (by kernel_rfl) (by kernel_rfl)))) (obs_cons (ob_v rfl rfl (r_ex0 (has_v 2 rfl (by kernel_rfl) (by kernel_rfl)))) (obs_cons (ob_v rfl rfl (r_ex1 (has_v 2 rfl (by kernel_rfl) (by kernel_rfl)))) (obs_cons (ob_v rfl rfl (r_assign (has_v 3 rfl (by kernel_rfl) (by kernel_rfl)))) (obs_cons (ob_v rfl rfl (r_assign (has_v 4 rfl (by kernel_rfl) (by kernel_rfl)))) (obs_nil)))))))) (by kernel_rfl) (by kernel_rfl) (by kernel_rfl) (fun a w hst => ?_)
    have hst : St B w0 121 [(8, _), (10, _), (11, _), (12, _)] [⟨7, 28, ptrH, _⟩, ⟨9, 28, ptrH, _⟩] a w := hst
    refine thn_normal ?_
    refine wp_seq ?_
    refine go_lin (sts := [none, none]) (news := []) (sp := [.val 68 _, .val 69 _, .val 67 _, .val 70 _, .val 71 _, .val 13 _, .val 14 _]) [.g 0, .g 1, .g 2, .g 3, .o 5, .o 6] hst (obs_cons (ob_v rfl rfl (r_load (loc_at0 1 rfl (by kernel_rfl)) ty_28)) (obs_cons (ob_v rfl rfl (r_call (xs := [.tmp 68]) (ki_l s2.2.1) (.cons (has_v 0 rfl (by kernel_rfl) (by kernel_rfl)) .nil))) (obs_cons (ob_v rfl rfl (r_move (has_v 1 rfl (by kernel_rfl) (by kernel_rfl)))) (obs_cons (ob_v rfl rfl (r_ex0 (has_v 2 rfl (by kernel_rfl) (by kernel_rfl)))) (obs_cons (ob_v rfl rfl (r_ex1 (has_v 2 rfl (by kernel_rfl) (by kernel_rfl)))) (obs_cons (ob_v rfl rfl (r_assign (has_v 3 rfl (by kernel_rfl) (by kernel_rfl)))) (obs_cons (ob_v rfl rfl (r_assign (has_v 4 rfl (by kernel_rfl) (by kernel_rfl)))) (obs_nil)))))))) (by kernel_rfl) (by kernel_rfl) (by kernel_rfl) (fun a w hst => ?_)
    have hst : St B w0 121 [(8, _), (10, _), (11, _), (12, _), (13, _), (14, _)] [⟨7, 28, ptrH, _⟩, ⟨9, 28, ptrH, _⟩] a w := hst
    refine thn_normal ?_
    refine wp_seq ?_
    refine go_lin (sts := [none, none]) (news := [⟨15, 26, ptrH, some 5, _, some (6, _)⟩]) (sp := [.val 73 _, .val 74 _, .val 72 _, .val 75 _, .val 76 _, .alc 2, .sto 2, .val 16 _]) [.g 0, .g 1, .g 2, .g 3, .g 4, .g 5, .o 7] hst (obs_cons (ob_v rfl rfl (r_load (loc_at0 0 rfl (by kernel_rfl)) ty_28)) (obs_cons (ob_v rfl rfl (r_call (xs := [.tmp 73]) (tr_l s1.2.1 s1.2.2) (.cons (has_v 0 rfl (by kernel_rfl) (by kernel_rfl)) .nil))) (obs_cons (ob_v rfl rfl (r_move (has_v 1 rfl (by kernel_rfl) (by kernel_rfl)))) (obs_cons (ob_v rfl rfl (r_ex0 (has_v 2 rfl (by kernel_rfl) (by kernel_rfl)))) (obs_cons (ob_v rfl rfl (r_ex1 (has_v 2 rfl (by kernel_rfl) (by kernel_rfl)))) (obs_cons (ob_alc rfl rfl rfl (Str.zero str_frac)) (obs_cons (ob_sto rfl rfl rfl (has_v 3 rfl (by kernel_rfl) (by kernel_rfl)) ty_26 (Eq.trans (b := 4) rfl rfl)) (obs_cons (ob_v rfl rfl (r_assign (has_v 4 rfl (by kernel_rfl) (by kernel_rfl)))) (obs_nil))))))))) (by kernel_rfl) (by kernel_rfl) (by kernel_rfl) (fun a w hst => ?_)
    have hst : St B w0 121 [(8, _), (10, _), (11, _), (12, _), (13, _), (14, _), (16, _)] [⟨7, 28, ptrH, _⟩, ⟨9, 28, ptrH, _⟩, ⟨15, 26, ptrH, _⟩] a w := hst
    refine thn_normal ?_
    refine wp_seq ?_
    refine go_lin (sts := [none, none, none]) (news := [⟨17, 26, ptrH, some 5, _, some (6, _)⟩]) (sp := [.val 78 _, .val 79 _, .val 77 _, .val 80 _, .val 81 _, .alc 3, .sto 3, .val 18 _]) [.g 0, .g 1, .g 2, .g 3, .g 4, .g 5, .g 6, .o 7] hst (obs_cons (ob_v rfl rfl (r_load (loc_at0 1 rfl (by kernel_rfl)) ty_28)) (obs_cons (ob_v rfl rfl (r_call (xs := [.tmp 78]) (tr_l s2.2.1 s2.2.2) (.cons (has_v 0 rfl (by kernel_rfl) (by kernel_rfl)) .nil))) (obs_cons (ob_v rfl rfl (r_move (has_v 1 rfl (by kernel_rfl) (by kernel_rfl)))) (obs_cons (ob_v rfl rfl (r_ex0 (has_v 2 rfl (by kernel_rfl) (by kernel_rfl)))) (obs_cons (ob_v rfl rfl (r_ex1 (has_v 2 rfl (by kernel_rfl) (by kernel_rfl)))) (obs_cons (ob_alc rfl rfl rfl (Str.zero str_frac)) (obs_cons (ob_sto rfl rfl rfl (has_v 3 rfl (by kernel_rfl) (by kernel_rfl)) ty_26 (Eq.trans (b := 4) rfl rfl)) (obs_cons (ob_v rfl rfl (r_assign (has_v 4 rfl (by kernel_rfl) (by kernel_rfl)))) (obs_nil))))))))) (by kernel_rfl) (by kernel_rfl) (by kernel_rfl) (fun a w hst => ?_)
    have hst : St B w0 121 [(8, _), (10, _), (11, _), (12, _), (13, _), (14, _), (16, _), (18, _)] [⟨7, 28, ptrH, _⟩, ⟨9, 28, ptrH, _⟩, ⟨15, 26, ptrH, _⟩, ⟨17, 26, ptrH, _⟩] a w := hst
    refine thn_normal ?_
    refine wp_seq ?_
    refine go_lin (sts := [none, none, none, none]) (news := []) (sp := ((.val 82 _ : Sp) :: (.val 83 _) :: (.val 84 _) :: (.val 85 (Wh (_ = true) _)) :: (.val 86 (Wh (_ = true) _)) :: (.val 87 _) :: (.val 88 _) :: (.val 89 (Wh (_ = true) _)) :: (.val 90 (Wh (_ = true) _)) :: (.val 91 _) :: (.val 92 _) :: (.val 93 (Wh (_ = true) _)) :: (.val 94 (Wh (_ = true) _)) :: (.val 95 _) :: (.val 96 _) :: (.val 97 (Wh (_ = true) _)) :: (.val 98 (Wh (_ = true) _)) :: (.val 99 _) :: (.val 100 _) :: (.val 101 (Wh (_ = true) _)) :: (.val 102 (Wh (_ = true) _)) :: (.val 103 _) :: (.val 104 _) :: (.val 105 (Wh (_ = true) _)) :: (.val 106 (Wh (_ = true) _)) :: (.val 107 (Wh (_ = true) _)) :: (.val 108 _) :: (.val 109 _) :: (.val 110 (Wh (_ = true) _)) :: (.val 111 (Wh (_ = true) _)) :: (.val 112 _) :: (.val 113 _) :: (.val 114 (Wh (_ = true) _)) :: (.val 115 (Wh (_ = true) _)) :: (.val 116 (Wh (_ = true) _)) :: (.val 117 _) :: (.val 118 _) :: (.val 119 (Wh (_ = true) _)) :: (.val 120 _) :: (.val 4 _) :: [])) [.o 39] hst (obs_cons (ob_v rfl rfl (r_move (has_g 0 rfl (by kernel_rfl) (by kernel_rfl)))) (obs_cons (ob_v rfl rfl (r_eql (has_v 0 rfl (by kernel_rfl) (by kernel_rfl)) has_num)) (obs_cons (ob_v rfl rfl (r_move (has_v 1 rfl (by kernel_rfl) (by kernel_rfl)))) (obs_cons (ob_gd rfl rfl rfl (has_v 2 rfl (by kernel_rfl) (by kernel_rfl)) (Nat.le_of_ble_eq_true (by kernel_rfl)) (fun hg => r_move (has_g 1 rfl (by kernel_rfl) (by kernel_rfl)))) (obs_cons (ob_gd rfl rfl rfl (has_v 2 rfl (by kernel_rfl) (by kernel_rfl)) (Nat.le_of_ble_eq_true (by kernel_rfl)) (fun hg => r_eql (has_wh (has_v 3 rfl (by kernel_rfl) (by kernel_rfl)) hg) has_num)) (obs_cons (ob_v rfl rfl (r_and (has_v 2 rfl (by kernel_rfl) (by kernel_rfl)) (has_v 4 rfl (by kernel_rfl) (by kernel_rfl)))) (obs_cons (ob_v rfl rfl (r_move (has_v 5 rfl (by kernel_rfl) (by kernel_rfl)))) (obs_cons (ob_gd rfl rfl rfl (has_v 6 rfl (by kernel_rfl) (by kernel_rfl)) (Nat.le_of_ble_eq_true (by kernel_rfl)) (fun hg => r_move (has_g 3 rfl (by kernel_rfl) (by kernel_rfl)))) (obs_cons (ob_gd rfl rfl rfl (has_v 6 rfl (by kernel_rfl) (by kernel_rfl)) (Nat.le_of_ble_eq_true (by kernel_rfl)) (fun hg => r_eql (has_wh (has_v 7 rfl (by kernel_rfl) (by kernel_rfl)) hg) has_num)) (obs_cons (ob_v rfl rfl (r_and (has_v 6 rfl (by kernel_rfl) (by kernel_rfl)) (has_v 8 rfl (by kernel_rfl) (by kernel_rfl)))) (obs_cons (ob_v rfl rfl (r_move (has_v 9 rfl (by kernel_rfl) (by kernel_rfl)))) (obs_cons (ob_gd rfl rfl rfl (has_v 10 rfl (by kernel_rfl) (by kernel_rfl)) (Nat.le_of_ble_eq_true (by kernel_rfl)) (fun hg => r_move (has_g 5 rfl (by kernel_rfl) (by kernel_rfl)))) (obs_cons (ob_gd rfl rfl rfl (has_v 10 rfl (by kernel_rfl) (by kernel_rfl)) (Nat.le_of_ble_eq_true (by kernel_rfl)) (fun hg => r_eql (has_wh (has_v 11 rfl (by kernel_rfl) (by kernel_rfl)) hg) has_num)) (obs_cons (ob_v rfl rfl (r_and (has_v 10 rfl (by kernel_rfl) (by kernel_rfl)) (has_v 12 rfl (by kernel_rfl) (by kernel_rfl)))) (obs_cons (ob_v rfl rfl (r_move (has_v 13 rfl (by kernel_rfl) (by kernel_rfl)))) (obs_cons (ob_gd rfl rfl rfl (has_v 14 rfl (by kernel_rfl) (by kernel_rfl)) (Nat.le_of_ble_eq_true (by kernel_rfl)) (fun hg => r_move (has_g 6 rfl (by kernel_rfl) (by kernel_rfl)))) (obs_cons (ob_gd rfl rfl rfl (has_v 14 rfl (by kernel_rfl) (by kernel_rfl)) (Nat.le_of_ble_eq_true (by kernel_rfl)) (fun hg => r_eql (has_wh (has_v 15 rfl (by kernel_rfl) (by kernel_rfl)) hg) has_num)) (obs_cons (ob_v rfl rfl (r_and (has_v 14 rfl (by kernel_rfl) (by kernel_rfl)) (has_v 16 rfl (by kernel_rfl) (by kernel_rfl)))) (obs_cons (ob_v rfl rfl (r_move (has_v 17 rfl (by kernel_rfl) (by kernel_rfl)))) (obs_cons (ob_gd rfl rfl rfl (has_v 18 rfl (by kernel_rfl) (by kernel_rfl)) (Nat.le_of_ble_eq_true (by kernel_rfl)) (fun hg => r_move (has_g 7 rfl (by kernel_rfl) (by kernel_rfl)))) (obs_cons (ob_gd rfl rfl rfl (has_v 18 rfl (by kernel_rfl) (by kernel_rfl)) (Nat.le_of_ble_eq_true (by kernel_rfl)) (fun hg => r_eql (has_wh (has_v 19 rfl (by kernel_rfl) (by kernel_rfl)) hg) has_num)) (obs_cons (ob_v rfl rfl (r_and (has_v 18 rfl (by kernel_rfl) (by kernel_rfl)) (has_v 20 rfl (by kernel_rfl) (by kernel_rfl)))) (obs_cons (ob_v rfl rfl (r_move (has_v 21 rfl (by kernel_rfl) (by kernel_rfl)))) (obs_cons (ob_gd rfl rfl rfl (has_v 22 rfl (by kernel_rfl) (by kernel_rfl)) (Nat.le_of_ble_eq_true (by kernel_rfl)) (fun hg => r_move (has_g 2 rfl (by kernel_rfl) (by kernel_rfl)))) (obs_cons (ob_gd rfl rfl rfl (has_v 22 rfl (by kernel_rfl) (by kernel_rfl)) (Nat.le_of_ble_eq_true (by kernel_rfl)) (fun hg => r_move (has_g 4 rfl (by kernel_rfl) (by kernel_rfl)))) (obs_cons (ob_gd rfl rfl rfl (has_v 22 rfl (by kernel_rfl) (by kernel_rfl)) (Nat.le_of_ble_eq_true (by kernel_rfl)) (fun hg => r_eql (has_wh (has_v 23 rfl (by kernel_rfl) (by kernel_rfl)) hg) (has_wh (has_v 24 rfl (by kernel_rfl) (by kernel_rfl)) hg))) (obs_cons (ob_v rfl rfl (r_and (has_v 22 rfl (by kernel_rfl) (by kernel_rfl)) (has_v 25 rfl (by kernel_rfl) (by kernel_rfl)))) (obs_cons (ob_v rfl rfl (r_move (has_v 26 rfl (by kernel_rfl) (by kernel_rfl)))) (obs_cons (ob_gd rfl rfl rfl (has_v 27 rfl (by kernel_rfl) (by kernel_rfl)) (Nat.le_of_ble_eq_true (by kernel_rfl)) (fun hg => r_move (has_g 2 rfl (by kernel_rfl) (by kernel_rfl)))) (obs_cons (ob_gd rfl rfl rfl (has_v 27 rfl (by kernel_rfl) (by kernel_rfl)) (Nat.le_of_ble_eq_true (by kernel_rfl)) (fun hg => r_neq (has_wh (has_v 28 rfl (by kernel_rfl) (by kernel_rfl)) hg) has_num)) (obs_cons (ob_v rfl rfl (r_and (has_v 27 rfl (by kernel_rfl) (by kernel_rfl)) (has_v 29 rfl (by kernel_rfl) (by kernel_rfl)))) (obs_cons (ob_v rfl rfl (r_move (has_v 30 rfl (by kernel_rfl) (by kernel_rfl)))) (obs_cons (ob_gd rfl rfl rfl (has_v 31 rfl (by kernel_rfl) (by kernel_rfl)) (Nat.le_of_ble_eq_true (by kernel_rfl)) (fun hg => r_load (loc_at0 2 rfl (by kernel_rfl)) ty_26)) (obs_cons (ob_gd rfl rfl rfl (has_v 31 rfl (by kernel_rfl) (by kernel_rfl)) (Nat.le_of_ble_eq_true (by kernel_rfl)) (fun hg => r_load (loc_at0 3 rfl (by kernel_rfl)) ty_26)) (obs_cons (ob_gd rfl rfl rfl (has_v 31 rfl (by kernel_rfl) (by kernel_rfl)) (Nat.le_of_ble_eq_true (by kernel_rfl)) (fun hg => r_call (xs := [.tmp 114, .tmp 115]) (sameFrac_c _ _) (.cons (has_wh (has_v 32 rfl (by kernel_rfl) (by kernel_rfl)) hg) (.cons (has_wh (has_v 33 rfl (by kernel_rfl) (by kernel_rfl)) hg) .nil)))) (obs_cons (ob_v rfl rfl (r_and (has_v 31 rfl (by kernel_rfl) (by kernel_rfl)) (has_v 34 rfl (by kernel_rfl) (by kernel_rfl)))) (obs_cons (ob_v rfl rfl (r_move (has_v 35 rfl (by kernel_rfl) (by kernel_rfl)))) (obs_cons (ob_gd rfl rfl rfl (has_v 36 rfl (by kernel_rfl) (by kernel_rfl)) (Nat.le_of_ble_eq_true (by kernel_rfl)) (fun hg => r_call (xs := []) alive12_c .nil)) (obs_cons (ob_v rfl rfl (r_and (has_v 36 rfl (by kernel_rfl) (by kernel_rfl)) (has_v 37 rfl (by kernel_rfl) (by kernel_rfl)))) (obs_cons (ob_v rfl rfl (r_assign (has_v 38 rfl (by kernel_rfl) (by kernel_rfl)))) (obs_nil))))))))))))))))))))))))))))))))))))))))) (by kernel_rfl) (by kernel_rfl) (by kernel_rfl) (fun a w hst => ?_)
    have hst : St B w0 121 [(4, _)] [⟨7, 28, ptrH, _⟩, ⟨9, 28, ptrH, _⟩, ⟨15, 26, ptrH, _⟩, ⟨17, 26, ptrH, _⟩] a w := hst
    refine thn_normal ?_
    refine wp_ret ?_
    refine ret_wk ?_ (ret_tmp rfl hst (List.mem_of_getElem? (i := 0) rfl))
    exact bo_and (rd_end (ki_nz _) (ki_turn xs k hall) (congrArg rfOf (tr_turn xs k hall)))

open Go.ChangeShapes Go.WideShapes Go.ChangeAt
open Go.ChangeMaps (open_string shut_string)
set_option linter.unusedVariables false
theorem own : ownKnob Try.prog.godebug = none := by kernel_rfl
theorem laidOut : laidOutB Try.prog = true := by kernel_rfl
set_option maxRecDepth 100000 in
theorem lifted (os : Os) (started : os.Started) (H : Type) (enc : TypeId × Value → H) :
    ReturnsInHanded {} Try.checked os 11 .any (Rows.cavityRoundSpec.pre6 enc Try.prog Try.f11 Rows.cavityRoundRow.domain false) (Rows.cavityRoundSpec.post enc Try.prog Try.f11 false true false false) := by
  refine returnsInHanded_of_change (C := Try.checked) own started (by kernel_rfl) Try.func11
    (ChangeSpec.witness6 (enc := enc) (C := Try.checked) false ⟨#[], #[.slice none 0 0, .int .i64 0], []⟩ 8 (by kernel_rfl) (by kernel_rfl) (by kernel_rfl) (by kernel_rfl)) ?_
  intro W base args ds gs before hval0 hW hcnd _
  have hval : ∀ (j : Nat) t v, Try.f11.params[j]? = some t → args[j]? = some v → Value.okWide Try.prog W .any base t v := hval0
  have hW' := hW
  obtain ⟨p, q, hA0, hV, rfl, hfz, hnd⟩ := hW
  have hA : DataW.TrodAll enc Try.prog W 0 (fun _ => true) true Try.f11.params.toList args.toList ds p := hA0
  rw [Try.params11] at hA hval
  obtain ⟨v0, vs0, d0, ds0, p0, q0, hargs, rfl, rfl, h0, r0⟩ := trodAll_cons hA
  obtain ⟨v1, vs1, d1, ds1, p1, q1, rfl, rfl, rfl, h1, r1⟩ := trodAll_cons r0
  obtain ⟨rfl, rfl, rfl⟩ := trodAll_nil r1
  obtain rfl : args = #[v0, v1] := by cases args; simp_all
  obtain ⟨rfl, rfl⟩ := trodVars_none hV
  have k0 := h0
  have lt0 : ∀ x ∈ p0, x.block < W.heap.size := by obtain ⟨m, hm⟩ := k0; exact DataW.trod_lt m _ _ _ hm
  have k1 := h1
  have lt1 : ∀ x ∈ p1, x.block < W.heap.size := by obtain ⟨m, hm⟩ := k1; exact DataW.trod_lt m _ _ _ hm
  obtain ⟨x0, a0⟩ := arg_sl (A := REA) (m := 9) (D := [175]) Try.underlying53 (by kernel_rfl) (by decide) (fun _ => nd_self (by kernel_rfl)) rd_re (hval 0 53 v0 rfl rfl) h0
  obtain ⟨x1, ex1⟩ := okWide_int Try.underlying3 (hval 1 3 v1 rfl rfl)
  have a1 : (In x1).p W.heap.size v1 W := by rw [ex1]; exact val_num _ _ _ _
  clear hA0 hval0
  refine ((round_w x0 x1).2 W.heap.size W [v0, v1] (Nat.le_refl _) (.cons a0 (.cons a1 .nil))).mono fun e W' ⟨v, he, hv, bel⟩ => ?_
  have hv' := bo_val hv
  subst hv' he
  exact ⟨_, rfl, _, _, _, [], _, [], hW', trodAll_mk1 (shut_bool Try.underlying4 _), (trodAll_cons_mk (Below.trod laidOut (by kernel_rfl) (of_decide_eq_true (by kernel_rfl)) k0 bel lt0) (trodAll_cons_mk (Below.trod laidOut (by kernel_rfl) (of_decide_eq_true (by kernel_rfl)) k1 bel lt1) trodAll_mk0)), rfl, bel.frame _, fun h => by cases h⟩
theorem over : Rows.cavityRoundRow.holds Try.pinned (OpenSpec.ofChange Rows.cavityRoundSpec) :=
  OpenClaim.holds_of_wide 11 Try.f11 rfl rfl rfl rfl rfl rfl rfl ⟨rfl, rfl, rfl, rfl, rfl⟩ rfl rfl rfl rfl rfl (by kernel_rfl) Try.func11 (by kernel_rfl)
    (of_decide_eq_true (by kernel_rfl)) (by unfold Func.isWrapper; rw [if_neg (of_decide_eq_false (by kernel_rfl))]; exact ⟨rfl, rfl⟩)
    (fun os started H enc _ => lifted os started H enc)
theorem provedCavityRound : Rows.CavityRoundSaid := over
#print axioms provedCavityRound

end Go.Proofs.Ytgjolcbehcjhcaa
