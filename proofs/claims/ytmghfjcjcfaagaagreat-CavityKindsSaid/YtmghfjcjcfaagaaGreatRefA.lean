/- The reference of layer 1: trim, signed, cmp, Check, Sign, Cmp, Below, Of. -/
import Derived.Test.YtmghfjcjcfaagaaGreatLeafP
namespace Go.Proofs.YtmghfjcjcfaagaaGreat
open Go Go.RowKit
namespace RefA
theorem sl_22 : Sl Tryz.prog 22 122 1 := ⟨by kernel_rfl, by kernel_rfl⟩
theorem ty_122 : Ty Tryz.prog 122 1 false := ⟨by kernel_rfl, by kernel_rfl⟩
theorem ty_24 : Ty Tryz.prog 24 2 true := ⟨by kernel_rfl, by kernel_rfl⟩
end RefA
open RefA
theorem rtrim_nil (A : Option Addr) (c : Nat) (w : World) : Calls Tryz.prog 198 #[.slice A 0 c] w fun e w' => e = .returned (.slice A 0 c) ∧ w = w' := by
  go_enter Tryz.func198, Tryz.ntmps198
  go_wp2
  go_loop [0] (fun v => v = .slice A 0 c) (fun _ => 0)
  case atStart => rfl
  case round =>
    subst hrel
    go_wp2
    go_ret
    exact ⟨rfl, rfl⟩

theorem rtrim_some (b o c : Nat) (l : List Nat) (w : World) (hc : ∀ j (h : j < l.length), w.cell? ⟨b, o + j, none⟩ = some (.int .u32 (l[j] : Nat))) (hm : l.length ≤ 9223372036854775807) (hnc : l.length ≤ c) :
    Calls Tryz.prog 198 #[.slice (some ⟨b, o, none⟩) l.length c] w fun e w' => e = .returned (.slice (some ⟨b, o, none⟩) (trimL l).length c) ∧ w = w' := by
  obtain ⟨n, hn⟩ : ∃ n, n = l.length := ⟨_, rfl⟩
  rw [← hn] at hm hnc ⊢
  have HN : Hid (n = l.length) := hn
  clear hn
  go_enter Tryz.func198, Tryz.ntmps198
  go_wp2
  go_loop [0] (fun v => ∃ k : Nat, k ≤ n ∧ v = .slice (some ⟨b, o, none⟩) k c ∧ trimL (l.take k) = trimL l) (fun v => lenOf v)
  case atStart => exact ⟨n, Nat.le_refl _, rfl, by rw [List.take_of_length_le (Nat.le_of_eq HN.out.symm)]⟩
  case round =>
    obtain ⟨k, hk, rfl, ht⟩ := hrel
    have HT : Hid (trimL (l.take k) = trimL l) := ht
    clear ht
    cases k with
    | zero =>
      go_wp2
      go_ret
      exact ⟨by rw [← HT.out]; simp [trimL], rfl⟩
    | succ k =>
      have hkl : k < l.length := by rw [← HN.out]; omega
      obtain ⟨x, hx⟩ : ∃ x, x = l[k] := ⟨_, rfl⟩
      have hcell := hc k hkl
      rw [← hx] at hcell
      clear hc
      have HX : Hid (x = l[k]) := hx
      clear hx
      by_cases hz : x = 0
      · subst hz
        go_wp2
        go_round
        case rel => exact ⟨k, by omega, rfl, by rw [← HT.out, trimL_pred hkl HX.out.symm]⟩
        case measure => simp [lenOf]
      · have hz' : ((x : Int) == 0) = false := by simp; omega
        go_wp2
        go_ret
        refine ⟨?_, rfl⟩
        rw [← HT.out, trimL_stop hkl (by rw [← HX.out]; exact hz), List.length_take, Nat.min_eq_left (by omega)]
        rfl

theorem rtrim_c {M : List Nat → As} (hM : Fam M) (l : List Nat) : Cn Tryz.prog 198 [(M l).va] (M (trimL l)).va := by
  refine ⟨closed_of Tryz.func198 (by kernel_rfl) (by kernel_rfl), fun B w args hB ha => ?_⟩
  obtain ⟨v, rfl, hv⟩ := ha.one
  obtain ⟨A, c, rfl, hm, htk⟩ := hM.op _ _ _ _ hv
  have hsh : ∀ A', A' = A → (M (trimL l)).va.p B (.slice A' (trimL l).length c) w := by
    rintro _ rfl
    have := htk (trimL l).length
    rwa [← trimL_take] at this
  by_cases h0 : l.length = 0
  · have hl : l = [] := List.eq_nil_of_length_eq_zero h0
    subst hl
    refine (rtrim_nil A c w).mono fun e w' ⟨he, hw⟩ => ?_
    subst hw
    exact ⟨_, he, hsh A rfl, Grow.refl w⟩
  · obtain ⟨b, o, rfl, h1, h2, h3⟩ := hm.at_ (by omega)
    refine (rtrim_some b o c l w h3 (by have := hm.le; have := hm.max; unfold maxLen at this; omega) hm.le).mono fun e w' ⟨he, hw⟩ => ?_
    subst hw
    exact ⟨_, he, hsh _ rfl, Grow.refl w⟩


set_option maxRecDepth 100000 in
theorem rsignedA_c (neg : Bool) (l : List Nat) : Cn Tryz.prog 165 [Bo neg, (MgA l).va] ((RIA (rsig neg l)).va) := by
  refine Cn.intro Tryz.func165 rfl (by kernel_rfl) nq (fun B w0 a hst => ?_)
  have hst : St B w0 14 [(0, Bo neg), (1, (MgA l).va)] [] a w0.w := hst
  refine wp_seq ?_
  refine gl (sts := []) (news := [⟨4, 24, ptrH, some 0, _, none⟩]) (sp := [.alc 0]) [.g 0, .g 1] hst (oc (ob_alc rfl rfl rfl (Str.zero (fam_str famA))) o0) (fun a w hst => ?_)
  have hst : St B w0 14 [(0, _), (1, _)] [⟨4, 24, ptrH, _⟩] a w := hst
  refine thn_normal ?_
  refine wp_seq ?_
  refine gl (sts := [none]) (news := []) (sp := [.val 5 _, .val 6 _, .val 1 _]) [.g 0, .o 2] hst (oc (ob_v rfl rfl (r_move (gq 1 rfl))) (oc (ob_v rfl rfl (r_call (xs := [.tmp 5]) (rtrim_c famA _) (.cons (vq 0 rfl) .nil))) (oc (ob_v rfl rfl (r_assign (vq 1 rfl))) o0))) (fun a w hst => ?_)
  have hst : St B w0 14 [(0, _), (1, _)] [⟨4, 24, ptrH, _⟩] a w := hst
  refine thn_normal ?_
  refine wp_seq ?_
  refine wp_seq ?_
  refine gl (sts := [none]) (news := []) (sp := [.val 7 _, .val 8 _, .val 9 _]) [.g 0, .g 1, .o 2] hst (oc (ob_v rfl rfl (r_move (gq 1 rfl))) (oc (ob_v rfl rfl (r_lenm Tryz.underlying22 (vq 0 rfl))) (oc (ob_v rfl rfl (r_eql (vq 1 rfl) has_num)) o0))) (fun a w hst => ?_)
  have hst : St B w0 14 [(0, _), (1, _), (9, _)] [⟨4, 24, ptrH, _⟩] a w := hst
  refine thn_normal ?_
  refine cond_of hst (List.mem_of_getElem? (i := 2) rfl) (fun hb0 => ?_) (fun hb0 => ?_)
  · refine wp_seq ?_
    refine gl (sts := [some (1, _)]) (news := []) (sp := [.val 10 _, .sto 0]) [.g 0, .g 1] hst (oc (ob_v rfl rfl (r_build (xs := []) (qs := []) (fam_str famA) .nil)) (oc (ob_sto rfl rfl rfl (vq 0 rfl) ty_24 (Eq.trans (b := 2) rfl rfl)) o0)) (fun a w hst => ?_)
    have hst : St B w0 14 [(0, _), (1, _)] [⟨4, 24, ptrH, _⟩] a w := hst
    refine thn_normal ?_
    refine wp_ret ?_
    refine thn_ret ?_
    refine ret_cast ?_ (ret_cell rfl hst (List.mem_of_getElem? (i := 0) rfl) ty_24)
    exact signed_e0 (M := MgA) hb0
  · refine wp_skip ?_
    refine thn_normal ?_
    refine wp_seq ?_
    refine gl (sts := [some (3, _)]) (news := []) (sp := [.val 11 _, .val 12 _, .val 13 _, .sto 0]) [] hst (oc (ob_v rfl rfl (r_move (gq 0 rfl))) (oc (ob_v rfl rfl (r_move (gq 1 rfl))) (oc (ob_v rfl rfl (r_build (xs := [(0, .tmp 11), (1, .tmp 12)]) (qs := [(0, _), (1, _)]) (fam_str famA) (.cons ⟨rfl, (vq 0 rfl), rfl⟩ (.cons ⟨rfl, (vq 1 rfl), rfl⟩ .nil)))) (oc (ob_sto rfl rfl rfl (vq 2 rfl) ty_24 (Eq.trans (b := 2) rfl rfl)) o0)))) (fun a w hst => ?_)
    have hst : St B w0 14 [] [⟨4, 24, ptrH, _⟩] a w := hst
    refine thn_normal ?_
    refine wp_ret ?_
    refine ret_cast ?_ (ret_cell rfl hst (List.mem_of_getElem? (i := 0) rfl) ty_24)
    exact signed_e1 (M := MgA) hb0

set_option maxRecDepth 100000 in
theorem rsignedN_c (neg : Bool) (l : List Nat) : Cn Tryz.prog 165 [Bo neg, (MgN l).va] ((RIN (rsig neg l)).va) := by
  refine Cn.intro Tryz.func165 rfl (by kernel_rfl) nq (fun B w0 a hst => ?_)
  have hst : St B w0 14 [(0, Bo neg), (1, (MgN l).va)] [] a w0.w := hst
  refine wp_seq ?_
  refine gl (sts := []) (news := [⟨4, 24, ptrH, some 0, _, none⟩]) (sp := [.alc 0]) [.g 0, .g 1] hst (oc (ob_alc rfl rfl rfl (Str.zero (fam_str famN))) o0) (fun a w hst => ?_)
  have hst : St B w0 14 [(0, _), (1, _)] [⟨4, 24, ptrH, _⟩] a w := hst
  refine thn_normal ?_
  refine wp_seq ?_
  refine gl (sts := [none]) (news := []) (sp := [.val 5 _, .val 6 _, .val 1 _]) [.g 0, .o 2] hst (oc (ob_v rfl rfl (r_move (gq 1 rfl))) (oc (ob_v rfl rfl (r_call (xs := [.tmp 5]) (rtrim_c famN _) (.cons (vq 0 rfl) .nil))) (oc (ob_v rfl rfl (r_assign (vq 1 rfl))) o0))) (fun a w hst => ?_)
  have hst : St B w0 14 [(0, _), (1, _)] [⟨4, 24, ptrH, _⟩] a w := hst
  refine thn_normal ?_
  refine wp_seq ?_
  refine wp_seq ?_
  refine gl (sts := [none]) (news := []) (sp := [.val 7 _, .val 8 _, .val 9 _]) [.g 0, .g 1, .o 2] hst (oc (ob_v rfl rfl (r_move (gq 1 rfl))) (oc (ob_v rfl rfl (r_lenm Tryz.underlying22 (has_new (vq 0 rfl)))) (oc (ob_v rfl rfl (r_eql (vq 1 rfl) has_num)) o0))) (fun a w hst => ?_)
  have hst : St B w0 14 [(0, _), (1, _), (9, _)] [⟨4, 24, ptrH, _⟩] a w := hst
  refine thn_normal ?_
  refine cond_of hst (List.mem_of_getElem? (i := 2) rfl) (fun hb0 => ?_) (fun hb0 => ?_)
  · refine wp_seq ?_
    refine gl (sts := [some (1, _)]) (news := []) (sp := [.val 10 _, .sto 0]) [.g 0, .g 1] hst (oc (ob_v rfl rfl (r_build (xs := []) (qs := []) (fam_str famN) .nil)) (oc (ob_sto rfl rfl rfl (vq 0 rfl) ty_24 (Eq.trans (b := 2) rfl rfl)) o0)) (fun a w hst => ?_)
    have hst : St B w0 14 [(0, _), (1, _)] [⟨4, 24, ptrH, _⟩] a w := hst
    refine thn_normal ?_
    refine wp_ret ?_
    refine thn_ret ?_
    refine ret_cast ?_ (ret_cell rfl hst (List.mem_of_getElem? (i := 0) rfl) ty_24)
    exact signed_e0 (M := MgN) hb0
  · refine wp_skip ?_
    refine thn_normal ?_
    refine wp_seq ?_
    refine gl (sts := [some (3, _)]) (news := []) (sp := [.val 11 _, .val 12 _, .val 13 _, .sto 0]) [] hst (oc (ob_v rfl rfl (r_move (gq 0 rfl))) (oc (ob_v rfl rfl (r_move (gq 1 rfl))) (oc (ob_v rfl rfl (r_build (xs := [(0, .tmp 11), (1, .tmp 12)]) (qs := [(0, _), (1, _)]) (fam_str famN) (.cons ⟨rfl, (vq 0 rfl), rfl⟩ (.cons ⟨rfl, (vq 1 rfl), rfl⟩ .nil)))) (oc (ob_sto rfl rfl rfl (vq 2 rfl) ty_24 (Eq.trans (b := 2) rfl rfl)) o0)))) (fun a w hst => ?_)
    have hst : St B w0 14 [] [⟨4, 24, ptrH, _⟩] a w := hst
    refine thn_normal ?_
    refine wp_ret ?_
    refine ret_cast ?_ (ret_cell rfl hst (List.mem_of_getElem? (i := 0) rfl) ty_24)
    exact signed_e1 (M := MgN) hb0

/-- limbs held against limbs: -1, 0 or 1. -/
def cmL (l m : List Nat) : Int := if l.length ≠ m.length then (if l.length < m.length then -1 else 1) else if val l < val m then -1 else if val m < val l then 1 else 0
theorem cm_e0 {l m : List Nat} (h : ((l.length : Int) != (m.length : Int)) = true) (h2 : decide ((l.length : Int) < (m.length : Int)) = true) : (-1 : Int) = cmL l m := by
  have h' : l.length ≠ m.length := by simp at h; omega
  unfold cmL
  rw [if_pos h', if_pos (by simp at h2; omega)]
theorem cm_e1 {l m : List Nat} (h : ((l.length : Int) != (m.length : Int)) = true) (h2 : decide ((l.length : Int) < (m.length : Int)) = false) : (1 : Int) = cmL l m := by
  have h' : l.length ≠ m.length := by simp at h; omega
  unfold cmL
  rw [if_pos h', if_neg (by simp at h2; omega)]
theorem cm_e2 {l m : List Nat} {j : Nat} (ha : okL l) (hl : l.length = m.length) (hj : j < l.length) (hd : l.drop (j + 1) = m.drop (j + 1)) (h : decide (((l[j] : Nat) : Int) < ((m[j]'(by omega) : Nat) : Int)) = true) : (-1 : Int) = cmL l m := by
  have := top_lt (a := l) (b := m) ha hj (by omega) hd (by simpa using h)
  unfold cmL
  rw [if_neg (by omega), if_pos this]
theorem cm_e3 {l m : List Nat} {j : Nat} (hb : okL m) (hl : l.length = m.length) (hj : j < l.length) (hd : l.drop (j + 1) = m.drop (j + 1)) (h : decide (((l[j] : Nat) : Int) > ((m[j]'(by omega) : Nat) : Int)) = true) : (1 : Int) = cmL l m := by
  have := top_lt (a := m) (b := l) hb (by omega) hj hd.symm (by simpa using h)
  unfold cmL
  rw [if_neg (by omega), if_neg (by omega), if_pos this]
theorem cm_e4 {l m : List Nat} (hd : l.drop 0 = m.drop 0) : (0 : Int) = cmL l m := by
  have : l = m := by simpa using hd
  subst this
  simp [cmL]

set_option maxRecDepth 100000 in
theorem rcmp_c (l m : List Nat) : Cn Tryz.prog 168 [(MgA l).va, (MgA m).va] (In (cmL l m)) := by
  refine Cn.intro Tryz.func168 rfl (by kernel_rfl) nq (fun B w0 a hst => ?_)
  have hst : St B w0 41 [(0, (MgA l).va), (1, (MgA m).va)] [] a w0.w := hst
  obtain ⟨ha, hla⟩ := hst.mag 0 rfl; obtain ⟨hb, hlb⟩ := hst.mag 1 rfl
  refine wp_seq ?_
  refine gl (sts := []) (news := []) (sp := [.val 4 _]) [.g 0, .g 1, .o 0] hst (oc (ob_v rfl rfl (r_assign has_num)) o0) (fun a w hst => ?_)
  have hst : St B w0 41 [(0, _), (1, _), (4, _)] [] a w := hst
  refine thn_normal ?_
  refine wp_seq ?_
  refine wp_seq ?_
  refine gl (sts := []) (news := []) (sp := [.val 6 _, .val 7 _, .val 8 _, .val 9 _, .val 10 _]) [.g 0, .g 1, .g 2, .o 4] hst (oc (ob_v rfl rfl (r_move (gq 0 rfl))) (oc (ob_v rfl rfl (r_lenm Tryz.underlying22 (vq 0 rfl))) (oc (ob_v rfl rfl (r_move (gq 1 rfl))) (oc (ob_v rfl rfl (r_lenm Tryz.underlying22 (vq 2 rfl))) (oc (ob_v rfl rfl (r_neq (vq 1 rfl) (vq 3 rfl))) o0))))) (fun a w hst => ?_)
  have hst : St B w0 41 [(0, _), (1, _), (4, _), (10, _)] [] a w := hst
  refine thn_normal ?_
  refine cond_of hst (List.mem_of_getElem? (i := 3) rfl) (fun hb0 => ?_) (fun hb0 => ?_)
  · refine wp_seq ?_
    refine wp_seq ?_
    refine gl (sts := []) (news := []) (sp := [.val 11 _, .val 12 _, .val 13 _, .val 14 _, .val 15 _]) [.g 0, .g 1, .g 2, .o 4] hst (oc (ob_v rfl rfl (r_move (gq 0 rfl))) (oc (ob_v rfl rfl (r_lenm Tryz.underlying22 (vq 0 rfl))) (oc (ob_v rfl rfl (r_move (gq 1 rfl))) (oc (ob_v rfl rfl (r_lenm Tryz.underlying22 (vq 2 rfl))) (oc (ob_v rfl rfl (r_lss (vq 1 rfl) (vq 3 rfl))) o0))))) (fun a w hst => ?_)
    have hst : St B w0 41 [(0, _), (1, _), (4, _), (15, _)] [] a w := hst
    refine thn_normal ?_
    refine cond_of hst (List.mem_of_getElem? (i := 3) rfl) (fun hb1 => ?_) (fun hb1 => ?_)
    · refine wp_seq ?_
      refine gl (sts := []) (news := []) (sp := [.val 4 _]) [.g 0, .g 1, .o 0] hst (oc (ob_v rfl rfl (r_assign has_num)) o0) (fun a w hst => ?_)
      have hst : St B w0 41 [(0, _), (1, _), (4, _)] [] a w := hst
      refine thn_normal ?_
      refine wp_ret ?_
      refine thn_ret ?_
      refine thn_ret ?_
      refine ret_cast ?_ (ret_tmp rfl hst (List.mem_of_getElem? (i := 2) rfl))
      exact nu (cm_e0 hb0 hb1)
    · refine wp_skip ?_
      refine thn_normal ?_
      refine wp_seq ?_
      refine gl (sts := []) (news := []) (sp := [.val 4 _]) [.g 0, .g 1, .o 0] hst (oc (ob_v rfl rfl (r_assign has_num)) o0) (fun a w hst => ?_)
      have hst : St B w0 41 [(0, _), (1, _), (4, _)] [] a w := hst
      refine thn_normal ?_
      refine wp_ret ?_
      refine thn_ret ?_
      refine ret_cast ?_ (ret_tmp rfl hst (List.mem_of_getElem? (i := 2) rfl))
      exact nu (cm_e1 hb0 hb1)
  · have hl : l.length = m.length := by simp at hb0; omega
    refine wp_skip ?_
    refine thn_normal ?_
    refine wp_seq ?_
    refine wp_seq ?_
    refine gl (sts := []) (news := []) (sp := [.val 16 _, .val 17 _, .val 18 _, .val 5 _]) [.g 0, .g 1, .g 2, .o 3] hst (oc (ob_v rfl rfl (r_move (gq 0 rfl))) (oc (ob_v rfl rfl (r_lenm Tryz.underlying22 (vq 0 rfl))) (oc (ob_v rfl rfl (r_sub (vq 1 rfl) has_num (wi64 (by omega) (by omega)))) (oc (ob_v rfl rfl (r_assign (vq 2 rfl))) o0)))) (fun a w hst => ?_)
    have hst : St B w0 41 [(0, _), (1, _), (4, _), (5, _)] [] a w := hst
    refine thn_normal ?_
    refine wp_block ?_
    have hst := St.sel hst [0, 1, 3]
    refine wp_loop_ghost (fun n a w => n ≤ l.length ∧ l.drop n = m.drop n ∧ St B w0 41 [(0, (MgA l).va), (1, (MgA m).va), (5, In ((n : Int) - 1))] [] a w) (l.length) ?_ ?_
    · exact ⟨Nat.le_refl _, by rw [List.drop_length, hl, List.drop_length], hst⟩
    intro n a w hI
    obtain ⟨hi, hd, hst⟩ := hI
    refine wp_seq ?_
    refine wp_seq ?_
    refine gl (sts := []) (news := []) (sp := [.val 19 _, .val 20 _]) [.g 0, .g 1, .g 2, .o 1] hst (oc (ob_v rfl rfl (r_move (gq 2 rfl))) (oc (ob_v rfl rfl (r_geq (vq 0 rfl) has_num)) o0)) (fun a w hst => ?_)
    have hst : St B w0 41 [(0, _), (1, _), (5, _), (20, _)] [] a w := hst
    refine thn_normal ?_
    refine cond_of hst (List.mem_of_getElem? (i := 3) rfl) (fun hb2 => ?_) (fun hb2 => ?_)
    · obtain ⟨j, rfl⟩ : ∃ j, n = j + 1 := ⟨n - 1, by simp at hb2; omega⟩; rw [show ((j + 1 : Nat) : Int) - 1 = (j : Int) from by omega] at hst
      refine wp_skip ?_
      refine thn_normal ?_
      refine wp_seq ?_
      refine wp_block ?_
      refine wp_seq ?_
      refine wp_seq ?_
      refine go_draw (anc := [[], [], [0, 1], [0, 1, 2], [], [], [4, 5], [4, 5, 6], [0, 1, 2, 3, 4, 5, 6, 7]]) (sts := []) (news := []) (sp := [.val 23 _, .val 24 _, .val 25 _, .val 26 _, .val 27 _, .val 28 _, .val 29 _, .val 30 _, .val 31 _]) [.g 0, .g 1, .g 2, .o 8] follows_mixed hst (oc (ob_v rfl rfl (r_move (gq 0 rfl))) (oc (ob_v rfl rfl (r_move (gq 2 rfl))) (oc (ob_v rfl rfl (r_idxm sl_22 (vq 0 rfl) (vq 1 rfl) (by omega))) (oc (ob_v rfl rfl (r_loade (vq 2 rfl) ty_122)) (oc (ob_v rfl rfl (r_move (gq 1 rfl))) (oc (ob_v rfl rfl (r_move (gq 2 rfl))) (oc (ob_v rfl rfl (r_idxm sl_22 (vq 4 rfl) (vq 5 rfl) (by omega))) (oc (ob_v rfl rfl (r_loade (vq 6 rfl) ty_122)) (oc (ob_v rfl rfl (r_lss (vq 3 rfl) (vq 7 rfl))) o0))))))))) (by kernel_rfl) (by kernel_rfl) (by kernel_rfl) (by kernel_rfl) (fun a w hst => ?_)
      have hst : St B w0 41 [(0, _), (1, _), (5, _), (31, _)] [] a w := hst
      refine thn_normal ?_
      refine cond_of hst (List.mem_of_getElem? (i := 3) rfl) (fun hb3 => ?_) (fun hb3 => ?_)
      · refine wp_seq ?_
        refine gl (sts := []) (news := []) (sp := [.val 4 _]) [.g 0, .g 1, .g 2, .o 0] hst (oc (ob_v rfl rfl (r_assign has_num)) o0) (fun a w hst => ?_)
        have hst : St B w0 41 [(0, _), (1, _), (5, _), (4, _)] [] a w := hst
        refine thn_normal ?_
        refine wp_ret ?_
        refine thn_ret ?_
        refine blk_ret ?_
        refine thn_ret ?_
        refine thn_ret ?_
        refine blk_ret ?_
        refine thn_ret ?_
        refine ret_cast ?_ (ret_tmp rfl hst (List.mem_of_getElem? (i := 3) rfl))
        exact nu (cm_e2 ha hl (by omega) hd hb3)
      · refine wp_skip ?_
        refine thn_normal ?_
        refine wp_seq ?_
        refine go_draw (anc := [[], [], [0, 1], [0, 1, 2], [], [], [4, 5], [4, 5, 6], [0, 1, 2, 3, 4, 5, 6, 7]]) (sts := []) (news := []) (sp := [.val 32 _, .val 33 _, .val 34 _, .val 35 _, .val 36 _, .val 37 _, .val 38 _, .val 39 _, .val 40 _]) [.g 0, .g 1, .g 2, .o 8] follows_mixed hst (oc (ob_v rfl rfl (r_move (gq 0 rfl))) (oc (ob_v rfl rfl (r_move (gq 2 rfl))) (oc (ob_v rfl rfl (r_idxm sl_22 (vq 0 rfl) (vq 1 rfl) (by omega))) (oc (ob_v rfl rfl (r_loade (vq 2 rfl) ty_122)) (oc (ob_v rfl rfl (r_move (gq 1 rfl))) (oc (ob_v rfl rfl (r_move (gq 2 rfl))) (oc (ob_v rfl rfl (r_idxm sl_22 (vq 4 rfl) (vq 5 rfl) (by omega))) (oc (ob_v rfl rfl (r_loade (vq 6 rfl) ty_122)) (oc (ob_v rfl rfl (r_gtr (vq 3 rfl) (vq 7 rfl))) o0))))))))) (by kernel_rfl) (by kernel_rfl) (by kernel_rfl) (by kernel_rfl) (fun a w hst => ?_)
        have hst : St B w0 41 [(0, _), (1, _), (5, _), (40, _)] [] a w := hst
        refine thn_normal ?_
        refine cond_of hst (List.mem_of_getElem? (i := 3) rfl) (fun hb4 => ?_) (fun hb4 => ?_)
        · refine wp_seq ?_
          refine gl (sts := []) (news := []) (sp := [.val 4 _]) [.g 0, .g 1, .g 2, .o 0] hst (oc (ob_v rfl rfl (r_assign has_num)) o0) (fun a w hst => ?_)
          have hst : St B w0 41 [(0, _), (1, _), (5, _), (4, _)] [] a w := hst
          refine thn_normal ?_
          refine wp_ret ?_
          refine blk_ret ?_
          refine thn_ret ?_
          refine thn_ret ?_
          refine blk_ret ?_
          refine thn_ret ?_
          refine ret_cast ?_ (ret_tmp rfl hst (List.mem_of_getElem? (i := 3) rfl))
          exact nu (cm_e3 hb hl (by omega) hd hb4)
        · refine wp_skip ?_
          refine blk_normal ?_
          refine thn_normal ?_
          refine gl (sts := []) (news := []) (sp := [.val 21 _, .val 22 _, .val 5 _]) [.g 0, .g 1, .o 2] hst (oc (ob_v rfl rfl (r_move (gq 2 rfl))) (oc (ob_v rfl rfl (r_sub (vq 0 rfl) has_num (wi64 (by omega) (by omega)))) (oc (ob_v rfl rfl (r_assign (vq 1 rfl))) o0))) (fun a w hst => ?_)
          have hst : St B w0 41 [(0, _), (1, _), (5, _)] [] a w := hst
          refine thn_normal ?_
          have hst := St.sel hst [0, 1, 2]
          exact ⟨j, by omega, by omega, drop_eq_step (by omega) (by omega) hd (by simp at hb3 hb4; omega), hst⟩
    · obtain rfl : n = 0 := by simp at hb2; omega
      refine wp_exit ?_
      refine thn_exit ?_
      refine thn_exit ?_
      refine blk_exit ?_
      refine thn_normal ?_
      refine wp_seq ?_
      refine gl (sts := []) (news := []) (sp := [.val 4 _]) [.o 0] hst (oc (ob_v rfl rfl (r_assign has_num)) o0) (fun a w hst => ?_)
      have hst : St B w0 41 [(4, _)] [] a w := hst
      refine thn_normal ?_
      refine wp_ret ?_
      refine ret_cast ?_ (ret_tmp rfl hst (List.mem_of_getElem? (i := 0) rfl))
      exact nu (cm_e4 hd)

end Go.Proofs.YtmghfjcjcfaagaaGreat
