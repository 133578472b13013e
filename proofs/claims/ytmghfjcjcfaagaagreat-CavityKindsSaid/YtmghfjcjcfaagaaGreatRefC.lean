/- The reference of layer 1: limbs added and taken away by appending. -/
import Derived.Test.YtmghfjcjcfaagaaGreatRefB
namespace Go.Proofs.YtmghfjcjcfaagaaGreat
open Go Go.RowKit
namespace RefC
theorem sl_22 : Sl Tryz.prog 22 122 1 := ⟨by kernel_rfl, by kernel_rfl⟩
theorem ty_122 : Ty Tryz.prog 122 1 false := ⟨by kernel_rfl, by kernel_rfl⟩
end RefC
open RefC
set_option linter.unusedVariables false
abbrev NL (l : List Nat) : List As := l.map fun (x : Nat) => NumA .u32 (x : Int)
theorem app_u32 : ∃ it z, Tryz.prog.info? 122 = some it ∧ it.zero = some z ∧ it.size = 1 ∧ it.bytes = 4 ∧ z.cells.size = 1 := by
  have h : ((Tryz.prog.info? 122).bind fun it => it.zero.map fun z => (it.size, it.bytes, z.cells.size)) = some (1, 4, 1) := by kernel_rfl
  cases hi : Tryz.prog.info? 122 with
  | none => rw [hi] at h; simp at h
  | some it =>
    rw [hi] at h
    cases hz : it.zero with
    | none => simp [hz] at h
    | some z =>
      simp [hz] at h
      exact ⟨it, z, rfl, hz, h.1, h.2.1, h.2.2⟩
theorem own_mg {b : Nat} {l : List Nat} (ok : okL l) : Wk (OwnR b U32 1 [] (NL l)) (MgA l).va := fun B v w h => va_and ok (own_sl B v w h)
theorem okL_one {x : Nat} (h : x < 4294967296) : okL [x] := fun y hy => by simp at hy; omega
/-! adding -/
theorem sum_nx {l m : List Nat} {i : Nat} : sumTo l m (i + 1) = sumTo l m i + 4294967296 ^ i * (l.getD i 0 + m.getD i 0) := by
  unfold sumTo
  rw [val_take_getD, val_take_getD, Nat.mul_add]
  omega
def addN (l m : List Nat) : Nat := if val l + val m < 4294967296 ^ max l.length m.length then max l.length m.length else max l.length m.length + 1
theorem sum_end {l m : List Nat} {i : Nat} (h : max l.length m.length ≤ i) : sumTo l m i = val l + val m := by
  unfold sumTo
  rw [List.take_of_length_le (by omega), List.take_of_length_le (by omega)]
theorem sum_lt {l m : List Nat} (hl : okL l) (hm : okL m) : val l + val m < 4294967296 ^ (max l.length m.length + 1) := by
  have h1 := Nat.lt_of_lt_of_le (val_lt hl) (Nat.pow_le_pow_right (by decide : 0 < 4294967296) (Nat.le_max_left l.length m.length))
  have h2 := Nat.lt_of_lt_of_le (val_lt hm) (Nat.pow_le_pow_right (by decide : 0 < 4294967296) (Nat.le_max_right l.length m.length))
  rw [Nat.pow_succ]
  omega
/-- what is so at the loop's head. -/
structure AddI (l m : List Nat) (i : Nat) : Prop where
  le : i ≤ max l.length m.length + 1
  top : i = max l.length m.length + 1 → 4294967296 ^ max l.length m.length ≤ val l + val m
theorem AddI.more {l m : List Nat} {i : Nat} (h : AddI l m i) (hl : okL l) (hm : okL m) (hb : ((decide ((i : Int) < (l.length : Int)) || decide ((i : Int) < (m.length : Int))) || decide (((sumTo l m i / 4294967296 ^ i : Nat) : Int) > ((0 : Nat) : Int))) = true) : i ≤ max l.length m.length ∧ AddI l m (i + 1) := by
  have h0 := h.le
  simp only [Bool.or_eq_true, decide_eq_true_eq] at hb
  have h1 : i ≠ max l.length m.length + 1 := by
    intro e
    have h3 := sum_lt hl hm
    have h4 : sumTo l m i / 4294967296 ^ i = 0 := by
      rw [sum_end (by omega), e]
      exact Nat.div_eq_of_lt h3
    rw [h4] at hb
    omega
  refine ⟨by omega, by omega, fun e => ?_⟩
  have e' : i = max l.length m.length := by omega
  have h3 : 0 < sumTo l m i / 4294967296 ^ i := by
    rcases hb with (hb | hb) | hb
    · omega
    · omega
    · omega
  rw [sum_end (by omega), e'] at h3
  exact (Nat.div_pos_iff.1 h3).2
theorem AddI.fin {l m : List Nat} {i : Nat} (h : AddI l m i) (hl : okL l) (hm : okL m) (hb : ((decide ((i : Int) < (l.length : Int)) || decide ((i : Int) < (m.length : Int))) || decide (((sumTo l m i / 4294967296 ^ i : Nat) : Int) > ((0 : Nat) : Int))) = false) : digs i (sumTo l m i) = digs (addN l m) (val l + val m) := by
  simp only [Bool.or_eq_false_iff, decide_eq_false_iff_not] at hb
  have h0 := h.le
  have h1 : max l.length m.length ≤ i := by omega
  rw [sum_end h1]
  rw [sum_end h1] at hb
  congr 1
  unfold addN
  by_cases e : i = max l.length m.length + 1
  · have := h.top e
    rw [if_neg (by omega), e]
  · have e' : i = max l.length m.length := by omega
    rw [if_pos, e']
    rw [← e']
    have hp : 0 < 4294967296 ^ i := Nat.pow_pos (by decide)
    refine (Nat.div_eq_zero_iff_lt hp).1 ?_
    generalize (val l + val m) / 4294967296 ^ i = z at *
    omega
theorem add_row {l m : List Nat} {i : Nat} : NL (digs i (sumTo l m i)) ++ NL [(sumTo l m i / 4294967296 ^ i + l.getD i 0 + m.getD i 0) % 4294967296] = NL (digs (i + 1) (sumTo l m (i + 1))) := by
  unfold NL
  rw [sum_nx, digs_step, List.map_append, Nat.add_assoc]
theorem add_car {l m : List Nat} {i : Nat} : (sumTo l m i / 4294967296 ^ i + l.getD i 0 + m.getD i 0) / 4294967296 = sumTo l m (i + 1) / 4294967296 ^ (i + 1) := by
  rw [sum_nx, carry_step', Nat.add_assoc]

set_option maxRecDepth 100000 in
theorem radd_c (l m : List Nat) (hls : l.length ≤ 10000000000) (hms : m.length ≤ 10000000000) : Cn Tryz.prog 167 [(MgA l).va, (MgA m).va] ((MgA (digs (addN l m) (val l + val m))).va) := by
  obtain ⟨it, z, e1, e2, e3, e4, e5⟩ := app_u32
  refine Cn.introF Tryz.func167 rfl (by kernel_rfl) nq (fun B w0 a hF hst => ?_)
  have hst : St B w0 57 [(0, (MgA l).va), (1, (MgA m).va)] [] a w0.w := hst
  obtain ⟨v0, hv0, hst⟩ := St.eqv hst 0 rfl
  obtain ⟨v1, hv1, hst⟩ := St.eqv hst 1 rfl
  have hl := (and_va hv0).1; have hm := (and_va hv1).1
  refine wp_seq ?_
  refine gl (sts := []) (news := []) (sp := [.val 4 _]) [.g 0, .g 1, .o 0] hst (oc (ob_v rfl rfl (r_assign has_const)) o0) (fun a w hst => ?_)
  have hst : St B w0 57 [(0, _), (1, _), (4, _)] [] a w := hst
  refine thn_normal ?_
  refine wp_seq ?_
  refine gl (sts := []) (news := []) (sp := [.val 5 _]) [.g 0, .g 1, .g 2, .o 0] hst (oc (ob_v rfl rfl (r_assign has_const)) o0) (fun a w hst => ?_)
  have hst : St B w0 57 [(0, _), (1, _), (4, _), (5, _)] [] a w := hst
  refine thn_normal ?_
  refine wp_seq ?_
  refine gl (sts := []) (news := []) (sp := [.val 6 _]) [.g 0, .g 1, .g 2, .g 3, .o 0] hst (oc (ob_v rfl rfl (r_assign (has_nat 0 rfl))) o0) (fun a w hst => ?_)
  have hst : St B w0 57 [(0, _), (1, _), (4, _), (5, _), (6, _)] [] a w := hst
  refine thn_normal ?_
  refine wp_seq ?_
  refine wp_seq ?_
  refine gl (sts := []) (news := []) (sp := [.val 7 _]) [.g 0, .g 1, .g 2, .g 3, .g 4, .o 0] hst (oc (ob_v rfl rfl (r_assign has_num)) o0) (fun a w hst => ?_)
  have hst : St B w0 57 [(0, _), (1, _), (4, _), (5, _), (6, _), (7, _)] [] a w := hst
  refine thn_normal ?_
  refine wp_block ?_
  have hst := St.sel hst [0, 1, 3, 4, 5]
  refine wp_loop_ghost (fun n a w => ∃ i : Nat, (n + i = max l.length m.length + 1 ∧ AddI l m i) ∧ St B w0 57 [(0, EqV v0), (1, EqV v1), (5, OwnR w0.w.heap.size U32 1 [] (NL (digs i (sumTo l m i)))), (6, (NumA .u64 ((sumTo l m i / 4294967296 ^ i : Nat) : Int)).va), (7, In (i : Nat))] [] a w) (max l.length m.length + 1) ?_ ?_
  · exact ⟨0, ⟨rfl, ⟨by omega, fun h => by omega⟩⟩, St.wkG (A' := (NumA .u64 ((sumTo l m 0 / 4294967296 ^ 0 : Nat) : Int)).va) (St.wkG hst 2 rfl own_nil) 3 rfl (wk_eq (congrArg (fun x : Nat => (NumA .u64 (x : Int)).va) (by simp [sumTo_zero] : 0 = sumTo l m 0 / 4294967296 ^ 0)))⟩
  intro n a w hI
  obtain ⟨i, ⟨hn, hI⟩, hst⟩ := hI
  have hc := carry_le hl hm i
  refine wp_seq ?_
  refine wp_seq ?_
  refine gl (sts := []) (news := []) (sp := [.val 9 _, .val 10 _, .val 11 _, .val 12 _, .val 13 _, .val 14 (Wh (_ = false) _), .val 15 (Wh (_ = false) _), .val 16 (Wh (_ = false) _), .val 17 (Wh (_ = false) _), .val 18 _, .val 19 _, .val 20 (Wh (_ = false) _), .val 21 (Wh (_ = false) _), .val 22 _]) [.g 0, .g 1, .g 2, .g 3, .g 4, .o 13] hst (oc (ob_v rfl rfl (r_move (gq 4 rfl))) (oc (ob_v rfl rfl (r_move (gq 0 rfl))) (oc (ob_v rfl rfl (r_lenm Tryz.underlying22 (has_again hF hv0 (vq 1 rfl)))) (oc (ob_v rfl rfl (r_lss (vq 0 rfl) (vq 2 rfl))) (oc (ob_v rfl rfl (r_move (vq 3 rfl))) (oc (ob_gd rfl rfl rfl (vq 4 rfl) nq (fun hg => r_move (gq 4 rfl))) (oc (ob_gd rfl rfl rfl (vq 4 rfl) nq (fun hg => r_move (gq 1 rfl))) (oc (ob_gd rfl rfl rfl (vq 4 rfl) nq (fun hg => r_lenm Tryz.underlying22 (has_again hF hv1 (has_wh (vq 6 rfl) hg)))) (oc (ob_gd rfl rfl rfl (vq 4 rfl) nq (fun hg => r_lss (has_wh (vq 5 rfl) hg) (has_wh (vq 7 rfl) hg))) (oc (ob_v rfl rfl (r_or (vq 4 rfl) (vq 8 rfl))) (oc (ob_v rfl rfl (r_move (vq 9 rfl))) (oc (ob_gd rfl rfl rfl (vq 10 rfl) nq (fun hg => r_move (gq 3 rfl))) (oc (ob_gd rfl rfl rfl (vq 10 rfl) nq (fun hg => r_gtr (has_wh (vq 11 rfl) hg) (has_nat 0 rfl))) (oc (ob_v rfl rfl (r_or (vq 10 rfl) (vq 12 rfl))) o0)))))))))))))) (fun a w hst => ?_)
  have hst : St B w0 57 [(0, _), (1, _), (5, _), (6, _), (7, _), (22, _)] [] a w := hst
  refine thn_normal ?_
  refine cond_of hst (List.mem_of_getElem? (i := 5) rfl) (fun hb0 => ?_) (fun hb0 => ?_)
  · obtain ⟨hi, hI2⟩ := hI.more hl hm hb0
    have hg1 := getD_ok hl i
    have hg2 := getD_ok hm i
    refine wp_skip ?_
    refine thn_normal ?_
    refine wp_seq ?_
    refine wp_block ?_
    refine wp_seq ?_
    refine gl (sts := []) (news := []) (sp := [.val 25 _, .val 8 _]) [.g 0, .g 1, .g 2, .g 3, .g 4, .o 1] hst (oc (ob_v rfl rfl (r_move (gq 3 rfl))) (oc (ob_v rfl rfl (r_assign (vq 0 rfl))) o0)) (fun a w hst => ?_)
    have hst : St B w0 57 [(0, _), (1, _), (5, _), (6, _), (7, _), (8, _)] [] a w := hst
    refine thn_normal ?_
    refine wp_seq ?_
    refine wp_seq ?_
    refine gl (sts := []) (news := []) (sp := [.val 26 _, .val 27 _, .val 28 _, .val 29 _]) [.g 0, .g 1, .g 2, .g 3, .g 4, .g 5, .o 3] hst (oc (ob_v rfl rfl (r_move (gq 4 rfl))) (oc (ob_v rfl rfl (r_move (gq 0 rfl))) (oc (ob_v rfl rfl (r_lenm Tryz.underlying22 (has_again hF hv0 (vq 1 rfl)))) (oc (ob_v rfl rfl (r_lss (vq 0 rfl) (vq 2 rfl))) o0)))) (fun a w hst => ?_)
    have hst : St B w0 57 [(0, _), (1, _), (5, _), (6, _), (7, _), (8, _), (29, _)] [] a w := hst
    refine thn_normal ?_
    refine cond_join (fun a w =>  St B w0 57 [(0, EqV v0), (1, EqV v1), (5, OwnR w0.w.heap.size U32 1 [] (NL (digs i (sumTo l m i)))), (7, In (i : Nat)), (8, (NumA .u64 ((sumTo l m i / 4294967296 ^ i + l.getD i 0 : Nat) : Int)).va)] [] a w) hst (List.mem_of_getElem? (i := 6) rfl) (fun hb1 => ?_) (fun hb1 => ?_) (fun a w hst => ?_)
    · refine gl (sts := []) (news := []) (sp := [.val 30 _, .val 31 _, .val 32 _, .val 33 _, .val 34 _, .val 35 _, .val 36 _, .val 8 _]) [.g 0, .g 1, .g 2, .g 3, .g 4, .o 7] hst (oc (ob_v rfl rfl (r_move (gq 5 rfl))) (oc (ob_v rfl rfl (r_move (gq 0 rfl))) (oc (ob_v rfl rfl (r_move (gq 4 rfl))) (oc (ob_v rfl rfl (r_idxm sl_22 (has_again hF hv0 (vq 1 rfl)) (vq 2 rfl) (by simp at hb1; omega))) (oc (ob_v rfl rfl (r_loade (vq 3 rfl) ty_122)) (oc (ob_v rfl rfl (r_convk .u64 (by kernel_rfl) (by kernel_rfl) (vq 4 rfl) (wu64 (Nat.lt_trans (hl _ (List.getElem_mem _)) (by decide))))) (oc (ob_v rfl rfl (r_add (vq 0 rfl) (vq 5 rfl) (wadd64 (by have := hl _ (List.getElem_mem (by simp at hb1; omega : i < l.length)); omega)))) (oc (ob_v rfl rfl (r_assign (vq 6 rfl))) o0)))))))) (fun a w hst => ?_)
      have hst : St B w0 57 [(0, _), (1, _), (5, _), (6, _), (7, _), (8, _)] [] a w := hst
      refine thn_normal ?_
      have hst := St.sel hst [0, 1, 2, 4, 5]
      rw [getD_lt (by simp at hb1; omega)]; exact hst
    · refine wp_skip ?_
      refine thn_normal ?_
      have hst := St.sel hst [0, 1, 2, 4, 5]
      rw [getD_ge (by simp at hb1; omega)]; exact hst
    refine thn_normal ?_
    refine wp_seq ?_
    refine wp_seq ?_
    refine gl (sts := []) (news := []) (sp := [.val 37 _, .val 38 _, .val 39 _, .val 40 _]) [.g 0, .g 1, .g 2, .g 3, .g 4, .o 3] hst (oc (ob_v rfl rfl (r_move (gq 3 rfl))) (oc (ob_v rfl rfl (r_move (gq 1 rfl))) (oc (ob_v rfl rfl (r_lenm Tryz.underlying22 (has_again hF hv1 (vq 1 rfl)))) (oc (ob_v rfl rfl (r_lss (vq 0 rfl) (vq 2 rfl))) o0)))) (fun a w hst => ?_)
    have hst : St B w0 57 [(0, _), (1, _), (5, _), (7, _), (8, _), (40, _)] [] a w := hst
    refine thn_normal ?_
    refine cond_join (fun a w =>  St B w0 57 [(0, EqV v0), (1, EqV v1), (5, OwnR w0.w.heap.size U32 1 [] (NL (digs i (sumTo l m i)))), (7, In (i : Nat)), (8, (NumA .u64 ((sumTo l m i / 4294967296 ^ i + l.getD i 0 + m.getD i 0 : Nat) : Int)).va)] [] a w) hst (List.mem_of_getElem? (i := 5) rfl) (fun hb2 => ?_) (fun hb2 => ?_) (fun a w hst => ?_)
    · refine gl (sts := []) (news := []) (sp := [.val 41 _, .val 42 _, .val 43 _, .val 44 _, .val 45 _, .val 46 _, .val 47 _, .val 8 _]) [.g 0, .g 1, .g 2, .g 3, .o 7] hst (oc (ob_v rfl rfl (r_move (gq 4 rfl))) (oc (ob_v rfl rfl (r_move (gq 1 rfl))) (oc (ob_v rfl rfl (r_move (gq 3 rfl))) (oc (ob_v rfl rfl (r_idxm sl_22 (has_again hF hv1 (vq 1 rfl)) (vq 2 rfl) (by simp at hb2; omega))) (oc (ob_v rfl rfl (r_loade (vq 3 rfl) ty_122)) (oc (ob_v rfl rfl (r_convk .u64 (by kernel_rfl) (by kernel_rfl) (vq 4 rfl) (wu64 (Nat.lt_trans (hm _ (List.getElem_mem _)) (by decide))))) (oc (ob_v rfl rfl (r_add (vq 0 rfl) (vq 5 rfl) (wadd64 (by have := hm _ (List.getElem_mem (by simp at hb2; omega : i < m.length)); omega)))) (oc (ob_v rfl rfl (r_assign (vq 6 rfl))) o0)))))))) (fun a w hst => ?_)
      have hst : St B w0 57 [(0, _), (1, _), (5, _), (7, _), (8, _)] [] a w := hst
      refine thn_normal ?_
      have hst := St.sel hst [0, 1, 2, 3, 4]
      rw [getD_lt (by simp at hb2; omega) (l := m)]; exact hst
    · refine wp_skip ?_
      refine thn_normal ?_
      have hst := St.sel hst [0, 1, 2, 3, 4]
      rw [getD_ge (by simp at hb2; omega) (l := m)]; exact hst
    refine thn_normal ?_
    refine wp_seq ?_
    refine go_appL (sp := [.val 48 _, .val 49 _, .val 50 _, .val 51 _, .val 52 _, .val 53 VT, .val 5 VT]) 5 [0, 1, 3, 4] 0 4 hst (oc (ob_v rfl rfl (r_move (gq 2 rfl))) (oc (ob_v rfl rfl (r_move (gq 4 rfl))) (oc (ob_v rfl rfl (r_rem (vq 1 rfl) (has_nat 4294967296 rfl) (by decide) (nrem))) (oc (ob_v rfl rfl (r_convk .u32 (by kernel_rfl) (by kernel_rfl) (vq 2 rfl) (wu32 (Nat.mod_lt _ (by decide))))) (oc (ob_v rfl rfl (r_slicem (l := [_]) (xs := [.tmp 51]) sl_22 (by kernel_rfl) nq nq ((okL_one (Nat.mod_lt _ (by decide)))) (.cons (vq 3 rfl) .nil) rfl rfl)) o0))))) rfl (by kernel_rfl) rfl rfl (by decide) rfl (by decide) rfl (fun _ _ h _ => (and_va h).2) Tryz.underlying22 e1 e2 e3 e4 e5 (by decide) (by simp only [List.length_map, digs_length, List.length_singleton]; omega) (by decide) (fun T hT => hT) (by decide) (fun A hA => by obtain ⟨_, _, rfl⟩ := List.mem_map.1 hA; rfl) (by kernel_rfl) nq nq (by kernel_rfl) (by kernel_rfl) (fun a w hst => ?_)
    have hst : St B w0 57 [(5, _), (0, _), (1, _), (7, _), (8, _)] [] a w := hst
    refine thn_normal ?_
    refine gl (sts := []) (news := []) (sp := [.val 54 _, .val 55 _, .val 6 _]) [.g 0, .g 1, .g 2, .g 3, .o 2] hst (oc (ob_v rfl rfl (r_move (gq 4 rfl))) (oc (ob_v rfl rfl (r_quo (vq 0 rfl) (has_nat 4294967296 rfl) (by decide) (nquo (by omega)))) (oc (ob_v rfl rfl (r_assign (vq 1 rfl))) o0))) (fun a w hst => ?_)
    have hst : St B w0 57 [(5, _), (0, _), (1, _), (7, _), (6, _)] [] a w := hst
    refine blk_normal ?_
    refine thn_normal ?_
    refine gl (sts := []) (news := []) (sp := [.val 23 _, .val 24 _, .val 7 _]) [.g 0, .g 1, .g 2, .g 4, .o 2] hst (oc (ob_v rfl rfl (r_move (gq 3 rfl))) (oc (ob_v rfl rfl (r_add (vq 0 rfl) has_num (wi_succ (by omega)))) (oc (ob_v rfl rfl (r_assign (vq 1 rfl))) o0))) (fun a w hst => ?_)
    have hst : St B w0 57 [(5, _), (0, _), (1, _), (6, _), (7, _)] [] a w := hst
    refine thn_normal ?_
    have hst := St.sel hst [1, 2, 0, 3, 4]
    exact ⟨n - 1, by omega, i + 1, ⟨by omega, hI2⟩, St.wkG (A' := (NumA .u64 ((sumTo l m (i + 1) / 4294967296 ^ (i + 1) : Nat) : Int)).va) (St.wkG (A' := OwnR w0.w.heap.size U32 1 [] (NL (digs (i + 1) (sumTo l m (i + 1))))) hst 2 rfl (wk_eq (congrArg (OwnR w0.w.heap.size U32 1 []) add_row))) 3 rfl (wk_eq (congrArg (fun x : Nat => (NumA .u64 (x : Int)).va) add_car))⟩
  · refine wp_exit ?_
    refine thn_exit ?_
    refine thn_exit ?_
    refine blk_exit ?_
    refine thn_normal ?_
    refine wp_seq ?_
    refine gl (sts := []) (news := []) (sp := [.val 56 _, .val 4 _]) [.o 1] hst (oc (ob_v rfl rfl (r_move (gq 2 rfl))) (oc (ob_v rfl rfl (r_assign (vq 0 rfl))) o0)) (fun a w hst => ?_)
    have hst : St B w0 57 [(4, _)] [] a w := hst
    refine thn_normal ?_
    refine wp_ret ?_
    refine ret_wk ?_ (ret_tmp rfl hst (List.mem_of_getElem? (i := 0) rfl))
    rw [hI.fin hl hm hb0]; exact own_mg (okL_digs _ _)

/-- limbs in a row from block b on, or none. -/
def MgB (b : Nat) (l : List Nat) : As where
  n := 1
  ag := false
  p B cs w := (MgA l).p B cs w ∧ ∀ c ∈ cs, ∀ g, blk c = some g → b ≤ g
  deps := (MgA l).deps
  len := fun B cs w h => (MgA l).len B cs w h.1
  one := fun B cs w h => (MgA l).one B cs w h.1
  ag1 := fun _ => rfl
  cg := fun B cs w w' hg h => ⟨(MgA l).cg B cs w w' hg h.1, h.2⟩
  wr := fun B cs w w' g c T fz h1 h2 h3 h4 h => ⟨(MgA l).wr B cs w w' g c T fz h1 h2 h3 h4 h.1, h.2⟩
theorem mgB_A {b : Nat} {l : List Nat} : Wk (MgB b l).va (MgA l).va := fun _ _ _ ⟨cs, h, hv⟩ => ⟨cs, h.1, hv⟩
theorem mgB_va {b B : Nat} {l : List Nat} {v : Value} {w : World} (h : (MgB b l).va.p B v w) : ∀ g, blk v = some g → b ≤ g := by
  obtain ⟨cs, ⟨h1, h2⟩, hv⟩ := h
  have hn := (MgA l).len _ _ _ h1
  match cs, hn with
  | [c], _ =>
    have e : v = c := hv
    subst e
    exact h2 _ (by simp)
theorem mgB_of {b B : Nat} {l : List Nat} {v : Value} {w : World} (h : (MgA l).va.p B v w) (hb : ∀ g, blk v = some g → b ≤ g) : (MgB b l).va.p B v w := by
  obtain ⟨cs, h1, hv⟩ := h
  have hn := (MgA l).len _ _ _ h1
  match cs, hn with
  | [c], _ =>
    have e : v = c := hv
    subst e
    exact ⟨[v], ⟨h1, fun c hc => by simp at hc; subst hc; exact hb⟩, rfl⟩
theorem famB (b : Nat) : Fam (MgB b) := ⟨fun _ => rfl, fun _ => rfl, fun l B v w h => by
  obtain ⟨A, c, hv, hm, hk⟩ := famA.op l B v w (mgB_A _ _ _ h)
  refine ⟨A, c, hv, hm, fun k => mgB_of (hk k) fun g hg => mgB_va h g ?_⟩
  rw [hv]
  cases A with
  | none => cases hg
  | some ad => exact hg, fun B w => ⟨mag_nil_p B w, fun c hc g hg => by simp at hc; subst hc; cases hg⟩⟩
theorem own_mgB {b : Nat} {l : List Nat} (ok : okL l) : Wk (OwnR b U32 1 [] (NL l)) (MgB b l).va := fun B v w h => mgB_of (own_mg ok B v w h) fun g hg => by
  obtain ⟨_, _, ds, _, _, h5⟩ := h
  rcases h5 with ⟨h5, _⟩ | ⟨g', cap, cur, e1, e2, _⟩
  · have e : v = .slice none 0 0 := h5
    rw [e] at hg
    cases hg
  · rw [e1] at hg
    injection hg with hg
    rw [← hg]
    exact e2
/-! taking away -/
theorem wsub' {x y : Nat} (h : y ≤ x) (hx : x < 18446744073709551616) : IntKind.u64.wrap ((x : Int) - (y : Int)) = ((x - y : Nat) : Int) := by
  have e : ((x : Int) - (y : Int)) = ((x - y : Nat) : Int) := by omega
  rw [e, wu64 (by omega)]
theorem sub_row {l m : List Nat} {i : Nat} (h : i < l.length) (hl : okL l) (hm : okL m) : NL (digs i (dif l m i)) ++ NL [(if l[i] < 1 - dif l m i / 4294967296 ^ i + m.getD i 0 then l[i] + 4294967296 else l[i]) - (1 - dif l m i / 4294967296 ^ i + m.getD i 0)] = NL (digs (i + 1) (dif l m (i + 1))) := by
  have h1 := getD_ok hm i
  have h2 := dif_le (m := m) hl i
  have h3 := hl _ (List.getElem_mem h)
  unfold NL
  rw [dif_succ h hm, digs_step, List.map_append]
  congr 3
  generalize dif l m i / 4294967296 ^ i = q at *
  generalize m.getD i 0 = y at *
  generalize l[i] = x at *
  split <;> omega
theorem sub_car {l m : List Nat} {i : Nat} (h : i < l.length) (hl : okL l) (hm : okL m) : (if l[i] < 1 - dif l m i / 4294967296 ^ i + m.getD i 0 then 1 else 0) = 1 - dif l m (i + 1) / 4294967296 ^ (i + 1) := by
  rw [Nat.add_comm]
  exact sub_carry h hl hm rfl
theorem sub_fin {l m : List Nat} (hl : okL l) (h : m.length ≤ l.length) (hv : val m ≤ val l) : trimL (digs l.length (dif l m l.length)) = limbs (val l - val m) := by
  have := subSt_end hl h hv
  unfold subSt at this
  rw [Nat.sub_self, List.replicate_zero, List.append_nil] at this
  exact this

set_option maxRecDepth 100000 in
theorem rsubB_c (l m : List Nat) (hls : l.length ≤ 10000000000) (hml : m.length ≤ l.length) (hv : val m ≤ val l) : CnI Tryz.prog 169 [(MgA l).va, (MgA m).va] (fun b => (MgB b (limbs (val l - val m))).va) := by
  obtain ⟨it, z, e1, e2, e3, e4, e5⟩ := app_u32
  refine CnI.introF Tryz.func169 rfl (by kernel_rfl) nq (fun B w0 a hF0 hF hst => ?_)
  have hst : St B w0 47 [(0, (MgA l).va), (1, (MgA m).va)] [] a w0.w := hst
  obtain ⟨v0, hv0, hst⟩ := St.eqv hst 0 rfl
  obtain ⟨v1, hv1, hst⟩ := St.eqv hst 1 rfl
  have hl := (and_va hv0).1; have hm := (and_va hv1).1
  refine wp_seq ?_
  refine gl (sts := []) (news := []) (sp := [.val 4 _]) [.g 0, .g 1, .o 0] hst (oc (ob_v rfl rfl (r_assign has_const)) o0) (fun a w hst => ?_)
  have hst : St B w0 47 [(0, _), (1, _), (4, _)] [] a w := hst
  refine thn_normal ?_
  refine wp_seq ?_
  refine gl (sts := []) (news := []) (sp := [.val 5 _]) [.g 0, .g 1, .g 2, .o 0] hst (oc (ob_v rfl rfl (r_assign has_const)) o0) (fun a w hst => ?_)
  have hst : St B w0 47 [(0, _), (1, _), (4, _), (5, _)] [] a w := hst
  refine thn_normal ?_
  refine wp_seq ?_
  refine gl (sts := []) (news := []) (sp := [.val 6 _]) [.g 0, .g 1, .g 2, .g 3, .o 0] hst (oc (ob_v rfl rfl (r_assign (has_nat 0 rfl))) o0) (fun a w hst => ?_)
  have hst : St B w0 47 [(0, _), (1, _), (4, _), (5, _), (6, _)] [] a w := hst
  refine thn_normal ?_
  refine wp_seq ?_
  refine wp_seq ?_
  refine gl (sts := []) (news := []) (sp := [.val 7 _]) [.g 0, .g 1, .g 2, .g 3, .g 4, .o 0] hst (oc (ob_v rfl rfl (r_assign has_num)) o0) (fun a w hst => ?_)
  have hst : St B w0 47 [(0, _), (1, _), (4, _), (5, _), (6, _), (7, _)] [] a w := hst
  refine thn_normal ?_
  refine wp_block ?_
  have hst := St.sel hst [0, 1, 3, 4, 5]
  refine wp_loop_ghost (fun n a w => ∃ i : Nat, (n + i = l.length) ∧ St B w0 47 [(0, EqV v0), (1, EqV v1), (5, OwnR w0.w.heap.size U32 1 [] (NL (digs i (dif l m i)))), (6, (NumA .u64 ((1 - dif l m i / 4294967296 ^ i : Nat) : Int)).va), (7, In (i : Nat))] [] a w) (l.length) ?_ ?_
  · exact ⟨0, by omega, St.wkG (A' := (NumA .u64 ((1 - dif l m 0 / 4294967296 ^ 0 : Nat) : Int)).va) (St.wkG hst 2 rfl own_nil) 3 rfl (wk_eq (congrArg (fun x : Nat => (NumA .u64 (x : Int)).va) (dif_zero l m).symm))⟩
  intro n a w hI
  obtain ⟨i, hn, hst⟩ := hI
  have hc := dif_le (m := m) hl i
  have hc1 : 1 - dif l m i / 4294967296 ^ i ≤ 1 := Nat.sub_le _ _
  have hg2 := getD_ok hm i
  refine wp_seq ?_
  refine wp_seq ?_
  refine gl (sts := []) (news := []) (sp := [.val 10 _, .val 11 _, .val 12 _, .val 13 _]) [.g 0, .g 1, .g 2, .g 3, .g 4, .o 3] hst (oc (ob_v rfl rfl (r_move (gq 4 rfl))) (oc (ob_v rfl rfl (r_move (gq 0 rfl))) (oc (ob_v rfl rfl (r_lenm Tryz.underlying22 (has_again hF hv0 (vq 1 rfl)))) (oc (ob_v rfl rfl (r_lss (vq 0 rfl) (vq 2 rfl))) o0)))) (fun a w hst => ?_)
  have hst : St B w0 47 [(0, _), (1, _), (5, _), (6, _), (7, _), (13, _)] [] a w := hst
  refine thn_normal ?_
  refine cond_of hst (List.mem_of_getElem? (i := 5) rfl) (fun hb0 => ?_) (fun hb0 => ?_)
  · have hi : i < l.length := by simp at hb0; omega
    have hx := hl _ (List.getElem_mem hi)
    refine wp_skip ?_
    refine thn_normal ?_
    refine wp_seq ?_
    refine wp_block ?_
    refine wp_seq ?_
    refine gl (sts := []) (news := []) (sp := [.val 16 _, .val 8 _]) [.g 0, .g 1, .g 2, .g 3, .g 4, .o 1] hst (oc (ob_v rfl rfl (r_move (gq 3 rfl))) (oc (ob_v rfl rfl (r_assign (vq 0 rfl))) o0)) (fun a w hst => ?_)
    have hst : St B w0 47 [(0, _), (1, _), (5, _), (6, _), (7, _), (8, _)] [] a w := hst
    refine thn_normal ?_
    refine wp_seq ?_
    refine wp_seq ?_
    refine gl (sts := []) (news := []) (sp := [.val 17 _, .val 18 _, .val 19 _, .val 20 _]) [.g 0, .g 1, .g 2, .g 3, .g 4, .g 5, .o 3] hst (oc (ob_v rfl rfl (r_move (gq 4 rfl))) (oc (ob_v rfl rfl (r_move (gq 1 rfl))) (oc (ob_v rfl rfl (r_lenm Tryz.underlying22 (has_again hF hv1 (vq 1 rfl)))) (oc (ob_v rfl rfl (r_lss (vq 0 rfl) (vq 2 rfl))) o0)))) (fun a w hst => ?_)
    have hst : St B w0 47 [(0, _), (1, _), (5, _), (6, _), (7, _), (8, _), (20, _)] [] a w := hst
    refine thn_normal ?_
    refine cond_join (fun a w =>  St B w0 47 [(0, EqV v0), (1, EqV v1), (5, OwnR w0.w.heap.size U32 1 [] (NL (digs i (dif l m i)))), (7, In (i : Nat)), (8, (NumA .u64 ((1 - dif l m i / 4294967296 ^ i + m.getD i 0 : Nat) : Int)).va)] [] a w) hst (List.mem_of_getElem? (i := 6) rfl) (fun hb1 => ?_) (fun hb1 => ?_) (fun a w hst => ?_)
    · refine gl (sts := []) (news := []) (sp := [.val 21 _, .val 22 _, .val 23 _, .val 24 _, .val 25 _, .val 26 _, .val 27 _, .val 8 _]) [.g 0, .g 1, .g 2, .g 3, .g 4, .o 7] hst (oc (ob_v rfl rfl (r_move (gq 5 rfl))) (oc (ob_v rfl rfl (r_move (gq 1 rfl))) (oc (ob_v rfl rfl (r_move (gq 4 rfl))) (oc (ob_v rfl rfl (r_idxm sl_22 (has_again hF hv1 (vq 1 rfl)) (vq 2 rfl) (by simp at hb1; omega))) (oc (ob_v rfl rfl (r_loade (vq 3 rfl) ty_122)) (oc (ob_v rfl rfl (r_convk .u64 (by kernel_rfl) (by kernel_rfl) (vq 4 rfl) (wu64 (Nat.lt_trans (hm _ (List.getElem_mem _)) (by decide))))) (oc (ob_v rfl rfl (r_add (vq 0 rfl) (vq 5 rfl) (wadd64 (by have := hm _ (List.getElem_mem (by simp at hb1; omega : i < m.length)); omega)))) (oc (ob_v rfl rfl (r_assign (vq 6 rfl))) o0)))))))) (fun a w hst => ?_)
      have hst : St B w0 47 [(0, _), (1, _), (5, _), (6, _), (7, _), (8, _)] [] a w := hst
      refine thn_normal ?_
      have hst := St.sel hst [0, 1, 2, 4, 5]
      rw [getD_lt (by simp at hb1; omega) (l := m)]; exact hst
    · refine wp_skip ?_
      refine thn_normal ?_
      have hst := St.sel hst [0, 1, 2, 4, 5]
      rw [getD_ge (by simp at hb1; omega) (l := m)]; exact hst
    refine thn_normal ?_
    refine wp_seq ?_
    refine gl (sts := []) (news := []) (sp := [.val 28 _, .val 29 _, .val 30 _, .val 31 _, .val 32 _, .val 9 _]) [.g 0, .g 1, .g 2, .g 3, .g 4, .o 5] hst (oc (ob_v rfl rfl (r_move (gq 0 rfl))) (oc (ob_v rfl rfl (r_move (gq 3 rfl))) (oc (ob_v rfl rfl (r_idxm sl_22 (has_again hF hv0 (vq 0 rfl)) (vq 1 rfl) hi)) (oc (ob_v rfl rfl (r_loade (vq 2 rfl) ty_122)) (oc (ob_v rfl rfl (r_convk .u64 (by kernel_rfl) (by kernel_rfl) (vq 3 rfl) (wu64 (Nat.lt_trans (hl _ (List.getElem_mem _)) (by decide))))) (oc (ob_v rfl rfl (r_assign (vq 4 rfl))) o0)))))) (fun a w hst => ?_)
    have hst : St B w0 47 [(0, _), (1, _), (5, _), (7, _), (8, _), (9, _)] [] a w := hst
    refine thn_normal ?_
    refine wp_seq ?_
    refine gl (sts := []) (news := []) (sp := [.val 6 _]) [.g 0, .g 1, .g 2, .g 3, .g 4, .g 5, .o 0] hst (oc (ob_v rfl rfl (r_assign (has_nat 0 rfl))) o0) (fun a w hst => ?_)
    have hst : St B w0 47 [(0, _), (1, _), (5, _), (7, _), (8, _), (9, _), (6, _)] [] a w := hst
    refine thn_normal ?_
    refine wp_seq ?_
    refine wp_seq ?_
    refine gl (sts := []) (news := []) (sp := [.val 33 _, .val 34 _, .val 35 _]) [.g 0, .g 1, .g 2, .g 3, .g 4, .g 5, .g 6, .o 2] hst (oc (ob_v rfl rfl (r_move (gq 5 rfl))) (oc (ob_v rfl rfl (r_move (gq 4 rfl))) (oc (ob_v rfl rfl (r_lss (vq 0 rfl) (vq 1 rfl))) o0))) (fun a w hst => ?_)
    have hst : St B w0 47 [(0, _), (1, _), (5, _), (7, _), (8, _), (9, _), (6, _), (35, _)] [] a w := hst
    refine thn_normal ?_
    refine cond_join (fun a w =>  St B w0 47 [(0, EqV v0), (1, EqV v1), (5, OwnR w0.w.heap.size U32 1 [] (NL (digs i (dif l m i)))), (6, (NumA .u64 (((if l[i] < 1 - dif l m i / 4294967296 ^ i + m.getD i 0 then 1 else 0) : Nat) : Int)).va), (7, In (i : Nat)), (8, (NumA .u64 ((1 - dif l m i / 4294967296 ^ i + m.getD i 0 : Nat) : Int)).va), (9, (NumA .u64 (((if l[i] < 1 - dif l m i / 4294967296 ^ i + m.getD i 0 then l[i] + 4294967296 else l[i]) : Nat) : Int)).va)] [] a w) hst (List.mem_of_getElem? (i := 7) rfl) (fun hb2 => ?_) (fun hb2 => ?_) (fun a w hst => ?_)
    · refine wp_seq ?_
      refine gl (sts := []) (news := []) (sp := [.val 36 _, .val 37 _, .val 9 _]) [.g 0, .g 1, .g 2, .g 3, .g 4, .g 6, .o 2] hst (oc (ob_v rfl rfl (r_move (gq 5 rfl))) (oc (ob_v rfl rfl (r_add (vq 0 rfl) (has_nat 4294967296 rfl) (wadd64 (by omega)))) (oc (ob_v rfl rfl (r_assign (vq 1 rfl))) o0))) (fun a w hst => ?_)
      have hst : St B w0 47 [(0, _), (1, _), (5, _), (7, _), (8, _), (6, _), (9, _)] [] a w := hst
      refine thn_normal ?_
      refine gl (sts := []) (news := []) (sp := [.val 6 _]) [.g 0, .g 1, .g 2, .g 3, .g 4, .g 6, .o 0] hst (oc (ob_v rfl rfl (r_assign (has_nat 1 rfl))) o0) (fun a w hst => ?_)
      have hst : St B w0 47 [(0, _), (1, _), (5, _), (7, _), (8, _), (9, _), (6, _)] [] a w := hst
      refine thn_normal ?_
      have hst := St.sel hst [0, 1, 2, 6, 3, 4, 5]
      have hlt : l[i] < 1 - dif l m i / 4294967296 ^ i + m.getD i 0 := Int.ofNat_lt.1 (of_decide_eq_true hb2)
      rw [if_pos hlt, if_pos hlt]; exact hst
    · refine wp_skip ?_
      refine thn_normal ?_
      have hst := St.sel hst [0, 1, 2, 6, 3, 4, 5]
      have hlt : ¬ l[i] < 1 - dif l m i / 4294967296 ^ i + m.getD i 0 := fun h => of_decide_eq_false hb2 (Int.ofNat_lt.2 h)
      rw [if_neg hlt, if_neg hlt]; exact hst
    refine thn_normal ?_
    refine go_appL (sp := [.val 38 _, .val 39 _, .val 40 _, .val 41 _, .val 42 _, .val 43 _, .val 44 VT, .val 5 VT]) 6 [0, 1, 3, 4] 0 5 hst (oc (ob_v rfl rfl (r_move (gq 2 rfl))) (oc (ob_v rfl rfl (r_move (gq 6 rfl))) (oc (ob_v rfl rfl (r_move (gq 5 rfl))) (oc (ob_v rfl rfl (r_sub (vq 1 rfl) (vq 2 rfl) (wsub' (by split <;> omega) (by split <;> omega)))) (oc (ob_v rfl rfl (r_convk .u32 (by kernel_rfl) (by kernel_rfl) (vq 3 rfl) (wu32 (by split <;> omega)))) (oc (ob_v rfl rfl (r_slicem (l := [_]) (xs := [.tmp 42]) sl_22 (by kernel_rfl) nq nq ((okL_one (by split <;> omega))) (.cons (vq 4 rfl) .nil) rfl rfl)) o0)))))) rfl (by kernel_rfl) rfl rfl (by decide) rfl (by decide) rfl (fun _ _ h _ => (and_va h).2) Tryz.underlying22 e1 e2 e3 e4 e5 (by decide) (by simp only [List.length_map, digs_length, List.length_singleton]; omega) (by decide) (fun T hT => hT) (by decide) (fun A hA => by obtain ⟨_, _, rfl⟩ := List.mem_map.1 hA; rfl) (by kernel_rfl) nq nq (by kernel_rfl) (by kernel_rfl) (fun a w hst => ?_)
    have hst : St B w0 47 [(5, _), (0, _), (1, _), (6, _), (7, _)] [] a w := hst
    refine blk_normal ?_
    refine thn_normal ?_
    refine gl (sts := []) (news := []) (sp := [.val 14 _, .val 15 _, .val 7 _]) [.g 0, .g 1, .g 2, .g 3, .o 2] hst (oc (ob_v rfl rfl (r_move (gq 4 rfl))) (oc (ob_v rfl rfl (r_add (vq 0 rfl) has_num (wi_succ (by omega)))) (oc (ob_v rfl rfl (r_assign (vq 1 rfl))) o0))) (fun a w hst => ?_)
    have hst : St B w0 47 [(5, _), (0, _), (1, _), (6, _), (7, _)] [] a w := hst
    refine thn_normal ?_
    have hst := St.sel hst [1, 2, 0, 3, 4]
    exact ⟨n - 1, by omega, i + 1, by omega, St.wkG (A' := (NumA .u64 ((1 - dif l m (i + 1) / 4294967296 ^ (i + 1) : Nat) : Int)).va) (St.wkG (A' := OwnR w0.w.heap.size U32 1 [] (NL (digs (i + 1) (dif l m (i + 1))))) hst 2 rfl (wk_eq (congrArg (OwnR w0.w.heap.size U32 1 []) (sub_row hi hl hm)))) 3 rfl (wk_eq (congrArg (fun x : Nat => (NumA .u64 (x : Int)).va) (sub_car hi hl hm)))⟩
  · obtain rfl : i = l.length := by simp at hb0; omega
    have hst := St.wkG (A' := (MgB w0.w.heap.size (digs l.length (dif l m l.length))).va) hst 2 rfl (own_mgB (okL_digs _ _))
    refine wp_exit ?_
    refine thn_exit ?_
    refine thn_exit ?_
    refine blk_exit ?_
    refine thn_normal ?_
    refine wp_seq ?_
    refine gl (sts := []) (news := []) (sp := [.val 45 _, .val 46 _, .val 4 _]) [.o 2] hst (oc (ob_v rfl rfl (r_move (gq 2 rfl))) (oc (ob_v rfl rfl (r_call (xs := [.tmp 45]) (rtrim_c (famB w0.w.heap.size) _) (.cons (vq 0 rfl) .nil))) (oc (ob_v rfl rfl (r_assign (vq 1 rfl))) o0))) (fun a w hst => ?_)
    have hst : St B w0 47 [(4, _)] [] a w := hst
    refine thn_normal ?_
    refine wp_ret ?_
    refine ret_wk ?_ (ret_tmp rfl hst (List.mem_of_getElem? (i := 0) rfl))
    rw [sub_fin hl hml hv]; exact wk_id

theorem CnI.cn {P : Program} {f : FuncId} {pre : List VA} {mk : Nat → VA} {A : VA} (h : CnI P f pre mk) (hw : ∀ b, Wk (mk b) A) : Cn P f pre A := ⟨h.1, fun B w args hB ha => (h.2 B w args hB ha).mono fun e w' ⟨v, he, hv, hg⟩ => ⟨v, he, hw _ _ _ _ hv, hg⟩⟩
theorem rsub_c (l m : List Nat) (hls : l.length ≤ 10000000000) (hml : m.length ≤ l.length) (hv : val m ≤ val l) : Cn Tryz.prog 169 [(MgA l).va, (MgA m).va] (MgA (limbs (val l - val m))).va := (rsubB_c l m hls hml hv).cn fun _ => mgB_A

end Go.Proofs.YtmghfjcjcfaagaaGreat
