/- CavityFactors: for all fractions the law of chapter 12 on the factors of two mirrors answers true. No condition. -/
import Derived.Test.YtgjolcbehcjhcaaCavB
import Derived.Test.YtgjolcbehcjhcaaRows
import Derived.WalkKit
import Derived.ProofKit
import Derived.OpenShut
import Derived.ShutString
import Derived.ChangeOld
import Derived.Below
namespace Go.Proofs.Ytgjolcbehcjhcaa
open Go Go.RowKit
namespace LCavityFactors
theorem sl_111 : Sl Try.prog 111 26 4 := ⟨by kernel_rfl, by kernel_rfl⟩
theorem ty_26 : Ty Try.prog 26 4 true := ⟨by kernel_rfl, by kernel_rfl⟩
theorem ty_28 : Ty Try.prog 28 16 true := ⟨by kernel_rfl, by kernel_rfl⟩
end LCavityFactors
open LCavityFactors
def smF (x : RF) : Bool := !decide (fracSizeF x > 200)
theorem smF_no {x : RF} (h : decide (fracSizeF x > 200) = true) : smF x = false := by rw [smF, h]; rfl
theorem smF_yes {x : RF} (h : decide (fracSizeF x > 200) = false) : smF x = true := by rw [smF, h]; rfl
theorem all_some' {α : Type} {p : α → Bool} {l : List α} {j : Nat} (h : j < l.length) (h2 : p l[j] = false) : false = l.all p := (List.all_eq_false.2 ⟨_, List.getElem_mem h, by simp [h2]⟩).symm
theorem all_no' {α : Type} {p : α → Bool} {l : List α} {j : Nat} (h : j < l.length) (h1 : (l.take j).all p = true) (h2 : p l[j] = true) : (l.take (j + 1)).all p = true := by
  rw [List.take_succ_eq_append_getElem h, List.all_append, h1]
  simp [h2]

set_option maxRecDepth 100000 in
theorem small12_c (xs : List RF) : Cn Try.prog 19 [(SlA 26 [U32] (xs.map RFA)).va] (Bo (xs.all smF)) := by
  refine Cn.intro Try.func19 rfl (by kernel_rfl) (Nat.le_of_ble_eq_true (by kernel_rfl)) (fun B w0 a hst => ?_)
  have hst : St B w0 16 [(0, (SlA 26 [U32] (xs.map RFA)).va)] [] a w0.w := hst
  have hl := slA_lenm (hst.vals (0, (SlA 26 [U32] (xs.map RFA)).va) (List.mem_of_getElem? (i := 0) rfl))
  refine wp_seq ?_
  refine go_lin (sts := []) (news := []) (sp := [.val 2 _]) [.g 0, .o 0] hst (obs_cons (ob_v rfl rfl (r_assign has_bo)) (obs_nil)) (by kernel_rfl) (by kernel_rfl) (by kernel_rfl) (fun a w hst => ?_)
  have hst : St B w0 16 [(0, _), (2, _)] [] a w := hst
  refine thn_normal ?_
  refine wp_seq ?_
  refine wp_seq ?_
  refine go_lin (sts := []) (news := []) (sp := [.val 3 _]) [.g 0, .g 1, .o 0] hst (obs_cons (ob_v rfl rfl (r_assign has_num)) (obs_nil)) (by kernel_rfl) (by kernel_rfl) (by kernel_rfl) (fun a w hst => ?_)
  have hst : St B w0 16 [(0, _), (2, _), (3, _)] [] a w := hst
  refine thn_normal ?_
  refine wp_block ?_
  have hst := St.sel hst [0, 2]
  refine wp_loop_ghost (fun n a w => ∃ j : Nat, (n + j = xs.length ∧ (xs.take j).all smF = true) ∧ St B w0 16 [(0, (SlA 26 [U32] (xs.map RFA)).va), (3, In (j : Nat))] [] a w) (xs.length) ?_ ?_
  · exact ⟨0, ⟨by omega, rfl⟩, hst⟩
  intro n a w hI
  obtain ⟨j, ⟨hn, hno⟩, hst⟩ := hI
  refine wp_seq ?_
  refine wp_seq ?_
  refine go_lin (sts := []) (news := []) (sp := [.val 4 _, .val 5 _, .val 6 _, .val 7 _]) [.g 0, .g 1, .o 3] hst (obs_cons (ob_v rfl rfl (r_move (has_g 1 rfl (by kernel_rfl) (by kernel_rfl)))) (obs_cons (ob_v rfl rfl (r_move (has_g 0 rfl (by kernel_rfl) (by kernel_rfl)))) (obs_cons (ob_v rfl rfl (r_len Try.underlying111 (has_v 1 rfl (by kernel_rfl) (by kernel_rfl)))) (obs_cons (ob_v rfl rfl (r_lss (has_v 0 rfl (by kernel_rfl) (by kernel_rfl)) (has_v 2 rfl (by kernel_rfl) (by kernel_rfl)))) (obs_nil))))) (by kernel_rfl) (by kernel_rfl) (by kernel_rfl) (fun a w hst => ?_)
  have hst : St B w0 16 [(0, _), (3, _), (7, _)] [] a w := hst
  refine thn_normal ?_
  refine cond_of hst (List.mem_of_getElem? (i := 2) rfl) (fun hb0 => ?_) (fun hb0 => ?_)
  · have hj : j < xs.length := by rw [List.length_map] at hb0; have := of_decide_eq_true hb0; omega
    refine wp_skip ?_
    refine thn_normal ?_
    refine wp_seq ?_
    refine wp_block ?_
    refine wp_seq ?_
    refine go_lin (sts := []) (news := []) (sp := [.val 10 _, .val 11 _, .val 12 _, .val 13 _, .val 14 _, .val 15 _]) [.g 0, .g 1, .o 5] hst (obs_cons (ob_v rfl rfl (r_move (has_g 0 rfl (by kernel_rfl) (by kernel_rfl)))) (obs_cons (ob_v rfl rfl (r_move (has_g 1 rfl (by kernel_rfl) (by kernel_rfl)))) (obs_cons (ob_v rfl rfl (r_idx sl_111 (map_n fun _ => rfl) (has_v 0 rfl (by kernel_rfl) (by kernel_rfl)) (has_v 1 rfl (by kernel_rfl) (by kernel_rfl)) (map_at hj))) (obs_cons (ob_v rfl rfl (r_loade (has_v 2 rfl (by kernel_rfl) (by kernel_rfl)) ty_26)) (obs_cons (ob_v rfl rfl (r_call (xs := [.tmp 13]) (fracSize_c _) (.cons (has_v 3 rfl (by kernel_rfl) (by kernel_rfl)) .nil))) (obs_cons (ob_v rfl rfl (r_gtr (has_v 4 rfl (by kernel_rfl) (by kernel_rfl)) has_num)) (obs_nil))))))) (by kernel_rfl) (by kernel_rfl) (by kernel_rfl) (fun a w hst => ?_)
    have hst : St B w0 16 [(0, _), (3, _), (15, _)] [] a w := hst
    refine thn_normal ?_
    refine cond_of hst (List.mem_of_getElem? (i := 2) rfl) (fun hb1 => ?_) (fun hb1 => ?_)
    · refine wp_seq ?_
      refine go_lin (sts := []) (news := []) (sp := [.val 2 _]) [.g 0, .g 1, .o 0] hst (obs_cons (ob_v rfl rfl (r_assign has_bo)) (obs_nil)) (by kernel_rfl) (by kernel_rfl) (by kernel_rfl) (fun a w hst => ?_)
      have hst : St B w0 16 [(0, _), (3, _), (2, _)] [] a w := hst
      refine thn_normal ?_
      refine wp_ret ?_
      refine blk_ret ?_
      refine thn_ret ?_
      refine thn_ret ?_
      refine blk_ret ?_
      refine thn_ret ?_
      refine ret_wk ?_ (ret_tmp rfl hst (List.mem_of_getElem? (i := 2) rfl))
      rw [← all_some' hj (smF_no hb1)]; exact wk_id
    · refine wp_skip ?_
      refine blk_normal ?_
      refine thn_normal ?_
      refine go_lin (sts := []) (news := []) (sp := [.val 8 _, .val 9 _, .val 3 _]) [.g 0, .o 2] hst (obs_cons (ob_v rfl rfl (r_move (has_g 1 rfl (by kernel_rfl) (by kernel_rfl)))) (obs_cons (ob_v rfl rfl (r_add (has_v 0 rfl (by kernel_rfl) (by kernel_rfl)) has_num ((wi64 (by omega) (by omega)).trans (by omega : (_ : Int) = ((j + 1 : Nat) : Int))))) (obs_cons (ob_v rfl rfl (r_assign (has_v 1 rfl (by kernel_rfl) (by kernel_rfl)))) (obs_nil)))) (by kernel_rfl) (by kernel_rfl) (by kernel_rfl) (fun a w hst => ?_)
      have hst : St B w0 16 [(0, _), (3, _)] [] a w := hst
      refine thn_normal ?_
      have hst := St.sel hst [0, 1]
      exact ⟨n - 1, by omega, j + 1, ⟨by omega, all_no' hj hno (smF_yes hb1)⟩, hst⟩
  · obtain rfl : j = xs.length := by rw [List.length_map] at hb0; have := of_decide_eq_false hb0; omega
    refine wp_exit ?_
    refine thn_exit ?_
    refine thn_exit ?_
    refine blk_exit ?_
    refine thn_normal ?_
    refine wp_seq ?_
    refine go_lin (sts := []) (news := []) (sp := [.val 2 _]) [.o 0] hst (obs_cons (ob_v rfl rfl (r_assign has_bo)) (obs_nil)) (by kernel_rfl) (by kernel_rfl) (by kernel_rfl) (fun a w hst => ?_)
    have hst : St B w0 16 [(2, _)] [] a w := hst
    refine thn_normal ?_
    refine wp_ret ?_
    refine ret_wk ?_ (ret_tmp rfl hst (List.mem_of_getElem? (i := 0) rfl))
    rw [List.take_length] at hno; rw [hno]; exact wk_id

theorem mulF_l {r s : Rat} (hr : longQ r = false) (hs : longQ s = false) (hl : longQ (r * s) = false) : Cn Try.prog 23 [(RFA (rfOf r)).va, (RFA (rfOf s)).va] (FrR (rfOf (r * s), 0)) :=
  (mul_c (rfOf r) (rfOf s)).post (congrArg FrR (by
    unfold mulF doF
    rw [okX_of, okX_of, hr, hs, toQ_of, toQ_of]
    exact ansF_ok (longQ_false.1 hl)))
theorem subF_l {r s : Rat} (hr : longQ r = false) (hs : longQ s = false) (hl : longQ (r - s) = false) : Cn Try.prog 59 [(RFA (rfOf r)).va, (RFA (rfOf s)).va] (FrR (rfOf (r - s), 0)) :=
  (subF_c (rfOf r) (rfOf s)).post (congrArg FrR ((sub_of hr hs).trans (ansF_ok (longQ_false.1 hl))))
theorem tr_l {M : MQ} (hm : okM (rmOf M) = true) (hl : longQ (M.a + M.d) = false) : Cn Try.prog 22 [(RMA (rmOf M)).va] (FrR (rfOf (M.a + M.d), 0)) :=
  (trace_c (rmOf M)).post (congrArg FrR (by
    unfold trF asF kM
    rw [hm, toM_of]
    exact ansF_ok (longQ_false.1 hl)))
theorem bQ4 : bQ 1 (Rat.divInt 4 1) := ⟨Nat.le_of_ble_eq_true (by kernel_rfl), Nat.le_of_ble_eq_true (by kernel_rfl)⟩
theorem bQ2 : bQ 1 (Rat.divInt 2 1) := ⟨Nat.le_of_ble_eq_true (by kernel_rfl), Nat.le_of_ble_eq_true (by kernel_rfl)⟩
theorem bQ_neg {k : Nat} {x : Rat} (h : bQ k x) : bQ k (-x) := ⟨by rw [Rat.neg_num, lz_neg]; exact h.1, by rw [Rat.neg_den]; exact h.2⟩
theorem bQ_sub {c d : Nat} {x y : Rat} (hx : bQ c x) (hy : bQ d y) : bQ (c + d + 1) (x - y) := by
  have e : x - y = x + -y := by grind
  rw [e]
  exact bQ_add hx (bQ_neg hy)
theorem bQ_1 : bQ 1 1 := ⟨Nat.le_of_ble_eq_true (by kernel_rfl), Nat.le_of_ble_eq_true (by kernel_rfl)⟩
def twoX (P Q L : Rat) : MQ := mulQ (halfQ Q L) (halfQ P L)
def gQ (P L : Rat) : Rat := 1 - P * L
def fouQ (x : Rat) : Rat := x * Rat.divInt 4 1 - Rat.divInt 2 1
theorem two_tr (P Q L : Rat) : (twoX P Q L).a + (twoX P Q L).d = fouQ (gQ P L * gQ Q L) := by
  have e4 : Rat.divInt 4 1 = 4 := rfl
  have e2 : Rat.divInt 2 1 = 2 := rfl
  unfold twoX halfQ mulQ fouQ gQ
  rw [e4, e2]
  grind
theorem two_det (P Q L : Rat) : detM (twoX P Q L) = 1 := by
  unfold twoX
  rw [det_mul]
  have h : ∀ p l, detM (halfQ p l) = 1 := fun p l => by unfold detM halfQ; grind
  rw [h, h, Rat.one_mul]
/-- what is of sizes that are small. -/
theorem two_sz {P Q L : Rat} (hp : bQ 198 P) (hq : bQ 198 Q) (hl : bQ 198 L) : Ls (twoX P Q L) ∧ bQ 398 (gQ P L) ∧ bQ 398 (gQ Q L) := by
  have hc : ∀ {p}, bQ 198 p → bQ 397 (-(p + p)) := fun h => bQ_neg (bQ_add h h)
  have ha : ∀ {p}, bQ 198 p → bQ 597 (1 + -(p + p) * L) := fun h => bQ_add bQ_1 (bQ_mul (hc h) hl)
  refine ⟨⟨?_, ?_, ?_, ?_⟩, ?_, ?_⟩
  · exact bQ_long (bQ_add (bQ_mul (ha hq) (ha hp)) (bQ_mul hl (hc hp))) (by decide)
  · exact bQ_long (bQ_add (bQ_mul (ha hq) hl) (bQ_mul hl bQ_1)) (by decide)
  · exact bQ_long (bQ_add (bQ_mul (hc hq) (ha hp)) (bQ_mul bQ_1 (hc hp))) (by decide)
  · exact bQ_long (bQ_add (bQ_mul (hc hq) hl) (bQ_mul bQ_1 bQ_1)) (by decide)
  · have := bQ_sub bQ_1 (bQ_mul hp hl)
    exact ⟨Nat.le_trans this.1 (by decide), Nat.le_trans this.2 (by decide)⟩
  · have := bQ_sub bQ_1 (bQ_mul hq hl)
    exact ⟨Nat.le_trans this.1 (by decide), Nat.le_trans this.2 (by decide)⟩
theorem sm_sz {r : Rat} (hl : longQ r = false) (h : smF (rfOf r) = true) : bQ 198 r := by
  unfold smF at h
  rw [frac_sz hl, Bool.not_eq_true', decide_eq_false_iff_not] at h
  have := bQ_sz r
  exact ⟨Nat.le_trans this.1 (by omega), Nat.le_trans this.2 (by omega)⟩
/-- two mirrors of small numbers: what both calls tell; or both refuse alike. -/
theorem cf_in {p q l : RF} (h : (![p, q, l].all smF) = false) : ((twoF p q l).2 = 1 ∧ (facF p q l).2.2 = 1) ∨
    ∃ P Q L, p = rfOf P ∧ q = rfOf Q ∧ l = rfOf L ∧ bQ 198 P ∧ bQ 198 Q ∧ bQ 198 L ∧ twoF p q l = (rmOf (twoX P Q L), 0) ∧ facF p q l = (rfOf (gQ P L), rfOf (gQ Q L), 0) := by
  cases hm : mayP p q l with
  | false => exact .inl ⟨by unfold twoF; rw [hm]; rfl, by unfold facF; rw [hm]; rfl⟩
  | true =>
    have hm' := hm
    unfold mayP at hm'
    simp only [List.all_cons, List.all_nil, Bool.and_true, Bool.and_eq_true] at hm'
    obtain ⟨P, rfl, lp⟩ := ok_rf hm'.1.1
    obtain ⟨Q, rfl, lq⟩ := ok_rf hm'.1.2.1
    obtain ⟨L, rfl, ll⟩ := ok_rf hm'.1.2.2
    simp only [List.all_cons, List.all_nil, Bool.and_true, Bool.not_eq_false', Bool.and_eq_true] at h
    have bp := sm_sz lp h.1
    have bq := sm_sz lq h.2.1
    have bl := sm_sz ll h.2.2
    obtain ⟨h1, h2, h3⟩ := two_sz bp bq bl
    refine .inr ⟨P, Q, L, rfl, rfl, rfl, bp, bq, bl, ?_, ?_⟩
    · unfold twoF
      rw [hm, if_pos rfl, toQ_of, toQ_of, toQ_of]
      exact asM_of rfl h1
    · unfold facF
      rw [hm, if_pos rfl, toQ_of, toQ_of, toQ_of]
      have e1 : longQ (1 - P * L) = false := bQ_long h2 (by decide)
      have e2 : longQ (1 - Q * L) = false := bQ_long h3 (by decide)
      simp only [List.any_cons, List.any_nil, e1, e2, Bool.or_self]
      rfl
theorem sq_lt {x : Rat} : (x * 4 - 2) * (x * 4 - 2) < 4 ↔ 0 < x ∧ x < 1 := by
  constructor
  · intro h
    have h1 : x * (x - 1) < 0 := by grind
    refine ⟨Rat.not_le.1 fun hx => ?_, Rat.not_le.1 fun hx => ?_⟩
    · have h2 : 0 ≤ (-x) * (1 - x) := Rat.mul_nonneg (by grind) (by grind)
      grind
    · have h2 : 0 ≤ x * (x - 1) := Rat.mul_nonneg (by grind) (by grind)
      grind
  · rintro ⟨h1, h2⟩
    have h3 : 0 < x * (1 - x) := Rat.mul_pos h1 (by grind)
    grind
theorem cm_lt {x y : Rat} : cmQ x y < 0 ↔ x < y := by
  unfold cmQ
  by_cases h : x < y
  · rw [if_pos h]; exact ⟨fun _ => h, fun _ => by decide⟩
  · rw [if_neg h]
    refine ⟨fun h2 => ?_, fun h2 => absurd h2 h⟩
    split at h2 <;> exact absurd h2 (by decide)
theorem ki_one {m : MQ} : (kiQ m == 1) = decide (trsQ m < 4) := by
  have e4 : Rat.divInt 4 1 = 4 := rfl
  unfold kiQ
  rw [e4]
  by_cases h : cmQ (trsQ m) 4 < 0
  · rw [if_pos h, decide_eq_true (cm_lt.1 h)]; rfl
  · rw [if_neg h, decide_eq_false (fun h2 => h (cm_lt.2 h2))]
    repeat' split
    all_goals rfl
theorem cf_kind {P Q L : Rat} (hl : longQ (gQ P L * gQ Q L) = false) : ((kiQ (twoX P Q L) == 1) == (decide (sgF (rfOf (gQ P L * gQ Q L)) > 0) && decide (cmF (rfOf (gQ P L * gQ Q L)) (rfOf (Rat.divInt 1 1)) < 0))) = true := by
  have e1 : Rat.divInt 1 1 = 1 := rfl
  have e4 : Rat.divInt 4 1 = 4 := rfl
  have e2 : Rat.divInt 2 1 = 2 := rfl
  rw [ki_one, sgF_of hl, e1, cmF_of hl long_one]
  have et : trsQ (twoX P Q L) = (gQ P L * gQ Q L * 4 - 2) * (gQ P L * gQ Q L * 4 - 2) := by
    unfold trsQ
    rw [two_tr]
    unfold fouQ
    rw [e4, e2]
  rw [et, beq_iff_eq, Bool.eq_iff_iff, decide_eq_true_eq, Bool.and_eq_true, decide_eq_true_eq, decide_eq_true_eq, cm_lt, sq_lt]
  have hs : (gQ P L * gQ Q L).num.sign > 0 ↔ 0 < gQ P L * gQ Q L := by
    have := sgn_le (x := gQ P L * gQ Q L)
    constructor
    · intro h; exact Decidable.byContradiction fun h2 => by have := this.2 h2; omega
    · intro h; exact Decidable.byContradiction fun h2 => (this.1 (by omega)) h
  rw [hs]
theorem cf_end {x y : RF} {c : Bool} (h1 : x = y) (h2 : c = true) : ((((0 : Int) == 0) && ((0 : Int) == 0)) && decide (x = y) && c) = true := by
  subst h1 h2
  simp
theorem cf_no {a b : Int} (h1 : a = 0) (h2 : b = 0) (h : ((a != 0) || (b != 0)) = true) : False := by subst h1 h2; exact absurd h (by decide)

set_option maxRecDepth 100000 in
theorem fourth_l {g o : Rat} (hg : bQ 398 g) (ho : bQ 398 o) : Cn Try.prog 28 [(RFA (rfOf g)).va, (RFA (rfOf o)).va] ((RFA (rfOf (fouQ (g * o)))).va) := by
  have h1 := bQ_mul hg ho
  have h2 := bQ_mul h1 bQ4
  have h3 := bQ_sub h2 bQ2
  refine Cn.intro Try.func28 rfl (by kernel_rfl) (Nat.le_of_ble_eq_true (by kernel_rfl)) (fun B w0 a hst => ?_)
  have hst : St B w0 38 [(0, (RFA (rfOf g)).va), (1, (RFA (rfOf o)).va)] [] a w0.w := hst
  refine wp_seq ?_
  refine go_lin (sts := []) (news := [⟨2, 26, ptrH, some 0, _, none⟩, ⟨3, 26, ptrH, some 1, _, none⟩, ⟨4, 26, ptrH, some 2, _, none⟩]) (sp := [.alc 0, .alc 1, .alc 2]) [] hst (obs_cons (ob_box rfl rfl rfl (has_g 0 rfl (by kernel_rfl) (by kernel_rfl))) (obs_cons (ob_box rfl rfl rfl (has_g 1 rfl (by kernel_rfl) (by kernel_rfl))) (obs_cons (ob_alc rfl rfl rfl (Str.zero str_frac)) (obs_nil)))) (by kernel_rfl) (by kernel_rfl) (by kernel_rfl) (fun a w hst => ?_)
  have hst : St B w0 38 [] [⟨2, 26, ptrH, _⟩, ⟨3, 26, ptrH, _⟩, ⟨4, 26, ptrH, _⟩] a w := hst
  refine thn_normal ?_
  refine wp_seq ?_
  refine go_lin (sts := [none, none, none]) (news := [⟨5, 26, ptrH, some 4, _, some (5, _)⟩]) (sp := [.val 12 _, .val 11 _, .val 13 _, .val 14 _, .alc 3, .sto 3, .val 6 _]) [] hst (obs_cons (ob_v rfl rfl (r_call (xs := [.const (.int .i64 (4)), .const (.int .i64 (1))]) (ofQ_c (by decide) (by decide) (by decide) (by decide) (by decide)) (.cons has_num (.cons has_num .nil)))) (obs_cons (ob_v rfl rfl (r_move (has_v 0 rfl (by kernel_rfl) (by kernel_rfl)))) (obs_cons (ob_v rfl rfl (r_ex0 (has_v 1 rfl (by kernel_rfl) (by kernel_rfl)))) (obs_cons (ob_v rfl rfl (r_ex1 (has_v 1 rfl (by kernel_rfl) (by kernel_rfl)))) (obs_cons (ob_alc rfl rfl rfl (Str.zero str_frac)) (obs_cons (ob_sto rfl rfl rfl (has_v 2 rfl (by kernel_rfl) (by kernel_rfl)) ty_26 rfl) (obs_cons (ob_v rfl rfl (r_assign (has_v 3 rfl (by kernel_rfl) (by kernel_rfl)))) (obs_nil)))))))) (by kernel_rfl) (by kernel_rfl) (by kernel_rfl) (fun a w hst => ?_)
  have hst : St B w0 38 [] [⟨2, 26, ptrH, _⟩, ⟨3, 26, ptrH, _⟩, ⟨4, 26, ptrH, _⟩, ⟨5, 26, ptrH, _⟩] a w := hst
  refine thn_normal ?_
  refine wp_seq ?_
  refine go_lin (sts := [none, none, none, none]) (news := [⟨7, 26, ptrH, some 4, _, some (5, _)⟩]) (sp := [.val 16 _, .val 15 _, .val 17 _, .val 18 _, .alc 4, .sto 4, .val 8 _]) [] hst (obs_cons (ob_v rfl rfl (r_call (xs := [.const (.int .i64 (2)), .const (.int .i64 (1))]) (ofQ_c (by decide) (by decide) (by decide) (by decide) (by decide)) (.cons has_num (.cons has_num .nil)))) (obs_cons (ob_v rfl rfl (r_move (has_v 0 rfl (by kernel_rfl) (by kernel_rfl)))) (obs_cons (ob_v rfl rfl (r_ex0 (has_v 1 rfl (by kernel_rfl) (by kernel_rfl)))) (obs_cons (ob_v rfl rfl (r_ex1 (has_v 1 rfl (by kernel_rfl) (by kernel_rfl)))) (obs_cons (ob_alc rfl rfl rfl (Str.zero str_frac)) (obs_cons (ob_sto rfl rfl rfl (has_v 2 rfl (by kernel_rfl) (by kernel_rfl)) ty_26 rfl) (obs_cons (ob_v rfl rfl (r_assign (has_v 3 rfl (by kernel_rfl) (by kernel_rfl)))) (obs_nil)))))))) (by kernel_rfl) (by kernel_rfl) (by kernel_rfl) (fun a w hst => ?_)
  have hst : St B w0 38 [] [⟨2, 26, ptrH, _⟩, ⟨3, 26, ptrH, _⟩, ⟨4, 26, ptrH, _⟩, ⟨5, 26, ptrH, _⟩, ⟨7, 26, ptrH, _⟩] a w := hst
  refine thn_normal ?_
  refine wp_seq ?_
  refine go_lin (sts := [none, none, none, none, none]) (news := [⟨9, 26, ptrH, some 6, _, some (7, _)⟩]) (sp := [.val 20 _, .val 21 _, .val 22 _, .val 19 _, .val 23 _, .val 24 _, .alc 5, .sto 5, .val 10 _]) [] hst (obs_cons (ob_v rfl rfl (r_load (loc_at0 0 rfl (by kernel_rfl)) ty_26)) (obs_cons (ob_v rfl rfl (r_load (loc_at0 1 rfl (by kernel_rfl)) ty_26)) (obs_cons (ob_v rfl rfl (r_call (xs := [.tmp 20, .tmp 21]) (mulF_l (bQ_long hg (by decide)) (bQ_long ho (by decide)) (bQ_long h1 (by decide))) (.cons (has_v 0 rfl (by kernel_rfl) (by kernel_rfl)) (.cons (has_v 1 rfl (by kernel_rfl) (by kernel_rfl)) .nil)))) (obs_cons (ob_v rfl rfl (r_move (has_v 2 rfl (by kernel_rfl) (by kernel_rfl)))) (obs_cons (ob_v rfl rfl (r_ex0 (has_v 3 rfl (by kernel_rfl) (by kernel_rfl)))) (obs_cons (ob_v rfl rfl (r_ex1 (has_v 3 rfl (by kernel_rfl) (by kernel_rfl)))) (obs_cons (ob_alc rfl rfl rfl (Str.zero str_frac)) (obs_cons (ob_sto rfl rfl rfl (has_v 4 rfl (by kernel_rfl) (by kernel_rfl)) ty_26 rfl) (obs_cons (ob_v rfl rfl (r_assign (has_v 5 rfl (by kernel_rfl) (by kernel_rfl)))) (obs_nil)))))))))) (by kernel_rfl) (by kernel_rfl) (by kernel_rfl) (fun a w hst => ?_)
  have hst : St B w0 38 [] [⟨2, 26, ptrH, _⟩, ⟨3, 26, ptrH, _⟩, ⟨4, 26, ptrH, _⟩, ⟨5, 26, ptrH, _⟩, ⟨7, 26, ptrH, _⟩, ⟨9, 26, ptrH, _⟩] a w := hst
  refine thn_normal ?_
  refine wp_seq ?_
  refine go_lin (sts := [none, none, none, none, none, some (6, _)]) (news := []) (sp := [.val 26 _, .val 27 _, .val 28 _, .val 25 _, .val 29 _, .val 30 _, .sto 5]) [] hst (obs_cons (ob_v rfl rfl (r_load (loc_at0 5 rfl (by kernel_rfl)) ty_26)) (obs_cons (ob_v rfl rfl (r_load (loc_at0 3 rfl (by kernel_rfl)) ty_26)) (obs_cons (ob_v rfl rfl (r_call (xs := [.tmp 26, .tmp 27]) (mulF_l (bQ_long h1 (by decide)) (bQ_long bQ4 (by decide)) (bQ_long h2 (by decide))) (.cons (has_v 0 rfl (by kernel_rfl) (by kernel_rfl)) (.cons (has_v 1 rfl (by kernel_rfl) (by kernel_rfl)) .nil)))) (obs_cons (ob_v rfl rfl (r_move (has_v 2 rfl (by kernel_rfl) (by kernel_rfl)))) (obs_cons (ob_v rfl rfl (r_ex0 (has_v 3 rfl (by kernel_rfl) (by kernel_rfl)))) (obs_cons (ob_v rfl rfl (r_ex1 (has_v 3 rfl (by kernel_rfl) (by kernel_rfl)))) (obs_cons (ob_sto rfl rfl rfl (has_v 4 rfl (by kernel_rfl) (by kernel_rfl)) ty_26 rfl) (obs_nil)))))))) (by kernel_rfl) (by kernel_rfl) (by kernel_rfl) (fun a w hst => ?_)
  have hst : St B w0 38 [] [⟨2, 26, ptrH, _⟩, ⟨3, 26, ptrH, _⟩, ⟨4, 26, ptrH, _⟩, ⟨5, 26, ptrH, _⟩, ⟨7, 26, ptrH, _⟩, ⟨9, 26, ptrH, _⟩] a w := hst
  refine thn_normal ?_
  refine wp_seq ?_
  refine go_lin (sts := [none, none, none, none, none, some (6, _)]) (news := []) (sp := [.val 32 _, .val 33 _, .val 34 _, .val 31 _, .val 35 _, .val 36 _, .sto 5]) [] hst (obs_cons (ob_v rfl rfl (r_load (loc_at0 5 rfl (by kernel_rfl)) ty_26)) (obs_cons (ob_v rfl rfl (r_load (loc_at0 4 rfl (by kernel_rfl)) ty_26)) (obs_cons (ob_v rfl rfl (r_call (xs := [.tmp 32, .tmp 33]) (subF_l (bQ_long h2 (by decide)) (bQ_long bQ2 (by decide)) (bQ_long h3 (by decide))) (.cons (has_v 0 rfl (by kernel_rfl) (by kernel_rfl)) (.cons (has_v 1 rfl (by kernel_rfl) (by kernel_rfl)) .nil)))) (obs_cons (ob_v rfl rfl (r_move (has_v 2 rfl (by kernel_rfl) (by kernel_rfl)))) (obs_cons (ob_v rfl rfl (r_ex0 (has_v 3 rfl (by kernel_rfl) (by kernel_rfl)))) (obs_cons (ob_v rfl rfl (r_ex1 (has_v 3 rfl (by kernel_rfl) (by kernel_rfl)))) (obs_cons (ob_sto rfl rfl rfl (has_v 4 rfl (by kernel_rfl) (by kernel_rfl)) ty_26 rfl) (obs_nil)))))))) (by kernel_rfl) (by kernel_rfl) (by kernel_rfl) (fun a w hst => ?_)
  have hst : St B w0 38 [] [⟨2, 26, ptrH, _⟩, ⟨3, 26, ptrH, _⟩, ⟨4, 26, ptrH, _⟩, ⟨5, 26, ptrH, _⟩, ⟨7, 26, ptrH, _⟩, ⟨9, 26, ptrH, _⟩] a w := hst
  refine thn_normal ?_
  refine wp_seq ?_
  refine go_lin (sts := [none, none, some (1, _), none, none, none]) (news := []) (sp := [.val 37 _, .sto 2]) [] hst (obs_cons (ob_v rfl rfl (r_load (loc_at0 5 rfl (by kernel_rfl)) ty_26)) (obs_cons (ob_sto rfl rfl rfl (has_v 0 rfl (by kernel_rfl) (by kernel_rfl)) ty_26 rfl) (obs_nil))) (by kernel_rfl) (by kernel_rfl) (by kernel_rfl) (fun a w hst => ?_)
  have hst : St B w0 38 [] [⟨2, 26, ptrH, _⟩, ⟨3, 26, ptrH, _⟩, ⟨4, 26, ptrH, _⟩, ⟨5, 26, ptrH, _⟩, ⟨7, 26, ptrH, _⟩, ⟨9, 26, ptrH, _⟩] a w := hst
  refine thn_normal ?_
  refine wp_ret ?_
  refine ret_wk ?_ (ret_cell rfl hst (List.mem_of_getElem? (i := 2) rfl) ty_26)
  exact wk_id

set_option maxRecDepth 100000 in
set_option maxHeartbeats 4000000 in
theorem factors_w (p q l : RF) : Cn Try.prog 4 [(RFA p).va, (RFA q).va, (RFA l).va] (Bo true) := by
  refine Cn.intro Try.func4 rfl (by kernel_rfl) (Nat.le_of_ble_eq_true (by kernel_rfl)) (fun B w0 a hst => ?_)
  have hst : St B w0 106 [(0, (RFA p).va), (1, (RFA q).va), (2, (RFA l).va)] [] a w0.w := hst
  refine wp_seq ?_
  refine go_lin (sts := []) (news := [⟨3, 26, ptrH, some 0, _, none⟩, ⟨4, 26, ptrH, some 1, _, none⟩, ⟨5, 26, ptrH, some 2, _, none⟩]) (sp := [.alc 0, .alc 1, .alc 2, .val 6 _]) [.o 3] hst (obs_cons (ob_box rfl rfl rfl (has_g 0 rfl (by kernel_rfl) (by kernel_rfl))) (obs_cons (ob_box rfl rfl rfl (has_g 1 rfl (by kernel_rfl) (by kernel_rfl))) (obs_cons (ob_box rfl rfl rfl (has_g 2 rfl (by kernel_rfl) (by kernel_rfl))) (obs_cons (ob_v rfl rfl (r_assign has_bo)) (obs_nil))))) (by kernel_rfl) (by kernel_rfl) (by kernel_rfl) (fun a w hst => ?_)
  have hst : St B w0 106 [(6, _)] [⟨3, 26, ptrH, _⟩, ⟨4, 26, ptrH, _⟩, ⟨5, 26, ptrH, _⟩] a w := hst
  refine thn_normal ?_
  refine wp_seq ?_
  refine wp_seq ?_
  refine go_lin (sts := [none, none, none]) (news := []) (sp := [.val 21 _, .val 22 _, .val 23 _, .val 24 _, .val 25 _, .val 26 _]) [.g 0, .o 5] hst (obs_cons (ob_v rfl rfl (r_load (loc_at0 0 rfl (by kernel_rfl)) ty_26)) (obs_cons (ob_v rfl rfl (r_load (loc_at0 1 rfl (by kernel_rfl)) ty_26)) (obs_cons (ob_v rfl rfl (r_load (loc_at0 2 rfl (by kernel_rfl)) ty_26)) (obs_cons (ob_v rfl rfl (r_slice (D := [U32]) (l := [_, _, _]) (xs := [.tmp 21, .tmp 22, .tmp 23]) (nd_ok (by kernel_rfl)) sl_111 (by kernel_rfl) (n_ok (by kernel_rfl)) (Nat.le_of_ble_eq_true (by kernel_rfl)) (Nat.le_of_ble_eq_true (by kernel_rfl)) (Nat.le_of_ble_eq_true (by kernel_rfl)) (.cons (has_v 0 rfl (by kernel_rfl) (by kernel_rfl)) (.cons (has_v 1 rfl (by kernel_rfl) (by kernel_rfl)) (.cons (has_v 2 rfl (by kernel_rfl) (by kernel_rfl)) .nil))) rfl rfl)) (obs_cons (ob_v rfl rfl (r_call (xs := [.tmp 24]) (small12_c [_, _, _]) (.cons (has_v 3 rfl (by kernel_rfl) (by kernel_rfl)) .nil))) (obs_cons (ob_v rfl rfl (r_not (has_v 4 rfl (by kernel_rfl) (by kernel_rfl)))) (obs_nil))))))) (by kernel_rfl) (by kernel_rfl) (by kernel_rfl) (fun a w hst => ?_)
  have hst : St B w0 106 [(6, _), (26, _)] [⟨3, 26, ptrH, _⟩, ⟨4, 26, ptrH, _⟩, ⟨5, 26, ptrH, _⟩] a w := hst
  refine thn_normal ?_
  refine cond_of hst (List.mem_of_getElem? (i := 1) rfl) (fun hb0 => ?_) (fun hb0 => ?_)
  · refine wp_seq ?_
    refine go_lin (sts := [none, none, none]) (news := []) (sp := [.val 27 _, .val 6 _]) [.o 1] hst (obs_cons (ob_v rfl rfl (r_call (xs := []) alive12_c .nil)) (obs_cons (ob_v rfl rfl (r_assign (has_v 0 rfl (by kernel_rfl) (by kernel_rfl)))) (obs_nil))) (by kernel_rfl) (by kernel_rfl) (by kernel_rfl) (fun a w hst => ?_)
    have hst : St B w0 106 [(6, _)] [⟨3, 26, ptrH, _⟩, ⟨4, 26, ptrH, _⟩, ⟨5, 26, ptrH, _⟩] a w := hst
    refine thn_normal ?_
    refine wp_ret ?_
    refine thn_ret ?_
    refine ret_wk ?_ (ret_tmp rfl hst (List.mem_of_getElem? (i := 0) rfl))
    exact wk_id
  · have hin := cf_in hb0
    refine wp_skip ?_
    refine thn_normal ?_
    refine wp_seq ?_
    refine go_lin (sts := [none, none, none]) (news := [⟨7, 28, ptrH, some 7, _, some (8, _)⟩]) (sp := [.val 29 _, .val 30 _, .val 31 _, .val 32 _, .val 28 _, .val 33 _, .val 34 _, .alc 3, .sto 3, .val 8 _]) [.g 0, .o 9] hst (obs_cons (ob_v rfl rfl (r_load (loc_at0 0 rfl (by kernel_rfl)) ty_26)) (obs_cons (ob_v rfl rfl (r_load (loc_at0 1 rfl (by kernel_rfl)) ty_26)) (obs_cons (ob_v rfl rfl (r_load (loc_at0 2 rfl (by kernel_rfl)) ty_26)) (obs_cons (ob_v rfl rfl (r_call (xs := [.tmp 29, .tmp 30, .tmp 31]) (two_c _ _ _) (.cons (has_v 0 rfl (by kernel_rfl) (by kernel_rfl)) (.cons (has_v 1 rfl (by kernel_rfl) (by kernel_rfl)) (.cons (has_v 2 rfl (by kernel_rfl) (by kernel_rfl)) .nil))))) (obs_cons (ob_v rfl rfl (r_move (has_v 3 rfl (by kernel_rfl) (by kernel_rfl)))) (obs_cons (ob_v rfl rfl (r_ex0 (has_v 4 rfl (by kernel_rfl) (by kernel_rfl)))) (obs_cons (ob_v rfl rfl (r_ex1 (has_v 4 rfl (by kernel_rfl) (by kernel_rfl)))) (obs_cons (ob_alc rfl rfl rfl (Str.zero str_matrix)) (obs_cons (ob_sto rfl rfl rfl (has_v 5 rfl (by kernel_rfl) (by kernel_rfl)) ty_28 rfl) (obs_cons (ob_v rfl rfl (r_assign (has_v 6 rfl (by kernel_rfl) (by kernel_rfl)))) (obs_nil))))))))))) (by kernel_rfl) (by kernel_rfl) (by kernel_rfl) (fun a w hst => ?_)
    have hst : St B w0 106 [(6, _), (8, _)] [⟨3, 26, ptrH, _⟩, ⟨4, 26, ptrH, _⟩, ⟨5, 26, ptrH, _⟩, ⟨7, 28, ptrH, _⟩] a w := hst
    refine thn_normal ?_
    refine wp_seq ?_
    refine go_lin (sts := [none, none, none, none]) (news := [⟨9, 26, ptrH, some 8, _, some (10, _)⟩, ⟨10, 26, ptrH, some 9, _, some (11, _)⟩]) (sp := [.val 36 _, .val 37 _, .val 38 _, .val 39 _, .val 35 _, .val 40 _, .val 41 _, .val 42 _, .alc 4, .alc 5, .sto 4, .sto 5, .val 11 _]) [.g 0, .g 1, .o 12] hst (obs_cons (ob_v rfl rfl (r_load (loc_at0 0 rfl (by kernel_rfl)) ty_26)) (obs_cons (ob_v rfl rfl (r_load (loc_at0 1 rfl (by kernel_rfl)) ty_26)) (obs_cons (ob_v rfl rfl (r_load (loc_at0 2 rfl (by kernel_rfl)) ty_26)) (obs_cons (ob_v rfl rfl (r_call (xs := [.tmp 36, .tmp 37, .tmp 38]) (factors_c _ _ _) (.cons (has_v 0 rfl (by kernel_rfl) (by kernel_rfl)) (.cons (has_v 1 rfl (by kernel_rfl) (by kernel_rfl)) (.cons (has_v 2 rfl (by kernel_rfl) (by kernel_rfl)) .nil))))) (obs_cons (ob_v rfl rfl (r_move (has_v 3 rfl (by kernel_rfl) (by kernel_rfl)))) (obs_cons (ob_v rfl rfl (r_ex0 (has_v 4 rfl (by kernel_rfl) (by kernel_rfl)))) (obs_cons (ob_v rfl rfl (r_ex1 (has_v 4 rfl (by kernel_rfl) (by kernel_rfl)))) (obs_cons (ob_v rfl rfl (r_ex2 (has_v 4 rfl (by kernel_rfl) (by kernel_rfl)))) (obs_cons (ob_alc rfl rfl rfl (Str.zero str_frac)) (obs_cons (ob_alc rfl rfl rfl (Str.zero str_frac)) (obs_cons (ob_sto rfl rfl rfl (has_v 5 rfl (by kernel_rfl) (by kernel_rfl)) ty_26 rfl) (obs_cons (ob_sto rfl rfl rfl (has_v 6 rfl (by kernel_rfl) (by kernel_rfl)) ty_26 rfl) (obs_cons (ob_v rfl rfl (r_assign (has_v 7 rfl (by kernel_rfl) (by kernel_rfl)))) (obs_nil)))))))))))))) (by kernel_rfl) (by kernel_rfl) (by kernel_rfl) (fun a w hst => ?_)
    have hst : St B w0 106 [(6, _), (8, _), (11, _)] [⟨3, 26, ptrH, _⟩, ⟨4, 26, ptrH, _⟩, ⟨5, 26, ptrH, _⟩, ⟨7, 28, ptrH, _⟩, ⟨9, 26, ptrH, _⟩, ⟨10, 26, ptrH, _⟩] a w := hst
    refine thn_normal ?_
    refine wp_seq ?_
    refine wp_seq ?_
    refine go_lin (sts := [none, none, none, none, none, none]) (news := []) (sp := [.val 43 _, .val 44 _, .val 45 _, .val 46 (Wh (_ = false) _), .val 47 (Wh (_ = false) _), .val 48 _]) [.g 0, .g 1, .g 2, .o 5] hst (obs_cons (ob_v rfl rfl (r_move (has_g 1 rfl (by kernel_rfl) (by kernel_rfl)))) (obs_cons (ob_v rfl rfl (r_neq (has_v 0 rfl (by kernel_rfl) (by kernel_rfl)) has_num)) (obs_cons (ob_v rfl rfl (r_move (has_v 1 rfl (by kernel_rfl) (by kernel_rfl)))) (obs_cons (ob_gd rfl rfl rfl (has_v 2 rfl (by kernel_rfl) (by kernel_rfl)) (Nat.le_of_ble_eq_true (by kernel_rfl)) (fun hg => r_move (has_g 2 rfl (by kernel_rfl) (by kernel_rfl)))) (obs_cons (ob_gd rfl rfl rfl (has_v 2 rfl (by kernel_rfl) (by kernel_rfl)) (Nat.le_of_ble_eq_true (by kernel_rfl)) (fun hg => r_neq (has_wh (has_v 3 rfl (by kernel_rfl) (by kernel_rfl)) hg) has_num)) (obs_cons (ob_v rfl rfl (r_or (has_v 2 rfl (by kernel_rfl) (by kernel_rfl)) (has_v 4 rfl (by kernel_rfl) (by kernel_rfl)))) (obs_nil))))))) (by kernel_rfl) (by kernel_rfl) (by kernel_rfl) (fun a w hst => ?_)
    have hst : St B w0 106 [(6, _), (8, _), (11, _), (48, _)] [⟨3, 26, ptrH, _⟩, ⟨4, 26, ptrH, _⟩, ⟨5, 26, ptrH, _⟩, ⟨7, 28, ptrH, _⟩, ⟨9, 26, ptrH, _⟩, ⟨10, 26, ptrH, _⟩] a w := hst
    refine thn_normal ?_
    refine cond_of hst (List.mem_of_getElem? (i := 3) rfl) (fun hb1 => ?_) (fun hb1 => ?_)
    · have hr : (twoF p q l).2 = 1 ∧ (facF p q l).2.2 = 1 := by
        rcases hin with h | ⟨P, Q, L, _, _, _, _, _, _, h1, h2⟩
        · exact h
        · exact (cf_no (congrArg Prod.snd h1) (congrArg (fun r => r.2.2) h2) hb1).elim
      refine wp_seq ?_
      refine go_lin (sts := [none, none, none, none, none, none]) (news := []) (sp := [.val 49 _, .val 50 _, .val 51 _, .val 52 _, .val 53 (Wh (_ = true) _), .val 54 _, .val 6 _]) [.o 6] hst (obs_cons (ob_v rfl rfl (r_move (has_g 1 rfl (by kernel_rfl) (by kernel_rfl)))) (obs_cons (ob_v rfl rfl (r_move (has_g 2 rfl (by kernel_rfl) (by kernel_rfl)))) (obs_cons (ob_v rfl rfl (r_eql (has_v 0 rfl (by kernel_rfl) (by kernel_rfl)) (has_v 1 rfl (by kernel_rfl) (by kernel_rfl)))) (obs_cons (ob_v rfl rfl (r_move (has_v 2 rfl (by kernel_rfl) (by kernel_rfl)))) (obs_cons (ob_gd rfl rfl rfl (has_v 3 rfl (by kernel_rfl) (by kernel_rfl)) (Nat.le_of_ble_eq_true (by kernel_rfl)) (fun hg => r_call (xs := []) alive12_c .nil)) (obs_cons (ob_v rfl rfl (r_and (has_v 3 rfl (by kernel_rfl) (by kernel_rfl)) (has_v 4 rfl (by kernel_rfl) (by kernel_rfl)))) (obs_cons (ob_v rfl rfl (r_assign (has_v 5 rfl (by kernel_rfl) (by kernel_rfl)))) (obs_nil)))))))) (by kernel_rfl) (by kernel_rfl) (by kernel_rfl) (fun a w hst => ?_)
      have hst : St B w0 106 [(6, _)] [⟨3, 26, ptrH, _⟩, ⟨4, 26, ptrH, _⟩, ⟨5, 26, ptrH, _⟩, ⟨7, 28, ptrH, _⟩, ⟨9, 26, ptrH, _⟩, ⟨10, 26, ptrH, _⟩] a w := hst
      refine thn_normal ?_
      refine wp_ret ?_
      refine thn_ret ?_
      refine ret_wk ?_ (ret_tmp rfl hst (List.mem_of_getElem? (i := 0) rfl))
      exact bo_and (by rw [hr.1, hr.2]; rfl)
    · obtain ⟨P, Q, L, rfl, rfl, rfl, bp, bq, bl, e1, e2⟩ : ∃ P Q L, p = rfOf P ∧ q = rfOf Q ∧ l = rfOf L ∧ bQ 198 P ∧ bQ 198 Q ∧ bQ 198 L ∧ twoF p q l = (rmOf (twoX P Q L), 0) ∧ facF p q l = (rfOf (gQ P L), rfOf (gQ Q L), 0) := by
        rcases hin with ⟨h1, h2⟩ | h
        · rw [h1] at hb1; simp at hb1
        · exact h
      obtain ⟨hl, bg, bo⟩ := two_sz bp bq bl
      have hX : okM (rmOf (twoX P Q L)) = true := okM_of hl.1 hl.2.1 hl.2.2.1 hl.2.2.2 (two_det P Q L)
      have bx := bQ_mul bg bo
      have lx : longQ (gQ P L * gQ Q L) = false := bQ_long bx (by decide)
      have lt : longQ ((twoX P Q L).a + (twoX P Q L).d) = false := by rw [two_tr]; exact bQ_long (bQ_sub (bQ_mul bx bQ4) bQ2) (by decide)
      have hst := St.cvA (A' := RMA (rmOf (twoX P Q L))) hst 3 rfl (congrArg (fun r : RM × Int => RMA r.1) e1)
      have hst := St.cvA (A' := RFA (rfOf (gQ P L))) hst 4 rfl (congrArg (fun r : RF × RF × Int => RFA r.1) e2)
      have hst := St.cvA (A' := RFA (rfOf (gQ Q L))) hst 5 rfl (congrArg (fun r : RF × RF × Int => RFA r.2.1) e2)
      refine wp_skip ?_
      refine thn_normal ?_
      refine wp_seq ?_
      refine go_lin (sts := [none, none, none, none, none, none]) (news := [⟨12, 26, ptrH, some 5, _, some (6, _)⟩]) (sp := [.val 56 _, .val 57 _, .val 55 _, .val 58 _, .val 59 _, .alc 6, .sto 6, .val 13 _]) [.g 0, .o 7] hst (obs_cons (ob_v rfl rfl (r_load (loc_at0 3 rfl (by kernel_rfl)) ty_28)) (obs_cons (ob_v rfl rfl (r_call (xs := [.tmp 56]) (tr_l hX lt) (.cons (has_v 0 rfl (by kernel_rfl) (by kernel_rfl)) .nil))) (obs_cons (ob_v rfl rfl (r_move (has_v 1 rfl (by kernel_rfl) (by kernel_rfl)))) (obs_cons (ob_v rfl rfl (r_ex0 (has_v 2 rfl (by kernel_rfl) (by kernel_rfl)))) (obs_cons (ob_v rfl rfl (r_ex1 (has_v 2 rfl (by kernel_rfl) (by kernel_rfl)))) (obs_cons (ob_alc rfl rfl rfl (Str.zero str_frac)) (obs_cons (ob_sto rfl rfl rfl (has_v 3 rfl (by kernel_rfl) (by kernel_rfl)) ty_26 rfl) (obs_cons (ob_v rfl rfl (r_assign (has_v 4 rfl (by kernel_rfl) (by kernel_rfl)))) (obs_nil))))))))) (by kernel_rfl) (by kernel_rfl) (by kernel_rfl) (fun a w hst => ?_)
      have hst : St B w0 106 [(6, _), (13, _)] [⟨3, 26, ptrH, _⟩, ⟨4, 26, ptrH, _⟩, ⟨5, 26, ptrH, _⟩, ⟨7, 28, ptrH, _⟩, ⟨9, 26, ptrH, _⟩, ⟨10, 26, ptrH, _⟩, ⟨12, 26, ptrH, _⟩] a w := hst
      refine thn_normal ?_
      refine wp_seq ?_
      refine go_lin (sts := [none, none, none, none, none, none, none]) (news := []) (sp := [.val 61 _, .val 62 _, .val 60 _, .val 63 _, .val 64 _, .val 14 _, .val 15 _]) [.g 0, .g 1, .o 5, .o 6] hst (obs_cons (ob_v rfl rfl (r_load (loc_at0 3 rfl (by kernel_rfl)) ty_28)) (obs_cons (ob_v rfl rfl (r_call (xs := [.tmp 61]) (ki_l hX) (.cons (has_v 0 rfl (by kernel_rfl) (by kernel_rfl)) .nil))) (obs_cons (ob_v rfl rfl (r_move (has_v 1 rfl (by kernel_rfl) (by kernel_rfl)))) (obs_cons (ob_v rfl rfl (r_ex0 (has_v 2 rfl (by kernel_rfl) (by kernel_rfl)))) (obs_cons (ob_v rfl rfl (r_ex1 (has_v 2 rfl (by kernel_rfl) (by kernel_rfl)))) (obs_cons (ob_v rfl rfl (r_assign (has_v 3 rfl (by kernel_rfl) (by kernel_rfl)))) (obs_cons (ob_v rfl rfl (r_assign (has_v 4 rfl (by kernel_rfl) (by kernel_rfl)))) (obs_nil)))))))) (by kernel_rfl) (by kernel_rfl) (by kernel_rfl) (fun a w hst => ?_)
      have hst : St B w0 106 [(6, _), (13, _), (14, _), (15, _)] [⟨3, 26, ptrH, _⟩, ⟨4, 26, ptrH, _⟩, ⟨5, 26, ptrH, _⟩, ⟨7, 28, ptrH, _⟩, ⟨9, 26, ptrH, _⟩, ⟨10, 26, ptrH, _⟩, ⟨12, 26, ptrH, _⟩] a w := hst
      refine thn_normal ?_
      refine wp_seq ?_
      refine go_lin (sts := [none, none, none, none, none, none, none]) (news := [⟨16, 26, ptrH, some 6, _, some (7, _)⟩]) (sp := [.val 66 _, .val 67 _, .val 68 _, .val 65 _, .val 69 _, .val 70 _, .alc 7, .sto 7, .val 17 _]) [.g 0, .g 1, .g 2, .g 3] hst (obs_cons (ob_v rfl rfl (r_load (loc_at0 4 rfl (by kernel_rfl)) ty_26)) (obs_cons (ob_v rfl rfl (r_load (loc_at0 5 rfl (by kernel_rfl)) ty_26)) (obs_cons (ob_v rfl rfl (r_call (xs := [.tmp 66, .tmp 67]) (mulF_l (bQ_long bg (by decide)) (bQ_long bo (by decide)) lx) (.cons (has_v 0 rfl (by kernel_rfl) (by kernel_rfl)) (.cons (has_v 1 rfl (by kernel_rfl) (by kernel_rfl)) .nil)))) (obs_cons (ob_v rfl rfl (r_move (has_v 2 rfl (by kernel_rfl) (by kernel_rfl)))) (obs_cons (ob_v rfl rfl (r_ex0 (has_v 3 rfl (by kernel_rfl) (by kernel_rfl)))) (obs_cons (ob_v rfl rfl (r_ex1 (has_v 3 rfl (by kernel_rfl) (by kernel_rfl)))) (obs_cons (ob_alc rfl rfl rfl (Str.zero str_frac)) (obs_cons (ob_sto rfl rfl rfl (has_v 4 rfl (by kernel_rfl) (by kernel_rfl)) ty_26 rfl) (obs_cons (ob_v rfl rfl (r_assign (has_v 5 rfl (by kernel_rfl) (by kernel_rfl)))) (obs_nil)))))))))) (by kernel_rfl) (by kernel_rfl) (by kernel_rfl) (fun a w hst => ?_)
      have hst : St B w0 106 [(6, _), (13, _), (14, _), (15, _)] [⟨3, 26, ptrH, _⟩, ⟨4, 26, ptrH, _⟩, ⟨5, 26, ptrH, _⟩, ⟨7, 28, ptrH, _⟩, ⟨9, 26, ptrH, _⟩, ⟨10, 26, ptrH, _⟩, ⟨12, 26, ptrH, _⟩, ⟨16, 26, ptrH, _⟩] a w := hst
      refine thn_normal ?_
      refine wp_seq ?_
      refine go_lin (sts := [none, none, none, none, none, none, none, none]) (news := [⟨18, 26, ptrH, some 4, _, some (5, _)⟩]) (sp := [.val 72 _, .val 71 _, .val 73 _, .val 74 _, .alc 8, .sto 8, .val 19 _]) [.g 0, .g 1, .g 2, .g 3] hst (obs_cons (ob_v rfl rfl (r_call (xs := [.const (.int .i64 (1)), .const (.int .i64 (1))]) (ofQ_c (by decide) (by decide) (by decide) (by decide) (by decide)) (.cons has_num (.cons has_num .nil)))) (obs_cons (ob_v rfl rfl (r_move (has_v 0 rfl (by kernel_rfl) (by kernel_rfl)))) (obs_cons (ob_v rfl rfl (r_ex0 (has_v 1 rfl (by kernel_rfl) (by kernel_rfl)))) (obs_cons (ob_v rfl rfl (r_ex1 (has_v 1 rfl (by kernel_rfl) (by kernel_rfl)))) (obs_cons (ob_alc rfl rfl rfl (Str.zero str_frac)) (obs_cons (ob_sto rfl rfl rfl (has_v 2 rfl (by kernel_rfl) (by kernel_rfl)) ty_26 rfl) (obs_cons (ob_v rfl rfl (r_assign (has_v 3 rfl (by kernel_rfl) (by kernel_rfl)))) (obs_nil)))))))) (by kernel_rfl) (by kernel_rfl) (by kernel_rfl) (fun a w hst => ?_)
      have hst : St B w0 106 [(6, _), (13, _), (14, _), (15, _)] [⟨3, 26, ptrH, _⟩, ⟨4, 26, ptrH, _⟩, ⟨5, 26, ptrH, _⟩, ⟨7, 28, ptrH, _⟩, ⟨9, 26, ptrH, _⟩, ⟨10, 26, ptrH, _⟩, ⟨12, 26, ptrH, _⟩, ⟨16, 26, ptrH, _⟩, ⟨18, 26, ptrH, _⟩] a w := hst
      refine thn_normal ?_
      refine wp_seq ?_
      refine go_lin (sts := [none, none, none, none, none, none, none, none, none]) (news := []) (sp := [.val 75 _, .val 76 _, .val 77 _, .val 78 _, .val 79 (Wh (_ = true) _), .val 80 (Wh (_ = true) _), .val 81 (Wh (_ = true) _), .val 82 (Wh (_ = true) _), .val 83 _, .val 20 _]) [.g 0, .g 1, .g 2, .g 3, .o 9] hst (obs_cons (ob_v rfl rfl (r_load (loc_at0 7 rfl (by kernel_rfl)) ty_26)) (obs_cons (ob_v rfl rfl (r_call (xs := [.tmp 75]) (fracSign_c _) (.cons (has_v 0 rfl (by kernel_rfl) (by kernel_rfl)) .nil))) (obs_cons (ob_v rfl rfl (r_gtr (has_v 1 rfl (by kernel_rfl) (by kernel_rfl)) has_num)) (obs_cons (ob_v rfl rfl (r_move (has_v 2 rfl (by kernel_rfl) (by kernel_rfl)))) (obs_cons (ob_gd rfl rfl rfl (has_v 3 rfl (by kernel_rfl) (by kernel_rfl)) (Nat.le_of_ble_eq_true (by kernel_rfl)) (fun hg => r_load (loc_at0 7 rfl (by kernel_rfl)) ty_26)) (obs_cons (ob_gd rfl rfl rfl (has_v 3 rfl (by kernel_rfl) (by kernel_rfl)) (Nat.le_of_ble_eq_true (by kernel_rfl)) (fun hg => r_load (loc_at0 8 rfl (by kernel_rfl)) ty_26)) (obs_cons (ob_gd rfl rfl rfl (has_v 3 rfl (by kernel_rfl) (by kernel_rfl)) (Nat.le_of_ble_eq_true (by kernel_rfl)) (fun hg => r_call (xs := [.tmp 79, .tmp 80]) (fracCmp_c _ _) (.cons (has_wh (has_v 4 rfl (by kernel_rfl) (by kernel_rfl)) hg) (.cons (has_wh (has_v 5 rfl (by kernel_rfl) (by kernel_rfl)) hg) .nil)))) (obs_cons (ob_gd rfl rfl rfl (has_v 3 rfl (by kernel_rfl) (by kernel_rfl)) (Nat.le_of_ble_eq_true (by kernel_rfl)) (fun hg => r_lss (has_wh (has_v 6 rfl (by kernel_rfl) (by kernel_rfl)) hg) has_num)) (obs_cons (ob_v rfl rfl (r_and (has_v 3 rfl (by kernel_rfl) (by kernel_rfl)) (has_v 7 rfl (by kernel_rfl) (by kernel_rfl)))) (obs_cons (ob_v rfl rfl (r_assign (has_v 8 rfl (by kernel_rfl) (by kernel_rfl)))) (obs_nil))))))))))) (by kernel_rfl) (by kernel_rfl) (by kernel_rfl) (fun a w hst => ?_)
      have hst : St B w0 106 [(6, _), (13, _), (14, _), (15, _), (20, _)] [⟨3, 26, ptrH, _⟩, ⟨4, 26, ptrH, _⟩, ⟨5, 26, ptrH, _⟩, ⟨7, 28, ptrH, _⟩, ⟨9, 26, ptrH, _⟩, ⟨10, 26, ptrH, _⟩, ⟨12, 26, ptrH, _⟩, ⟨16, 26, ptrH, _⟩, ⟨18, 26, ptrH, _⟩] a w := hst
      refine thn_normal ?_
      refine wp_seq ?_
      refine go_draw (anc := [[], [0], [0, 1], [0, 1, 2], [0, 1, 2, 3], [0, 1, 2, 3, 4], [0, 1, 2, 3, 4, 5], [0, 1, 2, 3, 4, 5, 6], [0, 1, 2, 3, 4, 5, 6], [0, 1, 2, 3, 4, 5, 6], [0, 1, 2, 3, 4, 5, 6, 8, 9], [0, 1, 2, 3, 4, 5, 6, 7, 8, 9, 10], [0, 1, 2, 3, 4, 5, 6, 7, 8, 9, 10, 11], [0, 1, 2, 3, 4, 5, 6, 7, 8, 9, 10, 11, 12], [0, 1, 2, 3, 4, 5, 6, 7, 8, 9, 10, 11, 12, 13], [0, 1, 2, 3, 4, 5, 6, 7, 8, 9, 10, 11, 12, 13, 14], [0, 1, 2, 3, 4, 5, 6, 7, 8, 9, 10, 11, 12, 13], [0, 1, 2, 3, 4, 5, 6, 7, 8, 9, 10, 11, 12, 13, 14, 15, 16], [0, 1, 2, 3, 4, 5, 6, 7, 8, 9, 10, 11, 12, 13, 14, 15, 16, 17], [0, 1, 2, 3, 4, 5, 6, 7, 8, 9, 10, 11, 12, 13, 14, 15, 16, 17, 18], [0, 1, 2, 3, 4, 5, 6, 7, 8, 9, 10, 11, 12, 13, 14, 15, 16, 17, 18, 19], [0, 1, 2, 3, 4, 5, 6, 7, 8, 9, 10, 11, 12, 13, 14, 15, 16, 17, 18, 19, 20], [0, 1, 2, 3, 4, 5, 6, 7, 8, 9, 10, 11, 12, 13, 14, 15, 16, 17, 18, 19, 20, 21]]) (sts := [none, none, none, none, none, none, none, none, none]) (news := []) (sp := [.val 84 _, .val 85 _, .val 86 _, .val 87 (Wh (_ = true) _), .val 88 (Wh (_ = true) _), .val 89 _, .val 90 _, .val 91 (Wh (_ = true) _), .val 92 (Wh (_ = true) _), .val 93 (Wh (_ = true) _), .val 94 (Wh (_ = true) _), .val 95 (Wh (_ = true) _), .val 96 _, .val 97 _, .val 98 (Wh (_ = true) _), .val 99 (Wh (_ = true) _), .val 100 (Wh (_ = true) _), .val 101 (Wh (_ = true) _), .val 102 _, .val 103 _, .val 104 (Wh (_ = true) _), .val 105 _, .val 6 _]) [.o 22] follows_mixed hst (obs_cons (ob_v rfl rfl (r_move (has_g 1 rfl (by kernel_rfl) (by kernel_rfl)))) (obs_cons (ob_v rfl rfl (r_eql (has_v 0 rfl (by kernel_rfl) (by kernel_rfl)) has_num)) (obs_cons (ob_v rfl rfl (r_move (has_v 1 rfl (by kernel_rfl) (by kernel_rfl)))) (obs_cons (ob_gd rfl rfl rfl (has_v 2 rfl (by kernel_rfl) (by kernel_rfl)) (Nat.le_of_ble_eq_true (by kernel_rfl)) (fun hg => r_move (has_g 3 rfl (by kernel_rfl) (by kernel_rfl)))) (obs_cons (ob_gd rfl rfl rfl (has_v 2 rfl (by kernel_rfl) (by kernel_rfl)) (Nat.le_of_ble_eq_true (by kernel_rfl)) (fun hg => r_eql (has_wh (has_v 3 rfl (by kernel_rfl) (by kernel_rfl)) hg) has_num)) (obs_cons (ob_v rfl rfl (r_and (has_v 2 rfl (by kernel_rfl) (by kernel_rfl)) (has_v 4 rfl (by kernel_rfl) (by kernel_rfl)))) (obs_cons (ob_v rfl rfl (r_move (has_v 5 rfl (by kernel_rfl) (by kernel_rfl)))) (obs_cons (ob_gd rfl rfl rfl (has_v 6 rfl (by kernel_rfl) (by kernel_rfl)) (Nat.le_of_ble_eq_true (by kernel_rfl)) (fun hg => r_load (loc_at0 6 rfl (by kernel_rfl)) ty_26)) (obs_cons (ob_gd rfl rfl rfl (has_v 6 rfl (by kernel_rfl) (by kernel_rfl)) (Nat.le_of_ble_eq_true (by kernel_rfl)) (fun hg => r_load (loc_at0 4 rfl (by kernel_rfl)) ty_26)) (obs_cons (ob_gd rfl rfl rfl (has_v 6 rfl (by kernel_rfl) (by kernel_rfl)) (Nat.le_of_ble_eq_true (by kernel_rfl)) (fun hg => r_load (loc_at0 5 rfl (by kernel_rfl)) ty_26)) (obs_cons (ob_gd rfl rfl rfl (has_v 6 rfl (by kernel_rfl) (by kernel_rfl)) (Nat.le_of_ble_eq_true (by kernel_rfl)) (fun hg => r_call (xs := [.tmp 92, .tmp 93]) (fourth_l bg bo) (.cons (has_wh (has_v 8 rfl (by kernel_rfl) (by kernel_rfl)) hg) (.cons (has_wh (has_v 9 rfl (by kernel_rfl) (by kernel_rfl)) hg) .nil)))) (obs_cons (ob_gd rfl rfl rfl (has_v 6 rfl (by kernel_rfl) (by kernel_rfl)) (Nat.le_of_ble_eq_true (by kernel_rfl)) (fun hg => r_call (xs := [.tmp 91, .tmp 94]) (sameFrac_c _ _) (.cons (has_wh (has_v 7 rfl (by kernel_rfl) (by kernel_rfl)) hg) (.cons (has_wh (has_v 10 rfl (by kernel_rfl) (by kernel_rfl)) hg) .nil)))) (obs_cons (ob_v rfl rfl (r_and (has_v 6 rfl (by kernel_rfl) (by kernel_rfl)) (has_v 11 rfl (by kernel_rfl) (by kernel_rfl)))) (obs_cons (ob_v rfl rfl (r_move (has_v 12 rfl (by kernel_rfl) (by kernel_rfl)))) (obs_cons (ob_gd rfl rfl rfl (has_v 13 rfl (by kernel_rfl) (by kernel_rfl)) (Nat.le_of_ble_eq_true (by kernel_rfl)) (fun hg => r_move (has_g 2 rfl (by kernel_rfl) (by kernel_rfl)))) (obs_cons (ob_gd rfl rfl rfl (has_v 13 rfl (by kernel_rfl) (by kernel_rfl)) (Nat.le_of_ble_eq_true (by kernel_rfl)) (fun hg => r_eql (has_wh (has_v 14 rfl (by kernel_rfl) (by kernel_rfl)) hg) has_num)) (obs_cons (ob_gd rfl rfl rfl (has_v 13 rfl (by kernel_rfl) (by kernel_rfl)) (Nat.le_of_ble_eq_true (by kernel_rfl)) (fun hg => r_move (has_g 4 rfl (by kernel_rfl) (by kernel_rfl)))) (obs_cons (ob_gd rfl rfl rfl (has_v 13 rfl (by kernel_rfl) (by kernel_rfl)) (Nat.le_of_ble_eq_true (by kernel_rfl)) (fun hg => r_eqlb (by kernel_rfl) (has_wh (has_v 15 rfl (by kernel_rfl) (by kernel_rfl)) hg) (has_wh (has_v 16 rfl (by kernel_rfl) (by kernel_rfl)) hg))) (obs_cons (ob_v rfl rfl (r_and (has_v 13 rfl (by kernel_rfl) (by kernel_rfl)) (has_v 17 rfl (by kernel_rfl) (by kernel_rfl)))) (obs_cons (ob_v rfl rfl (r_move (has_v 18 rfl (by kernel_rfl) (by kernel_rfl)))) (obs_cons (ob_gd rfl rfl rfl (has_v 19 rfl (by kernel_rfl) (by kernel_rfl)) (Nat.le_of_ble_eq_true (by kernel_rfl)) (fun hg => r_call (xs := []) alive12_c .nil)) (obs_cons (ob_v rfl rfl (r_and (has_v 19 rfl (by kernel_rfl) (by kernel_rfl)) (has_v 20 rfl (by kernel_rfl) (by kernel_rfl)))) (obs_cons (ob_v rfl rfl (r_assign (has_v 21 rfl (by kernel_rfl) (by kernel_rfl)))) (obs_nil)))))))))))))))))))))))) (by kernel_rfl) (by kernel_rfl) (by kernel_rfl) (by kernel_rfl) (fun a w hst => ?_)
      have hst : St B w0 106 [(6, _)] [⟨3, 26, ptrH, _⟩, ⟨4, 26, ptrH, _⟩, ⟨5, 26, ptrH, _⟩, ⟨7, 28, ptrH, _⟩, ⟨9, 26, ptrH, _⟩, ⟨10, 26, ptrH, _⟩, ⟨12, 26, ptrH, _⟩, ⟨16, 26, ptrH, _⟩, ⟨18, 26, ptrH, _⟩] a w := hst
      refine thn_normal ?_
      refine wp_ret ?_
      refine ret_wk ?_ (ret_tmp rfl hst (List.mem_of_getElem? (i := 0) rfl))
      exact bo_and (cf_end (congrArg rfOf (two_tr P Q L)) (cf_kind lx))

open Go.ChangeShapes Go.WideShapes Go.ChangeAt
open Go.ChangeMaps (open_string shut_string)
set_option linter.unusedVariables false
theorem own : ownKnob Try.prog.godebug = none := by kernel_rfl
theorem laidOut : laidOutB Try.prog = true := by kernel_rfl
set_option maxRecDepth 100000 in
theorem lifted (os : Os) (started : os.Started) (H : Type) (enc : TypeId × Value → H) :
    ReturnsInHanded {} Try.checked os 4 .any (Rows.cavityFactorsSpec.pre6 enc Try.prog Try.f4 Rows.cavityFactorsRow.domain false) (Rows.cavityFactorsSpec.post enc Try.prog Try.f4 false true false false) := by
  refine returnsInHanded_of_change (C := Try.checked) own started (by kernel_rfl) Try.func4
    (ChangeSpec.witness6 (enc := enc) (C := Try.checked) false ⟨#[], #[.agg #[.bool false, .slice none 0 0, .bool false, .slice none 0 0], .agg #[.bool false, .slice none 0 0, .bool false, .slice none 0 0], .agg #[.bool false, .slice none 0 0, .bool false, .slice none 0 0]], []⟩ 8 (by kernel_rfl) (by kernel_rfl) (by kernel_rfl) (by kernel_rfl)) ?_
  intro W base args ds gs before hval0 hW hcnd _
  have hval : ∀ (j : Nat) t v, Try.f4.params[j]? = some t → args[j]? = some v → Value.okWide Try.prog W .any base t v := hval0
  have hW' := hW
  obtain ⟨p, q, hA0, hV, rfl, hfz, hnd⟩ := hW
  have hA : DataW.TrodAll enc Try.prog W 0 (fun _ => true) true Try.f4.params.toList args.toList ds p := hA0
  rw [Try.params4] at hA hval
  obtain ⟨v0, vs0, d0, ds0, p0, q0, hargs, rfl, rfl, h0, r0⟩ := trodAll_cons hA
  obtain ⟨v1, vs1, d1, ds1, p1, q1, rfl, rfl, rfl, h1, r1⟩ := trodAll_cons r0
  obtain ⟨v2, vs2, d2, ds2, p2, q2, rfl, rfl, rfl, h2, r2⟩ := trodAll_cons r1
  obtain ⟨rfl, rfl, rfl⟩ := trodAll_nil r2
  obtain rfl : args = #[v0, v1, v2] := by cases args; simp_all
  obtain ⟨rfl, rfl⟩ := trodVars_none hV
  have k0 := h0
  have lt0 : ∀ x ∈ p0, x.block < W.heap.size := by obtain ⟨m, hm⟩ := k0; exact DataW.trod_lt m _ _ _ hm
  have k1 := h1
  have lt1 : ∀ x ∈ p1, x.block < W.heap.size := by obtain ⟨m, hm⟩ := k1; exact DataW.trod_lt m _ _ _ hm
  have k2 := h2
  have lt2 : ∀ x ∈ p2, x.block < W.heap.size := by obtain ⟨m, hm⟩ := k2; exact DataW.trod_lt m _ _ _ hm
  obtain ⟨x0, a0⟩ := arg_of (A := RFA) (fun _ => rfl) Try.underlying26 rd_rf (hval 0 26 v0 rfl rfl) h0
  obtain ⟨x1, a1⟩ := arg_of (A := RFA) (fun _ => rfl) Try.underlying26 rd_rf (hval 1 26 v1 rfl rfl) h1
  obtain ⟨x2, a2⟩ := arg_of (A := RFA) (fun _ => rfl) Try.underlying26 rd_rf (hval 2 26 v2 rfl rfl) h2
  clear hA0 hval0
  refine ((factors_w x0 x1 x2).2 W.heap.size W [v0, v1, v2] (Nat.le_refl _) (.cons a0 (.cons a1 (.cons a2 .nil)))).mono fun e W' ⟨v, he, hv, bel⟩ => ?_
  have hv' := bo_val hv
  subst hv' he
  exact ⟨_, rfl, _, _, _, [], _, [], hW', trodAll_mk1 (shut_bool Try.underlying4 _), (trodAll_cons_mk (Below.trod laidOut (by kernel_rfl) (of_decide_eq_true (by kernel_rfl)) k0 bel lt0) (trodAll_cons_mk (Below.trod laidOut (by kernel_rfl) (of_decide_eq_true (by kernel_rfl)) k1 bel lt1) (trodAll_cons_mk (Below.trod laidOut (by kernel_rfl) (of_decide_eq_true (by kernel_rfl)) k2 bel lt2) trodAll_mk0))), rfl, bel.frame _, fun h => by cases h⟩
theorem over : Rows.cavityFactorsRow.holds Try.pinned (OpenSpec.ofChange Rows.cavityFactorsSpec) :=
  OpenClaim.holds_of_wide 4 Try.f4 rfl rfl rfl rfl rfl rfl rfl ⟨rfl, rfl, rfl, rfl, rfl⟩ rfl rfl rfl rfl rfl (by kernel_rfl) Try.func4 (by kernel_rfl)
    (of_decide_eq_true (by kernel_rfl)) (by unfold Func.isWrapper; rw [if_neg (of_decide_eq_false (by kernel_rfl))]; exact ⟨rfl, rfl⟩)
    (fun os started H enc _ => lifted os started H enc)
theorem provedCavityFactors : Rows.CavityFactorsSaid := over
#print axioms provedCavityFactors

end Go.Proofs.Ytgjolcbehcjhcaa
