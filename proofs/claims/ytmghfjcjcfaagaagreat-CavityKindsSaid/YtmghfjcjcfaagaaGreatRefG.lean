/- The reference of layer 1 on whole numbers: Plus, Minus, Times, Divide, Bits. -/
import Derived.Test.YtmghfjcjcfaagaaGreatRefF
namespace Go.Proofs.YtmghfjcjcfaagaaGreat
open Go Go.RowKit
namespace RefG
theorem fld_24_0 : Fld Tryz.prog 24 0 0 1 := ⟨_, _, Tryz.underlying24, rfl, rfl, by kernel_rfl, by decide⟩
theorem fld_24_1 : Fld Tryz.prog 24 1 1 1 := ⟨_, _, Tryz.underlying24, rfl, rfl, by kernel_rfl, by decide⟩
theorem sl_22 : Sl Tryz.prog 22 122 1 := ⟨by kernel_rfl, by kernel_rfl⟩
theorem ty_122 : Ty Tryz.prog 122 1 false := ⟨by kernel_rfl, by kernel_rfl⟩
theorem ty_22 : Ty Tryz.prog 22 1 false := ⟨by kernel_rfl, by kernel_rfl⟩
theorem ty_24 : Ty Tryz.prog 24 2 true := ⟨by kernel_rfl, by kernel_rfl⟩
theorem ty_4 : Ty Tryz.prog 4 1 false := ⟨by kernel_rfl, by kernel_rfl⟩
end RefG
open RefG
set_option linter.unusedVariables false
theorem val_addN {l m : List Nat} (hl : okL l) (hm : okL m) : val (digs (addN l m) (val l + val m)) = val l + val m := by
  rw [val_digs, Nat.mod_eq_of_lt]
  unfold addN
  split
  · assumption
  · exact sum_lt hl hm
theorem rplus_e0 {a b : Int} (h : ((riOf a).neg == (riOf b).neg) = true) : (RIA (rsig (riOf a).neg (digs (addN (riOf a).mag (riOf b).mag) (val (riOf a).mag + val (riOf b).mag)))).va = Zi (a + b) := by
  have h' : decide (a < 0) = decide (b < 0) := by simpa [riOf] using h
  rw [rsig_of (okL_digs _ _) (z := a + b) (by rw [val_addN (ok_ri a) (ok_ri b), val_ri, val_ri]; simp only [decide_eq_decide] at h'; omega) (fun hz => by show decide (a < 0) = _; simp only [decide_eq_decide] at h' ⊢; omega)]
theorem cm_ge0 {X Y : Nat} : cmL (limbs X) (limbs Y) ≥ 0 ↔ Y ≤ X := by
  rw [cmL_limbs]
  split
  · omega
  · split <;> omega
theorem rplus_g1 {a b : Int} (h : decide (cmL (riOf a).mag (riOf b).mag ≥ 0) = true) : b.natAbs ≤ a.natAbs := cm_ge0.1 (of_decide_eq_true h)
theorem rplus_g2 {a b : Int} (h : decide (cmL (riOf a).mag (riOf b).mag ≥ 0) = false) : a.natAbs ≤ b.natAbs := Nat.le_of_lt (Nat.lt_of_not_le fun h2 => of_decide_eq_false h (cm_ge0.2 h2))
theorem mulz_neg {p q : Int} (h : p * q ≠ 0) : (decide (p < 0) != decide (q < 0)) = decide (p * q < 0) := by
  have hp : p ≠ 0 := fun e => h (by rw [e, Int.zero_mul])
  have hq : q ≠ 0 := fun e => h (by rw [e, Int.mul_zero])
  rcases Int.lt_or_le p 0 with h1 | h1 <;> rcases Int.lt_or_le q 0 with h2 | h2
  · have := Int.mul_pos_of_neg_of_neg h1 h2
    rw [decide_eq_true h1, decide_eq_true h2, decide_eq_false (by omega)]; rfl
  · have := Int.mul_neg_of_neg_of_pos h1 (show 0 < q by omega)
    rw [decide_eq_true h1, decide_eq_false (show ¬ q < 0 by omega), decide_eq_true this]; rfl
  · have := Int.mul_neg_of_pos_of_neg (show 0 < p by omega) h2
    rw [decide_eq_false (show ¬ p < 0 by omega), decide_eq_true h2, decide_eq_true this]; rfl
  · have := Int.mul_pos (show 0 < p by omega) (show 0 < q by omega)
    rw [decide_eq_false (show ¬ p < 0 by omega), decide_eq_false (show ¬ q < 0 by omega), decide_eq_false (by omega)]; rfl
theorem rtimes_e {p q : Int} : (RIA (rsig ((riOf p).neg != (riOf q).neg) (limbs (val (riOf p).mag * val (riOf q).mag)))).va = Zi (p * q) := congrArg (fun x => (RIA x).va) (rsig_of (canon_limbs _).1 (z := p * q) (by rw [val_limbs, val_ri, val_ri, Int.natAbs_mul]) mulz_neg)
theorem rdiv_q {p q : Int} : (RIA (rsig ((riOf p).neg != (riOf q).neg) (limbs (val (riOf p).mag / q.natAbs)))).va = Zi (p.tdiv q) := congrArg (fun x => (RIA x).va) (rsig_of (canon_limbs _).1 (z := p.tdiv q) (by rw [val_limbs, val_ri, nat_tdiv]) divz_neg)
theorem rdiv_r {p q : Int} : (RIA (rsig (riOf p).neg (limbs (val (riOf p).mag % q.natAbs)))).va = Zi (p.tmod q) := congrArg (fun x => (RIA x).va) (rsig_of (canon_limbs _).1 (z := p.tmod q) (by rw [val_limbs, val_ri, nat_tmod]) modz_neg)

set_option maxRecDepth 100000 in
theorem rplusZ_c (p q : Int) (hp : lz p ≤ 1000000000) (hq : lz q ≤ 1000000000) : Cn Tryz.prog 114 [Zi p, Zi q] (Zi (p + q)) := by
  refine Cn.intro Tryz.func114 rfl (by kernel_rfl) nq (fun B w0 a hst => ?_)
  have hst : St B w0 40 [(0, Zi p), (1, Zi q)] [] a w0.w := hst
  refine wp_seq ?_
  refine gl (sts := []) (news := [⟨2, 24, ptrH, some 0, _, none⟩, ⟨3, 24, ptrH, some 1, _, none⟩, ⟨4, 24, ptrH, some 2, _, none⟩]) (sp := [.alc 0, .alc 1, .alc 2]) [] hst (oc (ob_box rfl rfl rfl (gq 0 rfl)) (oc (ob_box rfl rfl rfl (gq 1 rfl)) (oc (ob_alc rfl rfl rfl (Str.zero str_int)) o0))) (fun a w hst => ?_)
  have hst : St B w0 40 [] [⟨2, 24, ptrH, _⟩, ⟨3, 24, ptrH, _⟩, ⟨4, 24, ptrH, _⟩] a w := hst
  refine thn_normal ?_
  refine wp_seq ?_
  refine wp_seq ?_
  refine gl (sts := [none, none, none]) (news := []) (sp := [.adr 5 2 (.some 0) True, .val 6 _, .adr 7 3 (.some 0) True, .val 8 _, .val 9 _]) [.o 4] hst (oc (ob_a rfl rfl (a_fld (lz0 0 rfl) fld_24_0)) (oc (ob_v rfl rfl (r_loadf 0 rfl (by kernel_rfl) trivial (lz0 0 rfl) (Sub.part 0 rfl rfl) ty_4)) (oc (ob_a rfl rfl (a_fld (lz0 1 rfl) fld_24_0)) (oc (ob_v rfl rfl (r_loadf 2 rfl (by kernel_rfl) trivial (lz0 1 rfl) (Sub.part 0 rfl rfl) ty_4)) (oc (ob_v rfl rfl (r_eqlb (by kernel_rfl) (vq 1 rfl) (vq 3 rfl))) o0))))) (fun a w hst => ?_)
  have hst : St B w0 40 [(9, _)] [⟨2, 24, ptrH, _⟩, ⟨3, 24, ptrH, _⟩, ⟨4, 24, ptrH, _⟩] a w := hst
  refine thn_normal ?_
  refine cond_of hst (List.mem_of_getElem? (i := 0) rfl) (fun hb0 => ?_) (fun hb0 => ?_)
  · refine wp_seq ?_
    refine go_draw (anc := [[], [0], [], [2], [], [4], [2, 3, 4, 5], [0, 1, 2, 3, 4, 5, 6], [0, 1, 2, 3, 4, 5, 6, 7]]) (sts := [none, none, some (8, _)]) (news := []) (sp := [.adr 10 2 (.some 0) True, .val 11 _, .adr 12 2 (.some 1) True, .val 13 _, .adr 14 3 (.some 1) True, .val 15 _, .val 16 _, .val 17 _, .sto 2]) [] follows_mixed hst (oc (ob_a rfl rfl (a_fld (lz0 0 rfl) fld_24_0)) (oc (ob_v rfl rfl (r_loadf 0 rfl (by kernel_rfl) trivial (lz0 0 rfl) (Sub.part 0 rfl rfl) ty_4)) (oc (ob_a rfl rfl (a_fld (lz0 0 rfl) fld_24_1)) (oc (ob_v rfl rfl (r_loadf 2 rfl (by kernel_rfl) trivial (lz0 0 rfl) (Sub.part 1 rfl rfl) ty_22)) (oc (ob_a rfl rfl (a_fld (lz0 1 rfl) fld_24_1)) (oc (ob_v rfl rfl (r_loadf 4 rfl (by kernel_rfl) trivial (lz0 1 rfl) (Sub.part 1 rfl rfl) ty_22)) (oc (ob_v rfl rfl (r_call (xs := [.tmp 13, .tmp 15]) (radd_c _ _ (Nat.le_trans hp (by decide)) (Nat.le_trans hq (by decide))) (.cons (vq 3 rfl) (.cons (vq 5 rfl) .nil)))) (oc (ob_v rfl rfl (r_call (xs := [.tmp 11, .tmp 16]) (rsignedA_c _ _) (.cons (vq 1 rfl) (.cons (vq 6 rfl) .nil)))) (oc (ob_sto rfl rfl rfl (vq 7 rfl) ty_24 (Eq.trans (b := 2) rfl rfl)) o0))))))))) (by kernel_rfl) (by kernel_rfl) (by kernel_rfl) (by kernel_rfl) (fun a w hst => ?_)
    have hst : St B w0 40 [] [⟨2, 24, ptrH, _⟩, ⟨3, 24, ptrH, _⟩, ⟨4, 24, ptrH, _⟩] a w := hst
    refine thn_normal ?_
    refine wp_ret ?_
    refine thn_ret ?_
    refine ret_wk ?_ (ret_cell rfl hst (List.mem_of_getElem? (i := 2) rfl) ty_24)
    exact wk_eq (rplus_e0 hb0)
  · refine wp_skip ?_
    refine thn_normal ?_
    refine wp_seq ?_
    refine wp_seq ?_
    refine gl (sts := [none, none, none]) (news := []) (sp := [.adr 18 2 (.some 1) True, .val 19 _, .adr 20 3 (.some 1) True, .val 21 _, .val 22 _, .val 23 _]) [.o 5] hst (oc (ob_a rfl rfl (a_fld (lz0 0 rfl) fld_24_1)) (oc (ob_v rfl rfl (r_loadf 0 rfl (by kernel_rfl) trivial (lz0 0 rfl) (Sub.part 1 rfl rfl) ty_22)) (oc (ob_a rfl rfl (a_fld (lz0 1 rfl) fld_24_1)) (oc (ob_v rfl rfl (r_loadf 2 rfl (by kernel_rfl) trivial (lz0 1 rfl) (Sub.part 1 rfl rfl) ty_22)) (oc (ob_v rfl rfl (r_call (xs := [.tmp 19, .tmp 21]) (rcmp_c _ _) (.cons (vq 1 rfl) (.cons (vq 3 rfl) .nil)))) (oc (ob_v rfl rfl (r_geq (vq 4 rfl) has_num)) o0)))))) (fun a w hst => ?_)
    have hst : St B w0 40 [(23, _)] [⟨2, 24, ptrH, _⟩, ⟨3, 24, ptrH, _⟩, ⟨4, 24, ptrH, _⟩] a w := hst
    refine thn_normal ?_
    refine cond_of hst (List.mem_of_getElem? (i := 0) rfl) (fun hb1 => ?_) (fun hb1 => ?_)
    · refine wp_seq ?_
      refine go_draw (anc := [[], [0], [], [2], [], [4], [2, 3, 4, 5], [0, 1, 2, 3, 4, 5, 6], [0, 1, 2, 3, 4, 5, 6, 7]]) (sts := [none, none, some (8, _)]) (news := []) (sp := [.adr 24 2 (.some 0) True, .val 25 _, .adr 26 2 (.some 1) True, .val 27 _, .adr 28 3 (.some 1) True, .val 29 _, .val 30 _, .val 31 _, .sto 2]) [] follows_mixed hst (oc (ob_a rfl rfl (a_fld (lz0 0 rfl) fld_24_0)) (oc (ob_v rfl rfl (r_loadf 0 rfl (by kernel_rfl) trivial (lz0 0 rfl) (Sub.part 0 rfl rfl) ty_4)) (oc (ob_a rfl rfl (a_fld (lz0 0 rfl) fld_24_1)) (oc (ob_v rfl rfl (r_loadf 2 rfl (by kernel_rfl) trivial (lz0 0 rfl) (Sub.part 1 rfl rfl) ty_22)) (oc (ob_a rfl rfl (a_fld (lz0 1 rfl) fld_24_1)) (oc (ob_v rfl rfl (r_loadf 4 rfl (by kernel_rfl) trivial (lz0 1 rfl) (Sub.part 1 rfl rfl) ty_22)) (oc (ob_v rfl rfl (r_call (xs := [.tmp 27, .tmp 29]) (rsub_c _ _ (Nat.le_trans hp (by decide)) (len_mono (rplus_g1 hb1)) (by show val (limbs _) ≤ val (limbs _); rw [val_limbs, val_limbs]; exact rplus_g1 hb1)) (.cons (vq 3 rfl) (.cons (vq 5 rfl) .nil)))) (oc (ob_v rfl rfl (r_call (xs := [.tmp 25, .tmp 30]) (rsignedA_c _ _) (.cons (vq 1 rfl) (.cons (vq 6 rfl) .nil)))) (oc (ob_sto rfl rfl rfl (vq 7 rfl) ty_24 (Eq.trans (b := 2) rfl rfl)) o0))))))))) (by kernel_rfl) (by kernel_rfl) (by kernel_rfl) (by kernel_rfl) (fun a w hst => ?_)
      have hst : St B w0 40 [] [⟨2, 24, ptrH, _⟩, ⟨3, 24, ptrH, _⟩, ⟨4, 24, ptrH, _⟩] a w := hst
      refine thn_normal ?_
      refine wp_ret ?_
      refine thn_ret ?_
      refine ret_wk ?_ (ret_cell rfl hst (List.mem_of_getElem? (i := 2) rfl) ty_24)
      exact wk_eq (plus_e1 hb0 (rplus_g1 hb1))
    · refine wp_skip ?_
      refine thn_normal ?_
      refine wp_seq ?_
      refine go_draw (anc := [[], [0], [], [2], [], [4], [2, 3, 4, 5], [0, 1, 2, 3, 4, 5, 6], [0, 1, 2, 3, 4, 5, 6, 7]]) (sts := [none, none, some (8, _)]) (news := []) (sp := [.adr 32 3 (.some 0) True, .val 33 _, .adr 34 3 (.some 1) True, .val 35 _, .adr 36 2 (.some 1) True, .val 37 _, .val 38 _, .val 39 _, .sto 2]) [] follows_mixed hst (oc (ob_a rfl rfl (a_fld (lz0 1 rfl) fld_24_0)) (oc (ob_v rfl rfl (r_loadf 0 rfl (by kernel_rfl) trivial (lz0 1 rfl) (Sub.part 0 rfl rfl) ty_4)) (oc (ob_a rfl rfl (a_fld (lz0 1 rfl) fld_24_1)) (oc (ob_v rfl rfl (r_loadf 2 rfl (by kernel_rfl) trivial (lz0 1 rfl) (Sub.part 1 rfl rfl) ty_22)) (oc (ob_a rfl rfl (a_fld (lz0 0 rfl) fld_24_1)) (oc (ob_v rfl rfl (r_loadf 4 rfl (by kernel_rfl) trivial (lz0 0 rfl) (Sub.part 1 rfl rfl) ty_22)) (oc (ob_v rfl rfl (r_call (xs := [.tmp 35, .tmp 37]) (rsub_c _ _ (Nat.le_trans hq (by decide)) (len_mono (rplus_g2 hb1)) (by show val (limbs _) ≤ val (limbs _); rw [val_limbs, val_limbs]; exact rplus_g2 hb1)) (.cons (vq 3 rfl) (.cons (vq 5 rfl) .nil)))) (oc (ob_v rfl rfl (r_call (xs := [.tmp 33, .tmp 38]) (rsignedA_c _ _) (.cons (vq 1 rfl) (.cons (vq 6 rfl) .nil)))) (oc (ob_sto rfl rfl rfl (vq 7 rfl) ty_24 (Eq.trans (b := 2) rfl rfl)) o0))))))))) (by kernel_rfl) (by kernel_rfl) (by kernel_rfl) (by kernel_rfl) (fun a w hst => ?_)
      have hst : St B w0 40 [] [⟨2, 24, ptrH, _⟩, ⟨3, 24, ptrH, _⟩, ⟨4, 24, ptrH, _⟩] a w := hst
      refine thn_normal ?_
      refine wp_ret ?_
      refine ret_wk ?_ (ret_cell rfl hst (List.mem_of_getElem? (i := 2) rfl) ty_24)
      exact wk_eq (plus_e2 hb0 (rplus_g2 hb1))

set_option maxRecDepth 100000 in
theorem rminusZ_c (p q : Int) (hp : lz p ≤ 1000000000) (hq : lz q ≤ 1000000000) : Cn Tryz.prog 125 [Zi p, Zi q] (Zi (p - q)) := by
  refine Cn.intro Tryz.func125 rfl (by kernel_rfl) nq (fun B w0 a hst => ?_)
  have hst : St B w0 9 [(0, Zi p), (1, Zi q)] [] a w0.w := hst
  refine wp_seq ?_
  refine gl (sts := []) (news := [⟨2, 24, ptrH, some 0, _, none⟩, ⟨3, 24, ptrH, some 1, _, none⟩, ⟨4, 24, ptrH, some 2, _, none⟩]) (sp := [.alc 0, .alc 1, .alc 2]) [] hst (oc (ob_box rfl rfl rfl (gq 0 rfl)) (oc (ob_box rfl rfl rfl (gq 1 rfl)) (oc (ob_alc rfl rfl rfl (Str.zero str_int)) o0))) (fun a w hst => ?_)
  have hst : St B w0 9 [] [⟨2, 24, ptrH, _⟩, ⟨3, 24, ptrH, _⟩, ⟨4, 24, ptrH, _⟩] a w := hst
  refine thn_normal ?_
  refine wp_seq ?_
  refine go_draw (anc := [[], [], [1], [0, 1, 2], [0, 1, 2, 3]]) (sts := [none, none, some (4, _)]) (news := []) (sp := [.val 5 _, .val 6 _, .val 7 _, .val 8 _, .sto 2]) [] follows_mixed hst (oc (ob_v rfl rfl (r_load (lz0 0 rfl) ty_24)) (oc (ob_v rfl rfl (r_load (lz0 1 rfl) ty_24)) (oc (ob_v rfl rfl (r_call (xs := [.tmp 6]) (rturned_c q) (.cons (vq 1 rfl) .nil))) (oc (ob_v rfl rfl (r_call (xs := [.tmp 5, .tmp 7]) (rplusZ_c p (-q) hp (by rw [lz_neg]; exact hq)) (.cons (vq 0 rfl) (.cons (vq 2 rfl) .nil)))) (oc (ob_sto rfl rfl rfl (vq 3 rfl) ty_24 (Eq.trans (b := 2) rfl rfl)) o0))))) (by kernel_rfl) (by kernel_rfl) (by kernel_rfl) (by kernel_rfl) (fun a w hst => ?_)
  have hst : St B w0 9 [] [⟨2, 24, ptrH, _⟩, ⟨3, 24, ptrH, _⟩, ⟨4, 24, ptrH, _⟩] a w := hst
  refine thn_normal ?_
  refine wp_ret ?_
  refine ret_wk ?_ (ret_cell rfl hst (List.mem_of_getElem? (i := 2) rfl) ty_24)
  exact wk_eq (congrArg Zi Int.sub_eq_add_neg.symm)

set_option maxRecDepth 100000 in
theorem rtimesZ_c (p q : Int) (hp : lz p ≤ 1000000000) (hq : lz q ≤ 1000000000) : Cn Tryz.prog 112 [Zi p, Zi q] (Zi (p * q)) := by
  refine Cn.intro Tryz.func112 rfl (by kernel_rfl) nq (fun B w0 a hst => ?_)
  have hst : St B w0 16 [(0, Zi p), (1, Zi q)] [] a w0.w := hst
  refine wp_seq ?_
  refine gl (sts := []) (news := [⟨2, 24, ptrH, some 0, _, none⟩, ⟨3, 24, ptrH, some 1, _, none⟩, ⟨4, 24, ptrH, some 2, _, none⟩]) (sp := [.alc 0, .alc 1, .alc 2]) [] hst (oc (ob_box rfl rfl rfl (gq 0 rfl)) (oc (ob_box rfl rfl rfl (gq 1 rfl)) (oc (ob_alc rfl rfl rfl (Str.zero str_int)) o0))) (fun a w hst => ?_)
  have hst : St B w0 16 [] [⟨2, 24, ptrH, _⟩, ⟨3, 24, ptrH, _⟩, ⟨4, 24, ptrH, _⟩] a w := hst
  refine thn_normal ?_
  refine wp_seq ?_
  refine go_draw (anc := [[], [0], [], [2], [0, 1, 2, 3], [], [5], [], [7], [5, 6, 7, 8], [0, 1, 2, 3, 4, 5, 6, 7, 8, 9], [0, 1, 2, 3, 4, 5, 6, 7, 8, 9, 10]]) (sts := [none, none, some (11, _)]) (news := []) (sp := [.adr 5 2 (.some 0) True, .val 6 _, .adr 7 3 (.some 0) True, .val 8 _, .val 9 _, .adr 10 2 (.some 1) True, .val 11 _, .adr 12 3 (.some 1) True, .val 13 _, .val 14 _, .val 15 _, .sto 2]) [] follows_mixed hst (oc (ob_a rfl rfl (a_fld (lz0 0 rfl) fld_24_0)) (oc (ob_v rfl rfl (r_loadf 0 rfl (by kernel_rfl) trivial (lz0 0 rfl) (Sub.part 0 rfl rfl) ty_4)) (oc (ob_a rfl rfl (a_fld (lz0 1 rfl) fld_24_0)) (oc (ob_v rfl rfl (r_loadf 2 rfl (by kernel_rfl) trivial (lz0 1 rfl) (Sub.part 0 rfl rfl) ty_4)) (oc (ob_v rfl rfl (r_neqb (by kernel_rfl) (vq 1 rfl) (vq 3 rfl))) (oc (ob_a rfl rfl (a_fld (lz0 0 rfl) fld_24_1)) (oc (ob_v rfl rfl (r_loadf 5 rfl (by kernel_rfl) trivial (lz0 0 rfl) (Sub.part 1 rfl rfl) ty_22)) (oc (ob_a rfl rfl (a_fld (lz0 1 rfl) fld_24_1)) (oc (ob_v rfl rfl (r_loadf 7 rfl (by kernel_rfl) trivial (lz0 1 rfl) (Sub.part 1 rfl rfl) ty_22)) (oc (ob_v rfl rfl (r_call (xs := [.tmp 11, .tmp 13]) ((rmul_c _ _ (Nat.le_trans hp (by decide)) (Nat.le_trans hq (by decide))).wkp wk_mgN) (.cons (vq 6 rfl) (.cons (vq 8 rfl) .nil)))) (oc (ob_v rfl rfl (r_call (xs := [.tmp 9, .tmp 14]) (rsignedA_c _ _) (.cons (vq 4 rfl) (.cons (vq 9 rfl) .nil)))) (oc (ob_sto rfl rfl rfl (vq 10 rfl) ty_24 (Eq.trans (b := 2) rfl rfl)) o0)))))))))))) (by kernel_rfl) (by kernel_rfl) (by kernel_rfl) (by kernel_rfl) (fun a w hst => ?_)
  have hst : St B w0 16 [] [⟨2, 24, ptrH, _⟩, ⟨3, 24, ptrH, _⟩, ⟨4, 24, ptrH, _⟩] a w := hst
  refine thn_normal ?_
  refine wp_ret ?_
  refine ret_wk ?_ (ret_cell rfl hst (List.mem_of_getElem? (i := 2) rfl) ty_24)
  exact wk_eq rtimes_e

set_option maxRecDepth 100000 in
theorem rdivideZ_c (p q : Int) (hq0 : q ≠ 0) (hp : lz p ≤ 1000000000) (hq : lz q ≤ 1000000000) : Cn Tryz.prog 163 [Zi p, Zi q] (Tu [Zi (p.tdiv q), Zi (p.tmod q)]) := by
  refine Cn.intro Tryz.func163 rfl (by kernel_rfl) nq (fun B w0 a hst => ?_)
  have hst : St B w0 27 [(0, Zi p), (1, Zi q)] [] a w0.w := hst
  refine wp_seq ?_
  refine gl (sts := []) (news := [⟨2, 24, ptrH, some 0, _, none⟩, ⟨3, 24, ptrH, some 1, _, none⟩, ⟨4, 24, ptrH, some 2, _, none⟩, ⟨5, 24, ptrH, some 3, _, none⟩]) (sp := [.alc 0, .alc 1, .alc 2, .alc 3]) [] hst (oc (ob_box rfl rfl rfl (gq 0 rfl)) (oc (ob_box rfl rfl rfl (gq 1 rfl)) (oc (ob_alc rfl rfl rfl (Str.zero str_int)) (oc (ob_alc rfl rfl rfl (Str.zero str_int)) o0)))) (fun a w hst => ?_)
  have hst : St B w0 27 [] [⟨2, 24, ptrH, _⟩, ⟨3, 24, ptrH, _⟩, ⟨4, 24, ptrH, _⟩, ⟨5, 24, ptrH, _⟩] a w := hst
  refine thn_normal ?_
  refine wp_seq ?_
  refine gl (sts := [none, none, none, none]) (news := []) (sp := [.adr 9 2 (.some 1) True, .val 10 _, .adr 11 3 (.some 1) True, .val 12 _, .val 13 _, .val 8 _, .val 14 _, .val 15 _, .val 6 _, .val 7 _]) [.o 8, .o 9] hst (oc (ob_a rfl rfl (a_fld (lz0 0 rfl) fld_24_1)) (oc (ob_v rfl rfl (r_loadf 0 rfl (by kernel_rfl) trivial (lz0 0 rfl) (Sub.part 1 rfl rfl) ty_22)) (oc (ob_a rfl rfl (a_fld (lz0 1 rfl) fld_24_1)) (oc (ob_v rfl rfl (r_loadf 2 rfl (by kernel_rfl) trivial (lz0 1 rfl) (Sub.part 1 rfl rfl) ty_22)) (oc (ob_v rfl rfl (r_call (xs := [.tmp 10, .tmp 12]) (rdivide_c (D := q.natAbs) (riOf p).mag (by omega) hp hq) (.cons (vq 1 rfl) (.cons (vq 3 rfl) .nil)))) (oc (ob_v rfl rfl (r_move (vq 4 rfl))) (oc (ob_v rfl rfl (r_extract (vq 5 rfl) rfl)) (oc (ob_v rfl rfl (r_extract (vq 5 rfl) rfl)) (oc (ob_v rfl rfl (r_assign (vq 6 rfl))) (oc (ob_v rfl rfl (r_assign (vq 7 rfl))) o0)))))))))) (fun a w hst => ?_)
  have hst : St B w0 27 [(6, _), (7, _)] [⟨2, 24, ptrH, _⟩, ⟨3, 24, ptrH, _⟩, ⟨4, 24, ptrH, _⟩, ⟨5, 24, ptrH, _⟩] a w := hst
  refine thn_normal ?_
  refine wp_seq ?_
  refine go_draw (anc := [[], [0], [], [2], [0, 1, 2, 3], [], [0, 1, 2, 3, 4, 5], [], [7], [], [0, 1, 2, 3, 4, 5, 6, 7, 8, 9], [0, 1, 2, 3, 4, 5, 6, 7, 8, 9, 10], [0, 1, 2, 3, 4, 5, 6, 7, 8, 9, 10, 11]]) (sts := [none, none, some (11, _), some (12, _)]) (news := []) (sp := [.adr 16 2 (.some 0) True, .val 17 _, .adr 18 3 (.some 0) True, .val 19 _, .val 20 _, .val 21 _, .val 22 _, .adr 23 2 (.some 0) True, .val 24 _, .val 25 _, .val 26 _, .sto 2, .sto 3]) [] follows_mixed hst (oc (ob_a rfl rfl (a_fld (lz0 0 rfl) fld_24_0)) (oc (ob_v rfl rfl (r_loadf 0 rfl (by kernel_rfl) trivial (lz0 0 rfl) (Sub.part 0 rfl rfl) ty_4)) (oc (ob_a rfl rfl (a_fld (lz0 1 rfl) fld_24_0)) (oc (ob_v rfl rfl (r_loadf 2 rfl (by kernel_rfl) trivial (lz0 1 rfl) (Sub.part 0 rfl rfl) ty_4)) (oc (ob_v rfl rfl (r_neqb (by kernel_rfl) (vq 1 rfl) (vq 3 rfl))) (oc (ob_v rfl rfl (r_move (gq 0 rfl))) (oc (ob_v rfl rfl (r_call (xs := [.tmp 20, .tmp 21]) (rsignedA_c _ _) (.cons (vq 4 rfl) (.cons (vq 5 rfl) .nil)))) (oc (ob_a rfl rfl (a_fld (lz0 0 rfl) fld_24_0)) (oc (ob_v rfl rfl (r_loadf 7 rfl (by kernel_rfl) trivial (lz0 0 rfl) (Sub.part 0 rfl rfl) ty_4)) (oc (ob_v rfl rfl (r_move (gq 1 rfl))) (oc (ob_v rfl rfl (r_call (xs := [.tmp 24, .tmp 25]) (rsignedA_c _ _) (.cons (vq 8 rfl) (.cons (vq 9 rfl) .nil)))) (oc (ob_sto rfl rfl rfl (vq 6 rfl) ty_24 (Eq.trans (b := 2) rfl rfl)) (oc (ob_sto rfl rfl rfl (vq 10 rfl) ty_24 (Eq.trans (b := 2) rfl rfl)) o0))))))))))))) (by kernel_rfl) (by kernel_rfl) (by kernel_rfl) (by kernel_rfl) (fun a w hst => ?_)
  have hst : St B w0 27 [] [⟨2, 24, ptrH, _⟩, ⟨3, 24, ptrH, _⟩, ⟨4, 24, ptrH, _⟩, ⟨5, 24, ptrH, _⟩] a w := hst
  refine thn_normal ?_
  refine wp_ret ?_
  refine ret_wk ?_ (ret_many (rs := [.cell 4 24, .cell 5 24]) rfl hst (.cell (List.mem_of_getElem? (i := 2) rfl) ty_24 (.cell (List.mem_of_getElem? (i := 3) rfl) ty_24 .nil)) (by decide))
  exact tu2w (wk_eq rdiv_q) (wk_eq rdiv_r)

/-! how many bits -/
def bln : Nat → Nat
  | 0 => 0
  | n + 1 => bln ((n + 1) / 2) + 1
decreasing_by omega
theorem quo32 {t : Nat} (h : t < 4294967296) : IntKind.u32.wrap ((t : Int).tdiv ((2 : Nat) : Int)) = ((t / 2 : Nat) : Int) := by
  rw [Int.tdiv_eq_ediv_of_nonneg (by omega), ← Int.natCast_ediv, wu32 (by omega)]
theorem bln_pos {n : Nat} (h : 0 < n) : bln n = bln (n / 2) + 1 := by
  cases n with
  | zero => omega
  | succ n => rw [bln]
theorem bln_le : ∀ (k n : Nat), n < 2 ^ k → bln n ≤ k
  | k, 0, _ => by rw [bln]; omega
  | 0, n + 1, h => by simp at h
  | k + 1, n + 1, h => by
    rw [bln]
    have := bln_le k ((n + 1) / 2) (by rw [Nat.pow_succ] at h; omega)
    omega
def bitF (p : Int) : Nat := if lz p = 0 then 0 else 32 * (lz p - 1) + bln ((limbs p.natAbs).getD (lz p - 1) 0)
theorem top_nz {p : Int} (h : lz p ≠ 0) : 0 < (limbs p.natAbs).getD (lz p - 1) 0 := by
  apply Decidable.byContradiction
  intro hn
  have hlt : lz p - 1 < (limbs p.natAbs).length := by show lz p - 1 < lz p; omega
  rw [getD_lt hlt] at hn
  have e : limbs p.natAbs = (limbs p.natAbs).take (lz p - 1) ++ [0] := by
    have h2 := List.take_succ_eq_append_getElem hlt
    rw [List.take_of_length_le (by show lz p ≤ lz p - 1 + 1; omega)] at h2
    rw [show (limbs p.natAbs)[lz p - 1] = 0 by omega] at h2
    exact h2
  have hv := val_limbs p.natAbs
  rw [e, val_snoc, Nat.mul_zero, Nat.add_zero] at hv
  have h3 := val_lt (l := (limbs p.natAbs).take (lz p - 1)) (fun x hx => (canon_limbs _).1 x (List.mem_of_mem_take hx))
  rw [hv] at h3
  have h4 := limbs_len_le h3
  rw [List.length_take] at h4
  have h5 : lz p = (limbs p.natAbs).length := rfl
  omega
theorem bitF_one {p : Int} (h : bitF p = 1) : p.natAbs = 1 := by
  unfold bitF at h
  split at h
  · omega
  · rename_i h0
    have h1 := top_nz h0
    rw [bln_pos h1] at h
    have h2 : lz p = 1 := by omega
    have h3 : bln ((limbs p.natAbs).getD (lz p - 1) 0 / 2) = 0 := by omega
    have h4 : (limbs p.natAbs).getD (lz p - 1) 0 = 1 := by
      apply Decidable.byContradiction
      intro hn
      have := bln_pos (n := (limbs p.natAbs).getD (lz p - 1) 0 / 2) (by omega)
      omega
    have h5 := limbs_one (D := p.natAbs) h2
    have h6 : (limbs p.natAbs).getD 0 0 = 1 := by rw [h2] at h4; exact h4
    rw [getD_lt (by show 0 < lz p; omega)] at h6
    omega

set_option maxRecDepth 100000 in
theorem rbits_c (p : Int) (hp : lz p ≤ 1000000000) : Cn Tryz.prog 161 [Zi p] (In (bitF p : Nat)) := by
  have hrl : (riOf p).mag.length = lz p := rfl
  refine Cn.intro Tryz.func161 rfl (by kernel_rfl) nq (fun B w0 a hst => ?_)
  have hst : St B w0 29 [(0, Zi p)] [] a w0.w := hst
  refine wp_seq ?_
  refine gl (sts := []) (news := [⟨1, 24, ptrH, some 0, _, none⟩]) (sp := [.alc 0, .val 2 _]) [.o 1] hst (oc (ob_box rfl rfl rfl (gq 0 rfl)) (oc (ob_v rfl rfl (r_assign has_num)) o0)) (fun a w hst => ?_)
  have hst : St B w0 29 [(2, _)] [⟨1, 24, ptrH, _⟩] a w := hst
  refine thn_normal ?_
  refine wp_seq ?_
  refine wp_seq ?_
  refine gl (sts := [none]) (news := []) (sp := [.adr 5 1 (.some 1) True, .val 6 _, .val 7 _, .val 8 _]) [.g 0, .o 3] hst (oc (ob_a rfl rfl (a_fld (lz0 0 rfl) fld_24_1)) (oc (ob_v rfl rfl (r_loadf 0 rfl (by kernel_rfl) trivial (lz0 0 rfl) (Sub.part 1 rfl rfl) ty_22)) (oc (ob_v rfl rfl (r_lenm Tryz.underlying22 (vq 1 rfl))) (oc (ob_v rfl rfl (r_eql (vq 2 rfl) has_num)) o0)))) (fun a w hst => ?_)
  have hst : St B w0 29 [(2, _), (8, _)] [⟨1, 24, ptrH, _⟩] a w := hst
  refine thn_normal ?_
  refine cond_of hst (List.mem_of_getElem? (i := 1) rfl) (fun hb0 => ?_) (fun hb0 => ?_)
  · have h0 : lz p = 0 := by simp at hb0; rw [← hrl, hb0]; rfl
    refine wp_seq ?_
    refine gl (sts := [none]) (news := []) (sp := [.val 2 _]) [.o 0] hst (oc (ob_v rfl rfl (r_assign has_num)) o0) (fun a w hst => ?_)
    have hst : St B w0 29 [(2, _)] [⟨1, 24, ptrH, _⟩] a w := hst
    refine thn_normal ?_
    refine wp_ret ?_
    refine thn_ret ?_
    refine ret_wk ?_ (ret_tmp rfl hst (List.mem_of_getElem? (i := 0) rfl))
    rw [show bitF p = 0 by rw [bitF, if_pos h0]]; exact wk_id
  · have h0 : lz p ≠ 0 := by intro e; rw [← hrl] at e; simp [List.eq_nil_of_length_eq_zero e] at hb0
    have hlt : lz p - 1 < (limbs p.natAbs).length := by show lz p - 1 < lz p; omega
    have htop : (limbs p.natAbs).getD (lz p - 1) 0 < 4294967296 := getD_ok (canon_limbs _).1 _
    have hbt : 32 * (lz p - 1) + bln ((limbs p.natAbs).getD (lz p - 1) 0) = bitF p := by rw [bitF, if_neg h0]
    have hb32 := bln_le 32 _ htop
    refine wp_skip ?_
    refine thn_normal ?_
    refine wp_seq ?_
    refine gl (sts := [none]) (news := []) (sp := [.adr 9 1 (.some 1) True, .val 10 _, .val 11 _, .val 12 _, .val 13 _, .val 3 _]) [.g 0, .o 5] hst (oc (ob_a rfl rfl (a_fld (lz0 0 rfl) fld_24_1)) (oc (ob_v rfl rfl (r_loadf 0 rfl (by kernel_rfl) trivial (lz0 0 rfl) (Sub.part 1 rfl rfl) ty_22)) (oc (ob_v rfl rfl (r_lenm Tryz.underlying22 (vq 1 rfl))) (oc (ob_v rfl rfl (r_sub (vq 2 rfl) has_num ((wi64 (by omega) (by omega)).trans (by omega : (_ : Int) = ((lz p - 1 : Nat) : Int))))) (oc (ob_v rfl rfl (r_mul has_num (vq 3 rfl) ((wi64 (by omega) (by omega)).trans (by omega : (_ : Int) = ((32 * (lz p - 1) : Nat) : Int))))) (oc (ob_v rfl rfl (r_assign (vq 4 rfl))) o0)))))) (fun a w hst => ?_)
    have hst : St B w0 29 [(2, _), (3, _)] [⟨1, 24, ptrH, _⟩] a w := hst
    refine thn_normal ?_
    refine wp_seq ?_
    refine wp_seq ?_
    refine gl (sts := [none]) (news := []) (sp := [.adr 14 1 (.some 1) True, .val 15 _, .adr 16 1 (.some 1) True, .val 17 _, .val 18 _, .val 19 _, .val 20 _, .val 21 _, .val 4 _]) [.g 0, .g 1, .o 8] hst (oc (ob_a rfl rfl (a_fld (lz0 0 rfl) fld_24_1)) (oc (ob_v rfl rfl (r_loadf 0 rfl (by kernel_rfl) trivial (lz0 0 rfl) (Sub.part 1 rfl rfl) ty_22)) (oc (ob_a rfl rfl (a_fld (lz0 0 rfl) fld_24_1)) (oc (ob_v rfl rfl (r_loadf 2 rfl (by kernel_rfl) trivial (lz0 0 rfl) (Sub.part 1 rfl rfl) ty_22)) (oc (ob_v rfl rfl (r_lenm Tryz.underlying22 (vq 3 rfl))) (oc (ob_v rfl rfl (r_sub (vq 4 rfl) has_num ((wi64 (by omega) (by omega)).trans (by omega : (_ : Int) = ((lz p - 1 : Nat) : Int))))) (oc (ob_v rfl rfl (r_idxm sl_22 (vq 1 rfl) (vq 5 rfl) hlt)) (oc (ob_v rfl rfl (r_loade (vq 6 rfl) ty_122)) (oc (ob_v rfl rfl (r_assign (vq 7 rfl))) o0))))))))) (fun a w hst => ?_)
    have hst : St B w0 29 [(2, _), (3, _), (4, _)] [⟨1, 24, ptrH, _⟩] a w := hst
    refine thn_normal ?_
    refine wp_block ?_
    have hst := St.sel hst [1, 2]
    refine wp_loop_ghost (fun n a w => ∃ s t : Nat, (t < 4294967296 ∧ n = t ∧ s + bln t = bitF p) ∧ St B w0 29 [(3, In (s : Nat)), (4, (NumA .u32 (t : Nat)).va)] [⟨1, 24, ptrH, RIA (riOf p)⟩] a w) ((limbs p.natAbs).getD (lz p - 1) 0) ?_ ?_
    · rw [← getD_lt hlt] at hst; exact ⟨_, _, ⟨htop, rfl, hbt⟩, hst⟩
    intro n a w hI
    obtain ⟨s, t, ⟨ht, hnt, hs⟩, hst⟩ := hI
    refine wp_seq ?_
    refine wp_seq ?_
    refine gl (sts := [none]) (news := []) (sp := [.val 22 _, .val 23 _]) [.g 0, .g 1, .o 1] hst (oc (ob_v rfl rfl (r_move (gq 1 rfl))) (oc (ob_v rfl rfl (r_gtr (vq 0 rfl) (has_nat 0 rfl))) o0)) (fun a w hst => ?_)
    have hst : St B w0 29 [(3, _), (4, _), (23, _)] [⟨1, 24, ptrH, _⟩] a w := hst
    refine thn_normal ?_
    refine cond_of hst (List.mem_of_getElem? (i := 2) rfl) (fun hb1 => ?_) (fun hb1 => ?_)
    · have hb1 : 0 < t := by simp at hb1; omega
      refine wp_skip ?_
      refine thn_normal ?_
      refine wp_seq ?_
      refine wp_block ?_
      refine gl (sts := [none]) (news := []) (sp := [.val 26 _, .val 27 _, .val 3 _]) [.g 1, .o 2] hst (oc (ob_v rfl rfl (r_move (gq 0 rfl))) (oc (ob_v rfl rfl (r_add (vq 0 rfl) has_num (wi_succ (by omega)))) (oc (ob_v rfl rfl (r_assign (vq 1 rfl))) o0))) (fun a w hst => ?_)
      have hst : St B w0 29 [(4, _), (3, _)] [⟨1, 24, ptrH, _⟩] a w := hst
      refine blk_normal ?_
      refine thn_normal ?_
      refine gl (sts := [none]) (news := []) (sp := [.val 24 _, .val 25 _, .val 4 _]) [.g 1, .o 2] hst (oc (ob_v rfl rfl (r_move (gq 0 rfl))) (oc (ob_v rfl rfl (r_quo (vq 0 rfl) (has_nat 2 rfl) (by decide) (quo32 ht))) (oc (ob_v rfl rfl (r_assign (vq 1 rfl))) o0))) (fun a w hst => ?_)
      have hst : St B w0 29 [(3, _), (4, _)] [⟨1, 24, ptrH, _⟩] a w := hst
      refine thn_normal ?_
      have hst := St.sel hst [0, 1]
      exact ⟨t / 2, by omega, s + 1, t / 2, ⟨by omega, rfl, by rw [bln_pos hb1] at hs; omega⟩, hst⟩
    · have ht0 : t = 0 := by simp at hb1; omega
      refine wp_exit ?_
      refine thn_exit ?_
      refine thn_exit ?_
      refine blk_exit ?_
      refine thn_normal ?_
      refine wp_seq ?_
      refine gl (sts := [none]) (news := []) (sp := [.val 28 _, .val 2 _]) [.o 1] hst (oc (ob_v rfl rfl (r_move (gq 0 rfl))) (oc (ob_v rfl rfl (r_assign (vq 0 rfl))) o0)) (fun a w hst => ?_)
      have hst : St B w0 29 [(2, _)] [⟨1, 24, ptrH, _⟩] a w := hst
      refine thn_normal ?_
      refine wp_ret ?_
      refine ret_wk ?_ (ret_tmp rfl hst (List.mem_of_getElem? (i := 0) rfl))
      rw [show bitF p = s by rw [← hs, ht0, bln]; rfl]; exact wk_id

end Go.Proofs.YtmghfjcjcfaagaaGreat
