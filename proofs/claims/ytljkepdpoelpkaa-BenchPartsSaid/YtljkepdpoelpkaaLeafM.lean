import Derived.Test.YtljkepdpoelpkaaLeafL
namespace Go.Proofs.Ytljkepdpoelpkaa
open Go Go.RowKit
namespace LeafM
theorem fld_33_0 : Fld Try.prog 33 0 0 1 := ⟨_, _, Try.underlying33, rfl, rfl, by kernel_rfl, by decide⟩
theorem fld_33_1 : Fld Try.prog 33 1 1 1 := ⟨_, _, Try.underlying33, rfl, rfl, by kernel_rfl, by decide⟩
theorem sl_31 : Sl Try.prog 31 91 1 := ⟨by kernel_rfl, by kernel_rfl⟩
theorem ty_31 : Ty Try.prog 31 1 false := ⟨by kernel_rfl, by kernel_rfl⟩
theorem ty_33 : Ty Try.prog 33 2 true := ⟨by kernel_rfl, by kernel_rfl⟩
theorem ty_4 : Ty Try.prog 4 1 false := ⟨by kernel_rfl, by kernel_rfl⟩
theorem ty_91 : Ty Try.prog 91 1 false := ⟨by kernel_rfl, by kernel_rfl⟩
end LeafM
open LeafM
theorem nat_tdiv (p q : Int) : (p.tdiv q).natAbs = p.natAbs / q.natAbs := Int.natAbs_tdiv p q
theorem nat_tmod (p q : Int) : (p.tmod q).natAbs = p.natAbs % q.natAbs := Int.natAbs_tmod p q
theorem divz_neg {p q : Int} (h : p.tdiv q ≠ 0) : (decide (p < 0) != decide (q < 0)) = decide (p.tdiv q < 0) := by
  have hp : p ≠ 0 := fun e => h (by rw [e, Int.zero_tdiv])
  have hq : q ≠ 0 := fun e => h (by rw [e, Int.tdiv_zero])
  have e : ∀ {x y : Int}, 0 < x → 0 < y → 0 ≤ x.tdiv y := fun hx hy => Int.tdiv_nonneg (by omega) (by omega)
  by_cases h2 : p < 0 <;> by_cases h3 : q < 0
  · have : 0 ≤ (-p).tdiv (-q) := e (by omega) (by omega)
    rw [Int.neg_tdiv, Int.tdiv_neg, Int.neg_neg] at this
    simp [h2, h3]; omega
  · have : 0 ≤ (-p).tdiv q := e (by omega) (by omega)
    rw [Int.neg_tdiv] at this
    simp [h2, h3]; omega
  · have : 0 ≤ p.tdiv (-q) := e (by omega) (by omega)
    rw [Int.tdiv_neg] at this
    simp [h2, h3]; omega
  · have : 0 ≤ p.tdiv q := e (by omega) (by omega)
    simp [h2, h3]; omega
theorem modz_neg {p q : Int} (h : p.tmod q ≠ 0) : decide (p < 0) = decide (p.tmod q < 0) := by
  by_cases h2 : p < 0
  · have : 0 ≤ (-p).tmod q := Int.tmod_nonneg _ (by omega)
    rw [Int.neg_tmod] at this
    simp [h2]; omega
  · have : 0 ≤ p.tmod q := Int.tmod_nonneg _ (by omega)
    simp [h2]; omega
theorem small_div {p q : Int} (h : p.natAbs < q.natAbs) : p.tdiv q = 0 ∧ p.tmod q = p := by
  have h1 : (p.tdiv q).natAbs = 0 := by rw [nat_tdiv, Nat.div_eq_of_lt h]
  have h2 : p.tdiv q = 0 := by omega
  have h3 := Int.tdiv_mul_add_tmod p q
  exact ⟨h2, by rw [h2] at h3; simpa using h3⟩
theorem divz_lt {a b n m : Nat} (ha : a < 4294967296 ^ n) (hb : 4294967296 ^ (m - 1) ≤ b) (hm : 0 < m) (hmn : m ≤ n) : a / b < 4294967296 ^ (n + 1 - m) := by
  have hp : 0 < 4294967296 ^ (m - 1) := Nat.pow_pos (by decide)
  rw [Nat.div_lt_iff_lt_mul (by omega)]
  have : 4294967296 ^ (n + 1 - m) * 4294967296 ^ (m - 1) ≤ 4294967296 ^ (n + 1 - m) * b := Nat.mul_le_mul_left _ hb
  rw [← Nat.pow_add, show n + 1 - m + (m - 1) = n by omega] at this
  omega
/-- the quotient, out of its limbs. -/
theorem divz_q {p q : Int} {n : Nat} (h : p.natAbs / q.natAbs < 4294967296 ^ n) : rsig ((riOf p).neg != (riOf q).neg) (digs n (val (riOf p).mag / val (riOf q).mag)) = riOf (p.tdiv q) := by
  rw [val_ri, val_ri]
  exact rsig_of (okL_digs _ _) (by rw [val_digs, Nat.mod_eq_of_lt h, nat_tdiv]) divz_neg
theorem divz_r {p q : Int} {n : Nat} (h : p.natAbs % q.natAbs < 4294967296 ^ n) : rsig (riOf p).neg (digs n (val (riOf p).mag % val (riOf q).mag)) = riOf (p.tmod q) := by
  rw [val_ri, val_ri]
  exact rsig_of (okL_digs _ _) (by rw [val_digs, Nat.mod_eq_of_lt h, nat_tmod]) modz_neg
theorem own_ri (p : Int) : rsig (riOf p).neg (riOf p).mag = riOf p := rsig_of (ok_ri p) (val_ri p) fun _ => rfl
theorem size_no {p q : Int} (h : decide (sizeL (riOf p).mag (riOf q).mag < 0) = true) : p.natAbs < q.natAbs := by
  have := (sizeL_limbs (m := p.natAbs) (n := q.natAbs)).1
  have h' : sizeL (limbs p.natAbs) (limbs q.natAbs) < 0 := of_decide_eq_true h
  omega
theorem size_yes {p q : Int} (h : decide (sizeL (riOf p).mag (riOf q).mag < 0) = false) : q.natAbs ≤ p.natAbs := by
  have := (sizeL_limbs (m := p.natAbs) (n := q.natAbs)).1
  have h' : ¬ sizeL (limbs p.natAbs) (limbs q.natAbs) < 0 := of_decide_eq_false h
  omega
theorem one_limb' {l : List Nat} {v : Nat} (hv : val l = v) (ok : okL l) (h : l.length = 1) : l[0]'(by omega) = v ∧ v < 4294967296 := by
  match l, h with
  | [x], _ => exact ⟨by simpa using hv, by have := ok x (by simp); simp at hv; omega⟩
theorem one_limb {q : Int} (h : (riOf q).mag.length = 1) : (riOf q).mag[0]'(by omega) = q.natAbs ∧ q.natAbs < 4294967296 := one_limb' (val_ri q) (ok_ri q) h
theorem ri_len {p : Int} : (riOf p).mag.length = lz p := rfl
theorem top_ne {q : Int} {k : Nat} (h : (riOf q).mag.length = k + 2) : (riOf q).mag.getD (k + 1) 0 ≠ 0 := by
  have h1 := (canon_limbs q.natAbs).2
  have h2 : (limbs q.natAbs).length = k + 2 := h
  intro hh
  apply h1
  rw [List.getLast?_eq_getElem?, h2, show k + 2 - 1 = k + 1 from rfl]
  have : (limbs q.natAbs).getD (k + 1) 0 = 0 := hh
  rw [List.getD_eq_getElem?_getD, List.getElem?_eq_getElem (by omega)] at this
  rw [List.getElem?_eq_getElem (by omega)]
  simpa using this
theorem lz_pos {q : Int} (h : q ≠ 0) : 0 < lz q := by unfold lz; rw [limbs_pos (by omega)]; simp
theorem lz_mono {p q : Int} (h : p.natAbs ≤ q.natAbs) : lz p ≤ lz q := len_mono h
theorem lz_low {q : Int} (h : q ≠ 0) : 4294967296 ^ (lz q - 1) ≤ q.natAbs := by
  have := (canon_limbs q.natAbs).lt_val (by rw [limbs_pos (by omega)]; simp)
  rw [val_limbs] at this
  exact this
theorem lz_high (q : Int) : q.natAbs < 4294967296 ^ lz q := lt_of_limbs_len (Nat.le_refl _)
theorem zi_zero : (cat (setAll [BoA false, MgA []] [])).va = Zi 0 := by
  rw [show Zi 0 = (cat [BoA (riOf 0).neg, MgA (riOf 0).mag]).va from rfl, show riOf 0 = ⟨false, []⟩ from by simp [riOf, limbs_zero]]
  rfl
theorem zi_zeroN : (cat (setAll [BoA false, MgN []] [])).va = (RIN (riOf 0)).va := by
  rw [show riOf 0 = ⟨false, []⟩ from by simp [riOf, limbs_zero]]
  rfl
theorem divz_qs {p q : Int} (hq : q ≠ 0) (hge : q.natAbs ≤ p.natAbs) (h : (riOf q).mag.length = 1) : rsig ((riOf p).neg != (riOf q).neg) (digs (riOf p).mag.length (val (riOf p).mag / (riOf q).mag[0]'(by omega))) = riOf (p.tdiv q) := by
  rw [show (riOf q).mag[0]'(by omega) = val (riOf q).mag from by rw [(one_limb h).1, val_ri]]
  have := divz_lt (lz_high p) (lz_low hq) (lz_pos hq) (lz_mono hge)
  rw [show lz q = 1 from h] at this
  exact divz_q this
theorem rsig_one {p q : Int} (h : (riOf q).mag.length = 1) (hq : q ≠ 0) : rsig (riOf p).neg [val (riOf p).mag % (riOf q).mag[0]'(by omega)] = riOf (p.tmod q) := by
  have h1 := one_limb h
  rw [h1.1, val_ri]
  have : p.natAbs % q.natAbs < 4294967296 := Nat.lt_trans (Nat.mod_lt _ (by omega)) h1.2
  exact rsig_of (okL_cons.2 ⟨this, okL_nil⟩) (by rw [nat_tmod]; simp) modz_neg

set_option maxRecDepth 100000 in
theorem divideZ_c (p q : Int) (hq : q ≠ 0) (hp : lz p ≤ 1099511627776) : Cn Try.prog 68 [Zi p, Zi q] (Tu [(RIN (riOf (p.tdiv q))).va, (RIN (riOf (p.tmod q))).va]) := by
  refine Cn.introW Try.func68 rfl (by kernel_rfl) nq (.cons (up_ri _).va (.cons (up_ri _).va .nil)) (tu_free (.cons (free_ri _).va (.cons (free_ri _).va .nil))) (fun B w0 a hB0 hst => ?_)
  have hst : St B w0 68 [(0, (RIO (riOf p)).va), (1, (RIO (riOf q)).va)] [] a w0.w := hst
  refine wp_seq ?_
  refine gl (sts := []) (news := [⟨2, 33, ptrH, some 0, _, none⟩, ⟨3, 33, ptrH, some 1, _, none⟩, ⟨4, 33, ptrH, some 2, _, none⟩, ⟨5, 33, ptrH, some 3, _, none⟩]) (sp := [.alc 0, .alc 1, .alc 2, .alc 3]) [] hst (oc (ob_box rfl rfl rfl (gq 0 rfl)) (oc (ob_box rfl rfl rfl (gq 1 rfl)) (oc (ob_alc rfl rfl rfl (Str.zero str_intO)) (oc (ob_alc rfl rfl rfl (Str.zero str_intO)) o0)))) (fun a w hst => ?_)
  have hst : St B w0 68 [] [⟨2, 33, ptrH, _⟩, ⟨3, 33, ptrH, _⟩, ⟨4, 33, ptrH, _⟩, ⟨5, 33, ptrH, _⟩] a w := hst
  refine thn_normal ?_
  refine wp_seq ?_
  refine wp_block ?_
  refine wp_seq ?_
  refine gl (sts := [none, none, none, none]) (news := []) (sp := [.adr 11 2 (.some 1) True, .val 12 _, .adr 13 3 (.some 1) True, .val 14 _, .val 15 _, .val 16 _, .val 10 _]) [.o 6] hst (oc (ob_a rfl rfl (a_fld (lz0 0 rfl) fld_33_1)) (oc (ob_v rfl rfl (r_loadf 0 rfl (by kernel_rfl) trivial (lz0 0 rfl) (Sub.part 1 rfl rfl) ty_31)) (oc (ob_a rfl rfl (a_fld (lz0 1 rfl) fld_33_1)) (oc (ob_v rfl rfl (r_loadf 2 rfl (by kernel_rfl) trivial (lz0 1 rfl) (Sub.part 1 rfl rfl) ty_31)) (oc (ob_v rfl rfl (r_call (xs := [.tmp 12, .tmp 14]) ((size_c _ _).wk (.cons wk_mgO (.cons wk_mgO .nil))) (.cons (vq 1 rfl) (.cons (vq 3 rfl) .nil)))) (oc (ob_v rfl rfl (r_lss (vq 4 rfl) has_num)) (oc (ob_v rfl rfl (r_assign (vq 5 rfl))) o0))))))) (fun a w hst => ?_)
  have hst : St B w0 68 [(10, _)] [⟨2, 33, ptrH, _⟩, ⟨3, 33, ptrH, _⟩, ⟨4, 33, ptrH, _⟩, ⟨5, 33, ptrH, _⟩] a w := hst
  refine thn_normal ?_
  refine cond_of hst (List.mem_of_getElem? (i := 0) rfl) (fun hb0 => ?_) (fun hb0 => ?_)
  · have hlt := size_no hb0
    refine wp_seq ?_
    refine gl (sts := [none, none, some (6, _), some (7, _)]) (news := []) (sp := [.val 17 _, .adr 18 2 (.some 0) True, .val 19 _, .adr 20 2 (.some 1) True, .val 21 _, .val 22 _, .sto 2, .sto 3]) [] hst (oc (ob_v rfl rfl (r_build (xs := []) (qs := []) (fam_str famN) .nil)) (oc (ob_a rfl rfl (a_fld (lz0 0 rfl) fld_33_0)) (oc (ob_v rfl rfl (r_loadf 1 rfl (by kernel_rfl) trivial (lz0 0 rfl) (Sub.part 0 rfl rfl) ty_4)) (oc (ob_a rfl rfl (a_fld (lz0 0 rfl) fld_33_1)) (oc (ob_v rfl rfl (r_loadf 3 rfl (by kernel_rfl) trivial (lz0 0 rfl) (Sub.part 1 rfl rfl) ty_31)) (oc (ob_v rfl rfl (r_call (xs := [.tmp 19, .tmp 21]) ((own_c _ _ hp).wk (.cons wk_id (.cons wk_mgO .nil))) (.cons (vq 2 rfl) (.cons (vq 4 rfl) .nil)))) (oc (ob_sto rfl rfl rfl (vq 0 rfl) ty_33 (Eq.trans (b := 2) rfl rfl)) (oc (ob_sto rfl rfl rfl (vq 5 rfl) ty_33 (Eq.trans (b := 2) rfl rfl)) o0)))))))) (fun a w hst => ?_)
    have hst : St B w0 68 [] [⟨2, 33, ptrH, _⟩, ⟨3, 33, ptrH, _⟩, ⟨4, 33, ptrH, _⟩, ⟨5, 33, ptrH, _⟩] a w := hst
    refine thn_normal ?_
    refine wp_ret ?_
    refine blk_ret ?_
    refine thn_ret ?_
    refine ret_cast ?_ (ret_many (rs := [.cell 4 33, .cell 5 33]) rfl hst (.cell (List.mem_of_getElem? (i := 2) rfl) ty_33 (.cell (List.mem_of_getElem? (i := 3) rfl) ty_33 .nil)) (by decide))
    exact tu2 ((congrArg (fun z => (RIN (riOf z)).va) (small_div hlt).1).trans zi_zeroN.symm).symm (congrArg (fun x => (RIN x).va) ((own_ri p).trans (congrArg riOf (small_div hlt).2.symm)))
  · have hge := size_yes hb0
    have hp0 : 0 < (riOf p).mag.length := Nat.lt_of_lt_of_le (lz_pos hq) (lz_mono hge)
    refine wp_seq ?_
    refine gl (sts := [none, none, none, none]) (news := []) (sp := [.adr 24 3 (.some 1) True, .val 25 _, .val 26 _, .val 27 _, .val 23 _]) [.o 4] hst (oc (ob_a rfl rfl (a_fld (lz0 1 rfl) fld_33_1)) (oc (ob_v rfl rfl (r_loadf 0 rfl (by kernel_rfl) trivial (lz0 1 rfl) (Sub.part 1 rfl rfl) ty_31)) (oc (ob_v rfl rfl (r_lenm Try.underlying31 (has_old (vq 1 rfl)))) (oc (ob_v rfl rfl (r_eql (vq 2 rfl) has_num)) (oc (ob_v rfl rfl (r_assign (vq 3 rfl))) o0))))) (fun a w hst => ?_)
    have hst : St B w0 68 [(23, _)] [⟨2, 33, ptrH, _⟩, ⟨3, 33, ptrH, _⟩, ⟨4, 33, ptrH, _⟩, ⟨5, 33, ptrH, _⟩] a w := hst
    refine thn_normal ?_
    refine cond_of hst (List.mem_of_getElem? (i := 0) rfl) (fun hb1 => ?_) (fun hb1 => ?_)
    · have h1 : (riOf q).mag.length = 1 := by simp at hb1; omega
      refine wp_seq ?_
      refine gl (sts := [none, none, none, none]) (news := []) (sp := [.adr 28 2 (.some 1) True, .val 29 _, .val 30 _, .val 6 _]) [.o 3] hst (oc (ob_a rfl rfl (a_fld (lz0 0 rfl) fld_33_1)) (oc (ob_v rfl rfl (r_loadf 0 rfl (by kernel_rfl) trivial (lz0 0 rfl) (Sub.part 1 rfl rfl) ty_31)) (oc (ob_v rfl rfl (r_call (xs := [.tmp 29]) ((clone_c _ hp).wk (.cons wk_mgO .nil)) (.cons (vq 1 rfl) .nil))) (oc (ob_v rfl rfl (r_assign (vq 2 rfl))) o0)))) (fun a w hst => ?_)
      have hst : St B w0 68 [(6, _)] [⟨2, 33, ptrH, _⟩, ⟨3, 33, ptrH, _⟩, ⟨4, 33, ptrH, _⟩, ⟨5, 33, ptrH, _⟩] a w := hst
      obtain ⟨c, ext, hc1, hc2, hok, hcx, hst⟩ := St.own hst hB0 0 rfl hp0 rfl
      have hst := St.sel hst []
      refine thn_normal ?_
      refine wp_seq ?_
      refine gl (sts := [some (5, _), none, none, none, none]) (news := []) (sp := [.adr 31 6 .none True, .adr 32 3 (.some 1) True, .val 33 _, .val 34 _, .val 35 _, .cal 36 _ 0, .val 7 _]) [.o 6] hst (oc (ob_a rfl rfl a_mov) (oc (ob_a rfl rfl (a_fld (lz0 2 rfl) fld_33_1)) (oc (ob_v rfl rfl (r_loadf 1 rfl (by kernel_rfl) trivial (lz0 2 rfl) (Sub.part 1 rfl rfl) ty_31)) (oc (ob_v rfl rfl (r_idxm sl_31 (has_old (vq 2 rfl)) (has_nat 0 rfl) (by omega))) (oc (ob_v rfl rfl (r_loade (vq 3 rfl) ty_91)) (oc (ob_cal (xs := [.tmp 31, .tmp 35]) rfl rfl rfl (short_c _ ext c _ (ok_ri p) hp (by rw [(one_limb h1).1]; omega) (by rw [(one_limb h1).1]; exact (one_limb h1).2)) (.cons (arw2 0 rfl (by kernel_rfl)) (.cons (vq 4 rfl) .nil))) (oc (ob_v rfl rfl (r_assign (has_c 5 rfl (by kernel_rfl) (by kernel_rfl)))) o0))))))) (fun a w hst => ?_)
      have hst : St B w0 68 [(7, _)] [⟨6, 91, slH (riOf p).mag.length c, _⟩, ⟨2, 33, ptrH, _⟩, ⟨3, 33, ptrH, _⟩, ⟨4, 33, ptrH, _⟩, ⟨5, 33, ptrH, _⟩] a w := hst
      refine thn_normal ?_
      refine wp_seq ?_
      refine go_draw (anc := [[], [0], [], [2], [0, 1, 2, 3], [], [0, 1, 2, 3, 4, 5], [], [7], [], [9], [0, 1, 2, 3, 4, 5, 6, 7, 8, 9, 10], [0, 1, 2, 3, 4, 5, 6, 7, 8, 9, 10, 11], [0, 1, 2, 3, 4, 5, 6, 7, 8, 9, 10, 11, 12]]) (sts := [none, none, none, some (12, _), some (13, _)]) (news := []) (sp := [.adr 37 2 (.some 0) True, .val 38 _, .adr 39 3 (.some 0) True, .val 40 _, .val 41 _, .adr 42 6 .none True, .val 43 _, .adr 44 2 (.some 0) True, .val 45 _, .val 46 _, .val 47 _, .val 48 _, .sto 3, .sto 4]) [] follows_mixed hst (oc (ob_a rfl rfl (a_fld (lz0 1 rfl) fld_33_0)) (oc (ob_v rfl rfl (r_loadf 0 rfl (by kernel_rfl) trivial (lz0 1 rfl) (Sub.part 0 rfl rfl) ty_4)) (oc (ob_a rfl rfl (a_fld (lz0 2 rfl) fld_33_0)) (oc (ob_v rfl rfl (r_loadf 2 rfl (by kernel_rfl) trivial (lz0 2 rfl) (Sub.part 0 rfl rfl) ty_4)) (oc (ob_v rfl rfl (r_neqb (by kernel_rfl) (vq 1 rfl) (vq 3 rfl))) (oc (ob_a rfl rfl a_mov) (oc (ob_v rfl rfl (r_call (xs := [.tmp 41, .tmp 42]) (signedN_c _ _) (.cons (vq 4 rfl) (.cons (has_rowX 5 rfl (by kernel_rfl) (lz0 0 rfl) ⟨(digs_length _ _).symm, hc1, hc2, okL_digs _ _⟩ (by rw [hcx, List.length_append, List.length_append, digs_length])) .nil)))) (oc (ob_a rfl rfl (a_fld (lz0 1 rfl) fld_33_0)) (oc (ob_v rfl rfl (r_loadf 7 rfl (by kernel_rfl) trivial (lz0 1 rfl) (Sub.part 0 rfl rfl) ty_4)) (oc (ob_v rfl rfl (r_move (gq 0 rfl))) (oc (ob_v rfl rfl (r_slicemN (l := [_]) (xs := [.tmp 46]) sl_31 (by kernel_rfl) nq nq (okL_cons.2 ⟨Nat.lt_trans (Nat.mod_lt _ (by rw [(one_limb h1).1]; omega)) (by rw [(one_limb h1).1]; exact (one_limb h1).2), okL_nil⟩) (.cons (vq 9 rfl) .nil) rfl rfl)) (oc (ob_v rfl rfl (r_call (xs := [.tmp 45, .tmp 47]) (signedN_c _ _) (.cons (vq 8 rfl) (.cons (vq 10 rfl) .nil)))) (oc (ob_sto rfl rfl rfl (vq 6 rfl) ty_33 (Eq.trans (b := 2) rfl rfl)) (oc (ob_sto rfl rfl rfl (vq 11 rfl) ty_33 (Eq.trans (b := 2) rfl rfl)) o0)))))))))))))) (by kernel_rfl) (by kernel_rfl) (by kernel_rfl) (by kernel_rfl) (fun a w hst => ?_)
      have hst : St B w0 68 [] [⟨6, 91, slH (riOf p).mag.length c, _⟩, ⟨2, 33, ptrH, _⟩, ⟨3, 33, ptrH, _⟩, ⟨4, 33, ptrH, _⟩, ⟨5, 33, ptrH, _⟩] a w := hst
      refine thn_normal ?_
      refine wp_ret ?_
      refine blk_ret ?_
      refine thn_ret ?_
      refine ret_cast ?_ (ret_many (rs := [.cell 4 33, .cell 5 33]) rfl hst (.cell (List.mem_of_getElem? (i := 3) rfl) ty_33 (.cell (List.mem_of_getElem? (i := 4) rfl) ty_33 .nil)) (by decide))
      exact tu2 (congrArg (fun x => (RIN x).va) (divz_qs hq hge h1)) (congrArg (fun x => (RIN x).va) (rsig_one h1 hq))
    · have h1 : (riOf q).mag.length ≠ 1 := by simp at hb1; omega
      have hql := lz_pos hq
      rw [← ri_len] at hql
      obtain ⟨k, hk⟩ : ∃ k, (riOf q).mag.length = k + 2 := ⟨(riOf q).mag.length - 2, by omega⟩
      have hkp : k + 2 ≤ (riOf p).mag.length := by rw [← hk]; exact lz_mono hge
      refine wp_skip ?_
      refine blk_normal ?_
      refine thn_normal ?_
      refine wp_seq ?_
      refine gl (sts := [none, none, none, none]) (news := []) (sp := [.adr 50 2 (.some 1) True, .val 51 _, .adr 52 3 (.some 1) True, .val 53 _, .val 54 _, .val 49 _, .val 55 _, .val 56 _, .val 8 _, .val 9 _]) [.o 8, .o 9] hst (oc (ob_a rfl rfl (a_fld (lz0 0 rfl) fld_33_1)) (oc (ob_v rfl rfl (r_loadf 0 rfl (by kernel_rfl) trivial (lz0 0 rfl) (Sub.part 1 rfl rfl) ty_31)) (oc (ob_a rfl rfl (a_fld (lz0 1 rfl) fld_33_1)) (oc (ob_v rfl rfl (r_loadf 2 rfl (by kernel_rfl) trivial (lz0 1 rfl) (Sub.part 1 rfl rfl) ty_31)) (oc (ob_v rfl rfl (r_call (xs := [.tmp 51, .tmp 53]) ((divide_c _ _ k hk (top_ne hk) hkp hp).wk (.cons wk_mgO (.cons wk_mgO .nil))) (.cons (vq 1 rfl) (.cons (vq 3 rfl) .nil)))) (oc (ob_v rfl rfl (r_move (vq 4 rfl))) (oc (ob_v rfl rfl (r_extract (vq 5 rfl) rfl)) (oc (ob_v rfl rfl (r_extract (vq 5 rfl) rfl)) (oc (ob_v rfl rfl (r_assign (vq 6 rfl))) (oc (ob_v rfl rfl (r_assign (vq 7 rfl))) o0)))))))))) (fun a w hst => ?_)
      have hst : St B w0 68 [(8, _), (9, _)] [⟨2, 33, ptrH, _⟩, ⟨3, 33, ptrH, _⟩, ⟨4, 33, ptrH, _⟩, ⟨5, 33, ptrH, _⟩] a w := hst
      refine thn_normal ?_
      refine wp_seq ?_
      refine go_draw (anc := [[], [0], [], [2], [0, 1, 2, 3], [], [0, 1, 2, 3, 4, 5], [], [7], [], [0, 1, 2, 3, 4, 5, 6, 7, 8, 9], [0, 1, 2, 3, 4, 5, 6, 7, 8, 9, 10], [0, 1, 2, 3, 4, 5, 6, 7, 8, 9, 10, 11]]) (sts := [none, none, some (11, _), some (12, _)]) (news := []) (sp := [.adr 57 2 (.some 0) True, .val 58 _, .adr 59 3 (.some 0) True, .val 60 _, .val 61 _, .val 62 _, .val 63 _, .adr 64 2 (.some 0) True, .val 65 _, .val 66 _, .val 67 _, .sto 2, .sto 3]) [] follows_mixed hst (oc (ob_a rfl rfl (a_fld (lz0 0 rfl) fld_33_0)) (oc (ob_v rfl rfl (r_loadf 0 rfl (by kernel_rfl) trivial (lz0 0 rfl) (Sub.part 0 rfl rfl) ty_4)) (oc (ob_a rfl rfl (a_fld (lz0 1 rfl) fld_33_0)) (oc (ob_v rfl rfl (r_loadf 2 rfl (by kernel_rfl) trivial (lz0 1 rfl) (Sub.part 0 rfl rfl) ty_4)) (oc (ob_v rfl rfl (r_neqb (by kernel_rfl) (vq 1 rfl) (vq 3 rfl))) (oc (ob_v rfl rfl (r_move (gq 0 rfl))) (oc (ob_v rfl rfl (r_call (xs := [.tmp 61, .tmp 62]) (signedN_c _ _) (.cons (vq 4 rfl) (.cons (vq 5 rfl) .nil)))) (oc (ob_a rfl rfl (a_fld (lz0 0 rfl) fld_33_0)) (oc (ob_v rfl rfl (r_loadf 7 rfl (by kernel_rfl) trivial (lz0 0 rfl) (Sub.part 0 rfl rfl) ty_4)) (oc (ob_v rfl rfl (r_move (gq 1 rfl))) (oc (ob_v rfl rfl (r_call (xs := [.tmp 65, .tmp 66]) (signedN_c _ _) (.cons (vq 8 rfl) (.cons (vq 9 rfl) .nil)))) (oc (ob_sto rfl rfl rfl (vq 6 rfl) ty_33 (Eq.trans (b := 2) rfl rfl)) (oc (ob_sto rfl rfl rfl (vq 10 rfl) ty_33 (Eq.trans (b := 2) rfl rfl)) o0))))))))))))) (by kernel_rfl) (by kernel_rfl) (by kernel_rfl) (by kernel_rfl) (fun a w hst => ?_)
      have hst : St B w0 68 [] [⟨2, 33, ptrH, _⟩, ⟨3, 33, ptrH, _⟩, ⟨4, 33, ptrH, _⟩, ⟨5, 33, ptrH, _⟩] a w := hst
      refine thn_normal ?_
      refine wp_ret ?_
      refine ret_cast ?_ (ret_many (rs := [.cell 4 33, .cell 5 33]) rfl hst (.cell (List.mem_of_getElem? (i := 2) rfl) ty_33 (.cell (List.mem_of_getElem? (i := 3) rfl) ty_33 .nil)) (by decide))
      exact tu2 (congrArg (fun x => (RIN x).va) (divz_q (hk ▸ divz_lt (lz_high p) (lz_low hq) (lz_pos hq) (lz_mono hge)))) (congrArg (fun x => (RIN x).va) (divz_r (Nat.lt_trans (Nat.mod_lt _ (by omega)) (hk ▸ lz_high q))))

end Go.Proofs.Ytljkepdpoelpkaa
