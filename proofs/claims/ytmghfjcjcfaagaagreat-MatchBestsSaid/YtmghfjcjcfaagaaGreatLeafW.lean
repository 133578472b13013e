import Derived.Test.YtmghfjcjcfaagaaGreatLeafV
namespace Go.Proofs.YtmghfjcjcfaagaaGreat
open Go Go.RowKit
namespace LeafW
theorem ty_26 : Ty Tryz.prog 26 4 true := ⟨by kernel_rfl, by kernel_rfl⟩
theorem ty_52 : Ty Tryz.prog 52 8 true := ⟨by kernel_rfl, by kernel_rfl⟩
end LeafW
open LeafW
/-! small numbers; beams that may be -/
theorem small_long {r : Rat} (h : r.num.natAbs < 4294967296 ∧ r.den < 4294967296) : longQ r = false :=
  longQ_of (k := 1) ⟨lz_le (by omega), lz_le (by omega)⟩ (by decide)
theorem sgn_le {x : Rat} : x.num.sign ≤ 0 ↔ ¬ 0 < x := by
  constructor
  · intro h hx
    have : 0 < x.num := by
      rcases Rat.lt_iff_le_and_ne.1 hx with ⟨h1, h2⟩
      have h3 := Rat.num_nonneg.2 h1
      have h4 : x.num ≠ 0 := fun e => h2 (Rat.num_eq_zero.1 e).symm
      omega
    have := Int.sign_pos_iff.2 this
    omega
  · intro h
    have : x.num ≤ 0 := by
      apply Decidable.byContradiction
      intro hn
      have h1 : 0 ≤ x := Rat.num_nonneg.1 (by omega)
      exact h (Rat.lt_iff_le_and_ne.2 ⟨h1, fun e => by rw [← e] at hn; exact hn (by decide)⟩)
    by_cases h0 : x.num = 0
    · rw [h0]; decide
    · rw [Int.sign_eq_neg_one_of_neg (by omega)]; decide
/-- a beam that may be, as numbers. -/
structure OkG (p : GQ) : Prop where
  re : longQ p.re = false
  im : longQ p.im = false
  pos : 0 < p.im
theorem toG_of (p : GQ) : toG (rgOf p) = p := by show (⟨toQ (rfOf p.re), toQ (rfOf p.im)⟩ : GQ) = p; rw [toQ_of, toQ_of]
theorem okX2_of (p : GQ) : [(rgOf p).re, (rgOf p).im].all okX = (!longQ p.re && !longQ p.im) := by
  show [rfOf p.re, rfOf p.im].all okX = _
  rw [two_ok, okX_of, okX_of]
theorem okB_of_ok {p : GQ} (h : OkG p) : okB (rgOf p) = true := by
  have e : bmC (rgOf p) = 0 := by
    unfold bmC
    rw [okX2_of, h.re, h.im]
    show (if (toQ (rfOf p.im)).num.sign ≤ 0 then (8 : Int) else 0) = 0
    rw [toQ_of, if_neg (fun hh => sgn_le.1 hh h.pos)]
  rw [okB, e]; rfl
theorem ovF_ok {p q : GQ} (hp : OkG p) (hq : OkG q) : ovF (rgOf p) (rgOf q) = ansF (alkQ p q) := by
  rw [ovF, okB_of_ok hp, okB_of_ok hq, toG_of, toG_of]; rfl
theorem ovF_no {x y : RG} (h : (okB x && okB y) = false) : ovF x y = (rf0, 1) := by rw [ovF, h]; rfl
set_option maxRecDepth 100000 in
theorem whole20_c {p q : Int} (hp : -9223372036854775808 ≤ p) (hp1 : p < 9223372036854775808) (hq0 : -9223372036854775808 ≤ q) (hq1 : q < 9223372036854775808) (hq : q ≠ 0) : Cn Tryz.prog 77 [In p, In q] ((RFA (rfOf (Rat.divInt p q))).va) := by
  refine Cn.intro Tryz.func77 rfl (by kernel_rfl) nq (fun B w0 a hst => ?_)
  have hst : St B w0 14 [(0, In p), (1, In q)] [] a w0.w := hst
  refine wp_seq ?_
  refine gl (sts := []) (news := [⟨4, 26, ptrH, some 0, _, none⟩]) (sp := [.alc 0]) [.g 0, .g 1] hst (oc (ob_alc rfl rfl rfl (Str.zero str_frac)) o0) (fun a w hst => ?_)
  have hst : St B w0 14 [(0, _), (1, _)] [⟨4, 26, ptrH, _⟩] a w := hst
  refine thn_normal ?_
  refine wp_seq ?_
  refine gl (sts := [none]) (news := [⟨5, 26, ptrH, some 6, _, some (7, _)⟩]) (sp := [.val 8 _, .val 9 _, .val 10 _, .val 7 _, .val 11 _, .val 12 _, .alc 1, .sto 1, .val 6 _]) [] hst (oc (ob_v rfl rfl (r_move (gq 0 rfl))) (oc (ob_v rfl rfl (r_move (gq 1 rfl))) (oc (ob_v rfl rfl (r_call (xs := [.tmp 8, .tmp 9]) (ofQ_c hp hp1 hq0 hq1 hq) (.cons (vq 0 rfl) (.cons (vq 1 rfl) .nil)))) (oc (ob_v rfl rfl (r_move (vq 2 rfl))) (oc (ob_v rfl rfl (r_ex0 (vq 3 rfl))) (oc (ob_v rfl rfl (r_ex1 (vq 3 rfl))) (oc (ob_alc rfl rfl rfl (Str.zero str_frac)) (oc (ob_sto rfl rfl rfl (vq 4 rfl) ty_26 (Eq.trans (b := 4) rfl rfl)) (oc (ob_v rfl rfl (r_assign (vq 5 rfl))) o0))))))))) (fun a w hst => ?_)
  have hst : St B w0 14 [] [⟨4, 26, ptrH, _⟩, ⟨5, 26, ptrH, _⟩] a w := hst
  refine thn_normal ?_
  refine wp_seq ?_
  refine gl (sts := [some (1, _), none]) (news := []) (sp := [.val 13 _, .sto 0]) [] hst (oc (ob_v rfl rfl (r_load (lz0 1 rfl) ty_26)) (oc (ob_sto rfl rfl rfl (vq 0 rfl) ty_26 (Eq.trans (b := 4) rfl rfl)) o0)) (fun a w hst => ?_)
  have hst : St B w0 14 [] [⟨4, 26, ptrH, _⟩, ⟨5, 26, ptrH, _⟩] a w := hst
  refine thn_normal ?_
  refine wp_ret ?_
  refine ret_wk ?_ (ret_cell rfl hst (List.mem_of_getElem? (i := 0) rfl) ty_26)
  exact wk_id

set_option maxRecDepth 100000 in
theorem number20_c {a1 a2 a3 a4 : Int} (h : -100 ≤ a1 ∧ a1 ≤ 100 ∧ 0 < a2 ∧ a2 ≤ 100 ∧ -100 ≤ a3 ∧ a3 ≤ 100 ∧ 0 < a4 ∧ a4 ≤ 100) : Cn Tryz.prog 76 [In a1, In a2, In a3, In a4] ((RGA (rgOf ⟨Rat.divInt a1 a2, Rat.divInt a3 a4⟩)).va) := by
  refine Cn.intro Tryz.func76 rfl (by kernel_rfl) nq (fun B w0 a hst => ?_)
  have hst : St B w0 16 [(0, In a1), (1, In a2), (2, In a3), (3, In a4)] [] a w0.w := hst
  refine wp_seq ?_
  refine gl (sts := []) (news := [⟨8, 52, ptrH, some 0, _, none⟩]) (sp := [.alc 0]) [.g 0, .g 1, .g 2, .g 3] hst (oc (ob_alc rfl rfl rfl (Str.zero str_gauss)) o0) (fun a w hst => ?_)
  have hst : St B w0 16 [(0, _), (1, _), (2, _), (3, _)] [⟨8, 52, ptrH, _⟩] a w := hst
  refine thn_normal ?_
  refine wp_seq ?_
  refine gl (sts := [some (7, _)]) (news := []) (sp := [.val 9 _, .val 10 _, .val 11 _, .val 12 _, .val 13 _, .val 14 _, .val 15 _, .sto 0]) [] hst (oc (ob_v rfl rfl (r_move (gq 0 rfl))) (oc (ob_v rfl rfl (r_move (gq 1 rfl))) (oc (ob_v rfl rfl (r_call (xs := [.tmp 9, .tmp 10]) (whole20_c (by omega) (by omega) (by omega) (by omega) (by omega)) (.cons (vq 0 rfl) (.cons (vq 1 rfl) .nil)))) (oc (ob_v rfl rfl (r_move (gq 2 rfl))) (oc (ob_v rfl rfl (r_move (gq 3 rfl))) (oc (ob_v rfl rfl (r_call (xs := [.tmp 12, .tmp 13]) (whole20_c (by omega) (by omega) (by omega) (by omega) (by omega)) (.cons (vq 3 rfl) (.cons (vq 4 rfl) .nil)))) (oc (ob_v rfl rfl (r_build (xs := [(0, .tmp 11), (1, .tmp 14)]) (qs := [(0, _), (1, _)]) str_gauss (.cons ⟨rfl, (vq 2 rfl), rfl⟩ (.cons ⟨rfl, (vq 5 rfl), rfl⟩ .nil)))) (oc (ob_sto rfl rfl rfl (vq 6 rfl) ty_52 (Eq.trans (b := 8) rfl rfl)) o0)))))))) (fun a w hst => ?_)
  have hst : St B w0 16 [] [⟨8, 52, ptrH, _⟩] a w := hst
  refine thn_normal ?_
  refine wp_ret ?_
  refine ret_wk ?_ (ret_cell rfl hst (List.mem_of_getElem? (i := 0) rfl) ty_52)
  exact wk_id

theorem okg_lit {a b : Rat} (h : (a.num.natAbs < 4294967296 ∧ a.den < 4294967296) ∧ (b.num.natAbs < 4294967296 ∧ b.den < 4294967296) ∧ 0 < b) : OkG ⟨a, b⟩ := ⟨small_long h.1, small_long h.2.1, h.2.2⟩
theorem okB_low {a b : Rat} (h : (a.num.natAbs < 4294967296 ∧ a.den < 4294967296) ∧ (b.num.natAbs < 4294967296 ∧ b.den < 4294967296) ∧ ¬ 0 < b) : okB (rgOf ⟨a, b⟩) = false := by
  have e : bmC (rgOf ⟨a, b⟩) = 8 := by
    unfold bmC
    rw [okX2_of, small_long h.1, small_long h.2.1]
    show (if (toQ (rfOf b)).num.sign ≤ 0 then (8 : Int) else 0) = 8
    rw [toQ_of, if_pos (sgn_le.2 h.2.2)]
  rw [okB, e]; rfl
theorem lives20_e : ((((ovF (rgOf ⟨Rat.divInt 0 1, Rat.divInt 1 1⟩) (rgOf ⟨Rat.divInt 0 1, Rat.divInt 2 1⟩)).2 == 0) && ((ovF (rgOf ⟨Rat.divInt 0 1, Rat.divInt 1 1⟩) (rgOf ⟨Rat.divInt 0 1, Rat.divInt (-1) 1⟩)).2 == 1)) &&
    decide ((ovF (rgOf ⟨Rat.divInt 0 1, Rat.divInt 1 1⟩) (rgOf ⟨Rat.divInt 0 1, Rat.divInt 2 1⟩)).1 = rfOf (Rat.divInt 8 9))) = true := by
  rw [ovF_ok (okg_lit (by decide)) (okg_lit (by decide)), ovF_no (by rw [okB_low (a := Rat.divInt 0 1) (b := Rat.divInt (-1) 1) (by decide), Bool.and_false]),
    show alkQ ⟨Rat.divInt 0 1, Rat.divInt 1 1⟩ ⟨Rat.divInt 0 1, Rat.divInt 2 1⟩ = Rat.divInt 8 9 from by kernel_rfl, ansF_ok (longQ_false.1 (small_long (by decide)))]
  simp

set_option maxRecDepth 100000 in
theorem lives20_c  : Cn Tryz.prog 31 [] (Bo true) := by
  refine Cn.intro Tryz.func31 rfl (by kernel_rfl) nq (fun B w0 a hst => ?_)
  have hst : St B w0 28 [] [] a w0.w := hst
  refine wp_seq ?_
  refine gl (sts := []) (news := []) (sp := [.val 0 _]) [.o 0] hst (oc (ob_v rfl rfl (r_assign has_bo)) o0) (fun a w hst => ?_)
  have hst : St B w0 28 [(0, _)] [] a w := hst
  refine thn_normal ?_
  refine wp_seq ?_
  refine gl (sts := []) (news := [⟨1, 26, ptrH, some 6, _, some (7, _)⟩]) (sp := [.val 6 _, .val 7 _, .val 8 _, .val 5 _, .val 9 _, .val 10 _, .alc 0, .sto 0, .val 2 _]) [.g 0, .o 8] hst (oc (ob_v rfl rfl (r_call (xs := [.const (.int .i64 (0)), .const (.int .i64 (1)), .const (.int .i64 (1)), .const (.int .i64 (1))]) (number20_c (by decide)) (.cons has_num (.cons has_num (.cons has_num (.cons has_num .nil)))))) (oc (ob_v rfl rfl (r_call (xs := [.const (.int .i64 (0)), .const (.int .i64 (1)), .const (.int .i64 (2)), .const (.int .i64 (1))]) (number20_c (by decide)) (.cons has_num (.cons has_num (.cons has_num (.cons has_num .nil)))))) (oc (ob_v rfl rfl (r_call (xs := [.tmp 6, .tmp 7]) (overlap_c _ _) (.cons (vq 0 rfl) (.cons (vq 1 rfl) .nil)))) (oc (ob_v rfl rfl (r_move (vq 2 rfl))) (oc (ob_v rfl rfl (r_ex0 (vq 3 rfl))) (oc (ob_v rfl rfl (r_ex1 (vq 3 rfl))) (oc (ob_alc rfl rfl rfl (Str.zero str_frac)) (oc (ob_sto rfl rfl rfl (vq 4 rfl) ty_26 (Eq.trans (b := 4) rfl rfl)) (oc (ob_v rfl rfl (r_assign (vq 5 rfl))) o0))))))))) (fun a w hst => ?_)
  have hst : St B w0 28 [(0, _), (2, _)] [⟨1, 26, ptrH, _⟩] a w := hst
  refine thn_normal ?_
  refine wp_seq ?_
  refine gl (sts := [none]) (news := [⟨3, 26, ptrH, some 6, _, some (7, _)⟩]) (sp := [.val 12 _, .val 13 _, .val 14 _, .val 11 _, .val 15 _, .val 16 _, .alc 1, .sto 1, .val 4 _]) [.g 0, .g 1, .o 8] hst (oc (ob_v rfl rfl (r_call (xs := [.const (.int .i64 (0)), .const (.int .i64 (1)), .const (.int .i64 (1)), .const (.int .i64 (1))]) (number20_c (by decide)) (.cons has_num (.cons has_num (.cons has_num (.cons has_num .nil)))))) (oc (ob_v rfl rfl (r_call (xs := [.const (.int .i64 (0)), .const (.int .i64 (1)), .const (.int .i64 (-1)), .const (.int .i64 (1))]) (number20_c (by decide)) (.cons has_num (.cons has_num (.cons has_num (.cons has_num .nil)))))) (oc (ob_v rfl rfl (r_call (xs := [.tmp 12, .tmp 13]) (overlap_c _ _) (.cons (vq 0 rfl) (.cons (vq 1 rfl) .nil)))) (oc (ob_v rfl rfl (r_move (vq 2 rfl))) (oc (ob_v rfl rfl (r_ex0 (vq 3 rfl))) (oc (ob_v rfl rfl (r_ex1 (vq 3 rfl))) (oc (ob_alc rfl rfl rfl (Str.zero str_frac)) (oc (ob_sto rfl rfl rfl (vq 4 rfl) ty_26 (Eq.trans (b := 4) rfl rfl)) (oc (ob_v rfl rfl (r_assign (vq 5 rfl))) o0))))))))) (fun a w hst => ?_)
  have hst : St B w0 28 [(0, _), (2, _), (4, _)] [⟨1, 26, ptrH, _⟩, ⟨3, 26, ptrH, _⟩] a w := hst
  refine thn_normal ?_
  refine wp_seq ?_
  refine go_draw (anc := [[], [0], [0, 1], [0, 1, 2], [0, 1, 2, 3], [0, 1, 2, 3, 4], [0, 1, 2, 3, 4, 5], [0, 1, 2, 3, 4, 5, 6], [0, 1, 2, 3, 4, 5, 6], [0, 1, 2, 3, 4, 5, 6, 7, 8], [0, 1, 2, 3, 4, 5, 6, 7, 8, 9], [0, 1, 2, 3, 4, 5, 6, 7, 8, 9, 10]]) (sts := [none, none]) (news := []) (sp := [.val 17 _, .val 18 _, .val 19 _, .val 20 (Wh (_ = true) _), .val 21 (Wh (_ = true) _), .val 22 _, .val 23 _, .val 24 (Wh (_ = true) _), .val 25 (Wh (_ = true) _), .val 26 (Wh (_ = true) _), .val 27 _, .val 0 _]) [.o 11] follows_mixed hst (oc (ob_v rfl rfl (r_move (gq 1 rfl))) (oc (ob_v rfl rfl (r_eql (vq 0 rfl) has_num)) (oc (ob_v rfl rfl (r_move (vq 1 rfl))) (oc (ob_gd rfl rfl rfl (vq 2 rfl) nq (fun hg => r_move (gq 2 rfl))) (oc (ob_gd rfl rfl rfl (vq 2 rfl) nq (fun hg => r_eql (has_wh (vq 3 rfl) hg) has_num)) (oc (ob_v rfl rfl (r_and (vq 2 rfl) (vq 4 rfl))) (oc (ob_v rfl rfl (r_move (vq 5 rfl))) (oc (ob_gd rfl rfl rfl (vq 6 rfl) nq (fun hg => r_load (lz0 0 rfl) ty_26)) (oc (ob_gd rfl rfl rfl (vq 6 rfl) nq (fun hg => r_call (xs := [.const (.int .i64 (8)), .const (.int .i64 (9))]) (whole20_c (by decide) (by decide) (by decide) (by decide) (by decide)) (.cons has_num (.cons has_num .nil)))) (oc (ob_gd rfl rfl rfl (vq 6 rfl) nq (fun hg => r_call (xs := [.tmp 24, .tmp 25]) (sameFrac_c _ _) (.cons (has_wh (vq 7 rfl) hg) (.cons (has_wh (vq 8 rfl) hg) .nil)))) (oc (ob_v rfl rfl (r_and (vq 6 rfl) (vq 9 rfl))) (oc (ob_v rfl rfl (r_assign (vq 10 rfl))) o0)))))))))))) (by kernel_rfl) (by kernel_rfl) (by kernel_rfl) (by kernel_rfl) (fun a w hst => ?_)
  have hst : St B w0 28 [(0, _)] [⟨1, 26, ptrH, _⟩, ⟨3, 26, ptrH, _⟩] a w := hst
  refine thn_normal ?_
  refine wp_ret ?_
  refine ret_wk ?_ (ret_tmp rfl hst (List.mem_of_getElem? (i := 0) rfl))
  exact wk_eq (congrArg Bo lives20_e)

end Go.Proofs.YtmghfjcjcfaagaaGreat
