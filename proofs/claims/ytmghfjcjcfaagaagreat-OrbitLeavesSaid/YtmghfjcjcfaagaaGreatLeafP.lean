import Derived.Test.YtmghfjcjcfaagaaGreatLeafO
namespace Go.Proofs.YtmghfjcjcfaagaaGreat
open Go Go.RowKit
namespace LeafP
theorem fld_26_0 : Fld Tryz.prog 26 0 0 2 := ⟨_, _, Tryz.underlying26, rfl, rfl, by kernel_rfl, by decide⟩
theorem fld_26_1 : Fld Tryz.prog 26 1 2 2 := ⟨_, _, Tryz.underlying26, rfl, rfl, by kernel_rfl, by decide⟩
theorem ty_24 : Ty Tryz.prog 24 2 true := ⟨by kernel_rfl, by kernel_rfl⟩
theorem ty_26 : Ty Tryz.prog 26 4 true := ⟨by kernel_rfl, by kernel_rfl⟩
end LeafP
open LeafP
theorem rat_add (x y : Rat) : Rat.divInt (x.num * (y.den : Int) + y.num * (x.den : Int)) ((x.den : Int) * (y.den : Int)) = x + y := by
  rw [Rat.add_def', ← Rat.divInt_ofNat, Int.natCast_mul]
theorem rat_sub (x y : Rat) : Rat.divInt (x.num * (y.den : Int) - y.num * (x.den : Int)) ((x.den : Int) * (y.den : Int)) = x - y := by
  rw [Rat.sub_def', ← Rat.divInt_ofNat, Int.natCast_mul]
theorem rat_mul (x y : Rat) : Rat.divInt (x.num * y.num) ((x.den : Int) * (y.den : Int)) = x * y := by
  rw [Rat.mul_def', ← Rat.divInt_ofNat, Int.natCast_mul]
theorem den_nz (x y : Rat) : (x.den : Int) * (y.den : Int) ≠ 0 := Int.mul_ne_zero (by have := x.den_pos; omega) (by have := y.den_pos; omega)
/-- -1, 0 or 1. -/
def cmQ (x y : Rat) : Int := if x < y then -1 else if y < x then 1 else 0
theorem cm_sg (x y : Rat) : sg3 (x.num * (y.den : Int)) (y.num * (x.den : Int)) = cmQ x y := by
  unfold sg3 cmQ
  simp only [Rat.lt_iff]
set_option maxRecDepth 100000 in
theorem small_q {p q : Int} (hp : -9223372036854775808 ≤ p) (hp1 : p < 9223372036854775808) (hq : -9223372036854775808 ≤ q) (hq1 : q < 9223372036854775808) (h0 : q ≠ 0) : Cn Tryz.prog 58 [In p, In q] (Qs 2 (Rat.divInt p q)) := by
  refine Cn.intro Tryz.func58 rfl (by kernel_rfl) nq (fun B w0 a hst => ?_)
  have hst : St B w0 10 [(0, In p), (1, In q)] [] a w0.w := hst
  refine wp_seq ?_
  refine gl (sts := []) (news := [⟨4, 26, ptrH, some 0, _, none⟩]) (sp := [.alc 0]) [.g 0, .g 1] hst (oc (ob_alc rfl rfl rfl (Str.zero str_frac)) o0) (fun a w hst => ?_)
  have hst : St B w0 10 [(0, _), (1, _)] [⟨4, 26, ptrH, _⟩] a w := hst
  refine thn_normal ?_
  refine wp_seq ?_
  refine gl (sts := [some (5, _)]) (news := []) (sp := [.val 5 _, .val 6 _, .val 7 _, .val 8 _, .val 9 _, .sto 0]) [] hst (oc (ob_v rfl rfl (r_move (gq 0 rfl))) (oc (ob_v rfl rfl (r_call (xs := [.tmp 5]) (of_z hp hp1) (.cons (vq 0 rfl) .nil))) (oc (ob_v rfl rfl (r_move (gq 1 rfl))) (oc (ob_v rfl rfl (r_call (xs := [.tmp 7]) (of_z hq hq1) (.cons (vq 2 rfl) .nil))) (oc (ob_v rfl rfl (r_call (xs := [.tmp 6, .tmp 8]) (lowest_q (by omega) (by omega) h0) (.cons (vq 1 rfl) (.cons (vq 3 rfl) .nil)))) (oc (ob_sto rfl rfl rfl (vq 4 rfl) ty_26 (Eq.trans (b := 4) rfl rfl)) o0)))))) (fun a w hst => ?_)
  have hst : St B w0 10 [] [⟨4, 26, ptrH, _⟩] a w := hst
  refine thn_normal ?_
  refine wp_ret ?_
  refine ret_wk ?_ (ret_cell rfl hst (List.mem_of_getElem? (i := 0) rfl) ty_26)
  exact wk_id

set_option maxRecDepth 100000 in
theorem one_q  : Cn Tryz.prog 117 [] (Qs 2 1) := by
  refine Cn.intro Tryz.func117 rfl (by kernel_rfl) nq (fun B w0 a hst => ?_)
  have hst : St B w0 2 [] [] a w0.w := hst
  refine wp_seq ?_
  refine gl (sts := []) (news := [⟨0, 26, ptrH, some 0, _, none⟩]) (sp := [.alc 0]) [] hst (oc (ob_alc rfl rfl rfl (Str.zero str_frac)) o0) (fun a w hst => ?_)
  have hst : St B w0 2 [] [⟨0, 26, ptrH, _⟩] a w := hst
  refine thn_normal ?_
  refine wp_seq ?_
  refine gl (sts := [some (1, _)]) (news := []) (sp := [.val 1 _, .sto 0]) [] hst (oc (ob_v rfl rfl (r_call (xs := [.const (.int .i64 (1)), .const (.int .i64 (1))]) (small_q (by decide) (by decide) (by decide) (by decide) (by decide)) (.cons has_num (.cons has_num .nil)))) (oc (ob_sto rfl rfl rfl (vq 0 rfl) ty_26 (Eq.trans (b := 4) rfl rfl)) o0)) (fun a w hst => ?_)
  have hst : St B w0 2 [] [⟨0, 26, ptrH, _⟩] a w := hst
  refine thn_normal ?_
  refine wp_ret ?_
  refine ret_wk ?_ (ret_cell rfl hst (List.mem_of_getElem? (i := 0) rfl) ty_26)
  exact wk_eq (congrArg (Qs 2) (show Rat.divInt 1 1 = 1 from rfl))

set_option maxRecDepth 100000 in
theorem minus_q {c d : Nat} {x y : Rat} (hc : c + d ≤ 549755813888) : Cn Tryz.prog 136 [Qs c x, Qs d y] (Qs (c + d + 1) (x - y)) := by
  refine Cn.intro Tryz.func136 rfl (by kernel_rfl) nq (fun B w0 a hst => ?_)
  have hst : St B w0 22 [(0, Qs c x), (1, Qs d y)] [] a w0.w := hst
  refine wp_seq ?_
  refine gl (sts := []) (news := [⟨2, 26, ptrH, some 0, _, none⟩, ⟨3, 26, ptrH, some 1, _, none⟩, ⟨4, 26, ptrH, some 2, _, none⟩]) (sp := [.alc 0, .alc 1, .alc 2]) [] hst (oc (ob_box rfl rfl rfl (gq 0 rfl)) (oc (ob_box rfl rfl rfl (gq 1 rfl)) (oc (ob_alc rfl rfl rfl (Str.zero str_frac)) o0))) (fun a w hst => ?_)
  have hst : St B w0 22 [] [⟨2, 26, ptrH, _⟩, ⟨3, 26, ptrH, _⟩, ⟨4, 26, ptrH, _⟩] a w := hst
  refine thn_normal ?_
  refine wp_seq ?_
  refine go_draw (anc := [[], [0], [], [2], [0, 1, 2, 3], [], [5], [], [7], [0, 1, 2, 3, 4, 5, 6, 7, 8], [0, 1, 2, 3, 4, 5, 6, 7, 8, 9], [], [11], [], [13], [0, 1, 2, 3, 4, 5, 6, 7, 8, 9, 10, 11, 12, 13, 14], [0, 1, 2, 3, 4, 5, 6, 7, 8, 9, 10, 11, 12, 13, 14, 15], [0, 1, 2, 3, 4, 5, 6, 7, 8, 9, 10, 11, 12, 13, 14, 15, 16]]) (sts := [none, none, some (17, _)]) (news := []) (sp := [.adr 5 2 (.some 0) True, .val 6 _, .adr 7 3 (.some 2) True, .val 8 _, .val 9 _, .adr 10 3 (.some 0) True, .val 11 _, .adr 12 2 (.some 2) True, .val 13 _, .val 14 _, .val 15 _, .adr 16 2 (.some 2) True, .val 17 _, .adr 18 3 (.some 2) True, .val 19 _, .val 20 _, .val 21 _, .sto 2]) [] follows_mixed hst (oc (ob_a rfl rfl (a_fld (lz0 0 rfl) fld_26_0)) (oc (ob_v rfl rfl (r_loadf 0 rfl (by kernel_rfl) trivial (lz0 0 rfl) (Sub.part 0 rfl rfl) ty_24)) (oc (ob_a rfl rfl (a_fld (lz0 1 rfl) fld_26_1)) (oc (ob_v rfl rfl (r_loadf 2 rfl (by kernel_rfl) trivial (lz0 1 rfl) (Sub.part 1 rfl rfl) ty_24)) (oc (ob_v rfl rfl (r_call (xs := [.tmp 6, .tmp 8]) (times_z (by omega) (by omega)) (.cons (vq 1 rfl) (.cons (vq 3 rfl) .nil)))) (oc (ob_a rfl rfl (a_fld (lz0 1 rfl) fld_26_0)) (oc (ob_v rfl rfl (r_loadf 5 rfl (by kernel_rfl) trivial (lz0 1 rfl) (Sub.part 0 rfl rfl) ty_24)) (oc (ob_a rfl rfl (a_fld (lz0 0 rfl) fld_26_1)) (oc (ob_v rfl rfl (r_loadf 7 rfl (by kernel_rfl) trivial (lz0 0 rfl) (Sub.part 1 rfl rfl) ty_24)) (oc (ob_v rfl rfl (r_call (xs := [.tmp 11, .tmp 13]) (times_z (by omega) (by omega)) (.cons (vq 6 rfl) (.cons (vq 8 rfl) .nil)))) (oc (ob_v rfl rfl (r_call (xs := [.tmp 9, .tmp 14]) (minus_z (by omega) (by omega)) (.cons (vq 4 rfl) (.cons (vq 9 rfl) .nil)))) (oc (ob_a rfl rfl (a_fld (lz0 0 rfl) fld_26_1)) (oc (ob_v rfl rfl (r_loadf 11 rfl (by kernel_rfl) trivial (lz0 0 rfl) (Sub.part 1 rfl rfl) ty_24)) (oc (ob_a rfl rfl (a_fld (lz0 1 rfl) fld_26_1)) (oc (ob_v rfl rfl (r_loadf 13 rfl (by kernel_rfl) trivial (lz0 1 rfl) (Sub.part 1 rfl rfl) ty_24)) (oc (ob_v rfl rfl (r_call (xs := [.tmp 17, .tmp 19]) (times_z (by omega) (by omega)) (.cons (vq 12 rfl) (.cons (vq 14 rfl) .nil)))) (oc (ob_v rfl rfl (r_call (xs := [.tmp 15, .tmp 20]) (lowest_q (by omega) (by omega) (den_nz x y)) (.cons (vq 10 rfl) (.cons (vq 15 rfl) .nil)))) (oc (ob_sto rfl rfl rfl (vq 16 rfl) ty_26 (Eq.trans (b := 4) rfl rfl)) o0)))))))))))))))))) (by kernel_rfl) (by kernel_rfl) (by kernel_rfl) (by kernel_rfl) (fun a w hst => ?_)
  have hst : St B w0 22 [] [⟨2, 26, ptrH, _⟩, ⟨3, 26, ptrH, _⟩, ⟨4, 26, ptrH, _⟩] a w := hst
  refine thn_normal ?_
  refine wp_ret ?_
  refine ret_wk ?_ (ret_cell rfl hst (List.mem_of_getElem? (i := 2) rfl) ty_26)
  exact wk_trans (wk_eq (congrArg (Qs _) (rat_sub x y))) (qa_mono (by omega)).va

set_option maxRecDepth 100000 in
theorem times_q {c d : Nat} {x y : Rat} (hc : c + d ≤ 549755813888) : Cn Tryz.prog 56 [Qs c x, Qs d y] (Qs (c + d) (x * y)) := by
  refine Cn.intro Tryz.func56 rfl (by kernel_rfl) nq (fun B w0 a hst => ?_)
  have hst : St B w0 16 [(0, Qs c x), (1, Qs d y)] [] a w0.w := hst
  refine wp_seq ?_
  refine gl (sts := []) (news := [⟨2, 26, ptrH, some 0, _, none⟩, ⟨3, 26, ptrH, some 1, _, none⟩, ⟨4, 26, ptrH, some 2, _, none⟩]) (sp := [.alc 0, .alc 1, .alc 2]) [] hst (oc (ob_box rfl rfl rfl (gq 0 rfl)) (oc (ob_box rfl rfl rfl (gq 1 rfl)) (oc (ob_alc rfl rfl rfl (Str.zero str_frac)) o0))) (fun a w hst => ?_)
  have hst : St B w0 16 [] [⟨2, 26, ptrH, _⟩, ⟨3, 26, ptrH, _⟩, ⟨4, 26, ptrH, _⟩] a w := hst
  refine thn_normal ?_
  refine wp_seq ?_
  refine go_draw (anc := [[], [0], [], [2], [0, 1, 2, 3], [], [5], [], [7], [0, 1, 2, 3, 4, 5, 6, 7, 8], [0, 1, 2, 3, 4, 5, 6, 7, 8, 9], [0, 1, 2, 3, 4, 5, 6, 7, 8, 9, 10]]) (sts := [none, none, some (11, _)]) (news := []) (sp := [.adr 5 2 (.some 0) True, .val 6 _, .adr 7 3 (.some 0) True, .val 8 _, .val 9 _, .adr 10 2 (.some 2) True, .val 11 _, .adr 12 3 (.some 2) True, .val 13 _, .val 14 _, .val 15 _, .sto 2]) [] follows_mixed hst (oc (ob_a rfl rfl (a_fld (lz0 0 rfl) fld_26_0)) (oc (ob_v rfl rfl (r_loadf 0 rfl (by kernel_rfl) trivial (lz0 0 rfl) (Sub.part 0 rfl rfl) ty_24)) (oc (ob_a rfl rfl (a_fld (lz0 1 rfl) fld_26_0)) (oc (ob_v rfl rfl (r_loadf 2 rfl (by kernel_rfl) trivial (lz0 1 rfl) (Sub.part 0 rfl rfl) ty_24)) (oc (ob_v rfl rfl (r_call (xs := [.tmp 6, .tmp 8]) (times_z (by omega) (by omega)) (.cons (vq 1 rfl) (.cons (vq 3 rfl) .nil)))) (oc (ob_a rfl rfl (a_fld (lz0 0 rfl) fld_26_1)) (oc (ob_v rfl rfl (r_loadf 5 rfl (by kernel_rfl) trivial (lz0 0 rfl) (Sub.part 1 rfl rfl) ty_24)) (oc (ob_a rfl rfl (a_fld (lz0 1 rfl) fld_26_1)) (oc (ob_v rfl rfl (r_loadf 7 rfl (by kernel_rfl) trivial (lz0 1 rfl) (Sub.part 1 rfl rfl) ty_24)) (oc (ob_v rfl rfl (r_call (xs := [.tmp 11, .tmp 13]) (times_z (by omega) (by omega)) (.cons (vq 6 rfl) (.cons (vq 8 rfl) .nil)))) (oc (ob_v rfl rfl (r_call (xs := [.tmp 9, .tmp 14]) (lowest_q (by omega) (by omega) (den_nz x y)) (.cons (vq 4 rfl) (.cons (vq 9 rfl) .nil)))) (oc (ob_sto rfl rfl rfl (vq 10 rfl) ty_26 (Eq.trans (b := 4) rfl rfl)) o0)))))))))))) (by kernel_rfl) (by kernel_rfl) (by kernel_rfl) (by kernel_rfl) (fun a w hst => ?_)
  have hst : St B w0 16 [] [⟨2, 26, ptrH, _⟩, ⟨3, 26, ptrH, _⟩, ⟨4, 26, ptrH, _⟩] a w := hst
  refine thn_normal ?_
  refine wp_ret ?_
  refine ret_wk ?_ (ret_cell rfl hst (List.mem_of_getElem? (i := 2) rfl) ty_26)
  exact wk_trans (wk_eq (congrArg (Qs _) (rat_mul x y))) (qa_mono (by omega)).va

set_option maxRecDepth 100000 in
theorem cmp_q {c d : Nat} {x y : Rat} (hc : c + d ≤ 549755813888) : Cn Tryz.prog 57 [Qs c x, Qs d y] (In (cmQ x y)) := by
  refine Cn.intro Tryz.func57 rfl (by kernel_rfl) nq (fun B w0 a hst => ?_)
  have hst : St B w0 16 [(0, Qs c x), (1, Qs d y)] [] a w0.w := hst
  refine wp_seq ?_
  refine gl (sts := []) (news := [⟨2, 26, ptrH, some 0, _, none⟩, ⟨3, 26, ptrH, some 1, _, none⟩]) (sp := [.alc 0, .alc 1, .val 4 _]) [.o 2] hst (oc (ob_box rfl rfl rfl (gq 0 rfl)) (oc (ob_box rfl rfl rfl (gq 1 rfl)) (oc (ob_v rfl rfl (r_assign has_num)) o0))) (fun a w hst => ?_)
  have hst : St B w0 16 [(4, _)] [⟨2, 26, ptrH, _⟩, ⟨3, 26, ptrH, _⟩] a w := hst
  refine thn_normal ?_
  refine wp_seq ?_
  refine go_draw (anc := [[], [0], [], [2], [0, 1, 2, 3], [], [5], [], [7], [0, 1, 2, 3, 4, 5, 6, 7, 8], [0, 1, 2, 3, 4, 5, 6, 7, 8, 9], [0, 1, 2, 3, 4, 5, 6, 7, 8, 9, 10]]) (sts := [none, none]) (news := []) (sp := [.adr 5 2 (.some 0) True, .val 6 _, .adr 7 3 (.some 2) True, .val 8 _, .val 9 _, .adr 10 3 (.some 0) True, .val 11 _, .adr 12 2 (.some 2) True, .val 13 _, .val 14 _, .val 15 _, .val 4 _]) [.o 11] follows_mixed hst (oc (ob_a rfl rfl (a_fld (lz0 0 rfl) fld_26_0)) (oc (ob_v rfl rfl (r_loadf 0 rfl (by kernel_rfl) trivial (lz0 0 rfl) (Sub.part 0 rfl rfl) ty_24)) (oc (ob_a rfl rfl (a_fld (lz0 1 rfl) fld_26_1)) (oc (ob_v rfl rfl (r_loadf 2 rfl (by kernel_rfl) trivial (lz0 1 rfl) (Sub.part 1 rfl rfl) ty_24)) (oc (ob_v rfl rfl (r_call (xs := [.tmp 6, .tmp 8]) (times_z (by omega) (by omega)) (.cons (vq 1 rfl) (.cons (vq 3 rfl) .nil)))) (oc (ob_a rfl rfl (a_fld (lz0 1 rfl) fld_26_0)) (oc (ob_v rfl rfl (r_loadf 5 rfl (by kernel_rfl) trivial (lz0 1 rfl) (Sub.part 0 rfl rfl) ty_24)) (oc (ob_a rfl rfl (a_fld (lz0 0 rfl) fld_26_1)) (oc (ob_v rfl rfl (r_loadf 7 rfl (by kernel_rfl) trivial (lz0 0 rfl) (Sub.part 1 rfl rfl) ty_24)) (oc (ob_v rfl rfl (r_call (xs := [.tmp 11, .tmp 13]) (times_z (by omega) (by omega)) (.cons (vq 6 rfl) (.cons (vq 8 rfl) .nil)))) (oc (ob_v rfl rfl (r_call (xs := [.tmp 9, .tmp 14]) (cmp_z (by omega) (by omega)) (.cons (vq 4 rfl) (.cons (vq 9 rfl) .nil)))) (oc (ob_v rfl rfl (r_assign (vq 10 rfl))) o0)))))))))))) (by kernel_rfl) (by kernel_rfl) (by kernel_rfl) (by kernel_rfl) (fun a w hst => ?_)
  have hst : St B w0 16 [(4, _)] [⟨2, 26, ptrH, _⟩, ⟨3, 26, ptrH, _⟩] a w := hst
  refine thn_normal ?_
  refine wp_ret ?_
  refine ret_wk ?_ (ret_tmp rfl hst (List.mem_of_getElem? (i := 0) rfl))
  exact wk_eq (congrArg In (cm_sg x y))

/-! what is old -/
theorem upA_mg (l : List Nat) : UpA (MgA l) (MgA l) := ⟨rfl, rfl, fun B cs w hB hp => by
  obtain ⟨ok, h0, A, c, ds, rfl, h1, h2, h3, h4⟩ := hp
  refine ⟨ok, h0, A, c, ds, rfl, h1, h2, ?_, fun hn => ?_⟩
  · exact cat_nums.2 (cat_nums.1 h3)
  · obtain ⟨b, o, e1, e2, e3, e4⟩ := h4 hn
    exact ⟨b, o, e1, e2, .inl e2, e4⟩⟩
theorem upA_ri (x : RI) : UpA (RIA x) (RIA x) := cat_up (.cons (up_bo _) (.cons (upA_mg _) .nil))
theorem upA_rf (x : RF) : UpA (RFA x) (RFA x) := cat_up (.cons (upA_ri _) (.cons (upA_ri _) .nil))
theorem all_upA {l : List As} (h : ∀ A ∈ l, UpA A A) : All2 UpA l l := by
  induction l with
  | nil => exact .nil
  | cons A l ih => exact .cons (h A (by simp)) (ih fun A' hA => h A' (by simp [hA]))
theorem up_sl {E : TypeId} {D : List TypeId} {l : List As} (h : ∀ A ∈ l, UpA A A) : UpA (SlA E D l) (SlO E D l True) := ⟨rfl, rfl, fun B cs w hB hp => by
  obtain ⟨hD, A, c, ds, rfl, h1, h2, h3, h4⟩ := hp
  refine ⟨trivial, hD, A, c, ds, rfl, h1, h2, (cat_up (all_upA h)).2.2 B ds w hB h3, fun hn => ?_⟩
  obtain ⟨b, o, e1, e2, e3, e4⟩ := h4 hn
  exact ⟨b, o, e1, e2, e2, e4⟩⟩
/-! too long? -/
def longQ (q : Rat) : Bool := [riOf q.num].any bigI || [riOf (q.den : Int)].any bigI
theorem sl_wk {E : TypeId} {D : List TypeId} {l l' : List As} (h : All2 WkA l l') (hD : ∀ A ∈ l', ∀ T ∈ A.deps, T ∈ D) : WkA (SlA E D l) (SlA E D l') := ⟨rfl, rfl, fun B cs w ⟨_, A, c, ds, e, h1, h2, h3, h4⟩ => by
  have hl := h.length
  exact ⟨hD, A, c, ds, by rw [← hl]; exact e, by rw [← hl]; exact h1, h2, (cat_wk h).2.2 B ds w h3, fun hn => h4 (by rw [hl]; exact hn)⟩⟩
/-! fractions as they come -/
def okF (x : RF) : Bool := okRI x.num && okRI x.den && decide (0 < sgI x.den) && decide (Nat.gcd (val x.num.mag) (val x.den.mag) = 1)
theorem okRI_z {x : RI} (ok : okL x.mag) (h : okRI x = true) : ∃ z, x = riOf z ∧ lz z ≤ 2048 := by
  obtain ⟨neg, l⟩ := x
  simp only [okRI, Bool.not_eq_true', Bool.or_eq_false_iff, Bool.and_eq_false_iff, decide_eq_false_iff_not, beq_eq_false_iff_ne, ne_eq] at h ok
  obtain ⟨⟨h1, h2⟩, h3⟩ := h
  have hc : Canon l := by
    refine ⟨ok, fun e => ?_⟩
    rcases List.eq_nil_or_concat l with rfl | ⟨m, y, rfl⟩
    · simp at e
    · simp at e
      subst e
      rcases h2 with h2 | h2
      · simp at h2
      · exact h2 (by simp)
  have e : limbs (val l) = l := limbs_val hc
  cases neg with
  | false => exact ⟨(val l : Nat), by simp [riOf, e], by show (limbs _).length ≤ 2048; rw [Int.natAbs_natCast, e]; omega⟩
  | true =>
    have hl : l ≠ [] := fun e => by subst e; simp at h3
    have hv : 0 < val l := hc.val_pos hl
    exact ⟨-(val l : Nat), by simp [riOf, e]; omega, by show (limbs _).length ≤ 2048; rw [Int.natAbs_neg, Int.natAbs_natCast, e]; omega⟩
theorem okF_q {x : RF} (ok : okL x.num.mag ∧ okL x.den.mag) (h : okF x = true) : ∃ r : Rat, x = rfOf r ∧ lz r.num ≤ 2048 ∧ lz (r.den : Int) ≤ 2048 := by
  obtain ⟨xn, xd⟩ := x
  simp only [okF, Bool.and_eq_true, decide_eq_true_eq] at h ok
  obtain ⟨⟨⟨h1, h2⟩, h3⟩, h4⟩ := h
  obtain ⟨p, rfl, hp⟩ := okRI_z ok.1 h1
  obtain ⟨q, rfl, hq⟩ := okRI_z ok.2 h2
  rw [sgI_ri] at h3
  have hq0 : 0 < q := Int.sign_pos_iff.1 h3
  rw [val_ri, val_ri] at h4
  refine ⟨⟨p, q.natAbs, by omega, h4⟩, ?_, hp, ?_⟩
  · show RF.mk _ _ = RF.mk (riOf p) (riOf (q.natAbs : Nat))
    rw [show ((q.natAbs : Nat) : Int) = q by omega]
  · show lz ((q.natAbs : Nat) : Int) ≤ 2048
    rw [show ((q.natAbs : Nat) : Int) = q by omega]
    exact hq
theorem ok1 {b : Bool} (h : (((if b then (0 : Int) else 1) != 0)) = false) : b = true := by cases b <;> simp at h ⊢
theorem chk_no {x : RF} (h : ((((if okRI x.num then (0 : Int) else 1) != 0) || ((if okRI x.den then (0 : Int) else 1) != 0)) || decide (sgI x.den ≤ 0)) = true) : (1 : Int) = if okF x then 0 else 1 := by
  have : okF x = false := by
    unfold okF
    cases h1 : okRI x.num <;> cases h2 : okRI x.den <;> simp [h1, h2] at h ⊢
    omega
  rw [this]; rfl
theorem sg_one {p q : Int} (h : (sg3 ((Int.gcd p q : Nat) : Int) 1 != 0) = true) : Int.gcd p q ≠ 1 := fun e => by rw [e] at h; simp [sg3] at h
theorem rf_know {x : RF} {B : Nat} {v : Value} {w : World} (h : (RFA x).va.p B v w) : okL x.num.mag ∧ okL x.den.mag := by
  obtain ⟨cs, ⟨ps, _, hp⟩, _⟩ := h
  cases hp with
  | cons h1 hp => cases hp with | cons h2 _ => exact ⟨(ri_know ⟨_, h1, rfl⟩).1, (ri_know ⟨_, h2, rfl⟩).1⟩
theorem cmp_i {p q : Int} (hp : lz p ≤ 1099511627776) (hq : lz q ≤ 1099511627776) : Cn Tryz.prog 47 [Zi p, Zi q] (In (sg3 p q)) := (cmpI_c (riOf p) (riOf q) (by rw [ri_len]; omega) (by rw [ri_len]; omega)).post (by rw [cmp_ri])
theorem lz_one : lz 1 ≤ 1099511627776 := Nat.le_trans (lz_le (k := 1) (by decide)) (by decide)

set_option maxRecDepth 100000 in
theorem checkF_c (xn xd : RI) : Cn Tryz.prog 44 [(RFA ⟨xn, xd⟩).va] (In (if okF ⟨xn, xd⟩ then 0 else 1)) := by
  refine Cn.intro Tryz.func44 rfl (by kernel_rfl) nq (fun B w0 a hst => ?_)
  have hst : St B w0 27 [(0, (RFA ⟨xn, xd⟩).va)] [] a w0.w := hst
  have hok := rf_know (hst.vals (0, (RFA ⟨xn, xd⟩).va) (List.mem_of_getElem? (i := 0) rfl))
  refine wp_seq ?_
  refine gl (sts := []) (news := [⟨1, 26, ptrH, some 0, _, none⟩]) (sp := [.alc 0, .val 2 _]) [.o 1] hst (oc (ob_box rfl rfl rfl (gq 0 rfl)) (oc (ob_v rfl rfl (r_assign has_num)) o0)) (fun a w hst => ?_)
  have hst : St B w0 27 [(2, _)] [⟨1, 26, ptrH, _⟩] a w := hst
  refine thn_normal ?_
  refine wp_seq ?_
  refine wp_seq ?_
  refine gl (sts := [none]) (news := []) (sp := [.adr 3 1 (.some 0) True, .val 4 _, .val 5 _, .val 6 _, .val 7 _, .adr 8 1 (.some 2) (_ = false), .val 9 (Wh (_ = false) _), .val 10 (Wh (_ = false) _), .val 11 (Wh (_ = false) _), .val 12 _, .val 13 _, .adr 14 1 (.some 2) (_ = false), .val 15 (Wh (_ = false) _), .val 16 (Wh (_ = false) _), .val 17 (Wh (_ = false) _), .val 18 _]) [.g 0, .o 15] hst (oc (ob_a rfl rfl (a_fld (lz0 0 rfl) fld_26_0)) (oc (ob_v rfl rfl (r_loadf 0 rfl (by kernel_rfl) trivial (lz0 0 rfl) (Sub.part 0 rfl rfl) ty_24)) (oc (ob_v rfl rfl (r_call (xs := [.tmp 4]) (check_c _) (.cons (vq 1 rfl) .nil))) (oc (ob_v rfl rfl (r_neq (vq 2 rfl) has_num)) (oc (ob_v rfl rfl (r_move (vq 3 rfl))) (oc (ob_ag rfl rfl rfl (vq 4 rfl) nq (fun hg => a_fld (lz0 0 rfl) fld_26_1)) (oc (ob_gd rfl rfl rfl (vq 4 rfl) nq (fun hg => r_loadf 5 rfl (by kernel_rfl) hg (lz0 0 rfl) (Sub.part 1 rfl rfl) ty_24)) (oc (ob_gd rfl rfl rfl (vq 4 rfl) nq (fun hg => r_call (xs := [.tmp 9]) (check_c _) (.cons (has_wh (vq 6 rfl) hg) .nil))) (oc (ob_gd rfl rfl rfl (vq 4 rfl) nq (fun hg => r_neq (has_wh (vq 7 rfl) hg) has_num)) (oc (ob_v rfl rfl (r_or (vq 4 rfl) (vq 8 rfl))) (oc (ob_v rfl rfl (r_move (vq 9 rfl))) (oc (ob_ag rfl rfl rfl (vq 10 rfl) nq (fun hg => a_fld (lz0 0 rfl) fld_26_1)) (oc (ob_gd rfl rfl rfl (vq 10 rfl) nq (fun hg => r_loadf 11 rfl (by kernel_rfl) hg (lz0 0 rfl) (Sub.part 1 rfl rfl) ty_24)) (oc (ob_gd rfl rfl rfl (vq 10 rfl) nq (fun hg => r_call (xs := [.tmp 15]) (sign_c _) (.cons (has_wh (vq 12 rfl) hg) .nil))) (oc (ob_gd rfl rfl rfl (vq 10 rfl) nq (fun hg => r_leq (has_wh (vq 13 rfl) hg) has_num)) (oc (ob_v rfl rfl (r_or (vq 10 rfl) (vq 14 rfl))) o0)))))))))))))))) (fun a w hst => ?_)
  have hst : St B w0 27 [(2, _), (18, _)] [⟨1, 26, ptrH, _⟩] a w := hst
  refine thn_normal ?_
  refine cond_of hst (List.mem_of_getElem? (i := 1) rfl) (fun hb0 => ?_) (fun hb0 => ?_)
  · refine wp_seq ?_
    refine gl (sts := [none]) (news := []) (sp := [.val 2 _]) [.o 0] hst (oc (ob_v rfl rfl (r_assign has_num)) o0) (fun a w hst => ?_)
    have hst : St B w0 27 [(2, _)] [⟨1, 26, ptrH, _⟩] a w := hst
    refine thn_normal ?_
    refine wp_ret ?_
    refine thn_ret ?_
    refine ret_cast ?_ (ret_tmp rfl hst (List.mem_of_getElem? (i := 0) rfl))
    exact congrArg In (chk_no hb0)
  · rw [Bool.or_eq_false_iff, Bool.or_eq_false_iff] at hb0
    obtain ⟨p, rfl, hp⟩ := okRI_z hok.1 (ok1 hb0.1.1)
    obtain ⟨q, rfl, hq⟩ := okRI_z hok.2 (ok1 hb0.1.2)
    have hq0 : 0 < sgI (riOf q) := by have h2 : ¬ sgI (riOf q) ≤ 0 := of_decide_eq_false hb0.2; omega
    have hpq := lz_gcd p q
    refine wp_skip ?_
    refine thn_normal ?_
    refine wp_seq ?_
    refine wp_seq ?_
    refine gl (sts := [none]) (news := []) (sp := [.adr 19 1 (.some 0) True, .val 20 _, .adr 21 1 (.some 2) True, .val 22 _, .val 23 _, .val 24 _, .val 25 _, .val 26 _]) [.g 0, .o 7] hst (oc (ob_a rfl rfl (a_fld (lz0 0 rfl) fld_26_0)) (oc (ob_v rfl rfl (r_loadf 0 rfl (by kernel_rfl) trivial (lz0 0 rfl) (Sub.part 0 rfl rfl) ty_24)) (oc (ob_a rfl rfl (a_fld (lz0 0 rfl) fld_26_1)) (oc (ob_v rfl rfl (r_loadf 2 rfl (by kernel_rfl) trivial (lz0 0 rfl) (Sub.part 1 rfl rfl) ty_24)) (oc (ob_v rfl rfl (r_call (xs := [.tmp 20, .tmp 22]) ((common_c p q (by omega) (by omega)).wkp wk_riN) (.cons (vq 1 rfl) (.cons (vq 3 rfl) .nil)))) (oc (ob_v rfl rfl (r_call (xs := [.const (.int .i64 (1))]) (of_c 1 (by decide) (by decide)) (.cons has_num .nil))) (oc (ob_v rfl rfl (r_call (xs := [.tmp 23, .tmp 24]) (cmp_i (by omega) lz_one) (.cons (vq 4 rfl) (.cons (vq 5 rfl) .nil)))) (oc (ob_v rfl rfl (r_neq (vq 6 rfl) has_num)) o0)))))))) (fun a w hst => ?_)
    have hst : St B w0 27 [(2, _), (26, _)] [⟨1, 26, ptrH, _⟩] a w := hst
    refine thn_normal ?_
    refine cond_of hst (List.mem_of_getElem? (i := 1) rfl) (fun hb1 => ?_) (fun hb1 => ?_)
    · refine wp_seq ?_
      refine gl (sts := [none]) (news := []) (sp := [.val 2 _]) [.o 0] hst (oc (ob_v rfl rfl (r_assign has_num)) o0) (fun a w hst => ?_)
      have hst : St B w0 27 [(2, _)] [⟨1, 26, ptrH, _⟩] a w := hst
      refine thn_normal ?_
      refine wp_ret ?_
      refine thn_ret ?_
      refine ret_cast ?_ (ret_tmp rfl hst (List.mem_of_getElem? (i := 0) rfl))
      have e1 := sg_one hb1; exact congrArg In (by rw [show okF ⟨riOf p, riOf q⟩ = false from by unfold okF; rw [val_ri, val_ri]; simp [show ¬ Nat.gcd p.natAbs q.natAbs = 1 from e1]]; rfl)
    · refine wp_skip ?_
      refine thn_normal ?_
      refine wp_seq ?_
      refine gl (sts := [none]) (news := []) (sp := [.val 2 _]) [.o 0] hst (oc (ob_v rfl rfl (r_assign has_num)) o0) (fun a w hst => ?_)
      have hst : St B w0 27 [(2, _)] [⟨1, 26, ptrH, _⟩] a w := hst
      refine thn_normal ?_
      refine wp_ret ?_
      refine ret_cast ?_ (ret_tmp rfl hst (List.mem_of_getElem? (i := 0) rfl))
      have e1 := gcd_one hb1; exact congrArg In (by rw [show okF ⟨riOf p, riOf q⟩ = true from by unfold okF; rw [val_ri, val_ri, ok1 hb0.1.1, ok1 hb0.1.2]; simp [hq0, show Nat.gcd p.natAbs q.natAbs = 1 from e1]]; rfl)

end Go.Proofs.YtmghfjcjcfaagaaGreat
