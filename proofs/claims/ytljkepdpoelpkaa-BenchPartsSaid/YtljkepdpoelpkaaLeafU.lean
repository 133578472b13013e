import Derived.Test.YtljkepdpoelpkaaLeafT
namespace Go.Proofs.Ytljkepdpoelpkaa
open Go Go.RowKit
namespace LeafU
theorem fld_33_0 : Fld Try.prog 33 0 0 1 := ⟨_, _, Try.underlying33, rfl, rfl, by kernel_rfl, by decide⟩
theorem fld_33_1 : Fld Try.prog 33 1 1 1 := ⟨_, _, Try.underlying33, rfl, rfl, by kernel_rfl, by decide⟩
theorem fld_35_0 : Fld Try.prog 35 0 0 2 := ⟨_, _, Try.underlying35, rfl, rfl, by kernel_rfl, by decide⟩
theorem fld_35_1 : Fld Try.prog 35 1 2 2 := ⟨_, _, Try.underlying35, rfl, rfl, by kernel_rfl, by decide⟩
theorem fld_37_0 : Fld Try.prog 37 0 0 4 := ⟨_, _, Try.underlying37, rfl, rfl, by kernel_rfl, by decide⟩
theorem fld_37_1 : Fld Try.prog 37 1 4 4 := ⟨_, _, Try.underlying37, rfl, rfl, by kernel_rfl, by decide⟩
theorem fld_37_2 : Fld Try.prog 37 2 8 4 := ⟨_, _, Try.underlying37, rfl, rfl, by kernel_rfl, by decide⟩
theorem fld_37_3 : Fld Try.prog 37 3 12 4 := ⟨_, _, Try.underlying37, rfl, rfl, by kernel_rfl, by decide⟩
theorem sl_31 : Sl Try.prog 31 91 1 := ⟨by kernel_rfl, by kernel_rfl⟩
theorem sl_62 : Sl Try.prog 62 3 1 := ⟨by kernel_rfl, by kernel_rfl⟩
theorem ty_3 : Ty Try.prog 3 1 false := ⟨by kernel_rfl, by kernel_rfl⟩
theorem ty_31 : Ty Try.prog 31 1 false := ⟨by kernel_rfl, by kernel_rfl⟩
theorem ty_33 : Ty Try.prog 33 2 true := ⟨by kernel_rfl, by kernel_rfl⟩
theorem ty_35 : Ty Try.prog 35 4 true := ⟨by kernel_rfl, by kernel_rfl⟩
theorem ty_4 : Ty Try.prog 4 1 false := ⟨by kernel_rfl, by kernel_rfl⟩
theorem ty_91 : Ty Try.prog 91 1 false := ⟨by kernel_rfl, by kernel_rfl⟩
end LeafU
open LeafU
/-! sizes, as they are reckoned -/
def intSizeF (x : RI) : Int := IntKind.i64.wrap (1 + (x.mag.length : Int))
def fracSizeF (x : RF) : Int := IntKind.i64.wrap (intSizeF x.num + intSizeF x.den)
def lowCostF (x y : RI) : Int := IntKind.i64.wrap (IntKind.i64.wrap ((IntKind.i64.wrap (min (x.mag.length : Int) 1048576 * min (y.mag.length : Int) 1048576)).tdiv 16) * 1024)
def fracCostF (x : RF) : Int := IntKind.i64.wrap (fracSizeF x + lowCostF x.num x.den)
def gaussCostF (x : RG) : Int := IntKind.i64.wrap (fracCostF x.re + fracCostF x.im)
def matSizeF (x : RM) : Int := IntKind.i64.wrap (IntKind.i64.wrap (IntKind.i64.wrap (fracSizeF x.a + fracSizeF x.b) + fracSizeF x.c) + fracSizeF x.d)
def matCostF (x : RM) : Int := IntKind.i64.wrap (IntKind.i64.wrap (IntKind.i64.wrap (fracCostF x.a + fracCostF x.b) + fracCostF x.c) + fracCostF x.d)
def raySizeF (x : RR) : Int := IntKind.i64.wrap (fracSizeF x.y + fracSizeF x.u)
def rayCostF (x : RR) : Int := IntKind.i64.wrap (fracCostF x.y + fracCostF x.u)
/-- too much? -/
def bydF (n : Int) : List Int → Bool
  | [] => false
  | x :: xs => if decide (IntKind.i64.wrap (n + x) > 1048576) then true else bydF (IntKind.i64.wrap (n + x)) xs
def gcsF (n : Int) : List RG → Int
  | [] => n
  | x :: xs => if decide (n ≤ 1048576) then gcsF (IntKind.i64.wrap (n + gaussCostF x)) xs else n
theorem byd_yes {n : Int} {l : List Int} {j : Nat} (h : j < l.length) (h2 : decide (IntKind.i64.wrap (n + l[j]) > 1048576) = true) : true = bydF n (l.drop j) := by
  rw [List.drop_eq_getElem_cons h, bydF, h2]; rfl
theorem byd_no {n : Int} {l : List Int} {j : Nat} (h : j < l.length) (h2 : decide (IntKind.i64.wrap (n + l[j]) > 1048576) = false) : bydF n (l.drop j) = bydF (IntKind.i64.wrap (n + l[j])) (l.drop (j + 1)) := by
  rw [List.drop_eq_getElem_cons h, bydF, h2]; rfl
theorem gcs_go {n : Int} {l : List RG} {j : Nat} (h : j < l.length) (h2 : n ≤ 1048576) : gcsF n (l.drop j) = gcsF (IntKind.i64.wrap (n + gaussCostF l[j])) (l.drop (j + 1)) := by
  rw [List.drop_eq_getElem_cons h, gcsF, if_pos (decide_eq_true h2)]
theorem gcs_end {n : Int} {l : List RG} {j : Nat} (h : ¬ (j < l.length ∧ n ≤ 1048576)) : gcsF n (l.drop j) = n := by
  by_cases hj : j < l.length
  · rw [List.drop_eq_getElem_cons hj, gcsF, if_neg (by simpa using fun hh => h ⟨hj, hh⟩)]
  · rw [List.drop_of_length_le (by omega)]; rfl
theorem wi_nx {j m : Nat} (h : j < m) (hm : m ≤ 9223372036854775807) : IntKind.i64.wrap ((j : Int) + 1) = ((j + 1 : Nat) : Int) := by rw [wi64 (by omega) (by omega)]; rfl
theorem slA_len {E : TypeId} {D : List TypeId} {l : List As} {B : Nat} {v : Value} {w : World} (h : (SlA E D l).va.p B v w) : l.length ≤ 9223372036854775807 := by
  obtain ⟨cs, ⟨_, A, c, ds, _, h1, h2, _⟩, _⟩ := h
  unfold maxLen at h2
  omega
theorem slA_lenm {E : TypeId} {D : List TypeId} {α : Type} {f : α → As} {l : List α} {B : Nat} {v : Value} {w : World} (h : (SlA E D (l.map f)).va.p B v w) : l.length ≤ 9223372036854775807 := by
  have := slA_len h
  rwa [List.length_map] at this

set_option maxRecDepth 100000 in
theorem intSize_c (x : RI) : Cn Try.prog 80 [(RIA x).va] (In (intSizeF x)) := by
  refine Cn.intro Try.func80 rfl (by kernel_rfl) nq (fun B w0 a hst => ?_)
  have hst : St B w0 7 [(0, (RIA x).va)] [] a w0.w := hst
  refine wp_seq ?_
  refine gl (sts := []) (news := [⟨1, 33, ptrH, some 0, _, none⟩]) (sp := [.alc 0, .val 2 _]) [.o 1] hst (oc (ob_box rfl rfl rfl (gq 0 rfl)) (oc (ob_v rfl rfl (r_assign has_num)) o0)) (fun a w hst => ?_)
  have hst : St B w0 7 [(2, _)] [⟨1, 33, ptrH, _⟩] a w := hst
  refine thn_normal ?_
  refine wp_seq ?_
  refine gl (sts := [none]) (news := []) (sp := [.adr 3 1 (.some 1) True, .val 4 _, .val 5 _, .val 6 _, .val 2 _]) [.o 4] hst (oc (ob_a rfl rfl (a_fld (lz0 0 rfl) fld_33_1)) (oc (ob_v rfl rfl (r_loadf 0 rfl (by kernel_rfl) trivial (lz0 0 rfl) (Sub.part 1 rfl rfl) ty_31)) (oc (ob_v rfl rfl (r_lenm Try.underlying31 (vq 1 rfl))) (oc (ob_v rfl rfl (r_add has_num (vq 2 rfl) (rfl))) (oc (ob_v rfl rfl (r_assign (vq 3 rfl))) o0))))) (fun a w hst => ?_)
  have hst : St B w0 7 [(2, _)] [⟨1, 33, ptrH, _⟩] a w := hst
  refine thn_normal ?_
  refine wp_ret ?_
  refine ret_wk ?_ (ret_tmp rfl hst (List.mem_of_getElem? (i := 0) rfl))
  exact wk_id

set_option maxRecDepth 100000 in
theorem fracSize_c (x : RF) : Cn Try.prog 55 [(RFA x).va] (In (fracSizeF x)) := by
  refine Cn.intro Try.func55 rfl (by kernel_rfl) nq (fun B w0 a hst => ?_)
  have hst : St B w0 10 [(0, (RFA x).va)] [] a w0.w := hst
  refine wp_seq ?_
  refine gl (sts := []) (news := [⟨1, 35, ptrH, some 0, _, none⟩]) (sp := [.alc 0, .val 2 _]) [.o 1] hst (oc (ob_box rfl rfl rfl (gq 0 rfl)) (oc (ob_v rfl rfl (r_assign has_num)) o0)) (fun a w hst => ?_)
  have hst : St B w0 10 [(2, _)] [⟨1, 35, ptrH, _⟩] a w := hst
  refine thn_normal ?_
  refine wp_seq ?_
  refine go_draw (anc := [[], [0], [0, 1], [], [3], [0, 1, 2, 3, 4], [0, 1, 2, 3, 4, 5], [0, 1, 2, 3, 4, 5, 6]]) (sts := [none]) (news := []) (sp := [.adr 3 1 (.some 0) True, .val 4 _, .val 5 _, .adr 6 1 (.some 2) True, .val 7 _, .val 8 _, .val 9 _, .val 2 _]) [.o 7] follows_mixed hst (oc (ob_a rfl rfl (a_fld (lz0 0 rfl) fld_35_0)) (oc (ob_v rfl rfl (r_loadf 0 rfl (by kernel_rfl) trivial (lz0 0 rfl) (Sub.part 0 rfl rfl) ty_33)) (oc (ob_v rfl rfl (r_call (xs := [.tmp 4]) (intSize_c _) (.cons (vq 1 rfl) .nil))) (oc (ob_a rfl rfl (a_fld (lz0 0 rfl) fld_35_1)) (oc (ob_v rfl rfl (r_loadf 3 rfl (by kernel_rfl) trivial (lz0 0 rfl) (Sub.part 1 rfl rfl) ty_33)) (oc (ob_v rfl rfl (r_call (xs := [.tmp 7]) (intSize_c _) (.cons (vq 4 rfl) .nil))) (oc (ob_v rfl rfl (r_add (vq 2 rfl) (vq 5 rfl) (rfl))) (oc (ob_v rfl rfl (r_assign (vq 6 rfl))) o0)))))))) (by kernel_rfl) (by kernel_rfl) (by kernel_rfl) (by kernel_rfl) (fun a w hst => ?_)
  have hst : St B w0 10 [(2, _)] [⟨1, 35, ptrH, _⟩] a w := hst
  refine thn_normal ?_
  refine wp_ret ?_
  refine ret_wk ?_ (ret_tmp rfl hst (List.mem_of_getElem? (i := 0) rfl))
  exact wk_id

set_option maxRecDepth 100000 in
theorem lowCost_c (x y : RI) : Cn Try.prog 56 [(RIA x).va, (RIA y).va] (In (lowCostF x y)) := by
  refine Cn.intro Try.func56 rfl (by kernel_rfl) nq (fun B w0 a hst => ?_)
  have hst : St B w0 16 [(0, (RIA x).va), (1, (RIA y).va)] [] a w0.w := hst
  refine wp_seq ?_
  refine gl (sts := []) (news := [⟨2, 33, ptrH, some 0, _, none⟩, ⟨3, 33, ptrH, some 1, _, none⟩]) (sp := [.alc 0, .alc 1, .val 4 _]) [.o 2] hst (oc (ob_box rfl rfl rfl (gq 0 rfl)) (oc (ob_box rfl rfl rfl (gq 1 rfl)) (oc (ob_v rfl rfl (r_assign has_num)) o0))) (fun a w hst => ?_)
  have hst : St B w0 16 [(4, _)] [⟨2, 33, ptrH, _⟩, ⟨3, 33, ptrH, _⟩] a w := hst
  refine thn_normal ?_
  refine wp_seq ?_
  refine gl (sts := [none, none]) (news := []) (sp := [.adr 5 2 (.some 1) True, .val 6 _, .val 7 _, .val 8 _, .adr 9 3 (.some 1) True, .val 10 _, .val 11 _, .val 12 _, .val 13 _, .val 14 _, .val 15 _, .val 4 _]) [.o 11] hst (oc (ob_a rfl rfl (a_fld (lz0 0 rfl) fld_33_1)) (oc (ob_v rfl rfl (r_loadf 0 rfl (by kernel_rfl) trivial (lz0 0 rfl) (Sub.part 1 rfl rfl) ty_31)) (oc (ob_v rfl rfl (r_lenm Try.underlying31 (vq 1 rfl))) (oc (ob_v rfl rfl (r_min (vq 2 rfl) has_num)) (oc (ob_a rfl rfl (a_fld (lz0 1 rfl) fld_33_1)) (oc (ob_v rfl rfl (r_loadf 4 rfl (by kernel_rfl) trivial (lz0 1 rfl) (Sub.part 1 rfl rfl) ty_31)) (oc (ob_v rfl rfl (r_lenm Try.underlying31 (vq 5 rfl))) (oc (ob_v rfl rfl (r_min (vq 6 rfl) has_num)) (oc (ob_v rfl rfl (r_mul (vq 3 rfl) (vq 7 rfl) (rfl))) (oc (ob_v rfl rfl (r_quo (vq 8 rfl) has_num (by decide) (rfl))) (oc (ob_v rfl rfl (r_mul (vq 9 rfl) has_num (rfl))) (oc (ob_v rfl rfl (r_assign (vq 10 rfl))) o0)))))))))))) (fun a w hst => ?_)
  have hst : St B w0 16 [(4, _)] [⟨2, 33, ptrH, _⟩, ⟨3, 33, ptrH, _⟩] a w := hst
  refine thn_normal ?_
  refine wp_ret ?_
  refine ret_wk ?_ (ret_tmp rfl hst (List.mem_of_getElem? (i := 0) rfl))
  exact wk_id

set_option maxRecDepth 100000 in
theorem fracCost_c (x : RF) : Cn Try.prog 31 [(RFA x).va] (In (fracCostF x)) := by
  refine Cn.intro Try.func31 rfl (by kernel_rfl) nq (fun B w0 a hst => ?_)
  have hst : St B w0 11 [(0, (RFA x).va)] [] a w0.w := hst
  refine wp_seq ?_
  refine gl (sts := []) (news := [⟨1, 35, ptrH, some 0, _, none⟩]) (sp := [.alc 0, .val 2 _]) [.o 1] hst (oc (ob_box rfl rfl rfl (gq 0 rfl)) (oc (ob_v rfl rfl (r_assign has_num)) o0)) (fun a w hst => ?_)
  have hst : St B w0 11 [(2, _)] [⟨1, 35, ptrH, _⟩] a w := hst
  refine thn_normal ?_
  refine wp_seq ?_
  refine go_draw (anc := [[], [0], [], [2], [], [4], [0, 1, 2, 3, 4, 5], [0, 1, 2, 3, 4, 5, 6], [0, 1, 2, 3, 4, 5, 6, 7]]) (sts := [none]) (news := []) (sp := [.val 3 _, .val 4 _, .adr 5 1 (.some 0) True, .val 6 _, .adr 7 1 (.some 2) True, .val 8 _, .val 9 _, .val 10 _, .val 2 _]) [.o 8] follows_mixed hst (oc (ob_v rfl rfl (r_load (lz0 0 rfl) ty_35)) (oc (ob_v rfl rfl (r_call (xs := [.tmp 3]) (fracSize_c _) (.cons (vq 0 rfl) .nil))) (oc (ob_a rfl rfl (a_fld (lz0 0 rfl) fld_35_0)) (oc (ob_v rfl rfl (r_loadf 2 rfl (by kernel_rfl) trivial (lz0 0 rfl) (Sub.part 0 rfl rfl) ty_33)) (oc (ob_a rfl rfl (a_fld (lz0 0 rfl) fld_35_1)) (oc (ob_v rfl rfl (r_loadf 4 rfl (by kernel_rfl) trivial (lz0 0 rfl) (Sub.part 1 rfl rfl) ty_33)) (oc (ob_v rfl rfl (r_call (xs := [.tmp 6, .tmp 8]) (lowCost_c _ _) (.cons (vq 3 rfl) (.cons (vq 5 rfl) .nil)))) (oc (ob_v rfl rfl (r_add (vq 1 rfl) (vq 6 rfl) (rfl))) (oc (ob_v rfl rfl (r_assign (vq 7 rfl))) o0))))))))) (by kernel_rfl) (by kernel_rfl) (by kernel_rfl) (by kernel_rfl) (fun a w hst => ?_)
  have hst : St B w0 11 [(2, _)] [⟨1, 35, ptrH, _⟩] a w := hst
  refine thn_normal ?_
  refine wp_ret ?_
  refine ret_wk ?_ (ret_tmp rfl hst (List.mem_of_getElem? (i := 0) rfl))
  exact wk_id

set_option maxRecDepth 100000 in
theorem matCost_c (x : RM) : Cn Try.prog 15 [(RMA x).va] (In (matCostF x)) := by
  refine Cn.intro Try.func15 rfl (by kernel_rfl) nq (fun B w0 a hst => ?_)
  have hst : St B w0 18 [(0, (RMA x).va)] [] a w0.w := hst
  refine wp_seq ?_
  refine gl (sts := []) (news := [⟨1, 37, ptrH, some 0, _, none⟩]) (sp := [.alc 0, .val 2 _]) [.o 1] hst (oc (ob_box rfl rfl rfl (gq 0 rfl)) (oc (ob_v rfl rfl (r_assign has_num)) o0)) (fun a w hst => ?_)
  have hst : St B w0 18 [(2, _)] [⟨1, 37, ptrH, _⟩] a w := hst
  refine thn_normal ?_
  refine wp_seq ?_
  refine go_draw (anc := [[], [0], [0, 1], [], [3], [0, 1, 2, 3, 4], [0, 1, 2, 3, 4, 5], [], [7], [0, 1, 2, 3, 4, 5, 7, 8], [0, 1, 2, 3, 4, 5, 6, 7, 8, 9], [], [11], [0, 1, 2, 3, 4, 5, 7, 8, 9, 11, 12], [0, 1, 2, 3, 4, 5, 6, 7, 8, 9, 10, 11, 12, 13], [0, 1, 2, 3, 4, 5, 6, 7, 8, 9, 10, 11, 12, 13, 14]]) (sts := [none]) (news := []) (sp := [.adr 3 1 (.some 0) True, .val 4 _, .val 5 _, .adr 6 1 (.some 4) True, .val 7 _, .val 8 _, .val 9 _, .adr 10 1 (.some 8) True, .val 11 _, .val 12 _, .val 13 _, .adr 14 1 (.some 12) True, .val 15 _, .val 16 _, .val 17 _, .val 2 _]) [.o 15] follows_mixed hst (oc (ob_a rfl rfl (a_fld (lz0 0 rfl) fld_37_0)) (oc (ob_v rfl rfl (r_loadf 0 rfl (by kernel_rfl) trivial (lz0 0 rfl) (Sub.part 0 rfl rfl) ty_35)) (oc (ob_v rfl rfl (r_call (xs := [.tmp 4]) (fracCost_c _) (.cons (vq 1 rfl) .nil))) (oc (ob_a rfl rfl (a_fld (lz0 0 rfl) fld_37_1)) (oc (ob_v rfl rfl (r_loadf 3 rfl (by kernel_rfl) trivial (lz0 0 rfl) (Sub.part 1 rfl rfl) ty_35)) (oc (ob_v rfl rfl (r_call (xs := [.tmp 7]) (fracCost_c _) (.cons (vq 4 rfl) .nil))) (oc (ob_v rfl rfl (r_add (vq 2 rfl) (vq 5 rfl) (rfl))) (oc (ob_a rfl rfl (a_fld (lz0 0 rfl) fld_37_2)) (oc (ob_v rfl rfl (r_loadf 7 rfl (by kernel_rfl) trivial (lz0 0 rfl) (Sub.part 2 rfl rfl) ty_35)) (oc (ob_v rfl rfl (r_call (xs := [.tmp 11]) (fracCost_c _) (.cons (vq 8 rfl) .nil))) (oc (ob_v rfl rfl (r_add (vq 6 rfl) (vq 9 rfl) (rfl))) (oc (ob_a rfl rfl (a_fld (lz0 0 rfl) fld_37_3)) (oc (ob_v rfl rfl (r_loadf 11 rfl (by kernel_rfl) trivial (lz0 0 rfl) (Sub.part 3 rfl rfl) ty_35)) (oc (ob_v rfl rfl (r_call (xs := [.tmp 15]) (fracCost_c _) (.cons (vq 12 rfl) .nil))) (oc (ob_v rfl rfl (r_add (vq 10 rfl) (vq 13 rfl) (rfl))) (oc (ob_v rfl rfl (r_assign (vq 14 rfl))) o0)))))))))))))))) (by kernel_rfl) (by kernel_rfl) (by kernel_rfl) (by kernel_rfl) (fun a w hst => ?_)
  have hst : St B w0 18 [(2, _)] [⟨1, 37, ptrH, _⟩] a w := hst
  refine thn_normal ?_
  refine wp_ret ?_
  refine ret_wk ?_ (ret_tmp rfl hst (List.mem_of_getElem? (i := 0) rfl))
  exact wk_id

set_option maxRecDepth 100000 in
theorem beyond_c (l : List Int) : Cn Try.prog 14 [(SlA 3 [] (l.map (NumA .i64))).va] (Bo (bydF 0 l)) := by
  refine Cn.intro Try.func14 rfl (by kernel_rfl) nq (fun B w0 a hst => ?_)
  have hst : St B w0 19 [(0, (SlA 3 [] (l.map (NumA .i64))).va)] [] a w0.w := hst
  have hl := slA_lenm (hst.vals (0, (SlA 3 [] (l.map (NumA .i64))).va) (List.mem_of_getElem? (i := 0) rfl))
  refine wp_seq ?_
  refine gl (sts := []) (news := []) (sp := [.val 2 _]) [.g 0, .o 0] hst (oc (ob_v rfl rfl (r_assign has_bo)) o0) (fun a w hst => ?_)
  have hst : St B w0 19 [(0, _), (2, _)] [] a w := hst
  refine thn_normal ?_
  refine wp_seq ?_
  refine gl (sts := []) (news := []) (sp := [.val 3 _]) [.g 0, .g 1, .o 0] hst (oc (ob_v rfl rfl (r_assign has_num)) o0) (fun a w hst => ?_)
  have hst : St B w0 19 [(0, _), (2, _), (3, _)] [] a w := hst
  refine thn_normal ?_
  refine wp_seq ?_
  refine wp_seq ?_
  refine gl (sts := []) (news := []) (sp := [.val 4 _]) [.g 0, .g 1, .g 2, .o 0] hst (oc (ob_v rfl rfl (r_assign has_num)) o0) (fun a w hst => ?_)
  have hst : St B w0 19 [(0, _), (2, _), (3, _), (4, _)] [] a w := hst
  refine thn_normal ?_
  refine wp_block ?_
  have hst := St.sel hst [0, 2, 3]
  refine wp_loop_ghost (fun n a w => ∃ (j : Nat) (m : Int), (n + j = l.length ∧ bydF 0 l = bydF m (l.drop j)) ∧ St B w0 19 [(0, (SlA 3 [] (l.map (NumA .i64))).va), (3, In m), (4, In (j : Nat))] [] a w) (l.length) ?_ ?_
  · exact ⟨0, 0, ⟨by omega, rfl⟩, hst⟩
  intro n a w hI
  obtain ⟨j, m, ⟨hn, hm⟩, hst⟩ := hI
  refine wp_seq ?_
  refine wp_seq ?_
  refine gl (sts := []) (news := []) (sp := [.val 5 _, .val 6 _, .val 7 _, .val 8 _]) [.g 0, .g 1, .g 2, .o 3] hst (oc (ob_v rfl rfl (r_move (gq 2 rfl))) (oc (ob_v rfl rfl (r_move (gq 0 rfl))) (oc (ob_v rfl rfl (r_len Try.underlying62 (vq 1 rfl))) (oc (ob_v rfl rfl (r_lss (vq 0 rfl) (vq 2 rfl))) o0)))) (fun a w hst => ?_)
  have hst : St B w0 19 [(0, _), (3, _), (4, _), (8, _)] [] a w := hst
  refine thn_normal ?_
  refine cond_of hst (List.mem_of_getElem? (i := 3) rfl) (fun hb0 => ?_) (fun hb0 => ?_)
  · have hj : j < l.length := by rw [List.length_map] at hb0; simp at hb0; omega
    refine wp_skip ?_
    refine thn_normal ?_
    refine wp_seq ?_
    refine wp_block ?_
    refine wp_seq ?_
    refine gl (sts := []) (news := []) (sp := [.val 11 _, .val 12 _, .val 13 _, .val 14 _, .val 15 _, .val 16 _, .val 3 _]) [.g 0, .g 2, .o 6] hst (oc (ob_v rfl rfl (r_move (gq 1 rfl))) (oc (ob_v rfl rfl (r_move (gq 0 rfl))) (oc (ob_v rfl rfl (r_move (gq 2 rfl))) (oc (ob_v rfl rfl (r_idx sl_62 (map_n fun _ => rfl) (vq 1 rfl) (vq 2 rfl) (map_at hj))) (oc (ob_v rfl rfl (r_loade (vq 3 rfl) ty_3)) (oc (ob_v rfl rfl (r_add (vq 0 rfl) (vq 4 rfl) (rfl))) (oc (ob_v rfl rfl (r_assign (vq 5 rfl))) o0))))))) (fun a w hst => ?_)
    have hst : St B w0 19 [(0, _), (4, _), (3, _)] [] a w := hst
    refine thn_normal ?_
    refine wp_seq ?_
    refine gl (sts := []) (news := []) (sp := [.val 17 _, .val 18 _]) [.g 0, .g 1, .g 2, .o 1] hst (oc (ob_v rfl rfl (r_move (gq 2 rfl))) (oc (ob_v rfl rfl (r_gtr (vq 0 rfl) has_num)) o0)) (fun a w hst => ?_)
    have hst : St B w0 19 [(0, _), (4, _), (3, _), (18, _)] [] a w := hst
    refine thn_normal ?_
    refine cond_of hst (List.mem_of_getElem? (i := 3) rfl) (fun hb1 => ?_) (fun hb1 => ?_)
    · refine wp_seq ?_
      refine gl (sts := []) (news := []) (sp := [.val 2 _]) [.g 0, .g 1, .g 2, .o 0] hst (oc (ob_v rfl rfl (r_assign has_bo)) o0) (fun a w hst => ?_)
      have hst : St B w0 19 [(0, _), (4, _), (3, _), (2, _)] [] a w := hst
      refine thn_normal ?_
      refine wp_ret ?_
      refine blk_ret ?_
      refine thn_ret ?_
      refine thn_ret ?_
      refine blk_ret ?_
      refine thn_ret ?_
      refine ret_wk ?_ (ret_tmp rfl hst (List.mem_of_getElem? (i := 3) rfl))
      exact wk_eq (congrArg Bo ((byd_yes hj hb1).trans hm.symm))
    · refine wp_skip ?_
      refine blk_normal ?_
      refine thn_normal ?_
      refine gl (sts := []) (news := []) (sp := [.val 9 _, .val 10 _, .val 4 _]) [.g 0, .g 2, .o 2] hst (oc (ob_v rfl rfl (r_move (gq 1 rfl))) (oc (ob_v rfl rfl (r_add (vq 0 rfl) has_num (wi_nx hj hl))) (oc (ob_v rfl rfl (r_assign (vq 1 rfl))) o0))) (fun a w hst => ?_)
      have hst : St B w0 19 [(0, _), (3, _), (4, _)] [] a w := hst
      refine thn_normal ?_
      have hst := St.sel hst [0, 1, 2]
      exact ⟨n - 1, by omega, j + 1, _, ⟨by omega, hm.trans (byd_no hj hb1)⟩, hst⟩
  · obtain rfl : j = l.length := by rw [List.length_map] at hb0; simp at hb0; omega
    refine wp_exit ?_
    refine thn_exit ?_
    refine thn_exit ?_
    refine blk_exit ?_
    refine thn_normal ?_
    refine wp_seq ?_
    refine gl (sts := []) (news := []) (sp := [.val 2 _]) [.o 0] hst (oc (ob_v rfl rfl (r_assign has_bo)) o0) (fun a w hst => ?_)
    have hst : St B w0 19 [(2, _)] [] a w := hst
    refine thn_normal ?_
    refine wp_ret ?_
    refine ret_wk ?_ (ret_tmp rfl hst (List.mem_of_getElem? (i := 0) rfl))
    exact wk_eq (congrArg Bo (by rw [hm, List.drop_of_length_le (Nat.le_refl _)]; rfl))

theorem same_yes {a b : RI} (hn : a.neg = b.neg) (h : a.mag = b.mag) : true = decide (a = b) := by
  cases a; cases b; simp_all
theorem same_no1 {a b : RI} (h : ((a.neg != b.neg) || (((a.mag.length : Nat) : Int) != ((b.mag.length : Nat) : Int))) = true) : false = decide (a = b) := by
  symm
  apply decide_eq_false
  rintro rfl
  simp at h
theorem same_two {a b : RI} (h : ((a.neg != b.neg) || (((a.mag.length : Nat) : Int) != ((b.mag.length : Nat) : Int))) = false) : a.neg = b.neg ∧ a.mag.length = b.mag.length := by
  simp only [Bool.or_eq_false_iff, bne_eq_false_iff_eq] at h
  exact ⟨h.1, by omega⟩
theorem same_no2 {a b : RI} {j : Nat} (h1 : j < a.mag.length) (h2 : j < b.mag.length) (h : (((a.mag[j] : Nat) : Int) != ((b.mag[j] : Nat) : Int)) = true) : false = decide (a = b) := by
  symm
  apply decide_eq_false
  rintro rfl
  simp at h
theorem take_eq {l m : List Nat} {j : Nat} (h1 : j < l.length) (h2 : j < m.length) (h : l.take j = m.take j) (h3 : (((l[j] : Nat) : Int) != ((m[j] : Nat) : Int)) = false) : l.take (j + 1) = m.take (j + 1) := by
  rw [List.take_succ_eq_append_getElem h1, List.take_succ_eq_append_getElem h2, h]
  simp only [bne_eq_false_iff_eq] at h3
  rw [show l[j] = m[j] by omega]
theorem rf_eq {a b : RF} : (decide (a.num = b.num) && decide (a.den = b.den)) = decide (a = b) := by
  cases a; cases b; rw [Bool.eq_iff_iff]; simp
theorem rg_eq {a b : RG} : (decide (a.re = b.re) && decide (a.im = b.im)) = decide (a = b) := by
  cases a; cases b; rw [Bool.eq_iff_iff]; simp
theorem rr_eq {a b : RR} : (decide (a.y = b.y) && decide (a.u = b.u)) = decide (a = b) := by
  cases a; cases b; rw [Bool.eq_iff_iff]; simp
theorem rm_eq {a b : RM} : (((decide (a.a = b.a) && decide (a.b = b.b)) && decide (a.c = b.c)) && decide (a.d = b.d)) = decide (a = b) := by
  cases a; cases b; rw [Bool.eq_iff_iff]; simp [and_assoc]

set_option maxRecDepth 100000 in
theorem sameInt_c (x y : RI) : Cn Try.prog 54 [(RIA x).va, (RIA y).va] (Bo (decide (x = y))) := by
  refine Cn.intro Try.func54 rfl (by kernel_rfl) nq (fun B w0 a hst => ?_)
  have hst : St B w0 38 [(0, (RIA x).va), (1, (RIA y).va)] [] a w0.w := hst
  have hxk := ri_know (hst.vals (0, (RIA x).va) (List.mem_of_getElem? (i := 0) rfl))
  refine wp_seq ?_
  refine gl (sts := []) (news := [⟨2, 33, ptrH, some 0, _, none⟩, ⟨3, 33, ptrH, some 1, _, none⟩]) (sp := [.alc 0, .alc 1, .val 4 _]) [.o 2] hst (oc (ob_box rfl rfl rfl (gq 0 rfl)) (oc (ob_box rfl rfl rfl (gq 1 rfl)) (oc (ob_v rfl rfl (r_assign has_bo)) o0))) (fun a w hst => ?_)
  have hst : St B w0 38 [(4, _)] [⟨2, 33, ptrH, _⟩, ⟨3, 33, ptrH, _⟩] a w := hst
  refine thn_normal ?_
  refine wp_seq ?_
  refine wp_seq ?_
  refine gl (sts := [none, none]) (news := []) (sp := [.adr 6 2 (.some 0) True, .val 7 _, .adr 8 3 (.some 0) True, .val 9 _, .val 10 _, .val 11 _, .adr 12 2 (.some 1) (_ = false), .val 13 (Wh (_ = false) _), .val 14 (Wh (_ = false) _), .adr 15 3 (.some 1) (_ = false), .val 16 (Wh (_ = false) _), .val 17 (Wh (_ = false) _), .val 18 (Wh (_ = false) _), .val 19 _]) [.g 0, .o 13] hst (oc (ob_a rfl rfl (a_fld (lz0 0 rfl) fld_33_0)) (oc (ob_v rfl rfl (r_loadf 0 rfl (by kernel_rfl) trivial (lz0 0 rfl) (Sub.part 0 rfl rfl) ty_4)) (oc (ob_a rfl rfl (a_fld (lz0 1 rfl) fld_33_0)) (oc (ob_v rfl rfl (r_loadf 2 rfl (by kernel_rfl) trivial (lz0 1 rfl) (Sub.part 0 rfl rfl) ty_4)) (oc (ob_v rfl rfl (r_neqb (by kernel_rfl) (vq 1 rfl) (vq 3 rfl))) (oc (ob_v rfl rfl (r_move (vq 4 rfl))) (oc (ob_ag rfl rfl rfl (vq 5 rfl) nq (fun hg => a_fld (lz0 0 rfl) fld_33_1)) (oc (ob_gd rfl rfl rfl (vq 5 rfl) nq (fun hg => r_loadf 6 rfl (by kernel_rfl) hg (lz0 0 rfl) (Sub.part 1 rfl rfl) ty_31)) (oc (ob_gd rfl rfl rfl (vq 5 rfl) nq (fun hg => r_lenm Try.underlying31 (has_wh (vq 7 rfl) hg))) (oc (ob_ag rfl rfl rfl (vq 5 rfl) nq (fun hg => a_fld (lz0 1 rfl) fld_33_1)) (oc (ob_gd rfl rfl rfl (vq 5 rfl) nq (fun hg => r_loadf 9 rfl (by kernel_rfl) hg (lz0 1 rfl) (Sub.part 1 rfl rfl) ty_31)) (oc (ob_gd rfl rfl rfl (vq 5 rfl) nq (fun hg => r_lenm Try.underlying31 (has_wh (vq 10 rfl) hg))) (oc (ob_gd rfl rfl rfl (vq 5 rfl) nq (fun hg => r_neq (has_wh (vq 8 rfl) hg) (has_wh (vq 11 rfl) hg))) (oc (ob_v rfl rfl (r_or (vq 5 rfl) (vq 12 rfl))) o0)))))))))))))) (fun a w hst => ?_)
  have hst : St B w0 38 [(4, _), (19, _)] [⟨2, 33, ptrH, _⟩, ⟨3, 33, ptrH, _⟩] a w := hst
  refine thn_normal ?_
  refine cond_of hst (List.mem_of_getElem? (i := 1) rfl) (fun hb0 => ?_) (fun hb0 => ?_)
  · refine wp_seq ?_
    refine gl (sts := [none, none]) (news := []) (sp := [.val 4 _]) [.o 0] hst (oc (ob_v rfl rfl (r_assign has_bo)) o0) (fun a w hst => ?_)
    have hst : St B w0 38 [(4, _)] [⟨2, 33, ptrH, _⟩, ⟨3, 33, ptrH, _⟩] a w := hst
    refine thn_normal ?_
    refine wp_ret ?_
    refine thn_ret ?_
    refine ret_wk ?_ (ret_tmp rfl hst (List.mem_of_getElem? (i := 0) rfl))
    exact wk_eq (congrArg Bo (same_no1 hb0))
  · obtain ⟨hn1, hl⟩ := same_two hb0
    refine wp_skip ?_
    refine thn_normal ?_
    refine wp_seq ?_
    refine wp_seq ?_
    refine gl (sts := [none, none]) (news := []) (sp := [.val 5 _]) [.g 0, .o 0] hst (oc (ob_v rfl rfl (r_assign has_num)) o0) (fun a w hst => ?_)
    have hst : St B w0 38 [(4, _), (5, _)] [⟨2, 33, ptrH, _⟩, ⟨3, 33, ptrH, _⟩] a w := hst
    refine thn_normal ?_
    refine wp_block ?_
    have hst := St.sel hst [1]
    refine wp_loop_ghost (fun n a w => ∃ j : Nat, (n + j = x.mag.length ∧ x.mag.take j = y.mag.take j) ∧ St B w0 38 [(5, In (j : Nat))] [⟨2, 33, ptrH, RIA x⟩, ⟨3, 33, ptrH, RIA y⟩] a w) (x.mag.length) ?_ ?_
    · exact ⟨0, ⟨by omega, rfl⟩, hst⟩
    intro n a w hI
    obtain ⟨j, ⟨hn, ht⟩, hst⟩ := hI
    refine wp_seq ?_
    refine wp_seq ?_
    refine gl (sts := [none, none]) (news := []) (sp := [.val 20 _, .adr 21 2 (.some 1) True, .val 22 _, .val 23 _, .val 24 _]) [.g 0, .o 4] hst (oc (ob_v rfl rfl (r_move (gq 0 rfl))) (oc (ob_a rfl rfl (a_fld (lz0 0 rfl) fld_33_1)) (oc (ob_v rfl rfl (r_loadf 1 rfl (by kernel_rfl) trivial (lz0 0 rfl) (Sub.part 1 rfl rfl) ty_31)) (oc (ob_v rfl rfl (r_lenm Try.underlying31 (vq 2 rfl))) (oc (ob_v rfl rfl (r_lss (vq 0 rfl) (vq 3 rfl))) o0))))) (fun a w hst => ?_)
    have hst : St B w0 38 [(5, _), (24, _)] [⟨2, 33, ptrH, _⟩, ⟨3, 33, ptrH, _⟩] a w := hst
    refine thn_normal ?_
    refine cond_of hst (List.mem_of_getElem? (i := 1) rfl) (fun hb1 => ?_) (fun hb1 => ?_)
    · have hj : j < x.mag.length := by simp at hb1; omega
      refine wp_skip ?_
      refine thn_normal ?_
      refine wp_seq ?_
      refine wp_block ?_
      refine wp_seq ?_
      refine go_draw (anc := [[], [0], [], [0, 1, 2], [0, 1, 2, 3], [], [5], [], [5, 6, 7], [5, 6, 7, 8], [0, 1, 2, 3, 4, 5, 6, 7, 8, 9]]) (sts := [none, none]) (news := []) (sp := [.adr 27 2 (.some 1) True, .val 28 _, .val 29 _, .val 30 _, .val 31 _, .adr 32 3 (.some 1) True, .val 33 _, .val 34 _, .val 35 _, .val 36 _, .val 37 _]) [.g 0, .o 10] follows_mixed hst (oc (ob_a rfl rfl (a_fld (lz0 0 rfl) fld_33_1)) (oc (ob_v rfl rfl (r_loadf 0 rfl (by kernel_rfl) trivial (lz0 0 rfl) (Sub.part 1 rfl rfl) ty_31)) (oc (ob_v rfl rfl (r_move (gq 0 rfl))) (oc (ob_v rfl rfl (r_idxm sl_31 (vq 1 rfl) (vq 2 rfl) (by omega))) (oc (ob_v rfl rfl (r_loade (vq 3 rfl) ty_91)) (oc (ob_a rfl rfl (a_fld (lz0 1 rfl) fld_33_1)) (oc (ob_v rfl rfl (r_loadf 5 rfl (by kernel_rfl) trivial (lz0 1 rfl) (Sub.part 1 rfl rfl) ty_31)) (oc (ob_v rfl rfl (r_move (gq 0 rfl))) (oc (ob_v rfl rfl (r_idxm sl_31 (vq 6 rfl) (vq 7 rfl) (by omega))) (oc (ob_v rfl rfl (r_loade (vq 8 rfl) ty_91)) (oc (ob_v rfl rfl (r_neq (vq 4 rfl) (vq 9 rfl))) o0))))))))))) (by kernel_rfl) (by kernel_rfl) (by kernel_rfl) (by kernel_rfl) (fun a w hst => ?_)
      have hst : St B w0 38 [(5, _), (37, _)] [⟨2, 33, ptrH, _⟩, ⟨3, 33, ptrH, _⟩] a w := hst
      refine thn_normal ?_
      refine cond_of hst (List.mem_of_getElem? (i := 1) rfl) (fun hb2 => ?_) (fun hb2 => ?_)
      · refine wp_seq ?_
        refine gl (sts := [none, none]) (news := []) (sp := [.val 4 _]) [.g 0, .o 0] hst (oc (ob_v rfl rfl (r_assign has_bo)) o0) (fun a w hst => ?_)
        have hst : St B w0 38 [(5, _), (4, _)] [⟨2, 33, ptrH, _⟩, ⟨3, 33, ptrH, _⟩] a w := hst
        refine thn_normal ?_
        refine wp_ret ?_
        refine blk_ret ?_
        refine thn_ret ?_
        refine thn_ret ?_
        refine blk_ret ?_
        refine thn_ret ?_
        refine ret_wk ?_ (ret_tmp rfl hst (List.mem_of_getElem? (i := 1) rfl))
        exact wk_eq (congrArg Bo (same_no2 hj (by omega) hb2))
      · refine wp_skip ?_
        refine blk_normal ?_
        refine thn_normal ?_
        refine gl (sts := [none, none]) (news := []) (sp := [.val 25 _, .val 26 _, .val 5 _]) [.o 2] hst (oc (ob_v rfl rfl (r_move (gq 0 rfl))) (oc (ob_v rfl rfl (r_add (vq 0 rfl) has_num (wi_nx hj hxk.2))) (oc (ob_v rfl rfl (r_assign (vq 1 rfl))) o0))) (fun a w hst => ?_)
        have hst : St B w0 38 [(5, _)] [⟨2, 33, ptrH, _⟩, ⟨3, 33, ptrH, _⟩] a w := hst
        refine thn_normal ?_
        have hst := St.sel hst [0]
        exact ⟨n - 1, by omega, j + 1, ⟨by omega, take_eq hj (by omega) ht hb2⟩, hst⟩
    · obtain rfl : j = x.mag.length := by simp at hb1; omega
      refine wp_exit ?_
      refine thn_exit ?_
      refine thn_exit ?_
      refine blk_exit ?_
      refine thn_normal ?_
      refine wp_seq ?_
      refine gl (sts := [none, none]) (news := []) (sp := [.val 4 _]) [.o 0] hst (oc (ob_v rfl rfl (r_assign has_bo)) o0) (fun a w hst => ?_)
      have hst : St B w0 38 [(4, _)] [⟨2, 33, ptrH, _⟩, ⟨3, 33, ptrH, _⟩] a w := hst
      refine thn_normal ?_
      refine wp_ret ?_
      refine ret_wk ?_ (ret_tmp rfl hst (List.mem_of_getElem? (i := 0) rfl))
      exact wk_eq (congrArg Bo (same_yes hn1 (by rw [List.take_of_length_le (Nat.le_refl _), List.take_of_length_le (by omega)] at ht; exact ht)))

set_option maxRecDepth 100000 in
theorem sameFrac_c (x y : RF) : Cn Try.prog 30 [(RFA x).va, (RFA y).va] (Bo (decide (x = y))) := by
  refine Cn.intro Try.func30 rfl (by kernel_rfl) nq (fun B w0 a hst => ?_)
  have hst : St B w0 17 [(0, (RFA x).va), (1, (RFA y).va)] [] a w0.w := hst
  refine wp_seq ?_
  refine gl (sts := []) (news := [⟨2, 35, ptrH, some 0, _, none⟩, ⟨3, 35, ptrH, some 1, _, none⟩]) (sp := [.alc 0, .alc 1, .val 4 _]) [.o 2] hst (oc (ob_box rfl rfl rfl (gq 0 rfl)) (oc (ob_box rfl rfl rfl (gq 1 rfl)) (oc (ob_v rfl rfl (r_assign has_bo)) o0))) (fun a w hst => ?_)
  have hst : St B w0 17 [(4, _)] [⟨2, 35, ptrH, _⟩, ⟨3, 35, ptrH, _⟩] a w := hst
  refine thn_normal ?_
  refine wp_seq ?_
  refine gl (sts := [none, none]) (news := []) (sp := [.adr 5 2 (.some 0) True, .val 6 _, .adr 7 3 (.some 0) True, .val 8 _, .val 9 _, .val 10 _, .adr 11 2 (.some 2) (_ = true), .val 12 (Wh (_ = true) _), .adr 13 3 (.some 2) (_ = true), .val 14 (Wh (_ = true) _), .val 15 (Wh (_ = true) _), .val 16 _, .val 4 _]) [.o 12] hst (oc (ob_a rfl rfl (a_fld (lz0 0 rfl) fld_35_0)) (oc (ob_v rfl rfl (r_loadf 0 rfl (by kernel_rfl) trivial (lz0 0 rfl) (Sub.part 0 rfl rfl) ty_33)) (oc (ob_a rfl rfl (a_fld (lz0 1 rfl) fld_35_0)) (oc (ob_v rfl rfl (r_loadf 2 rfl (by kernel_rfl) trivial (lz0 1 rfl) (Sub.part 0 rfl rfl) ty_33)) (oc (ob_v rfl rfl (r_call (xs := [.tmp 6, .tmp 8]) (sameInt_c _ _) (.cons (vq 1 rfl) (.cons (vq 3 rfl) .nil)))) (oc (ob_v rfl rfl (r_move (vq 4 rfl))) (oc (ob_ag rfl rfl rfl (vq 5 rfl) nq (fun hg => a_fld (lz0 0 rfl) fld_35_1)) (oc (ob_gd rfl rfl rfl (vq 5 rfl) nq (fun hg => r_loadf 6 rfl (by kernel_rfl) hg (lz0 0 rfl) (Sub.part 1 rfl rfl) ty_33)) (oc (ob_ag rfl rfl rfl (vq 5 rfl) nq (fun hg => a_fld (lz0 1 rfl) fld_35_1)) (oc (ob_gd rfl rfl rfl (vq 5 rfl) nq (fun hg => r_loadf 8 rfl (by kernel_rfl) hg (lz0 1 rfl) (Sub.part 1 rfl rfl) ty_33)) (oc (ob_gd rfl rfl rfl (vq 5 rfl) nq (fun hg => r_call (xs := [.tmp 12, .tmp 14]) (sameInt_c _ _) (.cons (has_wh (vq 7 rfl) hg) (.cons (has_wh (vq 9 rfl) hg) .nil)))) (oc (ob_v rfl rfl (r_and (vq 5 rfl) (vq 10 rfl))) (oc (ob_v rfl rfl (r_assign (vq 11 rfl))) o0))))))))))))) (fun a w hst => ?_)
  have hst : St B w0 17 [(4, _)] [⟨2, 35, ptrH, _⟩, ⟨3, 35, ptrH, _⟩] a w := hst
  refine thn_normal ?_
  refine wp_ret ?_
  refine ret_wk ?_ (ret_tmp rfl hst (List.mem_of_getElem? (i := 0) rfl))
  exact wk_eq (congrArg Bo rf_eq)

set_option maxRecDepth 100000 in
theorem sameMatrix_c (x y : RM) : Cn Try.prog 13 [(RMA x).va, (RMA y).va] (Bo (decide (x = y))) := by
  refine Cn.intro Try.func13 rfl (by kernel_rfl) nq (fun B w0 a hst => ?_)
  have hst : St B w0 31 [(0, (RMA x).va), (1, (RMA y).va)] [] a w0.w := hst
  refine wp_seq ?_
  refine gl (sts := []) (news := [⟨2, 37, ptrH, some 0, _, none⟩, ⟨3, 37, ptrH, some 1, _, none⟩]) (sp := [.alc 0, .alc 1, .val 4 _]) [.o 2] hst (oc (ob_box rfl rfl rfl (gq 0 rfl)) (oc (ob_box rfl rfl rfl (gq 1 rfl)) (oc (ob_v rfl rfl (r_assign has_bo)) o0))) (fun a w hst => ?_)
  have hst : St B w0 31 [(4, _)] [⟨2, 37, ptrH, _⟩, ⟨3, 37, ptrH, _⟩] a w := hst
  refine thn_normal ?_
  refine wp_seq ?_
  refine gl (sts := [none, none]) (news := []) (sp := ((.adr 5 2 (.some 0) True : Sp) :: (.val 6 _) :: (.adr 7 3 (.some 0) True) :: (.val 8 _) :: (.val 9 _) :: (.val 10 _) :: (.adr 11 2 (.some 4) (_ = true)) :: (.val 12 (Wh (_ = true) _)) :: (.adr 13 3 (.some 4) (_ = true)) :: (.val 14 (Wh (_ = true) _)) :: (.val 15 (Wh (_ = true) _)) :: (.val 16 _) :: (.val 17 _) :: (.adr 18 2 (.some 8) (_ = true)) :: (.val 19 (Wh (_ = true) _)) :: (.adr 20 3 (.some 8) (_ = true)) :: (.val 21 (Wh (_ = true) _)) :: (.val 22 (Wh (_ = true) _)) :: (.val 23 _) :: (.val 24 _) :: (.adr 25 2 (.some 12) (_ = true)) :: (.val 26 (Wh (_ = true) _)) :: (.adr 27 3 (.some 12) (_ = true)) :: (.val 28 (Wh (_ = true) _)) :: (.val 29 (Wh (_ = true) _)) :: (.val 30 _) :: (.val 4 _) :: [])) [.o 26] hst (oc (ob_a rfl rfl (a_fld (lz0 0 rfl) fld_37_0)) (oc (ob_v rfl rfl (r_loadf 0 rfl (by kernel_rfl) trivial (lz0 0 rfl) (Sub.part 0 rfl rfl) ty_35)) (oc (ob_a rfl rfl (a_fld (lz0 1 rfl) fld_37_0)) (oc (ob_v rfl rfl (r_loadf 2 rfl (by kernel_rfl) trivial (lz0 1 rfl) (Sub.part 0 rfl rfl) ty_35)) (oc (ob_v rfl rfl (r_call (xs := [.tmp 6, .tmp 8]) (sameFrac_c _ _) (.cons (vq 1 rfl) (.cons (vq 3 rfl) .nil)))) (oc (ob_v rfl rfl (r_move (vq 4 rfl))) (oc (ob_ag rfl rfl rfl (vq 5 rfl) nq (fun hg => a_fld (lz0 0 rfl) fld_37_1)) (oc (ob_gd rfl rfl rfl (vq 5 rfl) nq (fun hg => r_loadf 6 rfl (by kernel_rfl) hg (lz0 0 rfl) (Sub.part 1 rfl rfl) ty_35)) (oc (ob_ag rfl rfl rfl (vq 5 rfl) nq (fun hg => a_fld (lz0 1 rfl) fld_37_1)) (oc (ob_gd rfl rfl rfl (vq 5 rfl) nq (fun hg => r_loadf 8 rfl (by kernel_rfl) hg (lz0 1 rfl) (Sub.part 1 rfl rfl) ty_35)) (oc (ob_gd rfl rfl rfl (vq 5 rfl) nq (fun hg => r_call (xs := [.tmp 12, .tmp 14]) (sameFrac_c _ _) (.cons (has_wh (vq 7 rfl) hg) (.cons (has_wh (vq 9 rfl) hg) .nil)))) (oc (ob_v rfl rfl (r_and (vq 5 rfl) (vq 10 rfl))) (oc (ob_v rfl rfl (r_move (vq 11 rfl))) (oc (ob_ag rfl rfl rfl (vq 12 rfl) nq (fun hg => a_fld (lz0 0 rfl) fld_37_2)) (oc (ob_gd rfl rfl rfl (vq 12 rfl) nq (fun hg => r_loadf 13 rfl (by kernel_rfl) hg (lz0 0 rfl) (Sub.part 2 rfl rfl) ty_35)) (oc (ob_ag rfl rfl rfl (vq 12 rfl) nq (fun hg => a_fld (lz0 1 rfl) fld_37_2)) (oc (ob_gd rfl rfl rfl (vq 12 rfl) nq (fun hg => r_loadf 15 rfl (by kernel_rfl) hg (lz0 1 rfl) (Sub.part 2 rfl rfl) ty_35)) (oc (ob_gd rfl rfl rfl (vq 12 rfl) nq (fun hg => r_call (xs := [.tmp 19, .tmp 21]) (sameFrac_c _ _) (.cons (has_wh (vq 14 rfl) hg) (.cons (has_wh (vq 16 rfl) hg) .nil)))) (oc (ob_v rfl rfl (r_and (vq 12 rfl) (vq 17 rfl))) (oc (ob_v rfl rfl (r_move (vq 18 rfl))) (oc (ob_ag rfl rfl rfl (vq 19 rfl) nq (fun hg => a_fld (lz0 0 rfl) fld_37_3)) (oc (ob_gd rfl rfl rfl (vq 19 rfl) nq (fun hg => r_loadf 20 rfl (by kernel_rfl) hg (lz0 0 rfl) (Sub.part 3 rfl rfl) ty_35)) (oc (ob_ag rfl rfl rfl (vq 19 rfl) nq (fun hg => a_fld (lz0 1 rfl) fld_37_3)) (oc (ob_gd rfl rfl rfl (vq 19 rfl) nq (fun hg => r_loadf 22 rfl (by kernel_rfl) hg (lz0 1 rfl) (Sub.part 3 rfl rfl) ty_35)) (oc (ob_gd rfl rfl rfl (vq 19 rfl) nq (fun hg => r_call (xs := [.tmp 26, .tmp 28]) (sameFrac_c _ _) (.cons (has_wh (vq 21 rfl) hg) (.cons (has_wh (vq 23 rfl) hg) .nil)))) (oc (ob_v rfl rfl (r_and (vq 19 rfl) (vq 24 rfl))) (oc (ob_v rfl rfl (r_assign (vq 25 rfl))) o0))))))))))))))))))))))))))) (fun a w hst => ?_)
  have hst : St B w0 31 [(4, _)] [⟨2, 37, ptrH, _⟩, ⟨3, 37, ptrH, _⟩] a w := hst
  refine thn_normal ?_
  refine wp_ret ?_
  refine ret_wk ?_ (ret_tmp rfl hst (List.mem_of_getElem? (i := 0) rfl))
  exact wk_eq (congrArg Bo rm_eq)

end Go.Proofs.Ytljkepdpoelpkaa
