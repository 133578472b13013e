import Derived.Test.YtljkepdpoelpkaaLeafA
namespace Go.Proofs.Ytljkepdpoelpkaa
open Go Go.RowKit
namespace LeafB

end LeafB
open LeafB
theorem tu2 {a b c d : VA} (h : a = c) (h' : b = d) : Tu [a, b] = Tu [c, d] := by rw [h, h']
theorem nu {k : IntKind} {m n : Int} (h : m = n) : (NumA k m).va = (NumA k n).va := by rw [h]
theorem add32_e1 {x y c : Nat} (hx : x < 4294967296) (hy : y < 4294967296) (hc : c < 4294967296) : IntKind.u64.wrap (IntKind.u64.wrap (IntKind.u64.wrap (x : Int) + IntKind.u64.wrap (y : Int)) + IntKind.u64.wrap (c : Int)) = ((x + y + c : Nat) : Int) := by
  rw [wu64 (by omega), wu64 (by omega), wadd64 (by omega), wu64 (by omega), wadd64 (by omega)]
theorem div32_e {h l d : Nat} (hh : h < d) (hl : l < 4294967296) (hd : d < 4294967296) : bits .or .u64 (IntKind.u64.wrap (IntKind.u64.wrap (h : Int) * 2 ^ ((32 : Int).toNat))) (IntKind.u64.wrap (l : Int)) = ((h * 4294967296 + l : Nat) : Int) := by
  rw [wu64 (x := h) (by omega), wu64 (x := l) (by omega), wshl32 (by omega), or64 (by omega) hl]
theorem div32_q {h l d : Nat} (hh : h < d) (hl : l < 4294967296) : (h * 4294967296 + l) / d < 4294967296 := by
  apply Nat.div_lt_of_lt_mul
  have : (h + 1) * 4294967296 ≤ d * 4294967296 := Nat.mul_le_mul_right _ hh
  omega

set_option maxRecDepth 100000 in
theorem add32_c {x y c : Nat} (hx : x < 4294967296) (hy : y < 4294967296) (hc : c < 4294967296) : Cn Try.prog 93 [(NumA .u32 (x : Nat)).va, (NumA .u32 (y : Nat)).va, (NumA .u32 (c : Nat)).va] (Tu [(NumA .u32 ((x + y + c) % 4294967296 : Nat)).va, (NumA .u32 ((x + y + c) / 4294967296 : Nat)).va]) := by
  refine Cn.intro Try.func93 rfl (by kernel_rfl) nq (fun B w0 a hst => ?_)
  have hst : St B w0 22 [(0, (NumA .u32 (x : Nat)).va), (1, (NumA .u32 (y : Nat)).va), (2, (NumA .u32 (c : Nat)).va)] [] a w0.w := hst
  refine wp_seq ?_
  refine gl (sts := []) (news := []) (sp := [.val 6 _, .val 7 _]) [.g 0, .g 1, .g 2, .o 0, .o 1] hst (oc (ob_v rfl rfl (r_assign has_num)) (oc (ob_v rfl rfl (r_assign has_num)) o0)) (fun a w hst => ?_)
  have hst : St B w0 22 [(0, _), (1, _), (2, _), (6, _), (7, _)] [] a w := hst
  refine thn_normal ?_
  refine wp_seq ?_
  refine gl (sts := []) (news := []) (sp := [.val 9 _, .val 10 _, .val 11 _, .val 12 _, .val 13 _, .val 14 _, .val 15 _, .val 16 _, .val 8 _]) [.g 3, .g 4, .o 8] hst (oc (ob_v rfl rfl (r_move (gq 0 rfl))) (oc (ob_v rfl rfl (r_convk .u64 (by kernel_rfl) (by kernel_rfl) (vq 0 rfl) (rfl))) (oc (ob_v rfl rfl (r_move (gq 1 rfl))) (oc (ob_v rfl rfl (r_convk .u64 (by kernel_rfl) (by kernel_rfl) (vq 2 rfl) (rfl))) (oc (ob_v rfl rfl (r_add (vq 1 rfl) (vq 3 rfl) (rfl))) (oc (ob_v rfl rfl (r_move (gq 2 rfl))) (oc (ob_v rfl rfl (r_convk .u64 (by kernel_rfl) (by kernel_rfl) (vq 5 rfl) (rfl))) (oc (ob_v rfl rfl (r_add (vq 4 rfl) (vq 6 rfl) (rfl))) (oc (ob_v rfl rfl (r_assign (vq 7 rfl))) o0))))))))) (fun a w hst => ?_)
  have hst : St B w0 22 [(6, _), (7, _), (8, _)] [] a w := hst
  refine thn_normal ?_
  refine wp_seq ?_
  refine gl (sts := []) (news := []) (sp := [.val 17 _, .val 18 _, .val 6 _]) [.g 1, .g 2, .o 2] hst (oc (ob_v rfl rfl (r_move (gq 2 rfl))) (oc (ob_v rfl rfl (r_convk .u32 (by kernel_rfl) (by kernel_rfl) (vq 0 rfl) (rfl))) (oc (ob_v rfl rfl (r_assign (vq 1 rfl))) o0))) (fun a w hst => ?_)
  have hst : St B w0 22 [(7, _), (8, _), (6, _)] [] a w := hst
  refine thn_normal ?_
  refine wp_seq ?_
  refine gl (sts := []) (news := []) (sp := [.val 19 _, .val 20 _, .val 21 _, .val 7 _]) [.g 2, .o 3] hst (oc (ob_v rfl rfl (r_move (gq 1 rfl))) (oc (ob_v rfl rfl (r_shr (vq 0 rfl) has_num (by decide) (rfl))) (oc (ob_v rfl rfl (r_convk .u32 (by kernel_rfl) (by kernel_rfl) (vq 1 rfl) (rfl))) (oc (ob_v rfl rfl (r_assign (vq 2 rfl))) o0)))) (fun a w hst => ?_)
  have hst : St B w0 22 [(6, _), (7, _)] [] a w := hst
  refine thn_normal ?_
  refine wp_ret ?_
  refine ret_cast ?_ (ret_many (rs := [.tmp 6, .tmp 7]) rfl hst (.tmp (List.mem_of_getElem? (i := 0) rfl) (.tmp (List.mem_of_getElem? (i := 1) rfl) .nil)) (by decide))
  exact tu2 (nu (by rw [add32_e1 hx hy hc, wu32'])) (nu (by rw [add32_e1 hx hy hc]; exact (congrArg _ nshr).trans (wu32 (by show (x + y + c) / 4294967296 < _; omega))))

set_option maxRecDepth 100000 in
theorem sub32_c {x y c : Nat} (hx : x < 4294967296) (hy : y < 4294967296) (hc : c < 2) : Cn Try.prog 94 [(NumA .u32 (x : Nat)).va, (NumA .u32 (y : Nat)).va, (NumA .u32 (c : Nat)).va] (Tu [(NumA .u32 ((x + 8589934592 - y - c) % 4294967296 : Nat)).va, (NumA .u32 (if x < y + c then 1 else 0 : Nat)).va]) := by
  refine Cn.intro Try.func94 rfl (by kernel_rfl) nq (fun B w0 a hst => ?_)
  have hst : St B w0 25 [(0, (NumA .u32 (x : Nat)).va), (1, (NumA .u32 (y : Nat)).va), (2, (NumA .u32 (c : Nat)).va)] [] a w0.w := hst
  refine wp_seq ?_
  refine gl (sts := []) (news := []) (sp := [.val 6 _, .val 7 _]) [.g 0, .g 1, .g 2, .o 0, .o 1] hst (oc (ob_v rfl rfl (r_assign has_num)) (oc (ob_v rfl rfl (r_assign has_num)) o0)) (fun a w hst => ?_)
  have hst : St B w0 25 [(0, _), (1, _), (2, _), (6, _), (7, _)] [] a w := hst
  refine thn_normal ?_
  refine wp_seq ?_
  refine gl (sts := []) (news := []) (sp := [.val 8 _, .val 9 _, .val 10 _, .val 11 _, .val 12 _, .val 6 _]) [.g 0, .g 1, .g 4, .o 5] hst (oc (ob_v rfl rfl (r_move (gq 0 rfl))) (oc (ob_v rfl rfl (r_move (gq 1 rfl))) (oc (ob_v rfl rfl (r_sub (vq 0 rfl) (vq 1 rfl) (rfl))) (oc (ob_v rfl rfl (r_move (gq 2 rfl))) (oc (ob_v rfl rfl (r_sub (vq 2 rfl) (vq 3 rfl) (rfl))) (oc (ob_v rfl rfl (r_assign (vq 4 rfl))) o0)))))) (fun a w hst => ?_)
  have hst : St B w0 25 [(0, _), (1, _), (7, _), (6, _)] [] a w := hst
  refine thn_normal ?_
  refine wp_seq ?_
  refine gl (sts := []) (news := []) (sp := [.val 13 _, .val 14 _, .val 15 _, .val 16 _, .val 17 _, .val 18 _, .val 19 _, .val 20 _, .val 21 _, .val 22 _, .val 23 _, .val 24 _, .val 7 _]) [.g 3, .o 12] hst (oc (ob_v rfl rfl (r_move (gq 0 rfl))) (oc (ob_v rfl rfl (r_bnot (vq 0 rfl) (rfl))) (oc (ob_v rfl rfl (r_move (gq 1 rfl))) (oc (ob_v rfl rfl (r_band (vq 1 rfl) (vq 2 rfl) (rfl))) (oc (ob_v rfl rfl (r_move (gq 0 rfl))) (oc (ob_v rfl rfl (r_move (gq 1 rfl))) (oc (ob_v rfl rfl (r_bxor (vq 4 rfl) (vq 5 rfl) (rfl))) (oc (ob_v rfl rfl (r_bnot (vq 6 rfl) (rfl))) (oc (ob_v rfl rfl (r_move (gq 3 rfl))) (oc (ob_v rfl rfl (r_band (vq 7 rfl) (vq 8 rfl) (rfl))) (oc (ob_v rfl rfl (r_bor (vq 3 rfl) (vq 9 rfl) (rfl))) (oc (ob_v rfl rfl (r_shr (vq 10 rfl) has_num (by decide) (rfl))) (oc (ob_v rfl rfl (r_assign (vq 11 rfl))) o0))))))))))))) (fun a w hst => ?_)
  have hst : St B w0 25 [(6, _), (7, _)] [] a w := hst
  refine thn_normal ?_
  refine wp_ret ?_
  refine ret_cast ?_ (ret_many (rs := [.tmp 6, .tmp 7]) rfl hst (.tmp (List.mem_of_getElem? (i := 0) rfl) (.tmp (List.mem_of_getElem? (i := 1) rfl) .nil)) (by decide))
  exact tu2 (nu (sub32_d hx hy hc)) (nu (sub32_e2 hx hy hc))

set_option maxRecDepth 100000 in
theorem div32_c {h l d : Nat} (hh : h < d) (hl : l < 4294967296) (hd : d < 4294967296) : Cn Try.prog 95 [(NumA .u32 (h : Nat)).va, (NumA .u32 (l : Nat)).va, (NumA .u32 (d : Nat)).va] (Tu [(NumA .u32 ((h * 4294967296 + l) / d : Nat)).va, (NumA .u32 ((h * 4294967296 + l) % d : Nat)).va]) := by
  refine Cn.intro Try.func95 rfl (by kernel_rfl) nq (fun B w0 a hst => ?_)
  have hst : St B w0 33 [(0, (NumA .u32 (h : Nat)).va), (1, (NumA .u32 (l : Nat)).va), (2, (NumA .u32 (d : Nat)).va)] [] a w0.w := hst
  refine wp_seq ?_
  refine gl (sts := []) (news := []) (sp := [.val 6 _, .val 7 _]) [.g 0, .g 1, .g 2, .o 0, .o 1] hst (oc (ob_v rfl rfl (r_assign has_num)) (oc (ob_v rfl rfl (r_assign has_num)) o0)) (fun a w hst => ?_)
  have hst : St B w0 33 [(0, _), (1, _), (2, _), (6, _), (7, _)] [] a w := hst
  refine thn_normal ?_
  refine wp_seq ?_
  refine wp_seq ?_
  refine gl (sts := []) (news := []) (sp := [.val 9 _, .val 10 _, .val 11 _, .val 12 (Wh (_ = true) _), .val 13 (Wh (_ = true) _), .val 14 (Wh (_ = true) _), .val 15 _]) [.g 0, .g 1, .g 2, .g 3, .g 4, .o 6] hst (oc (ob_v rfl rfl (r_move (gq 2 rfl))) (oc (ob_v rfl rfl (r_neq (vq 0 rfl) has_num)) (oc (ob_v rfl rfl (r_move (vq 1 rfl))) (oc (ob_gd rfl rfl rfl (vq 2 rfl) nq (fun hg => r_move (gq 2 rfl))) (oc (ob_gd rfl rfl rfl (vq 2 rfl) nq (fun hg => r_move (gq 0 rfl))) (oc (ob_gd rfl rfl rfl (vq 2 rfl) nq (fun hg => r_leq (has_wh (vq 3 rfl) hg) (has_wh (vq 4 rfl) hg))) (oc (ob_v rfl rfl (r_and (vq 2 rfl) (vq 5 rfl))) o0))))))) (fun a w hst => ?_)
  have hst : St B w0 33 [(0, _), (1, _), (2, _), (6, _), (7, _), (15, _)] [] a w := hst
  refine thn_normal ?_
  refine cond_of hst (List.mem_of_getElem? (i := 5) rfl) (fun hb0 => ?_) (fun hb0 => ?_)
  · exact absurd hb0 (by simp; omega)
  · refine wp_skip ?_
    refine thn_normal ?_
    refine wp_seq ?_
    refine gl (sts := []) (news := []) (sp := [.val 17 _, .val 18 _, .val 19 _, .val 20 _, .val 21 _, .val 22 _, .val 8 _]) [.g 2, .g 3, .g 4, .o 6] hst (oc (ob_v rfl rfl (r_move (gq 0 rfl))) (oc (ob_v rfl rfl (r_convk .u64 (by kernel_rfl) (by kernel_rfl) (vq 0 rfl) (rfl))) (oc (ob_v rfl rfl (r_shl (vq 1 rfl) has_num (by decide) (rfl))) (oc (ob_v rfl rfl (r_move (gq 1 rfl))) (oc (ob_v rfl rfl (r_convk .u64 (by kernel_rfl) (by kernel_rfl) (vq 3 rfl) (rfl))) (oc (ob_v rfl rfl (r_bor (vq 2 rfl) (vq 4 rfl) (rfl))) (oc (ob_v rfl rfl (r_assign (vq 5 rfl))) o0))))))) (fun a w hst => ?_)
    have hst : St B w0 33 [(2, _), (6, _), (7, _), (8, _)] [] a w := hst
    refine thn_normal ?_
    refine wp_seq ?_
    refine go_draw (anc := [[], [], [1], [0, 1, 2], [0, 1, 2, 3], [], [], [6], [5, 6, 7], [5, 6, 7, 8], [0, 1, 2, 3, 4], [0, 1, 2, 3, 4, 5, 6, 7, 8, 9, 10]]) (sts := []) (news := []) (sp := [.val 23 _, .val 24 _, .val 25 _, .val 26 _, .val 27 _, .val 28 _, .val 29 _, .val 30 _, .val 31 _, .val 32 _, .val 6 _, .val 7 _]) [.o 10, .o 11] follows_mixed hst (oc (ob_v rfl rfl (r_move (gq 3 rfl))) (oc (ob_v rfl rfl (r_move (gq 0 rfl))) (oc (ob_v rfl rfl (r_convk .u64 (by kernel_rfl) (by kernel_rfl) (vq 1 rfl) (rfl))) (oc (ob_v rfl rfl (r_quo (vq 0 rfl) (vq 2 rfl) (by rw [wu64 (by omega)]; omega) (rfl))) (oc (ob_v rfl rfl (r_convk .u32 (by kernel_rfl) (by kernel_rfl) (vq 3 rfl) (rfl))) (oc (ob_v rfl rfl (r_move (gq 3 rfl))) (oc (ob_v rfl rfl (r_move (gq 0 rfl))) (oc (ob_v rfl rfl (r_convk .u64 (by kernel_rfl) (by kernel_rfl) (vq 6 rfl) (rfl))) (oc (ob_v rfl rfl (r_rem (vq 5 rfl) (vq 7 rfl) (by rw [wu64 (by omega)]; omega) (rfl))) (oc (ob_v rfl rfl (r_convk .u32 (by kernel_rfl) (by kernel_rfl) (vq 8 rfl) (rfl))) (oc (ob_v rfl rfl (r_assign (vq 4 rfl))) (oc (ob_v rfl rfl (r_assign (vq 9 rfl))) o0)))))))))))) (by kernel_rfl) (by kernel_rfl) (by kernel_rfl) (by kernel_rfl) (fun a w hst => ?_)
    have hst : St B w0 33 [(6, _), (7, _)] [] a w := hst
    refine thn_normal ?_
    refine wp_ret ?_
    refine ret_cast ?_ (ret_many (rs := [.tmp 6, .tmp 7]) rfl hst (.tmp (List.mem_of_getElem? (i := 0) rfl) (.tmp (List.mem_of_getElem? (i := 1) rfl) .nil)) (by decide))
    exact tu2 (nu (by rw [div32_e hh hl hd, wu64 (x := d) (by omega)]; exact (congrArg _ (nquo (by have := div32_q hh hl; omega))).trans (wu32 (div32_q hh hl)))) (nu (by rw [div32_e hh hl hd, wu64 (x := d) (by omega)]; exact (congrArg _ nrem).trans (wu32 (by have := Nat.mod_lt (h * 4294967296 + l) (show 0 < d by omega); omega))))

end Go.Proofs.Ytljkepdpoelpkaa
