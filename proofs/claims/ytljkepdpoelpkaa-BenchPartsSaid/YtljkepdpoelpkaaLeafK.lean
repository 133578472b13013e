import Derived.Test.YtljkepdpoelpkaaLeafJ
namespace Go.Proofs.Ytljkepdpoelpkaa
open Go Go.RowKit
namespace LeafK

end LeafK
open LeafK
def tab8 : ByteArray := ⟨(([0, 1, 2, 2, 3, 3, 3, 3, 4, 4, 4, 4, 4, 4, 4, 4, 5, 5, 5, 5, 5, 5, 5, 5, 5, 5, 5, 5, 5, 5, 5, 5, 6, 6, 6, 6, 6, 6, 6, 6, 6, 6, 6, 6, 6, 6, 6, 6, 6, 6, 6, 6, 6, 6, 6, 6, 6, 6, 6, 6, 6, 6, 6, 6, 7, 7, 7, 7, 7, 7, 7, 7, 7, 7, 7, 7, 7, 7, 7, 7, 7, 7, 7, 7, 7, 7, 7, 7, 7, 7, 7, 7, 7, 7, 7, 7, 7, 7, 7, 7, 7, 7, 7, 7, 7, 7, 7, 7, 7, 7, 7, 7, 7, 7, 7, 7, 7, 7, 7, 7, 7, 7, 7, 7, 7, 7, 7, 7] : List UInt8) ++ [8, 8, 8, 8, 8, 8, 8, 8, 8, 8, 8, 8, 8, 8, 8, 8, 8, 8, 8, 8, 8, 8, 8, 8, 8, 8, 8, 8, 8, 8, 8, 8, 8, 8, 8, 8, 8, 8, 8, 8, 8, 8, 8, 8, 8, 8, 8, 8, 8, 8, 8, 8, 8, 8, 8, 8, 8, 8, 8, 8, 8, 8, 8, 8, 8, 8, 8, 8, 8, 8, 8, 8, 8, 8, 8, 8, 8, 8, 8, 8, 8, 8, 8, 8, 8, 8, 8, 8, 8, 8, 8, 8, 8, 8, 8, 8, 8, 8, 8, 8, 8, 8, 8, 8, 8, 8, 8, 8, 8, 8, 8, 8, 8, 8, 8, 8, 8, 8, 8, 8, 8, 8, 8, 8, 8, 8, 8, 8]).toArray⟩
theorem tab8_all : (List.range 256).all (fun n => tab8[n]? == some (UInt8.ofNat (bl n))) = true := by kernel_rfl
theorem tab8_at {n : Nat} (h : n < 256) : tab8[n]? = some (UInt8.ofNat (bl n)) := by
  have := List.all_eq_true.1 tab8_all n (by simpa using h)
  simpa using this
theorem tab8_n {n : Nat} (h : n < 256) : (UInt8.ofNat (bl n)).toNat = bl n := by
  have := bl_max (k := 8) h
  simp
  omega
theorem wu8 {x : Nat} (h : x < 256) : IntKind.u8.wrap (x : Int) = (x : Int) := by simp [IntKind.wrap, IntKind.bits, IntKind.signed]; omega

set_option maxRecDepth 100000 in
theorem len32_c (x : Nat) (hx : x < 4294967296) : Cn Try.prog 99 [(NumA .u32 (x : Nat)).va] (In (bl x : Nat)) := by
  refine Cn.intro Try.func99 rfl (by kernel_rfl) nq (fun B w0 a hst => ?_)
  have hst : St B w0 19 [(0, (NumA .u32 (x : Nat)).va)] [] a w0.w := hst
  refine wp_seq ?_
  refine gl (sts := []) (news := []) (sp := [.val 2 _]) [.g 0, .o 0] hst (oc (ob_v rfl rfl (r_assign has_num)) o0) (fun a w hst => ?_)
  have hst : St B w0 19 [(0, _), (2, _)] [] a w := hst
  refine thn_normal ?_
  refine wp_seq ?_
  refine wp_seq ?_
  refine gl (sts := []) (news := []) (sp := [.val 3 _, .val 4 _]) [.g 0, .g 1, .o 1] hst (oc (ob_v rfl rfl (r_move (gq 0 rfl))) (oc (ob_v rfl rfl (r_geq (vq 0 rfl) (has_nat 65536 rfl))) o0)) (fun a w hst => ?_)
  have hst : St B w0 19 [(0, _), (2, _), (4, _)] [] a w := hst
  refine thn_normal ?_
  refine cond_of hst (List.mem_of_getElem? (i := 2) rfl) (fun hb0 => ?_) (fun hb0 => ?_)
  · have h1 : 65536 ≤ x := by simp at hb0; omega
    have e1 := bl_div x 16 h1
    refine wp_seq ?_
    refine gl (sts := []) (news := []) (sp := [.val 5 _, .val 6 _, .val 0 _]) [.g 1, .o 2] hst (oc (ob_v rfl rfl (r_move (gq 0 rfl))) (oc (ob_v rfl rfl (r_shr (vq 0 rfl) (has_nat 16 rfl) (by decide) (nshr))) (oc (ob_v rfl rfl (r_assign (vq 1 rfl))) o0))) (fun a w hst => ?_)
    have hst : St B w0 19 [(2, _), (0, _)] [] a w := hst
    refine thn_normal ?_
    refine gl (sts := []) (news := []) (sp := [.val 2 _]) [.g 1, .o 0] hst (oc (ob_v rfl rfl (r_assign has_num)) o0) (fun a w hst => ?_)
    have hst : St B w0 19 [(0, _), (2, _)] [] a w := hst
    refine thn_normal ?_
    refine wp_seq ?_
    refine wp_seq ?_
    refine gl (sts := []) (news := []) (sp := [.val 7 _, .val 8 _]) [.g 0, .g 1, .o 1] hst (oc (ob_v rfl rfl (r_move (gq 0 rfl))) (oc (ob_v rfl rfl (r_geq (vq 0 rfl) (has_nat 256 rfl))) o0)) (fun a w hst => ?_)
    have hst : St B w0 19 [(0, _), (2, _), (8, _)] [] a w := hst
    refine thn_normal ?_
    refine cond_of hst (List.mem_of_getElem? (i := 2) rfl) (fun hb1 => ?_) (fun hb1 => ?_)
    · have h2 : 256 ≤ x / 2 ^ 16 := by simp at hb1; omega
      have e2 := bl_div (x / 2 ^ 16) 8 h2
      refine wp_seq ?_
      refine gl (sts := []) (news := []) (sp := [.val 9 _, .val 10 _, .val 0 _]) [.g 1, .o 2] hst (oc (ob_v rfl rfl (r_move (gq 0 rfl))) (oc (ob_v rfl rfl (r_shr (vq 0 rfl) (has_nat 8 rfl) (by decide) (nshr))) (oc (ob_v rfl rfl (r_assign (vq 1 rfl))) o0))) (fun a w hst => ?_)
      have hst : St B w0 19 [(2, _), (0, _)] [] a w := hst
      refine thn_normal ?_
      refine gl (sts := []) (news := []) (sp := [.val 11 _, .val 12 _, .val 2 _]) [.g 1, .o 2] hst (oc (ob_v rfl rfl (r_move (gq 0 rfl))) (oc (ob_v rfl rfl (r_add (vq 0 rfl) has_num (wi64 (by omega) (by omega)))) (oc (ob_v rfl rfl (r_assign (vq 1 rfl))) o0))) (fun a w hst => ?_)
      have hst : St B w0 19 [(0, _), (2, _)] [] a w := hst
      refine thn_normal ?_
      refine wp_seq ?_
      refine gl (sts := []) (news := []) (sp := [.val 13 _, .val 14 _, .val 15 _, .val 16 _, .val 17 _, .val 18 _, .val 2 _]) [.o 6] hst (oc (ob_v rfl rfl (r_move (gq 1 rfl))) (oc (ob_v rfl rfl (r_move (gq 0 rfl))) (oc (ob_v rfl rfl (r_convk .u8 (by kernel_rfl) (by kernel_rfl) (vq 1 rfl) (wu8 (by omega)))) (oc (ob_v rfl rfl (r_index (by kernel_rfl) has_const (vq 2 rfl) (tab8_at (by omega)))) (oc (ob_v rfl rfl (r_convk .i64 (by kernel_rfl) (by kernel_rfl) (vq 3 rfl) (wi64 (by omega) (by rw [tab8_n (by omega)]; have := bl_max (k := 8) (n := x / 2 ^ 16 / 2 ^ 8) (by omega); omega)))) (oc (ob_v rfl rfl (r_add (vq 0 rfl) (vq 4 rfl) (wi64 (by rw [tab8_n (by omega)]; omega) (by rw [tab8_n (by omega)]; have := bl_max (k := 8) (n := x / 2 ^ 16 / 2 ^ 8) (by omega); omega)))) (oc (ob_v rfl rfl (r_assign (vq 5 rfl))) o0))))))) (fun a w hst => ?_)
      have hst : St B w0 19 [(2, _)] [] a w := hst
      refine thn_normal ?_
      refine wp_ret ?_
      refine ret_cast ?_ (ret_tmp rfl hst (List.mem_of_getElem? (i := 0) rfl))
      rw [e1, e2, tab8_n (by omega)]; congr 2; omega
    · have h2 : x / 2 ^ 16 < 256 := by simp at hb1; omega
      refine wp_skip ?_
      refine thn_normal ?_
      refine wp_seq ?_
      refine gl (sts := []) (news := []) (sp := [.val 13 _, .val 14 _, .val 15 _, .val 16 _, .val 17 _, .val 18 _, .val 2 _]) [.o 6] hst (oc (ob_v rfl rfl (r_move (gq 1 rfl))) (oc (ob_v rfl rfl (r_move (gq 0 rfl))) (oc (ob_v rfl rfl (r_convk .u8 (by kernel_rfl) (by kernel_rfl) (vq 1 rfl) (wu8 h2))) (oc (ob_v rfl rfl (r_index (by kernel_rfl) has_const (vq 2 rfl) (tab8_at h2))) (oc (ob_v rfl rfl (r_convk .i64 (by kernel_rfl) (by kernel_rfl) (vq 3 rfl) (wi64 (by omega) (by rw [tab8_n h2]; have := bl_max (k := 8) h2; omega)))) (oc (ob_v rfl rfl (r_add (vq 0 rfl) (vq 4 rfl) (wi64 (by rw [tab8_n h2]; omega) (by rw [tab8_n h2]; have := bl_max (k := 8) h2; omega)))) (oc (ob_v rfl rfl (r_assign (vq 5 rfl))) o0))))))) (fun a w hst => ?_)
      have hst : St B w0 19 [(2, _)] [] a w := hst
      refine thn_normal ?_
      refine wp_ret ?_
      refine ret_cast ?_ (ret_tmp rfl hst (List.mem_of_getElem? (i := 0) rfl))
      rw [e1, tab8_n h2]; congr 2; omega
  · have h1 : x < 65536 := by simp at hb0; omega
    refine wp_skip ?_
    refine thn_normal ?_
    refine wp_seq ?_
    refine wp_seq ?_
    refine gl (sts := []) (news := []) (sp := [.val 7 _, .val 8 _]) [.g 0, .g 1, .o 1] hst (oc (ob_v rfl rfl (r_move (gq 0 rfl))) (oc (ob_v rfl rfl (r_geq (vq 0 rfl) (has_nat 256 rfl))) o0)) (fun a w hst => ?_)
    have hst : St B w0 19 [(0, _), (2, _), (8, _)] [] a w := hst
    refine thn_normal ?_
    refine cond_of hst (List.mem_of_getElem? (i := 2) rfl) (fun hb2 => ?_) (fun hb2 => ?_)
    · have h2 : 256 ≤ x := by simp at hb2; omega
      have e2 := bl_div x 8 h2
      refine wp_seq ?_
      refine gl (sts := []) (news := []) (sp := [.val 9 _, .val 10 _, .val 0 _]) [.g 1, .o 2] hst (oc (ob_v rfl rfl (r_move (gq 0 rfl))) (oc (ob_v rfl rfl (r_shr (vq 0 rfl) (has_nat 8 rfl) (by decide) (nshr))) (oc (ob_v rfl rfl (r_assign (vq 1 rfl))) o0))) (fun a w hst => ?_)
      have hst : St B w0 19 [(2, _), (0, _)] [] a w := hst
      refine thn_normal ?_
      refine gl (sts := []) (news := []) (sp := [.val 11 _, .val 12 _, .val 2 _]) [.g 1, .o 2] hst (oc (ob_v rfl rfl (r_move (gq 0 rfl))) (oc (ob_v rfl rfl (r_add (vq 0 rfl) has_num (wi64 (by omega) (by omega)))) (oc (ob_v rfl rfl (r_assign (vq 1 rfl))) o0))) (fun a w hst => ?_)
      have hst : St B w0 19 [(0, _), (2, _)] [] a w := hst
      refine thn_normal ?_
      refine wp_seq ?_
      refine gl (sts := []) (news := []) (sp := [.val 13 _, .val 14 _, .val 15 _, .val 16 _, .val 17 _, .val 18 _, .val 2 _]) [.o 6] hst (oc (ob_v rfl rfl (r_move (gq 1 rfl))) (oc (ob_v rfl rfl (r_move (gq 0 rfl))) (oc (ob_v rfl rfl (r_convk .u8 (by kernel_rfl) (by kernel_rfl) (vq 1 rfl) (wu8 (by omega)))) (oc (ob_v rfl rfl (r_index (by kernel_rfl) has_const (vq 2 rfl) (tab8_at (by omega)))) (oc (ob_v rfl rfl (r_convk .i64 (by kernel_rfl) (by kernel_rfl) (vq 3 rfl) (wi64 (by omega) (by rw [tab8_n (by omega)]; have := bl_max (k := 8) (n := x / 2 ^ 8) (by omega); omega)))) (oc (ob_v rfl rfl (r_add (vq 0 rfl) (vq 4 rfl) (wi64 (by rw [tab8_n (by omega)]; omega) (by rw [tab8_n (by omega)]; have := bl_max (k := 8) (n := x / 2 ^ 8) (by omega); omega)))) (oc (ob_v rfl rfl (r_assign (vq 5 rfl))) o0))))))) (fun a w hst => ?_)
      have hst : St B w0 19 [(2, _)] [] a w := hst
      refine thn_normal ?_
      refine wp_ret ?_
      refine ret_cast ?_ (ret_tmp rfl hst (List.mem_of_getElem? (i := 0) rfl))
      rw [e2, tab8_n (by omega)]; congr 2; omega
    · have h2 : x < 256 := by simp at hb2; omega
      refine wp_skip ?_
      refine thn_normal ?_
      refine wp_seq ?_
      refine gl (sts := []) (news := []) (sp := [.val 13 _, .val 14 _, .val 15 _, .val 16 _, .val 17 _, .val 18 _, .val 2 _]) [.o 6] hst (oc (ob_v rfl rfl (r_move (gq 1 rfl))) (oc (ob_v rfl rfl (r_move (gq 0 rfl))) (oc (ob_v rfl rfl (r_convk .u8 (by kernel_rfl) (by kernel_rfl) (vq 1 rfl) (wu8 h2))) (oc (ob_v rfl rfl (r_index (by kernel_rfl) has_const (vq 2 rfl) (tab8_at h2))) (oc (ob_v rfl rfl (r_convk .i64 (by kernel_rfl) (by kernel_rfl) (vq 3 rfl) (wi64 (by omega) (by rw [tab8_n h2]; have := bl_max (k := 8) h2; omega)))) (oc (ob_v rfl rfl (r_add (vq 0 rfl) (vq 4 rfl) (wi64 (by rw [tab8_n h2]; omega) (by rw [tab8_n h2]; have := bl_max (k := 8) h2; omega)))) (oc (ob_v rfl rfl (r_assign (vq 5 rfl))) o0))))))) (fun a w hst => ?_)
      have hst : St B w0 19 [(2, _)] [] a w := hst
      refine thn_normal ?_
      refine wp_ret ?_
      refine ret_cast ?_ (ret_tmp rfl hst (List.mem_of_getElem? (i := 0) rfl))
      rw [tab8_n h2]; congr 2; omega

set_option maxRecDepth 100000 in
theorem lz32_c (x : Nat) (hx : x < 4294967296) : Cn Try.prog 96 [(NumA .u32 (x : Nat)).va] (In (32 - bl x : Nat)) := by
  refine Cn.intro Try.func96 rfl (by kernel_rfl) nq (fun B w0 a hst => ?_)
  have hst : St B w0 6 [(0, (NumA .u32 (x : Nat)).va)] [] a w0.w := hst
  have hb := bl_max (k := 32) hx
  refine wp_seq ?_
  refine gl (sts := []) (news := []) (sp := [.val 2 _]) [.g 0, .o 0] hst (oc (ob_v rfl rfl (r_assign has_num)) o0) (fun a w hst => ?_)
  have hst : St B w0 6 [(0, _), (2, _)] [] a w := hst
  refine thn_normal ?_
  refine wp_seq ?_
  refine gl (sts := []) (news := []) (sp := [.val 3 _, .val 4 _, .val 5 _, .val 2 _]) [.o 3] hst (oc (ob_v rfl rfl (r_move (gq 0 rfl))) (oc (ob_v rfl rfl (r_call (xs := [.tmp 3]) (len32_c x hx) (.cons (vq 0 rfl) .nil))) (oc (ob_v rfl rfl (r_sub has_num (vq 1 rfl) ((wi64 (by omega) (by omega)).trans (show (32 : Int) - (bl x : Nat) = ((32 - bl x : Nat) : Int) by omega)))) (oc (ob_v rfl rfl (r_assign (vq 2 rfl))) o0)))) (fun a w hst => ?_)
  have hst : St B w0 6 [(2, _)] [] a w := hst
  refine thn_normal ?_
  refine wp_ret ?_
  exact ret_tmp rfl hst (List.mem_of_getElem? (i := 0) rfl)

end Go.Proofs.Ytljkepdpoelpkaa
