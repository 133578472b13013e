import Derived.Test.YtmghfjcjcfaagaaGreatLeafP
namespace Go.Proofs.YtmghfjcjcfaagaaGreat
open Go Go.RowKit
namespace LeafQ
theorem sl_71 : Sl Tryz.prog 71 26 4 := ⟨by kernel_rfl, by kernel_rfl⟩
theorem ty_26 : Ty Tryz.prog 26 4 true := ⟨by kernel_rfl, by kernel_rfl⟩
end LeafQ
open LeafQ
def okLb (l : List Nat) : Bool := l.all fun x => decide (x < 4294967296)
theorem okLb_iff {l : List Nat} : okLb l = true ↔ okL l := by simp [okLb, okL]
/-- may a fraction be? -/
def okX (x : RF) : Bool := okLb x.num.mag && okLb x.den.mag && okF x
def zI (x : RI) : Int := if x.neg then -(val x.mag : Nat) else (val x.mag : Nat)
/-- its worth. -/
def toQ (x : RF) : Rat := Rat.divInt (zI x.num) (zI x.den)
theorem zI_ri (z : Int) : zI (riOf z) = z := by
  unfold zI
  rw [val_ri]
  by_cases h : z < 0 <;> simp [riOf, h] <;> omega
theorem toQ_of (r : Rat) : toQ (rfOf r) = r := by
  show Rat.divInt (zI (riOf r.num)) (zI (riOf (r.den : Int))) = r
  rw [zI_ri, zI_ri]
  exact Rat.num_divInt_den r
theorem okX_know {x : RF} (h : okL x.num.mag ∧ okL x.den.mag) : okX x = okF x := by rw [okX, okLb_iff.2 h.1, okLb_iff.2 h.2]; rfl
theorem okX_q {x : RF} (h : okX x = true) : x = rfOf (toQ x) ∧ lz (toQ x).num ≤ 2048 ∧ lz ((toQ x).den : Int) ≤ 2048 := by
  simp only [okX, Bool.and_eq_true] at h
  obtain ⟨r, rfl, h1⟩ := okF_q ⟨okLb_iff.1 h.1.1, okLb_iff.1 h.1.2⟩ h.2
  rw [toQ_of]
  exact ⟨rfl, h1⟩
/-- nothing, as a struct. -/
abbrev rf0 : RF := ⟨⟨false, []⟩, ⟨false, []⟩⟩
theorem ex_check : ∃ fn, Tryz.prog.funcs[44]? = some fn ∧ (fn.name == "runtime.NumGoroutine") = false ∧ fn.body.isNone = false := ⟨_, Tryz.func44, by kernel_rfl, by kernel_rfl⟩
theorem check_x (x : RF) : Cn Tryz.prog 44 [(RFA x).va] (In (if okX x then 0 else 1)) :=
  Cn.know (c := okL x.num.mag ∧ okL x.den.mag) ex_check (fun B w args ha => by cases ha with | cons h1 _ => exact rf_know h1) fun h => (checkF_c x.num x.den).post (by rw [okX_know h])
theorem ok_no {l : List RF} {j : Nat} (h : j < l.length) (h2 : ((if okX l[j] then (0 : Int) else 1) != 0) = true) : false = l.all okX := by
  have h3 : okX l[j] = false := by cases hh : okX l[j] <;> simp [hh] at h2 ⊢
  exact (List.all_eq_false.2 ⟨_, List.getElem_mem h, by simp [h3]⟩).symm
theorem ok_yes {l : List RF} {j : Nat} (h : j < l.length) (h1 : (l.take j).all okX = true) (h2 : ((if okX l[j] then (0 : Int) else 1) != 0) = false) : (l.take (j + 1)).all okX = true := by
  rw [List.take_succ_eq_append_getElem h, List.all_append, h1]
  simp [ok1 h2]

set_option maxRecDepth 100000 in
theorem checks_c (xs : List RF) (hl : xs.length ≤ 1099511627776) : Cn Tryz.prog 91 [(SlA 26 [U32] (xs.map RFA)).va] (Bo (xs.all okX)) := by
  refine Cn.introW Tryz.func91 rfl (by kernel_rfl) nq (.cons (up_sl (fun A hA => by obtain ⟨x, _, rfl⟩ := List.mem_map.1 hA; exact upA_rf x)).va .nil) (free_bo _).va (fun B w0 a hB0 hst => ?_)
  have hst : St B w0 15 [(0, (SlO 26 [U32] (xs.map RFA) True).va)] [] a w0.w := hst
  refine wp_seq ?_
  refine gl (sts := []) (news := []) (sp := [.val 2 _]) [.g 0, .o 0] hst (oc (ob_v rfl rfl (r_assign has_bo)) o0) (fun a w hst => ?_)
  have hst : St B w0 15 [(0, _), (2, _)] [] a w := hst
  refine thn_normal ?_
  refine wp_seq ?_
  refine wp_seq ?_
  refine gl (sts := []) (news := []) (sp := [.val 5 _, .val 6 _, .val 7 _]) [.g 1, .o 0, .o 1, .o 2] hst (oc (ob_v rfl rfl (r_move (gq 0 rfl))) (oc (ob_v rfl rfl (r_len Tryz.underlying71 (has_and (has_old (vq 0 rfl))))) (oc (ob_v rfl rfl (r_move has_num)) o0))) (fun a w hst => ?_)
  have hst : St B w0 15 [(2, _), (5, _), (6, _), (7, _)] [] a w := hst
  refine thn_normal ?_
  refine wp_block ?_
  have hst := St.sel hst [1, 2, 3]
  refine wp_loop_ghost (fun n a w => ∃ j : Nat, (n + j = xs.length ∧ (xs.take j).all okX = true) ∧ St B w0 15 [(5, (SlO 26 [U32] (xs.map RFA) True).va), (6, In (xs.length : Nat)), (7, In (j : Nat))] [] a w) (xs.length) ?_ ?_
  · exact ⟨0, ⟨by omega, rfl⟩, by rw [List.length_map] at hst; exact hst⟩
  intro n a w hI
  obtain ⟨j, ⟨hn, hno⟩, hst⟩ := hI
  refine wp_seq ?_
  refine gl (sts := []) (news := []) (sp := [.val 8 _]) [.g 0, .g 1, .g 2, .o 0] hst (oc (ob_v rfl rfl (r_lss (gq 2 rfl) (gq 1 rfl))) o0) (fun a w hst => ?_)
  have hst : St B w0 15 [(5, _), (6, _), (7, _), (8, _)] [] a w := hst
  refine thn_normal ?_
  refine wp_seq ?_
  refine cond_of hst (List.mem_of_getElem? (i := 3) rfl) (fun hb0 => ?_) (fun hb0 => ?_)
  · have hj : j < xs.length := by simp at hb0; omega
    refine wp_skip ?_
    refine thn_normal ?_
    refine wp_seq ?_
    refine wp_block ?_
    refine wp_seq ?_
    refine gl (sts := []) (news := [⟨4, 26, ptrH, some 2, _, some (3, _)⟩]) (sp := [.val 9 _, .val 10 _, .alc 0, .sto 0]) [.g 0, .g 1, .g 2] hst (oc (ob_v rfl rfl (r_idx sl_71 (map_n fun _ => rfl) (has_and (has_old (gq 0 rfl))) (gq 2 rfl) (map_at hj))) (oc (ob_v rfl rfl (r_loade (vq 0 rfl) ty_26)) (oc (ob_alc rfl rfl rfl (Str.zero str_frac)) (oc (ob_sto rfl rfl rfl (vq 1 rfl) ty_26 (Eq.trans (b := 4) rfl rfl)) o0)))) (fun a w hst => ?_)
    have hst : St B w0 15 [(5, _), (6, _), (7, _)] [⟨4, 26, ptrH, _⟩] a w := hst
    refine thn_normal ?_
    refine wp_seq ?_
    refine gl (sts := [none]) (news := []) (sp := [.val 11 _, .val 12 _, .val 13 _]) [.g 0, .g 1, .g 2, .o 2] hst (oc (ob_v rfl rfl (r_load (lz0 0 rfl) ty_26)) (oc (ob_v rfl rfl (r_call (xs := [.tmp 11]) (check_x _) (.cons (vq 0 rfl) .nil))) (oc (ob_v rfl rfl (r_neq (vq 1 rfl) has_num)) o0))) (fun a w hst => ?_)
    have hst : St B w0 15 [(5, _), (6, _), (7, _), (13, _)] [⟨4, 26, ptrH, _⟩] a w := hst
    refine thn_normal ?_
    refine cond_of hst (List.mem_of_getElem? (i := 3) rfl) (fun hb1 => ?_) (fun hb1 => ?_)
    · refine wp_seq ?_
      refine gl (sts := [none]) (news := []) (sp := [.val 2 _]) [.g 0, .g 1, .g 2, .o 0] hst (oc (ob_v rfl rfl (r_assign has_bo)) o0) (fun a w hst => ?_)
      have hst : St B w0 15 [(5, _), (6, _), (7, _), (2, _)] [⟨4, 26, ptrH, _⟩] a w := hst
      refine thn_normal ?_
      refine wp_ret ?_
      refine blk_ret ?_
      refine thn_ret ?_
      refine thn_ret ?_
      refine blk_ret ?_
      refine thn_ret ?_
      refine ret_cast ?_ (ret_tmp rfl hst (List.mem_of_getElem? (i := 3) rfl))
      rw [← ok_no hj hb1]
    · refine wp_skip ?_
      refine blk_normal ?_
      refine thn_normal ?_
      refine gl (sts := [none]) (news := []) (sp := [.val 14 _, .val 7 _]) [.g 0, .g 1, .o 1] hst (oc (ob_v rfl rfl (r_add (gq 2 rfl) has_num (wi_succ (by omega)))) (oc (ob_v rfl rfl (r_move (vq 0 rfl))) o0)) (fun a w hst => ?_)
      have hst : St B w0 15 [(5, _), (6, _), (7, _)] [⟨4, 26, ptrH, _⟩] a w := hst
      refine thn_normal ?_
      have hst := St.sel hst [0, 1, 2]
      have hst := St.selL hst []
      exact ⟨n - 1, by omega, j + 1, ⟨by omega, ok_yes hj hno hb1⟩, hst⟩
  · obtain rfl : j = xs.length := by simp at hb0; omega
    refine wp_exit ?_
    refine thn_exit ?_
    refine thn_exit ?_
    refine blk_exit ?_
    refine thn_normal ?_
    refine wp_seq ?_
    refine gl (sts := []) (news := []) (sp := [.val 2 _]) [.o 0] hst (oc (ob_v rfl rfl (r_assign has_bo)) o0) (fun a w hst => ?_)
    have hst : St B w0 15 [(2, _)] [] a w := hst
    refine thn_normal ?_
    refine wp_ret ?_
    refine ret_cast ?_ (ret_tmp rfl hst (List.mem_of_getElem? (i := 0) rfl))
    rw [List.take_length] at hno; rw [hno]

theorem tu2w {a b c d : VA} (h : Wk a c) (h' : Wk b d) : Wk (Tu [a, b]) (Tu [c, d]) := tu_wk (.cons h (.cons h' .nil))
theorem has_wk' {R : Rg} {B : Nat} {w0 : Bs} {i : Nat} {x : Operand} {A A' : VA} (h : Has R B w0 i x A) (hw : Wk A A') : Has R B w0 i x A' := fun a w av => hw _ _ _ (h a w av)

end Go.Proofs.YtmghfjcjcfaagaaGreat
