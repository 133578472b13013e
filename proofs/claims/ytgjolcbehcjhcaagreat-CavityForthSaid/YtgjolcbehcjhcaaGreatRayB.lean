/- Contracts of the keeper of package ray, and of Back, Mirror, Trace, Cross, Through, One. -/
import Derived.Test.YtgjolcbehcjhcaaGreatRayA
namespace Go.Proofs.YtgjolcbehcjhcaaGreat
open Go Go.RowKit
namespace RayB
theorem fld_106_0 : Fld Tryz.prog 106 0 0 1 := ⟨_, _, Tryz.underlying106, rfl, rfl, by kernel_rfl, by decide⟩
theorem fld_49_0 : Fld Tryz.prog 49 0 0 4 := ⟨_, _, Tryz.underlying49, rfl, rfl, by kernel_rfl, by decide⟩
theorem fld_49_1 : Fld Tryz.prog 49 1 4 4 := ⟨_, _, Tryz.underlying49, rfl, rfl, by kernel_rfl, by decide⟩
theorem fld_56_0 : Fld Tryz.prog 56 0 0 4 := ⟨_, _, Tryz.underlying56, rfl, rfl, by kernel_rfl, by decide⟩
theorem fld_56_1 : Fld Tryz.prog 56 1 4 4 := ⟨_, _, Tryz.underlying56, rfl, rfl, by kernel_rfl, by decide⟩
theorem fld_56_2 : Fld Tryz.prog 56 2 8 4 := ⟨_, _, Tryz.underlying56, rfl, rfl, by kernel_rfl, by decide⟩
theorem fld_56_3 : Fld Tryz.prog 56 3 12 4 := ⟨_, _, Tryz.underlying56, rfl, rfl, by kernel_rfl, by decide⟩
theorem sl_73 : Sl Tryz.prog 73 26 4 := ⟨by kernel_rfl, by kernel_rfl⟩
theorem ty_127 : Ty Tryz.prog 127 16 true := ⟨by kernel_rfl, by kernel_rfl⟩
theorem ty_26 : Ty Tryz.prog 26 4 true := ⟨by kernel_rfl, by kernel_rfl⟩
theorem ty_32 : Ty Tryz.prog 32 1 false := ⟨by kernel_rfl, by kernel_rfl⟩
theorem ty_49 : Ty Tryz.prog 49 8 true := ⟨by kernel_rfl, by kernel_rfl⟩
theorem ty_56 : Ty Tryz.prog 56 16 true := ⟨by kernel_rfl, by kernel_rfl⟩
end RayB
open RayB
theorem str_keeper : Str Tryz.prog 106 [NumA .i64 0] :=
  Str.of (z := .agg #[.int .i64 0]) (by kernel_rfl) Tryz.underlying106 (by kernel_rfl) fun _ _ => ⟨[[.int .i64 0]], rfl, .cons rfl .nil⟩
theorem info_frac : ∃ ie, Tryz.prog.info? 26 = some ie ∧ ie.size = 4 := by
  have h : (Tryz.prog.info? 26).map (·.size) = some 4 := by kernel_rfl
  cases hi : Tryz.prog.info? 26 with
  | none => rw [hi] at h; simp at h
  | some ie => rw [hi] at h; exact ⟨ie, rfl, by simpa using h⟩
theorem arr_four : Arr Tryz.prog 127 [RFA rf0, RFA rf0, RFA rf0, RFA rf0] := by
  have hz : ((Tryz.prog.info? 127).bind (·.zero)) = some (.agg #[.bool false, .slice none 0 0, .bool false, .slice none 0 0, .bool false, .slice none 0 0, .bool false, .slice none 0 0, .bool false, .slice none 0 0, .bool false, .slice none 0 0, .bool false, .slice none 0 0, .bool false, .slice none 0 0]) := by kernel_rfl
  obtain ⟨it, e1, e2⟩ := Option.bind_eq_some_iff.1 hz
  obtain ⟨ie, h1, h2⟩ := info_frac
  refine ⟨it, _, 4, 26, ie, e1, e2, Tryz.underlying127, h1, ?_, fun B w => ⟨[[.bool false, .slice none 0 0, .bool false, .slice none 0 0], [.bool false, .slice none 0 0, .bool false, .slice none 0 0], [.bool false, .slice none 0 0, .bool false, .slice none 0 0], [.bool false, .slice none 0 0, .bool false, .slice none 0 0]], rfl, (.cons (rf0_p B w) (.cons (rf0_p B w) (.cons (rf0_p B w) (.cons (rf0_p B w) .nil))))⟩⟩
  rw [h2]
  intro f hf
  match f, hf with
  | 0, _ => rfl
  | 1, _ => rfl
  | 2, _ => rfl
  | 3, _ => rfl
abbrev KA (e : Int) : As := cat [NumA .i64 e]
def kM (e : Int) (m : RM) : Int := if e = 0 then (if okM m then 0 else 1) else e
def kR (e : Int) (r : RR) : Int := if e = 0 then (if [r.y, r.u].all okX then 0 else 1) else e
def ansE (e : Int) (qs : List Rat) : Int := if e = 0 then (if qs.any longQ then 4 else 0) else e
theorem kM_y {e : Int} {m : RM} (h : (e == 0) = true) : (if okM m then (0 : Int) else 1) = kM e m := (if_pos (show e = 0 by simpa using h)).symm
theorem kM_n {e : Int} {m : RM} (h : (e == 0) = false) : e = kM e m := (if_neg (show ¬ e = 0 by simpa using h)).symm
theorem kR_y {e : Int} {r : RR} (h : ((e == 0) && (![r.y, r.u].all okX)) = true) : (1 : Int) = kR e r := by
  simp only [Bool.and_eq_true, beq_iff_eq, Bool.not_eq_true'] at h
  rw [kR, if_pos h.1, h.2]
  rfl
theorem kR_n {e : Int} {r : RR} (h : ((e == 0) && (![r.y, r.u].all okX)) = false) : e = kR e r := by
  unfold kR
  by_cases he : e = 0
  · rw [if_pos he]
    have h2 : ((e == 0)) = true := by simpa using he
    rw [h2, Bool.true_and, Bool.not_eq_false'] at h
    rw [h, he]
    rfl
  · rw [if_neg he]
theorem an_no {e : Int} {qs : List Rat} (h : (e != 0) = true) : e = ansE e qs ∧ ansE e qs ≠ 0 := by
  have h' : e ≠ 0 := by simpa using h
  rw [ansE, if_neg h']
  exact ⟨rfl, h'⟩
theorem an_lo {e : Int} {qs : List Rat} (h0 : (e != 0) = false) : (if qs.any longQ then (4 : Int) else 0) = ansE e qs := by
  have h' : e = 0 := by simpa using h0
  rw [ansE, if_pos h']
abbrev FnL (c : Prop) (L : List As) : VA := FnV Tryz.prog [56, 49, 145] (fun _ : PLift c => []) (fun _ => (SlA 26 [U32] L).va)

set_option maxRecDepth 100000 in
theorem kmatrix_c (e : Int) (m : RM) : Cm Tryz.prog 66 106 (KA e) (KA (kM e m)) [.w (ptrH), .v ((RMA m).va)] (Tu []) := by
  refine Cm.intro Tryz.func66 rfl (by kernel_rfl) nq (fun B g w0 a hst => ?_)
  have hst : St B w0 14 [(0, EqV ((ptrH).f g)), (1, (RMA m).va)] [⟨0, 106, ptrH, KA e⟩] a w0.w := hst
  refine wp_seq ?_
  refine gl (sts := [none]) (news := [⟨3, 56, ptrH, some 0, _, none⟩]) (sp := [.alc 1]) [.g 0] hst (oc (ob_box rfl rfl rfl (gq 1 rfl)) o0) (fun a w hst => ?_)
  have hst : St B w0 14 [(0, _)] [⟨0, 106, ptrH, _⟩, ⟨3, 56, ptrH, _⟩] a w := hst
  refine thn_normal ?_
  refine wp_seq ?_
  refine gl (sts := [none, none]) (news := []) (sp := [.adr 4 0 (.some 0) True, .adr 5 0 (.some 0) True, .adr 6 0 (.some (0 + 0)) True, .val 7 _, .val 8 _]) [.g 0, .o 4] hst (oc (ob_a rfl rfl (a_mov0 (lz0 0 rfl))) (oc (ob_a rfl rfl (a_nil0 0 rfl (by kernel_rfl) (lz0 0 rfl))) (oc (ob_a rfl rfl (a_fld2 1 rfl (by kernel_rfl) trivial (lz0 0 rfl) fld_106_0)) (oc (ob_v rfl rfl (r_loadf 2 rfl (by kernel_rfl) trivial (lz0 0 rfl) (Sub.part 0 rfl rfl) ty_32)) (oc (ob_v rfl rfl (r_eql (vq 3 rfl) has_num)) o0))))) (fun a w hst => ?_)
  have hst : St B w0 14 [(0, _), (8, _)] [⟨0, 106, ptrH, _⟩, ⟨3, 56, ptrH, _⟩] a w := hst
  refine thn_normal ?_
  refine cond_of hst (List.mem_of_getElem? (i := 1) rfl) (fun hb0 => ?_) (fun hb0 => ?_)
  · refine gl (sts := [some (5, _), none]) (news := []) (sp := [.adr 9 0 (.some 0) True, .val 10 _, .val 11 _, .adr 12 0 (.some 0) True, .adr 13 0 (.some (0 + 0)) True, .sto 0]) [.g 0] hst (oc (ob_a rfl rfl (a_mov0 (lz0 0 rfl))) (oc (ob_v rfl rfl (r_load (lz0 1 rfl) ty_56)) (oc (ob_v rfl rfl (r_call (xs := [.tmp 10]) (rayCheck_c _) (.cons (vq 1 rfl) .nil))) (oc (ob_a rfl rfl (a_nil0 0 rfl (by kernel_rfl) (lz0 0 rfl))) (oc (ob_a rfl rfl (a_fld2 3 rfl (by kernel_rfl) trivial (lz0 0 rfl) fld_106_0)) (oc (ob_stof 4 rfl rfl rfl rfl (by kernel_rfl) (vq 2 rfl) ty_32 (Put.part 0 rfl rfl rfl)) o0)))))) (fun a w hst => ?_)
    have hst : St B w0 14 [(0, _)] [⟨0, 106, ptrH, _⟩, ⟨3, 56, ptrH, _⟩] a w := hst
    refine nrm_ret ?_
    have hst := St.cvA (A' := KA (kM e m)) hst 0 rfl (congrArg KA (kM_y hb0))
    refine ret_m hst (List.mem_of_getElem? (i := 0) rfl) (List.mem_of_getElem? (i := 0) rfl) ?_
    refine ret_wk ?_ (ret_many (rs := []) rfl hst .nil (by decide))
    exact wk_id
  · refine wp_skip ?_
    refine nrm_ret ?_
    have hst := St.cvA (A' := KA (kM e m)) hst 0 rfl (congrArg KA (kM_n hb0))
    refine ret_m hst (List.mem_of_getElem? (i := 0) rfl) (List.mem_of_getElem? (i := 0) rfl) ?_
    refine ret_wk ?_ (ret_many (rs := []) rfl hst .nil (by decide))
    exact wk_id

set_option maxRecDepth 100000 in
theorem kray_c (e : Int) (r : RR) : Cm Tryz.prog 70 106 (KA e) (KA (kR e r)) [.w (ptrH), .v ((RRA r).va)] (Tu []) := by
  refine Cm.intro Tryz.func70 rfl (by kernel_rfl) nq (fun B g w0 a hst => ?_)
  have hst : St B w0 21 [(0, EqV ((ptrH).f g)), (1, (RRA r).va)] [⟨0, 106, ptrH, KA e⟩] a w0.w := hst
  refine wp_seq ?_
  refine gl (sts := [none]) (news := [⟨3, 49, ptrH, some 0, _, none⟩]) (sp := [.alc 1]) [.g 0] hst (oc (ob_box rfl rfl rfl (gq 1 rfl)) o0) (fun a w hst => ?_)
  have hst : St B w0 21 [(0, _)] [⟨0, 106, ptrH, _⟩, ⟨3, 49, ptrH, _⟩] a w := hst
  refine thn_normal ?_
  refine wp_seq ?_
  refine gl (sts := [none, none]) (news := []) (sp := [.adr 4 0 (.some 0) True, .adr 5 0 (.some 0) True, .adr 6 0 (.some (0 + 0)) True, .val 7 _, .val 8 _, .val 9 _, .adr 10 3 (.some 0) (_ = true), .val 11 (Wh (_ = true) _), .adr 12 3 (.some 4) (_ = true), .val 13 (Wh (_ = true) _), .val 14 (Wh (_ = true) _), .val 15 (Wh (_ = true) _), .val 16 (Wh (_ = true) _), .val 17 _]) [.g 0, .o 13] hst (oc (ob_a rfl rfl (a_mov0 (lz0 0 rfl))) (oc (ob_a rfl rfl (a_nil0 0 rfl (by kernel_rfl) (lz0 0 rfl))) (oc (ob_a rfl rfl (a_fld2 1 rfl (by kernel_rfl) trivial (lz0 0 rfl) fld_106_0)) (oc (ob_v rfl rfl (r_loadf 2 rfl (by kernel_rfl) trivial (lz0 0 rfl) (Sub.part 0 rfl rfl) ty_32)) (oc (ob_v rfl rfl (r_eql (vq 3 rfl) has_num)) (oc (ob_v rfl rfl (r_move (vq 4 rfl))) (oc (ob_ag rfl rfl rfl (vq 5 rfl) nq (fun hg => a_fld (lz0 1 rfl) fld_49_0)) (oc (ob_gd rfl rfl rfl (vq 5 rfl) nq (fun hg => r_loadf 6 rfl (by kernel_rfl) hg (lz0 1 rfl) (Sub.part 0 rfl rfl) ty_26)) (oc (ob_ag rfl rfl rfl (vq 5 rfl) nq (fun hg => a_fld (lz0 1 rfl) fld_49_1)) (oc (ob_gd rfl rfl rfl (vq 5 rfl) nq (fun hg => r_loadf 8 rfl (by kernel_rfl) hg (lz0 1 rfl) (Sub.part 1 rfl rfl) ty_26)) (oc (ob_gd rfl rfl rfl (vq 5 rfl) nq (fun hg => r_slice (D := [U32]) (l := [_, _]) (xs := [.tmp 11, .tmp 13]) (nd_ok (by kernel_rfl)) sl_73 (by kernel_rfl) (n_ok (by kernel_rfl)) nq nq nq (.cons (has_wh (vq 7 rfl) hg) (.cons (has_wh (vq 9 rfl) hg) .nil)) rfl rfl)) (oc (ob_gd rfl rfl rfl (vq 5 rfl) nq (fun hg => r_call (xs := [.tmp 14]) (checks_c [r.y, r.u] nq) (.cons (has_wh (vq 10 rfl) hg) .nil))) (oc (ob_gd rfl rfl rfl (vq 5 rfl) nq (fun hg => r_not (has_wh (vq 11 rfl) hg))) (oc (ob_v rfl rfl (r_and (vq 5 rfl) (vq 12 rfl))) o0)))))))))))))) (fun a w hst => ?_)
  have hst : St B w0 21 [(0, _), (17, _)] [⟨0, 106, ptrH, _⟩, ⟨3, 49, ptrH, _⟩] a w := hst
  refine thn_normal ?_
  refine cond_of hst (List.mem_of_getElem? (i := 1) rfl) (fun hb0 => ?_) (fun hb0 => ?_)
  · refine gl (sts := [some (3, _), none]) (news := []) (sp := [.adr 18 0 (.some 0) True, .adr 19 0 (.some 0) True, .adr 20 0 (.some (0 + 0)) True, .sto 0]) [.g 0] hst (oc (ob_a rfl rfl (a_mov0 (lz0 0 rfl))) (oc (ob_a rfl rfl (a_nil0 0 rfl (by kernel_rfl) (lz0 0 rfl))) (oc (ob_a rfl rfl (a_fld2 1 rfl (by kernel_rfl) trivial (lz0 0 rfl) fld_106_0)) (oc (ob_stof 2 rfl rfl rfl rfl (by kernel_rfl) has_num ty_32 (Put.part 0 rfl rfl rfl)) o0)))) (fun a w hst => ?_)
    have hst : St B w0 21 [(0, _)] [⟨0, 106, ptrH, _⟩, ⟨3, 49, ptrH, _⟩] a w := hst
    refine nrm_ret ?_
    have hst := St.cvA (A' := KA (kR e r)) hst 0 rfl (congrArg KA (kR_y hb0))
    refine ret_m hst (List.mem_of_getElem? (i := 0) rfl) (List.mem_of_getElem? (i := 0) rfl) ?_
    refine ret_wk ?_ (ret_many (rs := []) rfl hst .nil (by decide))
    exact wk_id
  · refine wp_skip ?_
    refine nrm_ret ?_
    have hst := St.cvA (A' := KA (kR e r)) hst 0 rfl (congrArg KA (kR_n hb0))
    refine ret_m hst (List.mem_of_getElem? (i := 0) rfl) (List.mem_of_getElem? (i := 0) rfl) ?_
    refine ret_wk ?_ (ret_many (rs := []) rfl hst .nil (by decide))
    exact wk_id

set_option maxRecDepth 100000 in
theorem kanswer_c (e : Int) (L : List As) (qs : List Rat) (hL : All2 IsQ L qs) (hl : qs.length ≤ 1099511627776) : Cm Tryz.prog 71 106 (KA e) (KA (ansE e qs)) [.w (ptrH), .v (FnL (e = 0) L)] ((SlA 26 [U32] (if ansE e qs = 0 then L else [])).va) := by
  refine Cm.intro Tryz.func71 rfl (by kernel_rfl) nq (fun B g w0 a hst => ?_)
  have hst : St B w0 24 [(0, EqV ((ptrH).f g)), (1, FnL (e = 0) L)] [⟨0, 106, ptrH, KA e⟩] a w0.w := hst
  refine wp_seq ?_
  refine gl (sts := [none]) (news := []) (sp := [.val 4 _]) [.g 0, .g 1, .o 0] hst (oc (ob_v rfl rfl (r_assign has_const)) o0) (fun a w hst => ?_)
  have hst : St B w0 24 [(0, _), (1, _), (4, _)] [⟨0, 106, ptrH, _⟩] a w := hst
  refine thn_normal ?_
  refine wp_seq ?_
  refine wp_seq ?_
  refine gl (sts := [none]) (news := []) (sp := [.adr 6 0 (.some 0) True, .adr 7 0 (.some 0) True, .adr 8 0 (.some (0 + 0)) True, .val 9 _, .val 10 _]) [.g 0, .g 1, .g 2, .o 4] hst (oc (ob_a rfl rfl (a_mov0 (lz0 0 rfl))) (oc (ob_a rfl rfl (a_nil0 0 rfl (by kernel_rfl) (lz0 0 rfl))) (oc (ob_a rfl rfl (a_fld2 1 rfl (by kernel_rfl) trivial (lz0 0 rfl) fld_106_0)) (oc (ob_v rfl rfl (r_loadf 2 rfl (by kernel_rfl) trivial (lz0 0 rfl) (Sub.part 0 rfl rfl) ty_32)) (oc (ob_v rfl rfl (r_neq (vq 3 rfl) has_num)) o0))))) (fun a w hst => ?_)
  have hst : St B w0 24 [(0, _), (1, _), (4, _), (10, _)] [⟨0, 106, ptrH, _⟩] a w := hst
  refine thn_normal ?_
  refine cond_of hst (List.mem_of_getElem? (i := 3) rfl) (fun hb0 => ?_) (fun hb0 => ?_)
  · refine wp_seq ?_
    refine gl (sts := [none]) (news := []) (sp := [.val 4 _]) [.g 0, .g 1, .o 0] hst (oc (ob_v rfl rfl (r_assign has_const)) o0) (fun a w hst => ?_)
    have hst : St B w0 24 [(0, _), (1, _), (4, _)] [⟨0, 106, ptrH, _⟩] a w := hst
    refine thn_normal ?_
    refine wp_ret ?_
    refine thn_ret ?_
    have hst := St.cvA (A' := KA (ansE e qs)) hst 0 rfl (congrArg KA (an_no hb0).1)
    refine ret_m hst (List.mem_of_getElem? (i := 0) rfl) (List.mem_of_getElem? (i := 0) rfl) ?_
    refine ret_wk ?_ (ret_tmp rfl hst (List.mem_of_getElem? (i := 2) rfl))
    rw [if_neg (an_no hb0).2]; exact nil_sl
  · have h0 : e = 0 := by simpa using hb0
    refine wp_skip ?_
    refine thn_normal ?_
    refine wp_seq ?_
    refine gl (sts := [none]) (news := []) (sp := [.val 11 _, .val 12 _, .val 5 _]) [.g 0, .g 2, .o 2] hst (oc (ob_v rfl rfl (r_move (gq 1 rfl))) (oc (ob_v rfl rfl (r_callv (xs := []) ⟨h0⟩ (vq 0 rfl) .nil)) (oc (ob_v rfl rfl (r_assign (vq 1 rfl))) o0))) (fun a w hst => ?_)
    have hst : St B w0 24 [(0, _), (4, _), (5, _)] [⟨0, 106, ptrH, _⟩] a w := hst
    refine thn_normal ?_
    refine wp_seq ?_
    refine wp_seq ?_
    refine gl (sts := [some (5, _)]) (news := []) (sp := [.adr 13 0 (.some 0) True, .val 14 _, .val 15 _, .adr 16 0 (.some 0) True, .adr 17 0 (.some (0 + 0)) True, .sto 0]) [.g 0, .g 1, .g 2] hst (oc (ob_a rfl rfl (a_mov0 (lz0 0 rfl))) (oc (ob_v rfl rfl (r_move (gq 2 rfl))) (oc (ob_v rfl rfl (r_call (xs := [.tmp 14]) (answer_q qs hL hl) (.cons (vq 1 rfl) .nil))) (oc (ob_a rfl rfl (a_nil0 0 rfl (by kernel_rfl) (lz0 0 rfl))) (oc (ob_a rfl rfl (a_fld2 3 rfl (by kernel_rfl) trivial (lz0 0 rfl) fld_106_0)) (oc (ob_stof 4 rfl rfl rfl rfl (by kernel_rfl) (vq 2 rfl) ty_32 (Put.part 0 rfl rfl rfl)) o0)))))) (fun a w hst => ?_)
    have hst : St B w0 24 [(0, _), (4, _), (5, _)] [⟨0, 106, ptrH, _⟩] a w := hst
    refine thn_normal ?_
    refine wp_seq ?_
    refine gl (sts := [none]) (news := []) (sp := [.adr 18 0 (.some 0) True, .adr 19 0 (.some 0) True, .adr 20 0 (.some (0 + 0)) True, .val 21 _, .val 22 _]) [.g 0, .g 1, .g 2, .o 4] hst (oc (ob_a rfl rfl (a_mov0 (lz0 0 rfl))) (oc (ob_a rfl rfl (a_nil0 0 rfl (by kernel_rfl) (lz0 0 rfl))) (oc (ob_a rfl rfl (a_fld2 1 rfl (by kernel_rfl) trivial (lz0 0 rfl) fld_106_0)) (oc (ob_v rfl rfl (r_loadf 2 rfl (by kernel_rfl) trivial (lz0 0 rfl) (Sub.part 0 rfl rfl) ty_32)) (oc (ob_v rfl rfl (r_neq (vq 3 rfl) has_num)) o0))))) (fun a w hst => ?_)
    have hst : St B w0 24 [(0, _), (4, _), (5, _), (22, _)] [⟨0, 106, ptrH, _⟩] a w := hst
    refine thn_normal ?_
    refine cond_of hst (List.mem_of_getElem? (i := 3) rfl) (fun hb1 => ?_) (fun hb1 => ?_)
    · refine wp_seq ?_
      refine gl (sts := [none]) (news := []) (sp := [.val 4 _]) [.g 0, .g 2, .o 0] hst (oc (ob_v rfl rfl (r_assign has_const)) o0) (fun a w hst => ?_)
      have hst : St B w0 24 [(0, _), (5, _), (4, _)] [⟨0, 106, ptrH, _⟩] a w := hst
      refine thn_normal ?_
      refine wp_ret ?_
      refine thn_ret ?_
      have hst := St.cvA (A' := KA (ansE e qs)) hst 0 rfl (congrArg KA (an_lo hb0))
      refine ret_m hst (List.mem_of_getElem? (i := 0) rfl) (List.mem_of_getElem? (i := 0) rfl) ?_
      refine ret_wk ?_ (ret_tmp rfl hst (List.mem_of_getElem? (i := 2) rfl))
      rw [if_neg (by rw [← an_lo hb0]; simpa using hb1)]; exact nil_sl
    · refine wp_skip ?_
      refine thn_normal ?_
      refine wp_seq ?_
      refine gl (sts := [none]) (news := []) (sp := [.val 23 _, .val 4 _]) [.g 0, .o 1] hst (oc (ob_v rfl rfl (r_move (gq 2 rfl))) (oc (ob_v rfl rfl (r_assign (vq 0 rfl))) o0)) (fun a w hst => ?_)
      have hst : St B w0 24 [(0, _), (4, _)] [⟨0, 106, ptrH, _⟩] a w := hst
      refine thn_normal ?_
      refine wp_ret ?_
      have hst := St.cvA (A' := KA (ansE e qs)) hst 0 rfl (congrArg KA (an_lo hb0))
      refine ret_m hst (List.mem_of_getElem? (i := 0) rfl) (List.mem_of_getElem? (i := 0) rfl) ?_
      refine ret_wk ?_ (ret_tmp rfl hst (List.mem_of_getElem? (i := 1) rfl))
      rw [if_pos (by rw [← an_lo hb0]; simpa using hb1)]; exact wk_id

def asM (e : Int) (m : MQ) : RM × Int := if e = 0 then (if [m.a, m.b, m.c, m.d].any longQ then (rm0, 4) else (rmOf m, 0)) else (rm0, e)
def asF (e : Int) (q : Rat) : RF × Int := if e = 0 then ansF q else (rf0, e)
abbrev MR (r : RM × Int) : VA := Tu [(RMA r.1).va, In r.2]
theorem asM_no {e : Int} {m : MQ} (h : ansE e [m.a, m.b, m.c, m.d] ≠ 0) : asM e m = (rm0, ansE e [m.a, m.b, m.c, m.d]) := by
  unfold ansE at *
  unfold asM
  by_cases he : e = 0
  · rw [if_pos he] at h ⊢
    rw [if_pos he]
    cases hl : [m.a, m.b, m.c, m.d].any longQ with
    | true => rfl
    | false => rw [hl] at h; exact absurd rfl h
  · rw [if_neg he, if_neg he]
theorem asM_yes {e : Int} {m : MQ} (h : ansE e [m.a, m.b, m.c, m.d] = 0) : asM e m = (rmOf m, 0) := by
  unfold ansE at *
  unfold asM
  by_cases he : e = 0
  · rw [if_pos he] at h ⊢
    cases hl : [m.a, m.b, m.c, m.d].any longQ with
    | true => rw [hl] at h; exact absurd h (by decide)
    | false => rfl
  · rw [if_neg he] at h; exact absurd h he
theorem asF_no {e : Int} {q : Rat} (h : ansE e [q] ≠ 0) : asF e q = (rf0, ansE e [q]) := by
  unfold ansE at *
  unfold asF ansF
  rw [one_long] at *
  by_cases he : e = 0
  · rw [if_pos he] at h ⊢
    rw [if_pos he]
    cases hl : longQ q with
    | true => rfl
    | false => rw [hl] at h; exact absurd rfl h
  · rw [if_neg he, if_neg he]
theorem asF_yes {e : Int} {q : Rat} (h : ansE e [q] = 0) : asF e q = (rfOf q, 0) := by
  unfold ansE at *
  unfold asF ansF
  rw [one_long] at *
  by_cases he : e = 0
  · rw [if_pos he] at h ⊢
    cases hl : longQ q with
    | true => rw [hl] at h; exact absurd h (by decide)
    | false => rfl
  · rw [if_neg he] at h; exact absurd h he
theorem short_no {c : Prop} [Decidable c] {L : List As} {n : Int} (h : decide ((((if c then L else []).length : Nat) : Int) < n) = true) (hn : n ≤ L.length) : ¬ c := fun hc => by
  rw [if_pos hc] at h
  have := of_decide_eq_true h
  omega
theorem short_yes {c : Prop} [Decidable c] {L : List As} {n : Int} (h : decide ((((if c then L else []).length : Nat) : Int) < n) = false) (hn : 0 < n) : c := Decidable.byContradiction fun hc => by
  rw [if_neg hc] at h
  have := of_decide_eq_false h
  simp at this
  omega

set_option maxRecDepth 100000 in
theorem fourMat_c {k : Nat} (m : MQ) : Cn Tryz.prog 107 [(QMA k m).va] ((QMA k m).va) := by
  refine Cn.intro Tryz.func107 rfl (by kernel_rfl) nq (fun B w0 a hst => ?_)
  have hst : St B w0 12 [(0, (QMA k m).va)] [] a w0.w := hst
  refine wp_seq ?_
  refine gl (sts := []) (news := [⟨1, 127, ptrH, some 0, _, none⟩, ⟨2, 56, ptrH, some 1, _, none⟩]) (sp := [.alc 0, .alc 1]) [] hst (oc (ob_box rfl rfl rfl (gq 0 rfl)) (oc (ob_alc rfl rfl rfl (Str.zero str_matrix)) o0)) (fun a w hst => ?_)
  have hst : St B w0 12 [] [⟨1, 127, ptrH, _⟩, ⟨2, 56, ptrH, _⟩] a w := hst
  refine thn_normal ?_
  refine wp_seq ?_
  refine gl (sts := [none, some (9, _)]) (news := []) (sp := [.val 3 _, .val 4 _, .val 5 _, .val 6 _, .val 7 _, .val 8 _, .val 9 _, .val 10 _, .val 11 _, .sto 1]) [] hst (oc (ob_v rfl rfl (r_arrv (m := 4) (lz0 0 rfl) Tryz.underlying127 (by kernel_rfl) (n_ok (by kernel_rfl)) (has_nat 0 rfl) rfl)) (oc (ob_v rfl rfl (r_loade (vq 0 rfl) ty_26)) (oc (ob_v rfl rfl (r_arrv (m := 4) (lz0 0 rfl) Tryz.underlying127 (by kernel_rfl) (n_ok (by kernel_rfl)) (has_nat 1 rfl) rfl)) (oc (ob_v rfl rfl (r_loade (vq 2 rfl) ty_26)) (oc (ob_v rfl rfl (r_arrv (m := 4) (lz0 0 rfl) Tryz.underlying127 (by kernel_rfl) (n_ok (by kernel_rfl)) (has_nat 2 rfl) rfl)) (oc (ob_v rfl rfl (r_loade (vq 4 rfl) ty_26)) (oc (ob_v rfl rfl (r_arrv (m := 4) (lz0 0 rfl) Tryz.underlying127 (by kernel_rfl) (n_ok (by kernel_rfl)) (has_nat 3 rfl) rfl)) (oc (ob_v rfl rfl (r_loade (vq 6 rfl) ty_26)) (oc (ob_v rfl rfl (r_build (xs := [(0, .tmp 4), (1, .tmp 6), (2, .tmp 8), (3, .tmp 10)]) (qs := [(0, _), (1, _), (2, _), (3, _)]) str_matrix (.cons ⟨rfl, (vq 1 rfl), rfl⟩ (.cons ⟨rfl, (vq 3 rfl), rfl⟩ (.cons ⟨rfl, (vq 5 rfl), rfl⟩ (.cons ⟨rfl, (vq 7 rfl), rfl⟩ .nil)))))) (oc (ob_sto rfl rfl rfl (vq 8 rfl) ty_56 (Eq.trans (b := 16) rfl rfl)) o0)))))))))) (fun a w hst => ?_)
  have hst : St B w0 12 [] [⟨1, 127, ptrH, _⟩, ⟨2, 56, ptrH, _⟩] a w := hst
  refine thn_normal ?_
  refine wp_ret ?_
  refine ret_wk ?_ (ret_cell rfl hst (List.mem_of_getElem? (i := 1) rfl) ty_56)
  exact wk_id

set_option maxRecDepth 100000 in
theorem kasMatrix_c (e : Int) (k : Nat) (m : MQ) : Cm Tryz.prog 67 106 (KA e) (KA (ansE e [m.a, m.b, m.c, m.d])) [.w (ptrH), .v (FnL (e = 0) [QA k m.a, QA k m.b, QA k m.c, QA k m.d])] (MR (asM e m)) := by
  refine Cm.intro Tryz.func67 rfl (by kernel_rfl) nq (fun B g w0 a hst => ?_)
  have hst : St B w0 22 [(0, EqV ((ptrH).f g)), (1, FnL (e = 0) [QA k m.a, QA k m.b, QA k m.c, QA k m.d])] [⟨0, 106, ptrH, KA e⟩] a w0.w := hst
  refine wp_seq ?_
  refine gl (sts := [none]) (news := [⟨4, 56, ptrH, some 0, _, none⟩]) (sp := [.alc 1, .val 5 _]) [.g 0, .g 1, .o 1] hst (oc (ob_alc rfl rfl rfl (Str.zero str_matrix)) (oc (ob_v rfl rfl (r_assign has_num)) o0)) (fun a w hst => ?_)
  have hst : St B w0 22 [(0, _), (1, _), (5, _)] [⟨0, 106, ptrH, _⟩, ⟨4, 56, ptrH, _⟩] a w := hst
  refine thn_normal ?_
  refine wp_seq ?_
  refine gl (sts := [some (2, _), none]) (news := []) (sp := [.adr 7 0 (.some 0) True, .val 8 _, .cal 9 _ 0, .val 6 _]) [.g 0, .g 2, .o 3] hst (oc (ob_a rfl rfl (a_mov0 (lz0 0 rfl))) (oc (ob_v rfl rfl (r_move (gq 1 rfl))) (oc (ob_cal (xs := [.tmp 7, .tmp 8]) rfl rfl rfl (kanswer_c e [QA k m.a, QA k m.b, QA k m.c, QA k m.d] [m.a, m.b, m.c, m.d] (.cons ⟨_, rfl⟩ (.cons ⟨_, rfl⟩ (.cons ⟨_, rfl⟩ (.cons ⟨_, rfl⟩ .nil)))) nq) (.cons (arw0 0 rfl (by kernel_rfl) (lz0 0 rfl)) (.cons (vq 1 rfl) .nil))) (oc (ob_v rfl rfl (r_assign (has_c 2 rfl (by kernel_rfl) (by kernel_rfl)))) o0)))) (fun a w hst => ?_)
  have hst : St B w0 22 [(0, _), (5, _), (6, _)] [⟨0, 106, ptrH, _⟩, ⟨4, 56, ptrH, _⟩] a w := hst
  refine thn_normal ?_
  refine wp_seq ?_
  refine wp_seq ?_
  refine gl (sts := [none, none]) (news := []) (sp := [.val 10 _, .val 11 _, .val 12 _]) [.g 0, .g 1, .g 2, .o 2] hst (oc (ob_v rfl rfl (r_move (gq 2 rfl))) (oc (ob_v rfl rfl (r_len Tryz.underlying73 (vq 0 rfl))) (oc (ob_v rfl rfl (r_lss (vq 1 rfl) has_num)) o0))) (fun a w hst => ?_)
  have hst : St B w0 22 [(0, _), (5, _), (6, _), (12, _)] [⟨0, 106, ptrH, _⟩, ⟨4, 56, ptrH, _⟩] a w := hst
  refine thn_normal ?_
  refine cond_of hst (List.mem_of_getElem? (i := 3) rfl) (fun hb0 => ?_) (fun hb0 => ?_)
  · have hE := short_no hb0 (by simp)
    refine wp_seq ?_
    refine go_draw (anc := [[], [], [1], [1, 2], [1, 2, 3], [0], [0, 1, 2, 3, 4, 5]]) (sts := [none, some (5, _)]) (news := []) (sp := [.val 13 _, .adr 14 0 (.some 0) True, .adr 15 0 (.some 0) True, .adr 16 0 (.some (0 + 0)) True, .val 17 _, .sto 1, .val 5 _]) [.g 0, .g 2, .o 6] follows_mixed hst (oc (ob_v rfl rfl (r_build (xs := []) (qs := []) str_matrix .nil)) (oc (ob_a rfl rfl (a_mov0 (lz0 0 rfl))) (oc (ob_a rfl rfl (a_nil0 1 rfl (by kernel_rfl) (lz0 0 rfl))) (oc (ob_a rfl rfl (a_fld2 2 rfl (by kernel_rfl) trivial (lz0 0 rfl) fld_106_0)) (oc (ob_v rfl rfl (r_loadf 3 rfl (by kernel_rfl) trivial (lz0 0 rfl) (Sub.part 0 rfl rfl) ty_32)) (oc (ob_sto rfl rfl rfl (vq 0 rfl) ty_56 (Eq.trans (b := 16) rfl rfl)) (oc (ob_v rfl rfl (r_assign (vq 4 rfl))) o0))))))) (by kernel_rfl) (by kernel_rfl) (by kernel_rfl) (by kernel_rfl) (fun a w hst => ?_)
    have hst : St B w0 22 [(0, _), (6, _), (5, _)] [⟨0, 106, ptrH, _⟩, ⟨4, 56, ptrH, _⟩] a w := hst
    refine thn_normal ?_
    refine wp_ret ?_
    refine thn_ret ?_
    refine ret_m hst (List.mem_of_getElem? (i := 0) rfl) (List.mem_of_getElem? (i := 0) rfl) ?_
    refine ret_wk ?_ (ret_many (rs := [.cell 4 56, .tmp 5]) rfl hst (.cell (List.mem_of_getElem? (i := 1) rfl) ty_56 (.tmp (List.mem_of_getElem? (i := 2) rfl) .nil)) (by decide))
    rw [asM_no hE]; exact wk_id
  · have hE := short_yes hb0 (by decide)
    have hst := St.cvG (A' := (SlA 26 [U32] [QA k m.a, QA k m.b, QA k m.c, QA k m.d]).va) hst 2 rfl (by rw [if_pos hE])
    refine wp_skip ?_
    refine thn_normal ?_
    refine wp_seq ?_
    refine gl (sts := [none, some (4, _)]) (news := []) (sp := [.val 18 _, .val 19 _, .val 20 _, .val 21 _, .sto 1, .val 5 _]) [.g 0, .o 5] hst (oc (ob_v rfl rfl (r_move (gq 2 rfl))) (oc (ob_v rfl rfl (r_arrp Tryz.underlying127 (vq 0 rfl) rfl nq)) (oc (ob_v rfl rfl (r_loade (vq 1 rfl) ty_127)) (oc (ob_v rfl rfl (r_call (xs := [.tmp 20]) (fourMat_c ⟨_, _, _, _⟩) (.cons (vq 2 rfl) .nil))) (oc (ob_sto rfl rfl rfl (vq 3 rfl) ty_56 (Eq.trans (b := 16) rfl rfl)) (oc (ob_v rfl rfl (r_assign has_num)) o0)))))) (fun a w hst => ?_)
    have hst : St B w0 22 [(0, _), (5, _)] [⟨0, 106, ptrH, _⟩, ⟨4, 56, ptrH, _⟩] a w := hst
    refine thn_normal ?_
    refine wp_ret ?_
    refine ret_m hst (List.mem_of_getElem? (i := 0) rfl) (List.mem_of_getElem? (i := 0) rfl) ?_
    refine ret_wk ?_ (ret_many (rs := [.cell 4 56, .tmp 5]) rfl hst (.cell (List.mem_of_getElem? (i := 1) rfl) ty_56 (.tmp (List.mem_of_getElem? (i := 1) rfl) .nil)) (by decide))
    rw [asM_yes hE]; exact tu2w qmA.va wk_id

set_option maxRecDepth 100000 in
theorem kasFrac_c (e : Int) (k : Nat) (q : Rat) : Cm Tryz.prog 83 106 (KA e) (KA (ansE e [q])) [.w (ptrH), .v (FnL (e = 0) [QA k q])] (FrR (asF e q)) := by
  refine Cm.intro Tryz.func83 rfl (by kernel_rfl) nq (fun B g w0 a hst => ?_)
  have hst : St B w0 21 [(0, EqV ((ptrH).f g)), (1, FnL (e = 0) [QA k q])] [⟨0, 106, ptrH, KA e⟩] a w0.w := hst
  refine wp_seq ?_
  refine gl (sts := [none]) (news := [⟨4, 26, ptrH, some 0, _, none⟩]) (sp := [.alc 1, .val 5 _]) [.g 0, .g 1, .o 1] hst (oc (ob_alc rfl rfl rfl (Str.zero str_frac)) (oc (ob_v rfl rfl (r_assign has_num)) o0)) (fun a w hst => ?_)
  have hst : St B w0 21 [(0, _), (1, _), (5, _)] [⟨0, 106, ptrH, _⟩, ⟨4, 26, ptrH, _⟩] a w := hst
  refine thn_normal ?_
  refine wp_seq ?_
  refine gl (sts := [some (2, _), none]) (news := []) (sp := [.adr 7 0 (.some 0) True, .val 8 _, .cal 9 _ 0, .val 6 _]) [.g 0, .g 2, .o 3] hst (oc (ob_a rfl rfl (a_mov0 (lz0 0 rfl))) (oc (ob_v rfl rfl (r_move (gq 1 rfl))) (oc (ob_cal (xs := [.tmp 7, .tmp 8]) rfl rfl rfl (kanswer_c e [QA k q] [q] (.cons ⟨_, rfl⟩ .nil) nq) (.cons (arw0 0 rfl (by kernel_rfl) (lz0 0 rfl)) (.cons (vq 1 rfl) .nil))) (oc (ob_v rfl rfl (r_assign (has_c 2 rfl (by kernel_rfl) (by kernel_rfl)))) o0)))) (fun a w hst => ?_)
  have hst : St B w0 21 [(0, _), (5, _), (6, _)] [⟨0, 106, ptrH, _⟩, ⟨4, 26, ptrH, _⟩] a w := hst
  refine thn_normal ?_
  refine wp_seq ?_
  refine wp_seq ?_
  refine gl (sts := [none, none]) (news := []) (sp := [.val 10 _, .val 11 _, .val 12 _]) [.g 0, .g 1, .g 2, .o 2] hst (oc (ob_v rfl rfl (r_move (gq 2 rfl))) (oc (ob_v rfl rfl (r_len Tryz.underlying73 (vq 0 rfl))) (oc (ob_v rfl rfl (r_lss (vq 1 rfl) has_num)) o0))) (fun a w hst => ?_)
  have hst : St B w0 21 [(0, _), (5, _), (6, _), (12, _)] [⟨0, 106, ptrH, _⟩, ⟨4, 26, ptrH, _⟩] a w := hst
  refine thn_normal ?_
  refine cond_of hst (List.mem_of_getElem? (i := 3) rfl) (fun hb0 => ?_) (fun hb0 => ?_)
  · have hst := St.sel hst [0, 1, 3]
    have hE := short_no hb0 (by simp)
    refine wp_seq ?_
    refine go_draw (anc := [[], [], [1], [1, 2], [1, 2, 3], [0], [0, 1, 2, 3, 4, 5]]) (sts := [none, some (5, _)]) (news := []) (sp := [.val 13 _, .adr 14 0 (.some 0) True, .adr 15 0 (.some 0) True, .adr 16 0 (.some (0 + 0)) True, .val 17 _, .sto 1, .val 5 _]) [.g 0, .o 6] follows_mixed hst (oc (ob_v rfl rfl (r_build (xs := []) (qs := []) str_frac .nil)) (oc (ob_a rfl rfl (a_mov0 (lz0 0 rfl))) (oc (ob_a rfl rfl (a_nil0 1 rfl (by kernel_rfl) (lz0 0 rfl))) (oc (ob_a rfl rfl (a_fld2 2 rfl (by kernel_rfl) trivial (lz0 0 rfl) fld_106_0)) (oc (ob_v rfl rfl (r_loadf 3 rfl (by kernel_rfl) trivial (lz0 0 rfl) (Sub.part 0 rfl rfl) ty_32)) (oc (ob_sto rfl rfl rfl (vq 0 rfl) ty_26 (Eq.trans (b := 4) rfl rfl)) (oc (ob_v rfl rfl (r_assign (vq 4 rfl))) o0))))))) (by kernel_rfl) (by kernel_rfl) (by kernel_rfl) (by kernel_rfl) (fun a w hst => ?_)
    have hst : St B w0 21 [(0, _), (5, _)] [⟨0, 106, ptrH, _⟩, ⟨4, 26, ptrH, _⟩] a w := hst
    refine thn_normal ?_
    refine wp_ret ?_
    refine thn_ret ?_
    refine ret_m hst (List.mem_of_getElem? (i := 0) rfl) (List.mem_of_getElem? (i := 0) rfl) ?_
    refine ret_wk ?_ (ret_many (rs := [.cell 4 26, .tmp 5]) rfl hst (.cell (List.mem_of_getElem? (i := 1) rfl) ty_26 (.tmp (List.mem_of_getElem? (i := 1) rfl) .nil)) (by decide))
    rw [asF_no hE]; exact wk_id
  · have hE := short_yes hb0 (by decide)
    have hst := St.cvG (A' := (SlA 26 [U32] [QA k q]).va) hst 2 rfl (by rw [if_pos hE])
    refine wp_skip ?_
    refine thn_normal ?_
    refine wp_seq ?_
    refine gl (sts := [none, some (3, _)]) (news := []) (sp := [.val 18 _, .val 19 _, .val 20 _, .sto 1, .val 5 _]) [.g 0, .o 4] hst (oc (ob_v rfl rfl (r_move (gq 2 rfl))) (oc (ob_v rfl rfl (r_idx sl_73 (n_ok (by kernel_rfl)) (vq 0 rfl) (has_nat 0 rfl) rfl)) (oc (ob_v rfl rfl (r_loade (vq 1 rfl) ty_26)) (oc (ob_sto rfl rfl rfl (vq 2 rfl) ty_26 (Eq.trans (b := 4) rfl rfl)) (oc (ob_v rfl rfl (r_assign has_num)) o0))))) (fun a w hst => ?_)
    have hst : St B w0 21 [(0, _), (5, _)] [⟨0, 106, ptrH, _⟩, ⟨4, 26, ptrH, _⟩] a w := hst
    refine thn_normal ?_
    refine wp_ret ?_
    refine ret_m hst (List.mem_of_getElem? (i := 0) rfl) (List.mem_of_getElem? (i := 0) rfl) ?_
    refine ret_wk ?_ (ret_many (rs := [.cell 4 26, .tmp 5]) rfl hst (.cell (List.mem_of_getElem? (i := 1) rfl) ty_26 (.tmp (List.mem_of_getElem? (i := 1) rfl) .nil)) (by decide))
    rw [asF_yes hE]; exact tu2w qaA.va wk_id

def backQ (m : MQ) : MQ := ⟨m.d, -m.b, -m.c, m.a⟩
def mirQ (m : MQ) : MQ := ⟨m.d, m.b, m.c, m.a⟩
def backF (m : RM) : RM × Int := asM (kM 0 m) (backQ (toM m))
def mirF (m : RM) : RM × Int := asM (kM 0 m) (mirQ (toM m))
def trF (m : RM) : RF × Int := asF (kM 0 m) ((toM m).a + (toM m).d)
def crossQ (r s : YQ) : Rat := r.y * s.u - r.u * s.y
def crF (r s : RR) : RF × Int := asF (kR (kR 0 r) s) (crossQ (toY r) (toY s))
def goQ (m : MQ) (r : YQ) : YQ := ⟨m.a * r.y + m.b * r.u, m.c * r.y + m.d * r.u⟩
def asY (e : Int) (r : YQ) : RR × Int := if e = 0 then (if [r.y, r.u].any longQ then (rr0, 4) else (rrOf r, 0)) else (rr0, e)
def goF (m : RM) (r : RR) : RR × Int := asY (kR (kM 0 m) r) (goQ (toM m) (toY r))
abbrev YR (r : RR × Int) : VA := Tu [(RRA r.1).va, In r.2]
theorem asY_no {e : Int} {r : YQ} (h : ansE e [r.y, r.u] ≠ 0) : asY e r = (rr0, ansE e [r.y, r.u]) := by
  unfold ansE at *
  unfold asY
  by_cases he : e = 0
  · rw [if_pos he] at h ⊢
    rw [if_pos he]
    cases hl : [r.y, r.u].any longQ with
    | true => rfl
    | false => rw [hl] at h; exact absurd rfl h
  · rw [if_neg he, if_neg he]
theorem asY_yes {e : Int} {r : YQ} (h : ansE e [r.y, r.u] = 0) : asY e r = (rrOf r, 0) := by
  unfold ansE at *
  unfold asY
  by_cases he : e = 0
  · rw [if_pos he] at h ⊢
    cases hl : [r.y, r.u].any longQ with
    | true => rw [hl] at h; exact absurd h (by decide)
    | false => rfl
  · rw [if_neg he] at h; exact absurd h he
theorem kM_0 {e : Int} {m : RM} (h : kM e m = 0) : okM m = true ∧ e = 0 := by
  unfold kM at h
  by_cases he : e = 0
  · rw [if_pos he] at h
    cases hm : okM m with
    | true => exact ⟨rfl, he⟩
    | false => rw [hm] at h; simp at h
  · rw [if_neg he] at h; exact absurd h he
theorem kR_0 {e : Int} {r : RR} (h : kR e r = 0) : [r.y, r.u].all okX = true ∧ e = 0 := by
  unfold kR at h
  by_cases he : e = 0
  · rw [if_pos he] at h
    cases hm : [r.y, r.u].all okX with
    | true => exact ⟨rfl, he⟩
    | false => rw [hm] at h; simp at h
  · rw [if_neg he] at h; exact absurd h he

set_option maxRecDepth 100000 in
theorem mirror1_c (m : MQ) : Cn Tryz.prog 68 [(ElP 56 (QMA 2048 m))] ((SlA 26 [U32] [QA 2048 (mirQ m).a, QA 2048 (mirQ m).b, QA 2048 (mirQ m).c, QA 2048 (mirQ m).d]).va) := by
  refine Cn.intro Tryz.func68 rfl (by kernel_rfl) nq (fun B w0 a hst => ?_)
  have hst : St B w0 15 [(0, (ElP 56 (QMA 2048 m)))] [] a w0.w := hst
  refine wp_seq ?_
  refine gl (sts := []) (news := []) (sp := [.val 1 _]) [.g 0, .o 0] hst (oc (ob_v rfl rfl (r_assign has_const)) o0) (fun a w hst => ?_)
  have hst : St B w0 15 [(0, _), (1, _)] [] a w := hst
  refine thn_normal ?_
  refine wp_seq ?_
  refine go_draw (anc := [[], [0], [0, 1], [], [3], [0, 1, 2, 3, 4], [], [6], [0, 1, 2, 3, 4, 5, 6, 7], [], [9], [0, 1, 2, 3, 4, 5, 6, 7, 8, 9, 10], [0, 1, 2, 3, 4, 5, 6, 7, 8, 9, 10, 11], [0, 1, 2, 3, 4, 5, 6, 7, 8, 9, 10, 11, 12]]) (sts := []) (news := []) (sp := [.val 2 _, .val 3 _, .val 4 _, .val 5 _, .val 6 _, .val 7 _, .val 8 _, .val 9 _, .val 10 _, .val 11 _, .val 12 _, .val 13 _, .val 14 _, .val 1 _]) [.o 13] follows_mixed hst (oc (ob_v rfl rfl (r_fielde (gq 0 rfl) fld_56_3 (Sub.part 3 rfl rfl))) (oc (ob_v rfl rfl (r_loade (vq 0 rfl) ty_26)) (oc (ob_v rfl rfl (r_call (xs := [.tmp 3]) (copy_q (by omega)) (.cons (vq 1 rfl) .nil))) (oc (ob_v rfl rfl (r_fielde (gq 0 rfl) fld_56_1 (Sub.part 1 rfl rfl))) (oc (ob_v rfl rfl (r_loade (vq 3 rfl) ty_26)) (oc (ob_v rfl rfl (r_call (xs := [.tmp 6]) (copy_q (by omega)) (.cons (vq 4 rfl) .nil))) (oc (ob_v rfl rfl (r_fielde (gq 0 rfl) fld_56_2 (Sub.part 2 rfl rfl))) (oc (ob_v rfl rfl (r_loade (vq 6 rfl) ty_26)) (oc (ob_v rfl rfl (r_call (xs := [.tmp 9]) (copy_q (by omega)) (.cons (vq 7 rfl) .nil))) (oc (ob_v rfl rfl (r_fielde (gq 0 rfl) fld_56_0 (Sub.part 0 rfl rfl))) (oc (ob_v rfl rfl (r_loade (vq 9 rfl) ty_26)) (oc (ob_v rfl rfl (r_call (xs := [.tmp 12]) (copy_q (by omega)) (.cons (vq 10 rfl) .nil))) (oc (ob_v rfl rfl (r_slice (D := [U32]) (l := [_, _, _, _]) (xs := [.tmp 4, .tmp 7, .tmp 10, .tmp 13]) (nd_ok (by kernel_rfl)) sl_73 (by kernel_rfl) (n_ok (by kernel_rfl)) nq nq nq (.cons (vq 2 rfl) (.cons (vq 5 rfl) (.cons (vq 8 rfl) (.cons (vq 11 rfl) .nil)))) rfl rfl)) (oc (ob_v rfl rfl (r_assign (vq 12 rfl))) o0)))))))))))))) (by kernel_rfl) (by kernel_rfl) (by kernel_rfl) (by kernel_rfl) (fun a w hst => ?_)
  have hst : St B w0 15 [(1, _)] [] a w := hst
  refine thn_normal ?_
  refine wp_ret ?_
  refine ret_wk ?_ (ret_tmp rfl hst (List.mem_of_getElem? (i := 0) rfl))
  exact wk_id

theorem mirror1_x {m : RM} (h : kM 0 m = 0) : Cn Tryz.prog 68 [(ElP 56 (RMA m))] (SlA 26 [U32] [QA 2048 (mirQ (toM m)).a, QA 2048 (mirQ (toM m)).b, QA 2048 (mirQ (toM m)).c, QA 2048 (mirQ (toM m)).d]).va := (mirror1_c (toM m)).wk (.cons (elp_wk (qm_x (okM_q (kM_0 h).1).1)) .nil)

set_option maxRecDepth 100000 in
theorem mirror_c (m : RM) : Cn Tryz.prog 25 [(RMA m).va] (MR (mirF m)) := by
  refine Cn.intro Tryz.func25 rfl (by kernel_rfl) nq (fun B w0 a hst => ?_)
  have hst : St B w0 15 [(0, (RMA m).va)] [] a w0.w := hst
  refine wp_seq ?_
  refine gl (sts := []) (news := [⟨1, 56, ptrH, some 0, _, none⟩, ⟨2, 56, ptrH, some 1, _, none⟩]) (sp := [.alc 0, .alc 1, .val 3 _]) [.o 2] hst (oc (ob_box rfl rfl rfl (gq 0 rfl)) (oc (ob_alc rfl rfl rfl (Str.zero str_matrix)) (oc (ob_v rfl rfl (r_assign has_num)) o0))) (fun a w hst => ?_)
  have hst : St B w0 15 [(3, _)] [⟨1, 56, ptrH, _⟩, ⟨2, 56, ptrH, _⟩] a w := hst
  refine thn_normal ?_
  refine wp_seq ?_
  refine go_linR (sts := [none, none]) (news := [⟨6, 106, ptrH, some 1, _, none⟩]) (sp := [.val 5 _, .alc 2, .adr 4 6 .none True]) [.g 0] [(4, 6)] [⟨1, 56, ptrH, _⟩, ⟨2, 56, ptrH, _⟩, ⟨4, 106, ptrH, _⟩] hst (oc (ob_v rfl rfl (r_build (xs := []) (qs := []) str_keeper .nil)) (oc (ob_box rfl rfl rfl (vq 0 rfl)) (oc (ob_a rfl rfl a_asg) o0))) (by kernel_rfl) (by kernel_rfl) (by kernel_rfl) ⟨⟨2, rfl⟩, trivial⟩ rfl (by kernel_rfl) (fun a w hst => ?_)
  have hst : St B w0 15 [(3, _)] [⟨1, 56, ptrH, _⟩, ⟨2, 56, ptrH, _⟩, ⟨4, 106, ptrH, _⟩] a w := hst
  refine thn_normal ?_
  refine wp_seq ?_
  refine gl (sts := [none, none, some (2, _)]) (news := []) (sp := [.adr 7 4 (.some 0) True, .val 8 _, .cal 9 _ 2]) [.g 0] hst (oc (ob_a rfl rfl (a_mov0 (lz0 2 rfl))) (oc (ob_v rfl rfl (r_load (lz0 0 rfl) ty_56)) (oc (ob_cal (xs := [.tmp 7, .tmp 8]) rfl rfl rfl (kmatrix_c _ _) (.cons (arw0 0 rfl (by kernel_rfl) (lz0 2 rfl)) (.cons (vq 1 rfl) .nil))) o0))) (fun a w hst => ?_)
  have hst : St B w0 15 [(3, _)] [⟨1, 56, ptrH, _⟩, ⟨2, 56, ptrH, _⟩, ⟨4, 106, ptrH, _⟩] a w := hst
  refine thn_normal ?_
  refine wp_seq ?_
  refine gl (sts := [none, some (5, _), some (2, _)]) (news := []) (sp := [.adr 10 4 (.some 0) True, .val 11 _, .cal 12 _ 2, .val 13 _, .val 14 _, .sto 1, .val 3 _]) [.o 6] hst (oc (ob_a rfl rfl (a_mov0 (lz0 2 rfl))) (oc (ob_v rfl rfl (r_mkfunc (xs := [.tmp 1]) (D := [56, 49, 145]) (pre := fun _ : PLift (kM 0 m = 0) => []) (post := fun _ => (SlA 26 [U32] [QA 2048 (mirQ (toM m)).a, QA 2048 (mirQ (toM m)).b, QA 2048 (mirQ (toM m)).c, QA 2048 (mirQ (toM m)).d]).va) (fun i => mirror1_x i.down) (nd_va rfl) (.cons (has_ptr (lz0 0 rfl)) .nil))) (oc (ob_cal (xs := [.tmp 10, .tmp 11]) rfl rfl rfl (kasMatrix_c _ 2048 (mirQ (toM m))) (.cons (arw0 0 rfl (by kernel_rfl) (lz0 2 rfl)) (.cons (vq 1 rfl) .nil))) (oc (ob_v rfl rfl (r_ex0 (has_c 2 rfl (by kernel_rfl) (by kernel_rfl)))) (oc (ob_v rfl rfl (r_ex1 (has_c 2 rfl (by kernel_rfl) (by kernel_rfl)))) (oc (ob_sto rfl rfl rfl (vq 3 rfl) ty_56 (Eq.trans (b := 16) rfl rfl)) (oc (ob_v rfl rfl (r_assign (vq 4 rfl))) o0))))))) (fun a w hst => ?_)
  have hst : St B w0 15 [(3, _)] [⟨1, 56, ptrH, _⟩, ⟨2, 56, ptrH, _⟩, ⟨4, 106, ptrH, _⟩] a w := hst
  refine thn_normal ?_
  refine wp_ret ?_
  refine ret_wk ?_ (ret_many (rs := [.cell 2 56, .tmp 3]) rfl hst (.cell (List.mem_of_getElem? (i := 1) rfl) ty_56 (.tmp (List.mem_of_getElem? (i := 0) rfl) .nil)) (by decide))
  exact wk_id

set_option maxRecDepth 100000 in
theorem trace1_c (m : MQ) : Cn Tryz.prog 84 [(ElP 56 (QMA 2048 m))] ((SlA 26 [U32] [QA 4097 (m.a + m.d)]).va) := by
  refine Cn.intro Tryz.func84 rfl (by kernel_rfl) nq (fun B w0 a hst => ?_)
  have hst : St B w0 8 [(0, (ElP 56 (QMA 2048 m)))] [] a w0.w := hst
  refine wp_seq ?_
  refine gl (sts := []) (news := []) (sp := [.val 1 _]) [.g 0, .o 0] hst (oc (ob_v rfl rfl (r_assign has_const)) o0) (fun a w hst => ?_)
  have hst : St B w0 8 [(0, _), (1, _)] [] a w := hst
  refine thn_normal ?_
  refine wp_seq ?_
  refine gl (sts := []) (news := []) (sp := [.val 2 _, .val 3 _, .val 4 _, .val 5 _, .val 6 _, .val 7 _, .val 1 _]) [.o 6] hst (oc (ob_v rfl rfl (r_fielde (gq 0 rfl) fld_56_0 (Sub.part 0 rfl rfl))) (oc (ob_v rfl rfl (r_loade (vq 0 rfl) ty_26)) (oc (ob_v rfl rfl (r_fielde (gq 0 rfl) fld_56_3 (Sub.part 3 rfl rfl))) (oc (ob_v rfl rfl (r_loade (vq 2 rfl) ty_26)) (oc (ob_v rfl rfl (r_call (xs := [.tmp 3, .tmp 5]) (plus_q (by omega)) (.cons (vq 1 rfl) (.cons (vq 3 rfl) .nil)))) (oc (ob_v rfl rfl (r_slice (D := [U32]) (l := [_]) (xs := [.tmp 6]) (nd_ok (by kernel_rfl)) sl_73 (by kernel_rfl) (n_ok (by kernel_rfl)) nq nq nq (.cons (vq 4 rfl) .nil) rfl rfl)) (oc (ob_v rfl rfl (r_assign (vq 5 rfl))) o0))))))) (fun a w hst => ?_)
  have hst : St B w0 8 [(1, _)] [] a w := hst
  refine thn_normal ?_
  refine wp_ret ?_
  refine ret_wk ?_ (ret_tmp rfl hst (List.mem_of_getElem? (i := 0) rfl))
  exact wk_id

theorem trace1_x {m : RM} (h : kM 0 m = 0) : Cn Tryz.prog 84 [(ElP 56 (RMA m))] (SlA 26 [U32] [QA 4097 ((toM m).a + (toM m).d)]).va := (trace1_c (toM m)).wk (.cons (elp_wk (qm_x (okM_q (kM_0 h).1).1)) .nil)

set_option maxRecDepth 100000 in
theorem trace_c (m : RM) : Cn Tryz.prog 35 [(RMA m).va] (FrR (trF m)) := by
  refine Cn.intro Tryz.func35 rfl (by kernel_rfl) nq (fun B w0 a hst => ?_)
  have hst : St B w0 15 [(0, (RMA m).va)] [] a w0.w := hst
  refine wp_seq ?_
  refine gl (sts := []) (news := [⟨1, 56, ptrH, some 0, _, none⟩, ⟨2, 26, ptrH, some 1, _, none⟩]) (sp := [.alc 0, .alc 1, .val 3 _]) [.o 2] hst (oc (ob_box rfl rfl rfl (gq 0 rfl)) (oc (ob_alc rfl rfl rfl (Str.zero str_frac)) (oc (ob_v rfl rfl (r_assign has_num)) o0))) (fun a w hst => ?_)
  have hst : St B w0 15 [(3, _)] [⟨1, 56, ptrH, _⟩, ⟨2, 26, ptrH, _⟩] a w := hst
  refine thn_normal ?_
  refine wp_seq ?_
  refine go_linR (sts := [none, none]) (news := [⟨6, 106, ptrH, some 1, _, none⟩]) (sp := [.val 5 _, .alc 2, .adr 4 6 .none True]) [.g 0] [(4, 6)] [⟨1, 56, ptrH, _⟩, ⟨2, 26, ptrH, _⟩, ⟨4, 106, ptrH, _⟩] hst (oc (ob_v rfl rfl (r_build (xs := []) (qs := []) str_keeper .nil)) (oc (ob_box rfl rfl rfl (vq 0 rfl)) (oc (ob_a rfl rfl a_asg) o0))) (by kernel_rfl) (by kernel_rfl) (by kernel_rfl) ⟨⟨2, rfl⟩, trivial⟩ rfl (by kernel_rfl) (fun a w hst => ?_)
  have hst : St B w0 15 [(3, _)] [⟨1, 56, ptrH, _⟩, ⟨2, 26, ptrH, _⟩, ⟨4, 106, ptrH, _⟩] a w := hst
  refine thn_normal ?_
  refine wp_seq ?_
  refine gl (sts := [none, none, some (2, _)]) (news := []) (sp := [.adr 7 4 (.some 0) True, .val 8 _, .cal 9 _ 2]) [.g 0] hst (oc (ob_a rfl rfl (a_mov0 (lz0 2 rfl))) (oc (ob_v rfl rfl (r_load (lz0 0 rfl) ty_56)) (oc (ob_cal (xs := [.tmp 7, .tmp 8]) rfl rfl rfl (kmatrix_c _ _) (.cons (arw0 0 rfl (by kernel_rfl) (lz0 2 rfl)) (.cons (vq 1 rfl) .nil))) o0))) (fun a w hst => ?_)
  have hst : St B w0 15 [(3, _)] [⟨1, 56, ptrH, _⟩, ⟨2, 26, ptrH, _⟩, ⟨4, 106, ptrH, _⟩] a w := hst
  refine thn_normal ?_
  refine wp_seq ?_
  refine gl (sts := [none, some (5, _), some (2, _)]) (news := []) (sp := [.adr 10 4 (.some 0) True, .val 11 _, .cal 12 _ 2, .val 13 _, .val 14 _, .sto 1, .val 3 _]) [.o 6] hst (oc (ob_a rfl rfl (a_mov0 (lz0 2 rfl))) (oc (ob_v rfl rfl (r_mkfunc (xs := [.tmp 1]) (D := [56, 49, 145]) (pre := fun _ : PLift (kM 0 m = 0) => []) (post := fun _ => (SlA 26 [U32] [QA 4097 ((toM m).a + (toM m).d)]).va) (fun i => trace1_x i.down) (nd_va rfl) (.cons (has_ptr (lz0 0 rfl)) .nil))) (oc (ob_cal (xs := [.tmp 10, .tmp 11]) rfl rfl rfl (kasFrac_c _ 4097 ((toM m).a + (toM m).d)) (.cons (arw0 0 rfl (by kernel_rfl) (lz0 2 rfl)) (.cons (vq 1 rfl) .nil))) (oc (ob_v rfl rfl (r_ex0 (has_c 2 rfl (by kernel_rfl) (by kernel_rfl)))) (oc (ob_v rfl rfl (r_ex1 (has_c 2 rfl (by kernel_rfl) (by kernel_rfl)))) (oc (ob_sto rfl rfl rfl (vq 3 rfl) ty_26 (Eq.trans (b := 4) rfl rfl)) (oc (ob_v rfl rfl (r_assign (vq 4 rfl))) o0))))))) (fun a w hst => ?_)
  have hst : St B w0 15 [(3, _)] [⟨1, 56, ptrH, _⟩, ⟨2, 26, ptrH, _⟩, ⟨4, 106, ptrH, _⟩] a w := hst
  refine thn_normal ?_
  refine wp_ret ?_
  refine ret_wk ?_ (ret_many (rs := [.cell 2 26, .tmp 3]) rfl hst (.cell (List.mem_of_getElem? (i := 1) rfl) ty_26 (.tmp (List.mem_of_getElem? (i := 0) rfl) .nil)) (by decide))
  exact wk_id

set_option maxRecDepth 100000 in
theorem through1_c (m : MQ) (r : YQ) : Cn Tryz.prog 72 [(ElP 56 (QMA 2048 m)), (ElP 49 (QRA 2048 r))] ((SlA 26 [U32] [QA 8193 (goQ m r).y, QA 8193 (goQ m r).u]).va) := by
  refine Cn.intro Tryz.func72 rfl (by kernel_rfl) nq (fun B w0 a hst => ?_)
  have hst : St B w0 22 [(0, (ElP 56 (QMA 2048 m))), (1, (ElP 49 (QRA 2048 r)))] [] a w0.w := hst
  refine wp_seq ?_
  refine gl (sts := []) (news := []) (sp := [.val 2 _]) [.g 0, .g 1, .o 0] hst (oc (ob_v rfl rfl (r_assign has_const)) o0) (fun a w hst => ?_)
  have hst : St B w0 22 [(0, _), (1, _), (2, _)] [] a w := hst
  refine thn_normal ?_
  refine wp_seq ?_
  refine go_draw (anc := [[], [0], [], [2], [], [4], [], [6], [0, 1, 2, 3, 4, 5, 6, 7], [], [9], [], [11], [], [13], [], [15], [0, 1, 2, 3, 4, 5, 6, 7, 8, 9, 10, 11, 12, 13, 14, 15, 16], [0, 1, 2, 3, 4, 5, 6, 7, 8, 9, 10, 11, 12, 13, 14, 15, 16, 17], [0, 1, 2, 3, 4, 5, 6, 7, 8, 9, 10, 11, 12, 13, 14, 15, 16, 17, 18]]) (sts := []) (news := []) (sp := [.val 3 _, .val 4 _, .val 5 _, .val 6 _, .val 7 _, .val 8 _, .val 9 _, .val 10 _, .val 11 _, .val 12 _, .val 13 _, .val 14 _, .val 15 _, .val 16 _, .val 17 _, .val 18 _, .val 19 _, .val 20 _, .val 21 _, .val 2 _]) [.o 19] follows_mixed hst (oc (ob_v rfl rfl (r_fielde (gq 0 rfl) fld_56_0 (Sub.part 0 rfl rfl))) (oc (ob_v rfl rfl (r_loade (vq 0 rfl) ty_26)) (oc (ob_v rfl rfl (r_fielde (gq 1 rfl) fld_49_0 (Sub.part 0 rfl rfl))) (oc (ob_v rfl rfl (r_loade (vq 2 rfl) ty_26)) (oc (ob_v rfl rfl (r_fielde (gq 0 rfl) fld_56_1 (Sub.part 1 rfl rfl))) (oc (ob_v rfl rfl (r_loade (vq 4 rfl) ty_26)) (oc (ob_v rfl rfl (r_fielde (gq 1 rfl) fld_49_1 (Sub.part 1 rfl rfl))) (oc (ob_v rfl rfl (r_loade (vq 6 rfl) ty_26)) (oc (ob_v rfl rfl (r_call (xs := [.tmp 4, .tmp 6, .tmp 8, .tmp 10]) (rpair_q (by decide)) (.cons (vq 1 rfl) (.cons (vq 3 rfl) (.cons (vq 5 rfl) (.cons (vq 7 rfl) .nil)))))) (oc (ob_v rfl rfl (r_fielde (gq 0 rfl) fld_56_2 (Sub.part 2 rfl rfl))) (oc (ob_v rfl rfl (r_loade (vq 9 rfl) ty_26)) (oc (ob_v rfl rfl (r_fielde (gq 1 rfl) fld_49_0 (Sub.part 0 rfl rfl))) (oc (ob_v rfl rfl (r_loade (vq 11 rfl) ty_26)) (oc (ob_v rfl rfl (r_fielde (gq 0 rfl) fld_56_3 (Sub.part 3 rfl rfl))) (oc (ob_v rfl rfl (r_loade (vq 13 rfl) ty_26)) (oc (ob_v rfl rfl (r_fielde (gq 1 rfl) fld_49_1 (Sub.part 1 rfl rfl))) (oc (ob_v rfl rfl (r_loade (vq 15 rfl) ty_26)) (oc (ob_v rfl rfl (r_call (xs := [.tmp 13, .tmp 15, .tmp 17, .tmp 19]) (rpair_q (by decide)) (.cons (vq 10 rfl) (.cons (vq 12 rfl) (.cons (vq 14 rfl) (.cons (vq 16 rfl) .nil)))))) (oc (ob_v rfl rfl (r_slice (D := [U32]) (l := [_, _]) (xs := [.tmp 11, .tmp 20]) (nd_ok (by kernel_rfl)) sl_73 (by kernel_rfl) (n_ok (by kernel_rfl)) nq nq nq (.cons (vq 8 rfl) (.cons (vq 17 rfl) .nil)) rfl rfl)) (oc (ob_v rfl rfl (r_assign (vq 18 rfl))) o0)))))))))))))))))))) (by kernel_rfl) (by kernel_rfl) (by kernel_rfl) (by kernel_rfl) (fun a w hst => ?_)
  have hst : St B w0 22 [(2, _)] [] a w := hst
  refine thn_normal ?_
  refine wp_ret ?_
  refine ret_wk ?_ (ret_tmp rfl hst (List.mem_of_getElem? (i := 0) rfl))
  exact wk_id

theorem through1_x {m : RM} {r : RR} (h : kR (kM 0 m) r = 0) : Cn Tryz.prog 72 [(ElP 56 (RMA m)), (ElP 49 (RRA r))] (SlA 26 [U32] [QA 8193 (goQ (toM m) (toY r)).y, QA 8193 (goQ (toM m) (toY r)).u]).va := (through1_c (toM m) (toY r)).wk (.cons (elp_wk (qm_x (okM_q (kM_0 (kR_0 h).2).1).1)) (.cons (elp_wk (qr_x (kR_0 h).1)) .nil))

set_option maxRecDepth 100000 in
theorem through_c (m : RM) (r : RR) : Cn Tryz.prog 27 [(RMA m).va, (RRA r).va] (YR (goF m r)) := by
  refine Cn.intro Tryz.func27 rfl (by kernel_rfl) nq (fun B w0 a hst => ?_)
  have hst : St B w0 34 [(0, (RMA m).va), (1, (RRA r).va)] [] a w0.w := hst
  refine wp_seq ?_
  refine gl (sts := []) (news := [⟨2, 56, ptrH, some 0, _, none⟩, ⟨3, 49, ptrH, some 1, _, none⟩, ⟨4, 49, ptrH, some 2, _, none⟩]) (sp := [.alc 0, .alc 1, .alc 2, .val 5 _]) [.o 3] hst (oc (ob_box rfl rfl rfl (gq 0 rfl)) (oc (ob_box rfl rfl rfl (gq 1 rfl)) (oc (ob_alc rfl rfl rfl (Str.zero str_ray)) (oc (ob_v rfl rfl (r_assign has_num)) o0)))) (fun a w hst => ?_)
  have hst : St B w0 34 [(5, _)] [⟨2, 56, ptrH, _⟩, ⟨3, 49, ptrH, _⟩, ⟨4, 49, ptrH, _⟩] a w := hst
  refine thn_normal ?_
  refine wp_seq ?_
  refine go_linR (sts := [none, none, none]) (news := [⟨9, 106, ptrH, some 1, _, none⟩]) (sp := [.val 8 _, .alc 3, .adr 6 9 .none True]) [.g 0] [(6, 9)] [⟨2, 56, ptrH, _⟩, ⟨3, 49, ptrH, _⟩, ⟨4, 49, ptrH, _⟩, ⟨6, 106, ptrH, _⟩] hst (oc (ob_v rfl rfl (r_build (xs := []) (qs := []) str_keeper .nil)) (oc (ob_box rfl rfl rfl (vq 0 rfl)) (oc (ob_a rfl rfl a_asg) o0))) (by kernel_rfl) (by kernel_rfl) (by kernel_rfl) ⟨⟨2, rfl⟩, trivial⟩ rfl (by kernel_rfl) (fun a w hst => ?_)
  have hst : St B w0 34 [(5, _)] [⟨2, 56, ptrH, _⟩, ⟨3, 49, ptrH, _⟩, ⟨4, 49, ptrH, _⟩, ⟨6, 106, ptrH, _⟩] a w := hst
  refine thn_normal ?_
  refine wp_seq ?_
  refine gl (sts := [none, none, none, some (2, _)]) (news := []) (sp := [.adr 10 6 (.some 0) True, .val 11 _, .cal 12 _ 3]) [.g 0] hst (oc (ob_a rfl rfl (a_mov0 (lz0 3 rfl))) (oc (ob_v rfl rfl (r_load (lz0 0 rfl) ty_56)) (oc (ob_cal (xs := [.tmp 10, .tmp 11]) rfl rfl rfl (kmatrix_c _ _) (.cons (arw0 0 rfl (by kernel_rfl) (lz0 3 rfl)) (.cons (vq 1 rfl) .nil))) o0))) (fun a w hst => ?_)
  have hst : St B w0 34 [(5, _)] [⟨2, 56, ptrH, _⟩, ⟨3, 49, ptrH, _⟩, ⟨4, 49, ptrH, _⟩, ⟨6, 106, ptrH, _⟩] a w := hst
  refine thn_normal ?_
  refine wp_seq ?_
  refine gl (sts := [none, none, none, some (2, _)]) (news := []) (sp := [.adr 13 6 (.some 0) True, .val 14 _, .cal 15 _ 3]) [.g 0] hst (oc (ob_a rfl rfl (a_mov0 (lz0 3 rfl))) (oc (ob_v rfl rfl (r_load (lz0 1 rfl) ty_49)) (oc (ob_cal (xs := [.tmp 13, .tmp 14]) rfl rfl rfl (kray_c _ _) (.cons (arw0 0 rfl (by kernel_rfl) (lz0 3 rfl)) (.cons (vq 1 rfl) .nil))) o0))) (fun a w hst => ?_)
  have hst : St B w0 34 [(5, _)] [⟨2, 56, ptrH, _⟩, ⟨3, 49, ptrH, _⟩, ⟨4, 49, ptrH, _⟩, ⟨6, 106, ptrH, _⟩] a w := hst
  refine thn_normal ?_
  refine wp_seq ?_
  refine gl (sts := [none, none, none, some (2, _)]) (news := []) (sp := [.adr 16 6 (.some 0) True, .val 17 _, .cal 18 _ 3, .val 7 _]) [.g 0, .o 3] hst (oc (ob_a rfl rfl (a_mov0 (lz0 3 rfl))) (oc (ob_v rfl rfl (r_mkfunc (xs := [.tmp 2, .tmp 3]) (D := [56, 49, 145]) (pre := fun _ : PLift (kR (kM 0 m) r = 0) => []) (post := fun _ => (SlA 26 [U32] [QA 8193 (goQ (toM m) (toY r)).y, QA 8193 (goQ (toM m) (toY r)).u]).va) (fun i => through1_x i.down) (nd_va rfl) (.cons (has_ptr (lz0 0 rfl)) (.cons (has_ptr (lz0 1 rfl)) .nil)))) (oc (ob_cal (xs := [.tmp 16, .tmp 17]) rfl rfl rfl (kanswer_c _ [QA 8193 (goQ (toM m) (toY r)).y, QA 8193 (goQ (toM m) (toY r)).u] [(goQ (toM m) (toY r)).y, (goQ (toM m) (toY r)).u] (.cons ⟨_, rfl⟩ (.cons ⟨_, rfl⟩ .nil)) nq) (.cons (arw0 0 rfl (by kernel_rfl) (lz0 3 rfl)) (.cons (vq 1 rfl) .nil))) (oc (ob_v rfl rfl (r_assign (has_c 2 rfl (by kernel_rfl) (by kernel_rfl)))) o0)))) (fun a w hst => ?_)
  have hst : St B w0 34 [(5, _), (7, _)] [⟨2, 56, ptrH, _⟩, ⟨3, 49, ptrH, _⟩, ⟨4, 49, ptrH, _⟩, ⟨6, 106, ptrH, _⟩] a w := hst
  refine thn_normal ?_
  refine wp_seq ?_
  refine wp_seq ?_
  refine gl (sts := [none, none, none, none]) (news := []) (sp := [.val 19 _, .val 20 _, .val 21 _]) [.g 0, .g 1, .o 2] hst (oc (ob_v rfl rfl (r_move (gq 1 rfl))) (oc (ob_v rfl rfl (r_len Tryz.underlying73 (vq 0 rfl))) (oc (ob_v rfl rfl (r_lss (vq 1 rfl) has_num)) o0))) (fun a w hst => ?_)
  have hst : St B w0 34 [(5, _), (7, _), (21, _)] [⟨2, 56, ptrH, _⟩, ⟨3, 49, ptrH, _⟩, ⟨4, 49, ptrH, _⟩, ⟨6, 106, ptrH, _⟩] a w := hst
  refine thn_normal ?_
  refine cond_of hst (List.mem_of_getElem? (i := 2) rfl) (fun hb0 => ?_) (fun hb0 => ?_)
  · have hE := short_no hb0 (by simp)
    refine wp_seq ?_
    refine go_draw (anc := [[], [], [1], [1, 2], [1, 2, 3], [0], [0, 1, 2, 3, 4, 5]]) (sts := [none, none, some (5, _), none]) (news := []) (sp := [.val 22 _, .adr 23 6 (.some 0) True, .adr 24 6 (.some 0) True, .adr 25 6 (.some (0 + 0)) True, .val 26 _, .sto 2, .val 5 _]) [.g 1, .o 6] follows_mixed hst (oc (ob_v rfl rfl (r_build (xs := []) (qs := []) str_ray .nil)) (oc (ob_a rfl rfl (a_mov0 (lz0 3 rfl))) (oc (ob_a rfl rfl (a_nil0 1 rfl (by kernel_rfl) (lz0 3 rfl))) (oc (ob_a rfl rfl (a_fld2 2 rfl (by kernel_rfl) trivial (lz0 3 rfl) fld_106_0)) (oc (ob_v rfl rfl (r_loadf 3 rfl (by kernel_rfl) trivial (lz0 3 rfl) (Sub.part 0 rfl rfl) ty_32)) (oc (ob_sto rfl rfl rfl (vq 0 rfl) ty_49 (Eq.trans (b := 8) rfl rfl)) (oc (ob_v rfl rfl (r_assign (vq 4 rfl))) o0))))))) (by kernel_rfl) (by kernel_rfl) (by kernel_rfl) (by kernel_rfl) (fun a w hst => ?_)
    have hst : St B w0 34 [(7, _), (5, _)] [⟨2, 56, ptrH, _⟩, ⟨3, 49, ptrH, _⟩, ⟨4, 49, ptrH, _⟩, ⟨6, 106, ptrH, _⟩] a w := hst
    refine thn_normal ?_
    refine wp_ret ?_
    refine thn_ret ?_
    refine ret_wk ?_ (ret_many (rs := [.cell 4 49, .tmp 5]) rfl hst (.cell (List.mem_of_getElem? (i := 2) rfl) ty_49 (.tmp (List.mem_of_getElem? (i := 1) rfl) .nil)) (by decide))
    rw [goF, asY_no hE]; exact wk_id
  · have hE := short_yes hb0 (by decide)
    have hst := St.cvG (A' := (SlA 26 [U32] [QA 8193 (goQ (toM m) (toY r)).y, QA 8193 (goQ (toM m) (toY r)).u]).va) hst 1 rfl (by rw [if_pos hE])
    refine wp_skip ?_
    refine thn_normal ?_
    refine wp_seq ?_
    refine go_draw (anc := [[], [0], [0, 1], [], [3], [3, 4], [0, 1, 2, 3, 4, 5], [0, 1, 2, 3, 4, 5, 6], [0, 1, 2, 3, 4, 5, 6, 7]]) (sts := [none, none, some (7, _), none]) (news := []) (sp := [.val 27 _, .val 28 _, .val 29 _, .val 30 _, .val 31 _, .val 32 _, .val 33 _, .sto 2, .val 5 _]) [.o 8] follows_mixed hst (oc (ob_v rfl rfl (r_move (gq 1 rfl))) (oc (ob_v rfl rfl (r_idx sl_73 (n_ok (by kernel_rfl)) (vq 0 rfl) (has_nat 0 rfl) rfl)) (oc (ob_v rfl rfl (r_loade (vq 1 rfl) ty_26)) (oc (ob_v rfl rfl (r_move (gq 1 rfl))) (oc (ob_v rfl rfl (r_idx sl_73 (n_ok (by kernel_rfl)) (vq 3 rfl) (has_nat 1 rfl) rfl)) (oc (ob_v rfl rfl (r_loade (vq 4 rfl) ty_26)) (oc (ob_v rfl rfl (r_build (xs := [(0, .tmp 29), (1, .tmp 32)]) (qs := [(0, _), (1, _)]) str_ray (.cons ⟨rfl, (vq 2 rfl), rfl⟩ (.cons ⟨rfl, (vq 5 rfl), rfl⟩ .nil)))) (oc (ob_sto rfl rfl rfl (vq 6 rfl) ty_49 (Eq.trans (b := 8) rfl rfl)) (oc (ob_v rfl rfl (r_assign has_num)) o0))))))))) (by kernel_rfl) (by kernel_rfl) (by kernel_rfl) (by kernel_rfl) (fun a w hst => ?_)
    have hst : St B w0 34 [(5, _)] [⟨2, 56, ptrH, _⟩, ⟨3, 49, ptrH, _⟩, ⟨4, 49, ptrH, _⟩, ⟨6, 106, ptrH, _⟩] a w := hst
    refine thn_normal ?_
    refine wp_ret ?_
    refine ret_wk ?_ (ret_many (rs := [.cell 4 49, .tmp 5]) rfl hst (.cell (List.mem_of_getElem? (i := 2) rfl) ty_49 (.tmp (List.mem_of_getElem? (i := 0) rfl) .nil)) (by decide))
    rw [goF, asY_yes hE]; exact tu2w qrA.va wk_id

set_option maxRecDepth 100000 in
theorem one09_q  : Cn Tryz.prog 58 [] ((QMA 2 ⟨1, 0, 0, 1⟩).va) := by
  refine Cn.intro Tryz.func58 rfl (by kernel_rfl) nq (fun B w0 a hst => ?_)
  have hst : St B w0 7 [] [] a w0.w := hst
  refine wp_seq ?_
  refine gl (sts := []) (news := [⟨0, 56, ptrH, some 0, _, none⟩]) (sp := [.alc 0]) [] hst (oc (ob_alc rfl rfl rfl (Str.zero str_matrix)) o0) (fun a w hst => ?_)
  have hst : St B w0 7 [] [⟨0, 56, ptrH, _⟩] a w := hst
  refine thn_normal ?_
  refine wp_seq ?_
  refine gl (sts := [some (6, _)]) (news := []) (sp := [.val 1 _, .val 2 _, .val 3 _, .val 4 _, .val 5 _, .val 6 _, .sto 0]) [] hst (oc (ob_v rfl rfl (r_call (xs := []) one_q .nil)) (oc (ob_v rfl rfl (r_call (xs := []) nought_q .nil)) (oc (ob_v rfl rfl (r_call (xs := []) nought_q .nil)) (oc (ob_v rfl rfl (r_call (xs := []) one_q .nil)) (oc (ob_v rfl rfl (r_buildA (xs := [(0, .tmp 1), (1, .tmp 2), (2, .tmp 3), (3, .tmp 4)]) (qs := [(0, _), (1, _), (2, _), (3, _)]) arr_four (.cons ⟨rfl, (vq 0 rfl), rfl⟩ (.cons ⟨rfl, (vq 1 rfl), rfl⟩ (.cons ⟨rfl, (vq 2 rfl), rfl⟩ (.cons ⟨rfl, (vq 3 rfl), rfl⟩ .nil)))))) (oc (ob_v rfl rfl (r_call (xs := [.tmp 5]) (fourMat_c ⟨_, _, _, _⟩) (.cons (vq 4 rfl) .nil))) (oc (ob_sto rfl rfl rfl (vq 5 rfl) ty_56 (Eq.trans (b := 16) rfl rfl)) o0))))))) (fun a w hst => ?_)
  have hst : St B w0 7 [] [⟨0, 56, ptrH, _⟩] a w := hst
  refine thn_normal ?_
  refine wp_ret ?_
  refine ret_wk ?_ (ret_cell rfl hst (List.mem_of_getElem? (i := 0) rfl) ty_56)
  exact wk_id

end Go.Proofs.YtgjolcbehcjhcaaGreat
