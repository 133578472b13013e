/- Contracts of package orbit without its walk: fine, many, told, After, form, Form, short. -/
import Derived.Test.YtmghfjcjcfaagaaGreatOrbA
import Derived.Test.YtmghfjcjcfaagaaGreatCavA
import Derived.Test.YtmghfjcjcfaagaaGreatRayL
namespace Go.Proofs.YtmghfjcjcfaagaaGreat
open Go Go.RowKit
namespace OrbF
theorem fld_30_0 : Fld Tryz.prog 30 0 0 4 := ⟨_, _, Tryz.underlying30, rfl, rfl, by kernel_rfl, by decide⟩
theorem fld_30_1 : Fld Tryz.prog 30 1 4 4 := ⟨_, _, Tryz.underlying30, rfl, rfl, by kernel_rfl, by decide⟩
theorem sl_71 : Sl Tryz.prog 71 26 4 := ⟨by kernel_rfl, by kernel_rfl⟩
theorem ty_26 : Ty Tryz.prog 26 4 true := ⟨by kernel_rfl, by kernel_rfl⟩
theorem ty_28 : Ty Tryz.prog 28 16 true := ⟨by kernel_rfl, by kernel_rfl⟩
end OrbF
open OrbF
def fiO (m : RM) (r : RR) : Bool := okM m && [r.y, r.u].all okX
theorem fiO_ok {m : RM} {r : RR} (h : (!fiO m r) = false) : okM m = true ∧ [r.y, r.u].all okX = true := by
  have h' : fiO m r = true := by simpa using h
  unfold fiO at h'
  rw [Bool.and_eq_true] at h'
  exact h'
set_option maxRecDepth 100000 in
theorem fine_c (m : RM) (r : RR) : Cn Tryz.prog 43 [(RMA m).va, (RRA r).va] (Bo (fiO m r)) := by
  refine Cn.intro Tryz.func43 rfl (by kernel_rfl) nq (fun B w0 a hst => ?_)
  have hst : St B w0 15 [(0, (RMA m).va), (1, (RRA r).va)] [] a w0.w := hst
  refine wp_seq ?_
  refine gl (sts := []) (news := [⟨2, 28, ptrH, some 0, _, none⟩, ⟨3, 30, ptrH, some 1, _, none⟩]) (sp := [.alc 0, .alc 1, .val 4 _]) [.o 2] hst (oc (ob_box rfl rfl rfl (gq 0 rfl)) (oc (ob_box rfl rfl rfl (gq 1 rfl)) (oc (ob_v rfl rfl (r_assign has_bo)) o0))) (fun a w hst => ?_)
  have hst : St B w0 15 [(4, _)] [⟨2, 28, ptrH, _⟩, ⟨3, 30, ptrH, _⟩] a w := hst
  refine thn_normal ?_
  refine wp_seq ?_
  refine gl (sts := [none, none]) (news := []) (sp := [.val 5 _, .val 6 _, .val 7 _, .adr 8 3 (.some 0) (_ = true), .val 9 (Wh (_ = true) _), .adr 10 3 (.some 4) (_ = true), .val 11 (Wh (_ = true) _), .val 12 (Wh (_ = true) _), .val 13 (Wh (_ = true) _), .val 14 _, .val 4 _]) [.o 10] hst (oc (ob_v rfl rfl (r_load (lz0 0 rfl) ty_28)) (oc (ob_v rfl rfl (r_call (xs := [.tmp 5]) (rowMay_c m) (.cons (vq 0 rfl) .nil))) (oc (ob_v rfl rfl (r_move (vq 1 rfl))) (oc (ob_ag rfl rfl rfl (vq 2 rfl) nq (fun hg => a_fld (lz0 1 rfl) fld_30_0)) (oc (ob_gd rfl rfl rfl (vq 2 rfl) nq (fun hg => r_loadf 3 rfl (by kernel_rfl) hg (lz0 1 rfl) (Sub.part 0 rfl rfl) ty_26)) (oc (ob_ag rfl rfl rfl (vq 2 rfl) nq (fun hg => a_fld (lz0 1 rfl) fld_30_1)) (oc (ob_gd rfl rfl rfl (vq 2 rfl) nq (fun hg => r_loadf 5 rfl (by kernel_rfl) hg (lz0 1 rfl) (Sub.part 1 rfl rfl) ty_26)) (oc (ob_gd rfl rfl rfl (vq 2 rfl) nq (fun hg => r_slice (D := [U32]) (l := [_, _]) (xs := [.tmp 9, .tmp 11]) (nd_ok (by kernel_rfl)) sl_71 (by kernel_rfl) (n_ok (by kernel_rfl)) nq nq nq (.cons (has_wh (vq 4 rfl) hg) (.cons (has_wh (vq 6 rfl) hg) .nil)) rfl rfl)) (oc (ob_gd rfl rfl rfl (vq 2 rfl) nq (fun hg => r_call (xs := [.tmp 12]) (checks_c [r.y, r.u] nq) (.cons (has_wh (vq 7 rfl) hg) .nil))) (oc (ob_v rfl rfl (r_and (vq 2 rfl) (vq 8 rfl))) (oc (ob_v rfl rfl (r_assign (vq 9 rfl))) o0))))))))))) (fun a w hst => ?_)
  have hst : St B w0 15 [(4, _)] [⟨2, 28, ptrH, _⟩, ⟨3, 30, ptrH, _⟩] a w := hst
  refine thn_normal ?_
  refine wp_ret ?_
  refine ret_wk ?_ (ret_tmp rfl hst (List.mem_of_getElem? (i := 0) rfl))
  exact wk_id

end Go.Proofs.YtmghfjcjcfaagaaGreat
