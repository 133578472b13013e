/- The reference of layer 13: a ray that goes round on whole numbers; Leaves. -/
import Derived.Test.YtmghfjcjcfaagaaGreatRefK
import Derived.Test.YtmghfjcjcfaagaaGreatOrbH
namespace Go.Proofs.YtmghfjcjcfaagaaGreat
open Go Go.RowKit
namespace RefM
theorem fld_26_0 : Fld Tryz.prog 26 0 0 2 := ⟨_, _, Tryz.underlying26, rfl, rfl, by kernel_rfl, by decide⟩
theorem fld_26_1 : Fld Tryz.prog 26 1 2 2 := ⟨_, _, Tryz.underlying26, rfl, rfl, by kernel_rfl, by decide⟩
theorem fld_28_0 : Fld Tryz.prog 28 0 0 4 := ⟨_, _, Tryz.underlying28, rfl, rfl, by kernel_rfl, by decide⟩
theorem fld_28_1 : Fld Tryz.prog 28 1 4 4 := ⟨_, _, Tryz.underlying28, rfl, rfl, by kernel_rfl, by decide⟩
theorem fld_28_2 : Fld Tryz.prog 28 2 8 4 := ⟨_, _, Tryz.underlying28, rfl, rfl, by kernel_rfl, by decide⟩
theorem fld_28_3 : Fld Tryz.prog 28 3 12 4 := ⟨_, _, Tryz.underlying28, rfl, rfl, by kernel_rfl, by decide⟩
theorem fld_30_0 : Fld Tryz.prog 30 0 0 4 := ⟨_, _, Tryz.underlying30, rfl, rfl, by kernel_rfl, by decide⟩
theorem fld_30_1 : Fld Tryz.prog 30 1 4 4 := ⟨_, _, Tryz.underlying30, rfl, rfl, by kernel_rfl, by decide⟩
theorem fld_81_0 : Fld Tryz.prog 81 0 0 2 := ⟨_, _, Tryz.underlying81, rfl, rfl, by kernel_rfl, by decide⟩
theorem fld_81_1 : Fld Tryz.prog 81 1 2 2 := ⟨_, _, Tryz.underlying81, rfl, rfl, by kernel_rfl, by decide⟩
theorem fld_81_2 : Fld Tryz.prog 81 2 4 2 := ⟨_, _, Tryz.underlying81, rfl, rfl, by kernel_rfl, by decide⟩
theorem fld_81_3 : Fld Tryz.prog 81 3 6 2 := ⟨_, _, Tryz.underlying81, rfl, rfl, by kernel_rfl, by decide⟩
theorem fld_81_4 : Fld Tryz.prog 81 4 8 2 := ⟨_, _, Tryz.underlying81, rfl, rfl, by kernel_rfl, by decide⟩
theorem fld_81_5 : Fld Tryz.prog 81 5 10 2 := ⟨_, _, Tryz.underlying81, rfl, rfl, by kernel_rfl, by decide⟩
theorem fld_81_6 : Fld Tryz.prog 81 6 12 2 := ⟨_, _, Tryz.underlying81, rfl, rfl, by kernel_rfl, by decide⟩
theorem fld_81_7 : Fld Tryz.prog 81 7 14 2 := ⟨_, _, Tryz.underlying81, rfl, rfl, by kernel_rfl, by decide⟩
theorem sl_126 : Sl Tryz.prog 126 24 2 := ⟨by kernel_rfl, by kernel_rfl⟩
theorem ty_24 : Ty Tryz.prog 24 2 true := ⟨by kernel_rfl, by kernel_rfl⟩
theorem ty_26 : Ty Tryz.prog 26 4 true := ⟨by kernel_rfl, by kernel_rfl⟩
theorem ty_28 : Ty Tryz.prog 28 16 true := ⟨by kernel_rfl, by kernel_rfl⟩
theorem ty_30 : Ty Tryz.prog 30 8 true := ⟨by kernel_rfl, by kernel_rfl⟩
theorem ty_81 : Ty Tryz.prog 81 16 true := ⟨by kernel_rfl, by kernel_rfl⟩
end RefM
open RefM
set_option linter.unusedVariables false
theorem str_walk : Str Tryz.prog 81 [RIA ⟨false, []⟩, RIA ⟨false, []⟩, RIA ⟨false, []⟩, RIA ⟨false, []⟩, RIA ⟨false, []⟩, RIA ⟨false, []⟩, RIA ⟨false, []⟩, RIA ⟨false, []⟩] :=
  Str.of (z := .agg #[.bool false, .slice none 0 0, .bool false, .slice none 0 0, .bool false, .slice none 0 0, .bool false, .slice none 0 0, .bool false, .slice none 0 0, .bool false, .slice none 0 0, .bool false, .slice none 0 0, .bool false, .slice none 0 0]) (by kernel_rfl) Tryz.underlying81 (by kernel_rfl) fun B w => ⟨[[.bool false, .slice none 0 0], [.bool false, .slice none 0 0], [.bool false, .slice none 0 0], [.bool false, .slice none 0 0], [.bool false, .slice none 0 0], [.bool false, .slice none 0 0], [.bool false, .slice none 0 0], [.bool false, .slice none 0 0]], rfl, (.cons (ri0_p B w) (.cons (ri0_p B w) (.cons (ri0_p B w) (.cons (ri0_p B w) (.cons (ri0_p B w) (.cons (ri0_p B w) (.cons (ri0_p B w) (.cons (ri0_p B w) .nil))))))))⟩
def WkA8 (k j : Nat) (p : Int × Int) (d : Int) (m : I4) (q : Int) : As := cat [ZA k p.1, ZA k p.2, ZA k d, ZA j m.1, ZA j m.2.1, ZA j m.2.2.1, ZA j m.2.2.2, ZA j q]
theorem ex_rSize : ∃ fn, Tryz.prog.funcs[113]? = some fn ∧ (fn.name == "runtime.NumGoroutine") = false ∧ fn.body.isNone = false := ⟨_, Tryz.func113, by kernel_rfl, by kernel_rfl⟩
theorem rsize_z {a : Nat} {p : Int} : Cn Tryz.prog 113 [Zs a p] (Zs a ((p.natAbs : Nat) : Int)) := zs1 ex_rSize fun h => (rsize_c p).wkp (zs_of (by unfold lz at *; simpa using h))
theorem lc_e {xs : List Rat} {j : Nat} (h : j < xs.length) : ZA (2 + 2048 * j + 2048) (lqS xs j * Int.tdiv ((xs.getD j 0).den : Int) ((Int.gcd (lqS xs j) ((xs.getD j 0).den : Int) : Nat) : Int)) = ZA (2 + 2048 * (j + 1)) (lqS xs (j + 1)) := by
  rw [lqS, show 2 + 2048 * j + 2048 = 2 + 2048 * (j + 1) by omega]
theorem far_e {l : Rat} {z d : Int} : decide (l.num * d < ((z.natAbs : Nat) : Int) * (l.den : Int)) = far1 l z d := by
  unfold far1
  refine decide_eq_decide.2 ?_
  unfold sg3
  split
  · constructor <;> intro h <;> omega
  · split <;> constructor <;> intro h <;> omega

set_option maxRecDepth 100000 in
theorem r13common_z (xs : List Rat) (hl : xs.length ≤ 4) : Cn Tryz.prog 110 [(SlA 24 [U32] (xs.map fun x : Rat => ZA 2048 (x.den : Int))).va] (Zs 8194 (lqS xs xs.length)) := by
  refine Cn.introF Tryz.func110 rfl (by kernel_rfl) nq (fun B w0 a hF hst => ?_)
  have hst : St B w0 32 [(0, (SlA 24 [U32] (xs.map fun x : Rat => ZA 2048 (x.den : Int))).va)] [] a w0.w := hst
  obtain ⟨v0, hv0, hst⟩ := St.eqv hst 0 rfl
  refine wp_seq ?_
  refine gl (sts := []) (news := [⟨2, 24, ptrH, some 0, _, none⟩]) (sp := [.alc 0]) [.g 0] hst (oc (ob_alc rfl rfl rfl (Str.zero str_int)) o0) (fun a w hst => ?_)
  have hst : St B w0 32 [(0, _)] [⟨2, 24, ptrH, _⟩] a w := hst
  refine thn_normal ?_
  refine wp_seq ?_
  refine gl (sts := [none]) (news := [⟨3, 24, ptrH, some 1, _, some (2, _)⟩]) (sp := [.val 7 _, .alc 1, .sto 1]) [.g 0] hst (oc (ob_v rfl rfl (r_call (xs := [.const (.int .i64 (1))]) (rof_z (by decide) (by decide)) (.cons has_num .nil))) (oc (ob_alc rfl rfl rfl (Str.zero str_int)) (oc (ob_sto rfl rfl rfl (vq 0 rfl) ty_24 (Eq.trans (b := 2) rfl rfl)) o0))) (fun a w hst => ?_)
  have hst : St B w0 32 [(0, _)] [⟨2, 24, ptrH, _⟩, ⟨3, 24, ptrH, _⟩] a w := hst
  refine thn_normal ?_
  refine wp_seq ?_
  refine wp_seq ?_
  refine gl (sts := [none, none]) (news := []) (sp := [.val 4 _]) [.g 0, .o 0] hst (oc (ob_v rfl rfl (r_assign has_num)) o0) (fun a w hst => ?_)
  have hst : St B w0 32 [(0, _), (4, _)] [⟨2, 24, ptrH, _⟩, ⟨3, 24, ptrH, _⟩] a w := hst
  refine thn_normal ?_
  refine wp_block ?_
  have hst := St.sel hst [0, 1]
  refine wp_loop_ghost (fun n a w => ∃ j : Nat, (n + j = xs.length) ∧ St B w0 32 [(0, EqV v0), (4, In (j : Nat))] [⟨2, 24, ptrH, cat [BoA false, MgA []]⟩, ⟨3, 24, ptrH, ZA (2 + 2048 * j) (lqS xs j)⟩] a w) (xs.length) ?_ ?_
  · exact ⟨0, by omega, hst⟩
  intro n a w hI
  obtain ⟨j, hn, hst⟩ := hI
  refine wp_seq ?_
  refine wp_seq ?_
  refine gl (sts := [none, none]) (news := []) (sp := [.val 8 _, .val 9 _, .val 10 _, .val 11 _]) [.g 0, .g 1, .o 3] hst (oc (ob_v rfl rfl (r_move (gq 1 rfl))) (oc (ob_v rfl rfl (r_move (gq 0 rfl))) (oc (ob_v rfl rfl (r_len Tryz.underlying126 (has_again hF hv0 (vq 1 rfl)))) (oc (ob_v rfl rfl (r_lss (vq 0 rfl) (vq 2 rfl))) o0)))) (fun a w hst => ?_)
  have hst : St B w0 32 [(0, _), (4, _), (11, _)] [⟨2, 24, ptrH, _⟩, ⟨3, 24, ptrH, _⟩] a w := hst
  refine thn_normal ?_
  refine cond_of hst (List.mem_of_getElem? (i := 2) rfl) (fun hb0 => ?_) (fun hb0 => ?_)
  · have hj : j < xs.length := by rw [List.length_map] at hb0; simp at hb0; omega
    refine wp_skip ?_
    refine thn_normal ?_
    refine wp_seq ?_
    refine wp_block ?_
    refine wp_seq ?_
    refine go_draw (anc := [[], [], [0, 1], [0, 1, 2], [], [], [], [5, 6], [5, 6, 7], [4, 5, 6, 7, 8], [0, 1, 2, 3, 4, 5, 6, 7, 8, 9], [0, 1, 2, 3, 4, 5, 6, 7, 8, 9, 10], [0, 1, 2, 3, 4, 5, 6, 7, 8, 9, 10, 11], [0, 1, 2, 3, 4, 5, 6, 7, 8, 9, 10, 11], [], [], [0, 1, 2, 3, 4, 5, 6, 7, 8, 9, 10, 11, 12, 14, 15], [0, 1, 2, 3, 4, 5, 6, 7, 8, 9, 10, 11, 12, 13, 14, 15, 16]]) (sts := [none, none]) (news := [⟨5, 24, ptrH, some 14, _, some (16, _)⟩, ⟨6, 24, ptrH, some 15, _, some (17, _)⟩]) (sp := [.val 15 _, .val 16 _, .val 17 _, .val 18 _, .val 19 _, .val 20 _, .val 21 _, .val 22 _, .val 23 _, .val 24 _, .val 25 _, .val 14 _, .val 26 _, .val 27 _, .alc 2, .alc 3, .sto 2, .sto 3]) [.g 0, .g 1] follows_mixed hst (oc (ob_v rfl rfl (r_move (gq 0 rfl))) (oc (ob_v rfl rfl (r_move (gq 1 rfl))) (oc (ob_v rfl rfl (r_idx sl_126 (map_n fun _ => rfl) (has_again hF hv0 (vq 0 rfl)) (vq 1 rfl) (at_d (d := 0) hj))) (oc (ob_v rfl rfl (r_loade (vq 2 rfl) ty_24)) (oc (ob_v rfl rfl (r_load (lz0 1 rfl) ty_24)) (oc (ob_v rfl rfl (r_move (gq 0 rfl))) (oc (ob_v rfl rfl (r_move (gq 1 rfl))) (oc (ob_v rfl rfl (r_idx sl_126 (map_n fun _ => rfl) (has_again hF hv0 (vq 5 rfl)) (vq 6 rfl) (at_d (d := 0) hj))) (oc (ob_v rfl rfl (r_loade (vq 7 rfl) ty_24)) (oc (ob_v rfl rfl (r_call (xs := [.tmp 19, .tmp 23]) (rcommon_z (by omega) (by omega)) (.cons (vq 4 rfl) (.cons (vq 8 rfl) .nil)))) (oc (ob_v rfl rfl (r_call (xs := [.tmp 18, .tmp 24]) (rdivide_z (by omega) (by omega) (gcd_nz _ _)) (.cons (vq 3 rfl) (.cons (vq 9 rfl) .nil)))) (oc (ob_v rfl rfl (r_move (vq 10 rfl))) (oc (ob_v rfl rfl (r_ex0 (vq 11 rfl))) (oc (ob_v rfl rfl (r_ex1 (vq 11 rfl))) (oc (ob_alc rfl rfl rfl (Str.zero str_int)) (oc (ob_alc rfl rfl rfl (Str.zero str_int)) (oc (ob_sto rfl rfl rfl (vq 12 rfl) ty_24 (Eq.trans (b := 2) rfl rfl)) (oc (ob_sto rfl rfl rfl (vq 13 rfl) ty_24 (Eq.trans (b := 2) rfl rfl)) o0)))))))))))))))))) (by kernel_rfl) (by kernel_rfl) (by kernel_rfl) (by kernel_rfl) (fun a w hst => ?_)
    have hst : St B w0 32 [(0, _), (4, _)] [⟨2, 24, ptrH, _⟩, ⟨3, 24, ptrH, _⟩, ⟨5, 24, ptrH, _⟩, ⟨6, 24, ptrH, _⟩] a w := hst
    refine thn_normal ?_
    refine gl (sts := [none, some (3, _), none, none]) (news := []) (sp := [.val 28 _, .val 29 _, .val 30 _, .sto 1]) [.g 0, .g 1] hst (oc (ob_v rfl rfl (r_load (lz0 1 rfl) ty_24)) (oc (ob_v rfl rfl (r_load (lz0 2 rfl) ty_24)) (oc (ob_v rfl rfl (r_call (xs := [.tmp 28, .tmp 29]) (rtimes_z (by omega) (by omega)) (.cons (vq 0 rfl) (.cons (vq 1 rfl) .nil)))) (oc (ob_sto rfl rfl rfl (vq 2 rfl) ty_24 (Eq.trans (b := 2) rfl rfl)) o0)))) (fun a w hst => ?_)
    have hst : St B w0 32 [(0, _), (4, _)] [⟨2, 24, ptrH, _⟩, ⟨3, 24, ptrH, _⟩, ⟨5, 24, ptrH, _⟩, ⟨6, 24, ptrH, _⟩] a w := hst
    refine blk_normal ?_
    refine thn_normal ?_
    refine gl (sts := [none, none, none, none]) (news := []) (sp := [.val 12 _, .val 13 _, .val 4 _]) [.g 0, .o 2] hst (oc (ob_v rfl rfl (r_move (gq 1 rfl))) (oc (ob_v rfl rfl (r_add (vq 0 rfl) has_num ((wi64 (by omega) (by omega)).trans (by omega : (_ : Int) = ((j + 1 : Nat) : Int))))) (oc (ob_v rfl rfl (r_assign (vq 1 rfl))) o0))) (fun a w hst => ?_)
    have hst : St B w0 32 [(0, _), (4, _)] [⟨2, 24, ptrH, _⟩, ⟨3, 24, ptrH, _⟩, ⟨5, 24, ptrH, _⟩, ⟨6, 24, ptrH, _⟩] a w := hst
    refine thn_normal ?_
    have hst := St.sel hst [0, 1]
    have hst := St.selL hst [0, 1]
    exact ⟨n - 1, by omega, j + 1, by omega, St.cvA hst 1 rfl (lc_e hj)⟩
  · obtain rfl : j = xs.length := by rw [List.length_map] at hb0; simp at hb0; omega
    refine wp_exit ?_
    refine thn_exit ?_
    refine thn_exit ?_
    refine blk_exit ?_
    refine thn_normal ?_
    refine wp_seq ?_
    refine gl (sts := [some (1, _), none]) (news := []) (sp := [.val 31 _, .sto 0]) [] hst (oc (ob_v rfl rfl (r_load (lz0 1 rfl) ty_24)) (oc (ob_sto rfl rfl rfl (vq 0 rfl) ty_24 (Eq.trans (b := 2) rfl rfl)) o0)) (fun a w hst => ?_)
    have hst : St B w0 32 [] [⟨2, 24, ptrH, _⟩, ⟨3, 24, ptrH, _⟩] a w := hst
    refine thn_normal ?_
    refine wp_ret ?_
    refine ret_wk ?_ (ret_cell rfl hst (List.mem_of_getElem? (i := 0) rfl) ty_24)
    exact (za_mono (by omega)).va

set_option maxRecDepth 100000 in
theorem r13over_z {c d : Nat} {x : Rat} {q : Int} (hc : c ≤ 400000000) (hd : d ≤ 400000000) : Cn Tryz.prog 111 [Qs c x, Zs d q] (Zs (c + d) (x.num * Int.tdiv q (x.den : Int))) := by
  refine Cn.intro Tryz.func111 rfl (by kernel_rfl) nq (fun B w0 a hst => ?_)
  have hst : St B w0 18 [(0, Qs c x), (1, Zs d q)] [] a w0.w := hst
  refine wp_seq ?_
  refine gl (sts := []) (news := [⟨2, 26, ptrH, some 0, _, none⟩, ⟨3, 24, ptrH, some 1, _, none⟩, ⟨4, 24, ptrH, some 2, _, none⟩]) (sp := [.alc 0, .alc 1, .alc 2]) [] hst (oc (ob_box rfl rfl rfl (gq 0 rfl)) (oc (ob_box rfl rfl rfl (gq 1 rfl)) (oc (ob_alc rfl rfl rfl (Str.zero str_int)) o0))) (fun a w hst => ?_)
  have hst : St B w0 18 [] [⟨2, 26, ptrH, _⟩, ⟨3, 24, ptrH, _⟩, ⟨4, 24, ptrH, _⟩] a w := hst
  refine thn_normal ?_
  refine wp_seq ?_
  refine gl (sts := [none, none, none]) (news := [⟨5, 24, ptrH, some 7, _, some (9, _)⟩, ⟨6, 24, ptrH, some 8, _, some (10, _)⟩]) (sp := [.val 8 _, .adr 9 2 (.some 2) True, .val 10 _, .val 11 _, .val 7 _, .val 12 _, .val 13 _, .alc 3, .alc 4, .sto 3, .sto 4]) [] hst (oc (ob_v rfl rfl (r_load (lz0 1 rfl) ty_24)) (oc (ob_a rfl rfl (a_fld (lz0 0 rfl) fld_26_1)) (oc (ob_v rfl rfl (r_loadf 1 rfl (by kernel_rfl) trivial (lz0 0 rfl) (Sub.part 1 rfl rfl) ty_24)) (oc (ob_v rfl rfl (r_call (xs := [.tmp 8, .tmp 10]) (rdivide_z (by omega) (by omega) (den_nzI _)) (.cons (vq 0 rfl) (.cons (vq 2 rfl) .nil)))) (oc (ob_v rfl rfl (r_move (vq 3 rfl))) (oc (ob_v rfl rfl (r_ex0 (vq 4 rfl))) (oc (ob_v rfl rfl (r_ex1 (vq 4 rfl))) (oc (ob_alc rfl rfl rfl (Str.zero str_int)) (oc (ob_alc rfl rfl rfl (Str.zero str_int)) (oc (ob_sto rfl rfl rfl (vq 5 rfl) ty_24 (Eq.trans (b := 2) rfl rfl)) (oc (ob_sto rfl rfl rfl (vq 6 rfl) ty_24 (Eq.trans (b := 2) rfl rfl)) o0))))))))))) (fun a w hst => ?_)
  have hst : St B w0 18 [] [⟨2, 26, ptrH, _⟩, ⟨3, 24, ptrH, _⟩, ⟨4, 24, ptrH, _⟩, ⟨5, 24, ptrH, _⟩, ⟨6, 24, ptrH, _⟩] a w := hst
  refine thn_normal ?_
  refine wp_seq ?_
  refine gl (sts := [none, none, some (4, _), none, none]) (news := []) (sp := [.adr 14 2 (.some 0) True, .val 15 _, .val 16 _, .val 17 _, .sto 2]) [] hst (oc (ob_a rfl rfl (a_fld (lz0 0 rfl) fld_26_0)) (oc (ob_v rfl rfl (r_loadf 0 rfl (by kernel_rfl) trivial (lz0 0 rfl) (Sub.part 0 rfl rfl) ty_24)) (oc (ob_v rfl rfl (r_load (lz0 3 rfl) ty_24)) (oc (ob_v rfl rfl (r_call (xs := [.tmp 15, .tmp 16]) (rtimes_z (by omega) (by omega)) (.cons (vq 1 rfl) (.cons (vq 2 rfl) .nil)))) (oc (ob_sto rfl rfl rfl (vq 3 rfl) ty_24 (Eq.trans (b := 2) rfl rfl)) o0))))) (fun a w hst => ?_)
  have hst : St B w0 18 [] [⟨2, 26, ptrH, _⟩, ⟨3, 24, ptrH, _⟩, ⟨4, 24, ptrH, _⟩, ⟨5, 24, ptrH, _⟩, ⟨6, 24, ptrH, _⟩] a w := hst
  refine thn_normal ?_
  refine wp_ret ?_
  refine ret_wk ?_ (ret_cell rfl hst (List.mem_of_getElem? (i := 2) rfl) ty_24)
  exact wk_id

set_option maxRecDepth 100000 in
set_option maxHeartbeats 1000000 in
theorem r13begin_c (m : MQ) (r : YQ) : Cn Tryz.prog 50 [(QMA 2048 m).va, (QRA 2048 r).va] ((WkA8 10242 10242 (rI r) (rq r) (mI m) (mq m)).va) := by
  refine Cn.intro Tryz.func50 rfl (by kernel_rfl) nq (fun B w0 a hst => ?_)
  have hst : St B w0 56 [(0, (QMA 2048 m).va), (1, (QRA 2048 r).va)] [] a w0.w := hst
  refine wp_seq ?_
  refine gl (sts := []) (news := [⟨2, 28, ptrH, some 0, _, none⟩, ⟨3, 30, ptrH, some 1, _, none⟩, ⟨4, 81, ptrH, some 2, _, none⟩]) (sp := [.alc 0, .alc 1, .alc 2]) [] hst (oc (ob_box rfl rfl rfl (gq 0 rfl)) (oc (ob_box rfl rfl rfl (gq 1 rfl)) (oc (ob_alc rfl rfl rfl (Str.zero str_walk)) o0))) (fun a w hst => ?_)
  have hst : St B w0 56 [] [⟨2, 28, ptrH, _⟩, ⟨3, 30, ptrH, _⟩, ⟨4, 81, ptrH, _⟩] a w := hst
  refine thn_normal ?_
  refine wp_seq ?_
  refine gl (sts := [none, none, none]) (news := [⟨5, 24, ptrH, some 14, _, some (15, _)⟩]) (sp := [.adr 7 2 (.some 0) True, .adr 8 2 (.some (0 + 2)) True, .val 9 _, .adr 10 2 (.some 4) True, .adr 11 2 (.some (4 + 2)) True, .val 12 _, .adr 13 2 (.some 8) True, .adr 14 2 (.some (8 + 2)) True, .val 15 _, .adr 16 2 (.some 12) True, .adr 17 2 (.some (12 + 2)) True, .val 18 _, .val 19 _, .val 20 _, .alc 3, .sto 3]) [] hst (oc (ob_a rfl rfl (a_fld (lz0 0 rfl) fld_28_0)) (oc (ob_a rfl rfl (a_fld2 0 rfl (by kernel_rfl) trivial (lz0 0 rfl) fld_26_1)) (oc (ob_v rfl rfl (r_loadf 1 rfl (by kernel_rfl) trivial (lz0 0 rfl) (Sub.trans (Sub.part 0 rfl rfl) (Sub.part 1 rfl rfl) rfl) ty_24)) (oc (ob_a rfl rfl (a_fld (lz0 0 rfl) fld_28_1)) (oc (ob_a rfl rfl (a_fld2 3 rfl (by kernel_rfl) trivial (lz0 0 rfl) fld_26_1)) (oc (ob_v rfl rfl (r_loadf 4 rfl (by kernel_rfl) trivial (lz0 0 rfl) (Sub.trans (Sub.part 1 rfl rfl) (Sub.part 1 rfl rfl) rfl) ty_24)) (oc (ob_a rfl rfl (a_fld (lz0 0 rfl) fld_28_2)) (oc (ob_a rfl rfl (a_fld2 6 rfl (by kernel_rfl) trivial (lz0 0 rfl) fld_26_1)) (oc (ob_v rfl rfl (r_loadf 7 rfl (by kernel_rfl) trivial (lz0 0 rfl) (Sub.trans (Sub.part 2 rfl rfl) (Sub.part 1 rfl rfl) rfl) ty_24)) (oc (ob_a rfl rfl (a_fld (lz0 0 rfl) fld_28_3)) (oc (ob_a rfl rfl (a_fld2 9 rfl (by kernel_rfl) trivial (lz0 0 rfl) fld_26_1)) (oc (ob_v rfl rfl (r_loadf 10 rfl (by kernel_rfl) trivial (lz0 0 rfl) (Sub.trans (Sub.part 3 rfl rfl) (Sub.part 1 rfl rfl) rfl) ty_24)) (oc (ob_v rfl rfl (r_slice (D := [U32]) (l := [_, _, _, _]) (xs := [.tmp 9, .tmp 12, .tmp 15, .tmp 18]) (nd_ok (by kernel_rfl)) sl_126 (by kernel_rfl) (n_ok (by kernel_rfl)) nq nq nq (.cons (vq 2 rfl) (.cons (vq 5 rfl) (.cons (vq 8 rfl) (.cons (vq 11 rfl) .nil)))) rfl rfl)) (oc (ob_v rfl rfl (r_call (xs := [.tmp 19]) (r13common_z [m.a, m.b, m.c, m.d] nq) (.cons (vq 12 rfl) .nil))) (oc (ob_alc rfl rfl rfl (Str.zero str_int)) (oc (ob_sto rfl rfl rfl (vq 13 rfl) ty_24 (Eq.trans (b := 2) rfl rfl)) o0)))))))))))))))) (fun a w hst => ?_)
  have hst : St B w0 56 [] [⟨2, 28, ptrH, _⟩, ⟨3, 30, ptrH, _⟩, ⟨4, 81, ptrH, _⟩, ⟨5, 24, ptrH, _⟩] a w := hst
  refine thn_normal ?_
  refine wp_seq ?_
  refine gl (sts := [none, none, none, none]) (news := [⟨6, 24, ptrH, some 8, _, some (9, _)⟩]) (sp := [.adr 21 3 (.some 0) True, .adr 22 3 (.some (0 + 2)) True, .val 23 _, .adr 24 3 (.some 4) True, .adr 25 3 (.some (4 + 2)) True, .val 26 _, .val 27 _, .val 28 _, .alc 4, .sto 4]) [] hst (oc (ob_a rfl rfl (a_fld (lz0 1 rfl) fld_30_0)) (oc (ob_a rfl rfl (a_fld2 0 rfl (by kernel_rfl) trivial (lz0 1 rfl) fld_26_1)) (oc (ob_v rfl rfl (r_loadf 1 rfl (by kernel_rfl) trivial (lz0 1 rfl) (Sub.trans (Sub.part 0 rfl rfl) (Sub.part 1 rfl rfl) rfl) ty_24)) (oc (ob_a rfl rfl (a_fld (lz0 1 rfl) fld_30_1)) (oc (ob_a rfl rfl (a_fld2 3 rfl (by kernel_rfl) trivial (lz0 1 rfl) fld_26_1)) (oc (ob_v rfl rfl (r_loadf 4 rfl (by kernel_rfl) trivial (lz0 1 rfl) (Sub.trans (Sub.part 1 rfl rfl) (Sub.part 1 rfl rfl) rfl) ty_24)) (oc (ob_v rfl rfl (r_slice (D := [U32]) (l := [_, _]) (xs := [.tmp 23, .tmp 26]) (nd_ok (by kernel_rfl)) sl_126 (by kernel_rfl) (n_ok (by kernel_rfl)) nq nq nq (.cons (vq 2 rfl) (.cons (vq 5 rfl) .nil)) rfl rfl)) (oc (ob_v rfl rfl (r_call (xs := [.tmp 27]) (r13common_z [r.y, r.u] nq) (.cons (vq 6 rfl) .nil))) (oc (ob_alc rfl rfl rfl (Str.zero str_int)) (oc (ob_sto rfl rfl rfl (vq 7 rfl) ty_24 (Eq.trans (b := 2) rfl rfl)) o0)))))))))) (fun a w hst => ?_)
  have hst : St B w0 56 [] [⟨2, 28, ptrH, _⟩, ⟨3, 30, ptrH, _⟩, ⟨4, 81, ptrH, _⟩, ⟨5, 24, ptrH, _⟩, ⟨6, 24, ptrH, _⟩] a w := hst
  refine thn_normal ?_
  refine wp_seq ?_
  refine go_draw (anc := [[], [0], [], [0, 1, 2], [], [4], [], [0, 1, 2, 3, 4, 5, 6], [], [], [9], [], [0, 1, 2, 3, 4, 5, 6, 7, 9, 10, 11], [], [13], [], [0, 1, 2, 3, 4, 5, 6, 7, 9, 10, 11, 12, 13, 14, 15], [], [17], [], [0, 1, 2, 3, 4, 5, 6, 7, 9, 10, 11, 12, 13, 14, 15, 16, 17, 18, 19], [], [21], [], [0, 1, 2, 3, 4, 5, 6, 7, 9, 10, 11, 12, 13, 14, 15, 16, 17, 18, 19, 20, 21, 22, 23], [], [0, 1, 2, 3, 4, 5, 6, 7, 8, 9, 10, 11, 12, 13, 14, 15, 16, 17, 18, 19, 20, 21, 22, 23, 24, 25], [0, 1, 2, 3, 4, 5, 6, 7, 8, 9, 10, 11, 12, 13, 14, 15, 16, 17, 18, 19, 20, 21, 22, 23, 24, 25, 26]]) (sts := [none, none, some (27, _), none, none]) (news := []) (sp := ((.adr 29 3 (.some 0) True : Sp) :: (.val 30 _) :: (.val 31 _) :: (.val 32 _) :: (.adr 33 3 (.some 4) True) :: (.val 34 _) :: (.val 35 _) :: (.val 36 _) :: (.val 37 _) :: (.adr 38 2 (.some 0) True) :: (.val 39 _) :: (.val 40 _) :: (.val 41 _) :: (.adr 42 2 (.some 4) True) :: (.val 43 _) :: (.val 44 _) :: (.val 45 _) :: (.adr 46 2 (.some 8) True) :: (.val 47 _) :: (.val 48 _) :: (.val 49 _) :: (.adr 50 2 (.some 12) True) :: (.val 51 _) :: (.val 52 _) :: (.val 53 _) :: (.val 54 _) :: (.val 55 _) :: (.sto 2) :: [])) [] follows_mixed hst (oc (ob_a rfl rfl (a_fld (lz0 1 rfl) fld_30_0)) (oc (ob_v rfl rfl (r_loadf 0 rfl (by kernel_rfl) trivial (lz0 1 rfl) (Sub.part 0 rfl rfl) ty_26)) (oc (ob_v rfl rfl (r_load (lz0 4 rfl) ty_24)) (oc (ob_v rfl rfl (r_call (xs := [.tmp 30, .tmp 31]) (r13over_z (by decide) (by decide)) (.cons (vq 1 rfl) (.cons (vq 2 rfl) .nil)))) (oc (ob_a rfl rfl (a_fld (lz0 1 rfl) fld_30_1)) (oc (ob_v rfl rfl (r_loadf 4 rfl (by kernel_rfl) trivial (lz0 1 rfl) (Sub.part 1 rfl rfl) ty_26)) (oc (ob_v rfl rfl (r_load (lz0 4 rfl) ty_24)) (oc (ob_v rfl rfl (r_call (xs := [.tmp 34, .tmp 35]) (r13over_z (by decide) (by decide)) (.cons (vq 5 rfl) (.cons (vq 6 rfl) .nil)))) (oc (ob_v rfl rfl (r_load (lz0 4 rfl) ty_24)) (oc (ob_a rfl rfl (a_fld (lz0 0 rfl) fld_28_0)) (oc (ob_v rfl rfl (r_loadf 9 rfl (by kernel_rfl) trivial (lz0 0 rfl) (Sub.part 0 rfl rfl) ty_26)) (oc (ob_v rfl rfl (r_load (lz0 3 rfl) ty_24)) (oc (ob_v rfl rfl (r_call (xs := [.tmp 39, .tmp 40]) (r13over_z (by decide) (by decide)) (.cons (vq 10 rfl) (.cons (vq 11 rfl) .nil)))) (oc (ob_a rfl rfl (a_fld (lz0 0 rfl) fld_28_1)) (oc (ob_v rfl rfl (r_loadf 13 rfl (by kernel_rfl) trivial (lz0 0 rfl) (Sub.part 1 rfl rfl) ty_26)) (oc (ob_v rfl rfl (r_load (lz0 3 rfl) ty_24)) (oc (ob_v rfl rfl (r_call (xs := [.tmp 43, .tmp 44]) (r13over_z (by decide) (by decide)) (.cons (vq 14 rfl) (.cons (vq 15 rfl) .nil)))) (oc (ob_a rfl rfl (a_fld (lz0 0 rfl) fld_28_2)) (oc (ob_v rfl rfl (r_loadf 17 rfl (by kernel_rfl) trivial (lz0 0 rfl) (Sub.part 2 rfl rfl) ty_26)) (oc (ob_v rfl rfl (r_load (lz0 3 rfl) ty_24)) (oc (ob_v rfl rfl (r_call (xs := [.tmp 47, .tmp 48]) (r13over_z (by decide) (by decide)) (.cons (vq 18 rfl) (.cons (vq 19 rfl) .nil)))) (oc (ob_a rfl rfl (a_fld (lz0 0 rfl) fld_28_3)) (oc (ob_v rfl rfl (r_loadf 21 rfl (by kernel_rfl) trivial (lz0 0 rfl) (Sub.part 3 rfl rfl) ty_26)) (oc (ob_v rfl rfl (r_load (lz0 3 rfl) ty_24)) (oc (ob_v rfl rfl (r_call (xs := [.tmp 51, .tmp 52]) (r13over_z (by decide) (by decide)) (.cons (vq 22 rfl) (.cons (vq 23 rfl) .nil)))) (oc (ob_v rfl rfl (r_load (lz0 3 rfl) ty_24)) (oc (ob_v rfl rfl (r_build (xs := [(0, .tmp 32), (1, .tmp 36), (2, .tmp 37), (3, .tmp 41), (4, .tmp 45), (5, .tmp 49), (6, .tmp 53), (7, .tmp 54)]) (qs := [(0, _), (1, _), (2, _), (3, _), (4, _), (5, _), (6, _), (7, _)]) str_walk (.cons ⟨rfl, (vq 3 rfl), rfl⟩ (.cons ⟨rfl, (vq 7 rfl), rfl⟩ (.cons ⟨rfl, (vq 8 rfl), rfl⟩ (.cons ⟨rfl, (vq 12 rfl), rfl⟩ (.cons ⟨rfl, (vq 16 rfl), rfl⟩ (.cons ⟨rfl, (vq 20 rfl), rfl⟩ (.cons ⟨rfl, (vq 24 rfl), rfl⟩ (.cons ⟨rfl, (vq 25 rfl), rfl⟩ .nil)))))))))) (oc (ob_sto rfl rfl rfl (vq 26 rfl) ty_81 (Eq.trans (b := 16) rfl rfl)) o0)))))))))))))))))))))))))))) (by kernel_rfl) (by kernel_rfl) (by kernel_rfl) (by kernel_rfl) (fun a w hst => ?_)
  have hst : St B w0 56 [] [⟨2, 28, ptrH, _⟩, ⟨3, 30, ptrH, _⟩, ⟨4, 81, ptrH, _⟩, ⟨5, 24, ptrH, _⟩, ⟨6, 24, ptrH, _⟩] a w := hst
  refine thn_normal ?_
  refine wp_ret ?_
  refine ret_wk ?_ (ret_cell rfl hst (List.mem_of_getElem? (i := 2) rfl) ty_81)
  exact (cat_wk (.cons (za_mono (by omega)) (.cons (za_mono (by omega)) (.cons (za_mono (by omega)) (.cons (za_mono (by omega)) (.cons (za_mono (by omega)) (.cons (za_mono (by omega)) (.cons (za_mono (by omega)) (.cons (za_mono (by omega)) .nil))))))))).va

set_option maxRecDepth 100000 in
theorem r13next_c {k j : Nat} {p : Int × Int} {d : Int} {m : I4} {q : Int} (hk : k ≤ 400000000) (hj : j ≤ 400000000) : Cn Tryz.prog 52 [(WkA8 k j p d m q).va] ((WkA8 (k + j + 1) j (stepI m p) (d * q) m q).va) := by
  refine Cn.intro Tryz.func52 rfl (by kernel_rfl) nq (fun B w0 a hst => ?_)
  have hst : St B w0 36 [(0, (WkA8 k j p d m q).va)] [] a w0.w := hst
  refine wp_seq ?_
  refine gl (sts := []) (news := [⟨1, 81, ptrH, some 0, _, none⟩, ⟨2, 81, ptrH, some 1, _, none⟩]) (sp := [.alc 0, .alc 1]) [] hst (oc (ob_box rfl rfl rfl (gq 0 rfl)) (oc (ob_alc rfl rfl rfl (Str.zero str_walk)) o0)) (fun a w hst => ?_)
  have hst : St B w0 36 [] [⟨1, 81, ptrH, _⟩, ⟨2, 81, ptrH, _⟩] a w := hst
  refine thn_normal ?_
  refine wp_seq ?_
  refine gl (sts := [none, none]) (news := [⟨3, 81, ptrH, some 1, _, some (2, _)⟩]) (sp := [.val 4 _, .alc 2, .sto 2]) [] hst (oc (ob_v rfl rfl (r_load (lz0 0 rfl) ty_81)) (oc (ob_alc rfl rfl rfl (Str.zero str_walk)) (oc (ob_sto rfl rfl rfl (vq 0 rfl) ty_81 (Eq.trans (b := 16) rfl rfl)) o0))) (fun a w hst => ?_)
  have hst : St B w0 36 [] [⟨1, 81, ptrH, _⟩, ⟨2, 81, ptrH, _⟩, ⟨3, 81, ptrH, _⟩] a w := hst
  refine thn_normal ?_
  refine wp_seq ?_
  refine go_draw (anc := [[], [0], [], [2], [0, 1, 2, 3], [], [5], [], [7], [0, 1, 2, 3, 4, 5, 6, 7, 8], [0, 1, 2, 3, 4, 5, 6, 7, 8, 9], [0, 1, 2, 3, 4, 5, 6, 7, 8, 9, 10], [0, 1, 2, 3, 4, 5, 6, 7, 8, 9, 10, 11]]) (sts := [none, none, some (12, _)]) (news := []) (sp := [.adr 5 1 (.some 6) True, .val 6 _, .adr 7 1 (.some 0) True, .val 8 _, .val 9 _, .adr 10 1 (.some 8) True, .val 11 _, .adr 12 1 (.some 2) True, .val 13 _, .val 14 _, .val 15 _, .adr 16 3 (.some 0) True, .sto 2]) [] follows_mixed hst (oc (ob_a rfl rfl (a_fld (lz0 0 rfl) fld_81_3)) (oc (ob_v rfl rfl (r_loadf 0 rfl (by kernel_rfl) trivial (lz0 0 rfl) (Sub.part 3 rfl rfl) ty_24)) (oc (ob_a rfl rfl (a_fld (lz0 0 rfl) fld_81_0)) (oc (ob_v rfl rfl (r_loadf 2 rfl (by kernel_rfl) trivial (lz0 0 rfl) (Sub.part 0 rfl rfl) ty_24)) (oc (ob_v rfl rfl (r_call (xs := [.tmp 6, .tmp 8]) (rtimes_z (by omega) (by omega)) (.cons (vq 1 rfl) (.cons (vq 3 rfl) .nil)))) (oc (ob_a rfl rfl (a_fld (lz0 0 rfl) fld_81_4)) (oc (ob_v rfl rfl (r_loadf 5 rfl (by kernel_rfl) trivial (lz0 0 rfl) (Sub.part 4 rfl rfl) ty_24)) (oc (ob_a rfl rfl (a_fld (lz0 0 rfl) fld_81_1)) (oc (ob_v rfl rfl (r_loadf 7 rfl (by kernel_rfl) trivial (lz0 0 rfl) (Sub.part 1 rfl rfl) ty_24)) (oc (ob_v rfl rfl (r_call (xs := [.tmp 11, .tmp 13]) (rtimes_z (by omega) (by omega)) (.cons (vq 6 rfl) (.cons (vq 8 rfl) .nil)))) (oc (ob_v rfl rfl (r_call (xs := [.tmp 9, .tmp 14]) (rplus_z (by omega) (by omega)) (.cons (vq 4 rfl) (.cons (vq 9 rfl) .nil)))) (oc (ob_a rfl rfl (a_fld (lz0 2 rfl) fld_81_0)) (oc (ob_stof 11 rfl rfl rfl rfl (by kernel_rfl) (vq 10 rfl) ty_24 (Put.part 0 rfl rfl rfl)) o0))))))))))))) (by kernel_rfl) (by kernel_rfl) (by kernel_rfl) (by kernel_rfl) (fun a w hst => ?_)
  have hst : St B w0 36 [] [⟨1, 81, ptrH, _⟩, ⟨2, 81, ptrH, _⟩, ⟨3, 81, ptrH, _⟩] a w := hst
  refine thn_normal ?_
  refine wp_seq ?_
  refine go_draw (anc := [[], [0], [], [2], [0, 1, 2, 3], [], [5], [], [7], [0, 1, 2, 3, 4, 5, 6, 7, 8], [0, 1, 2, 3, 4, 5, 6, 7, 8, 9], [0, 1, 2, 3, 4, 5, 6, 7, 8, 9, 10], [0, 1, 2, 3, 4, 5, 6, 7, 8, 9, 10, 11]]) (sts := [none, none, some (12, _)]) (news := []) (sp := [.adr 17 1 (.some 10) True, .val 18 _, .adr 19 1 (.some 0) True, .val 20 _, .val 21 _, .adr 22 1 (.some 12) True, .val 23 _, .adr 24 1 (.some 2) True, .val 25 _, .val 26 _, .val 27 _, .adr 28 3 (.some 2) True, .sto 2]) [] follows_mixed hst (oc (ob_a rfl rfl (a_fld (lz0 0 rfl) fld_81_5)) (oc (ob_v rfl rfl (r_loadf 0 rfl (by kernel_rfl) trivial (lz0 0 rfl) (Sub.part 5 rfl rfl) ty_24)) (oc (ob_a rfl rfl (a_fld (lz0 0 rfl) fld_81_0)) (oc (ob_v rfl rfl (r_loadf 2 rfl (by kernel_rfl) trivial (lz0 0 rfl) (Sub.part 0 rfl rfl) ty_24)) (oc (ob_v rfl rfl (r_call (xs := [.tmp 18, .tmp 20]) (rtimes_z (by omega) (by omega)) (.cons (vq 1 rfl) (.cons (vq 3 rfl) .nil)))) (oc (ob_a rfl rfl (a_fld (lz0 0 rfl) fld_81_6)) (oc (ob_v rfl rfl (r_loadf 5 rfl (by kernel_rfl) trivial (lz0 0 rfl) (Sub.part 6 rfl rfl) ty_24)) (oc (ob_a rfl rfl (a_fld (lz0 0 rfl) fld_81_1)) (oc (ob_v rfl rfl (r_loadf 7 rfl (by kernel_rfl) trivial (lz0 0 rfl) (Sub.part 1 rfl rfl) ty_24)) (oc (ob_v rfl rfl (r_call (xs := [.tmp 23, .tmp 25]) (rtimes_z (by omega) (by omega)) (.cons (vq 6 rfl) (.cons (vq 8 rfl) .nil)))) (oc (ob_v rfl rfl (r_call (xs := [.tmp 21, .tmp 26]) (rplus_z (by omega) (by omega)) (.cons (vq 4 rfl) (.cons (vq 9 rfl) .nil)))) (oc (ob_a rfl rfl (a_fld (lz0 2 rfl) fld_81_1)) (oc (ob_stof 11 rfl rfl rfl rfl (by kernel_rfl) (vq 10 rfl) ty_24 (Put.part 1 rfl rfl rfl)) o0))))))))))))) (by kernel_rfl) (by kernel_rfl) (by kernel_rfl) (by kernel_rfl) (fun a w hst => ?_)
  have hst : St B w0 36 [] [⟨1, 81, ptrH, _⟩, ⟨2, 81, ptrH, _⟩, ⟨3, 81, ptrH, _⟩] a w := hst
  refine thn_normal ?_
  refine wp_seq ?_
  refine gl (sts := [none, none, some (6, _)]) (news := []) (sp := [.adr 29 1 (.some 4) True, .val 30 _, .adr 31 1 (.some 14) True, .val 32 _, .val 33 _, .adr 34 3 (.some 4) True, .sto 2]) [] hst (oc (ob_a rfl rfl (a_fld (lz0 0 rfl) fld_81_2)) (oc (ob_v rfl rfl (r_loadf 0 rfl (by kernel_rfl) trivial (lz0 0 rfl) (Sub.part 2 rfl rfl) ty_24)) (oc (ob_a rfl rfl (a_fld (lz0 0 rfl) fld_81_7)) (oc (ob_v rfl rfl (r_loadf 2 rfl (by kernel_rfl) trivial (lz0 0 rfl) (Sub.part 7 rfl rfl) ty_24)) (oc (ob_v rfl rfl (r_call (xs := [.tmp 30, .tmp 32]) (rtimes_z (by omega) (by omega)) (.cons (vq 1 rfl) (.cons (vq 3 rfl) .nil)))) (oc (ob_a rfl rfl (a_fld (lz0 2 rfl) fld_81_2)) (oc (ob_stof 5 rfl rfl rfl rfl (by kernel_rfl) (vq 4 rfl) ty_24 (Put.part 2 rfl rfl rfl)) o0))))))) (fun a w hst => ?_)
  have hst : St B w0 36 [] [⟨1, 81, ptrH, _⟩, ⟨2, 81, ptrH, _⟩, ⟨3, 81, ptrH, _⟩] a w := hst
  refine thn_normal ?_
  refine wp_seq ?_
  refine gl (sts := [none, some (1, _), none]) (news := []) (sp := [.val 35 _, .sto 1]) [] hst (oc (ob_v rfl rfl (r_load (lz0 2 rfl) ty_81)) (oc (ob_sto rfl rfl rfl (vq 0 rfl) ty_81 (Eq.trans (b := 16) rfl rfl)) o0)) (fun a w hst => ?_)
  have hst : St B w0 36 [] [⟨1, 81, ptrH, _⟩, ⟨2, 81, ptrH, _⟩, ⟨3, 81, ptrH, _⟩] a w := hst
  refine thn_normal ?_
  refine wp_ret ?_
  refine ret_wk ?_ (ret_cell rfl hst (List.mem_of_getElem? (i := 1) rfl) ty_81)
  exact (cat_wk (.cons (za_mono (by omega)) (.cons (za_mono (by omega)) (.cons (za_mono (by omega)) (.cons (za_mono (by omega)) (.cons (za_mono (by omega)) (.cons (za_mono (by omega)) (.cons (za_mono (by omega)) (.cons (za_mono (by omega)) .nil))))))))).va

set_option maxRecDepth 100000 in
theorem r13farther_c {k j : Nat} {p : Int × Int} {d : Int} {m : I4} {q : Int} {l : Rat} (hk : k ≤ 400000000) : Cn Tryz.prog 51 [(WkA8 k j p d m q).va, Qs 2048 l] (Bo (farO l p d)) := by
  refine Cn.intro Tryz.func51 rfl (by kernel_rfl) nq (fun B w0 a hst => ?_)
  have hst : St B w0 29 [(0, (WkA8 k j p d m q).va), (1, Qs 2048 l)] [] a w0.w := hst
  refine wp_seq ?_
  refine gl (sts := []) (news := [⟨2, 81, ptrH, some 0, _, none⟩, ⟨3, 26, ptrH, some 1, _, none⟩]) (sp := [.alc 0, .alc 1, .val 4 _]) [.o 2] hst (oc (ob_box rfl rfl rfl (gq 0 rfl)) (oc (ob_box rfl rfl rfl (gq 1 rfl)) (oc (ob_v rfl rfl (r_assign has_bo)) o0))) (fun a w hst => ?_)
  have hst : St B w0 29 [(4, _)] [⟨2, 81, ptrH, _⟩, ⟨3, 26, ptrH, _⟩] a w := hst
  refine thn_normal ?_
  refine wp_seq ?_
  refine gl (sts := [none, none]) (news := [⟨5, 24, ptrH, some 5, _, some (6, _)⟩]) (sp := [.adr 6 3 (.some 0) True, .val 7 _, .adr 8 2 (.some 4) True, .val 9 _, .val 10 _, .alc 2, .sto 2]) [.g 0] hst (oc (ob_a rfl rfl (a_fld (lz0 1 rfl) fld_26_0)) (oc (ob_v rfl rfl (r_loadf 0 rfl (by kernel_rfl) trivial (lz0 1 rfl) (Sub.part 0 rfl rfl) ty_24)) (oc (ob_a rfl rfl (a_fld (lz0 0 rfl) fld_81_2)) (oc (ob_v rfl rfl (r_loadf 2 rfl (by kernel_rfl) trivial (lz0 0 rfl) (Sub.part 2 rfl rfl) ty_24)) (oc (ob_v rfl rfl (r_call (xs := [.tmp 7, .tmp 9]) (rtimes_z (by omega) (by omega)) (.cons (vq 1 rfl) (.cons (vq 3 rfl) .nil)))) (oc (ob_alc rfl rfl rfl (Str.zero str_int)) (oc (ob_sto rfl rfl rfl (vq 4 rfl) ty_24 (Eq.trans (b := 2) rfl rfl)) o0))))))) (fun a w hst => ?_)
  have hst : St B w0 29 [(4, _)] [⟨2, 81, ptrH, _⟩, ⟨3, 26, ptrH, _⟩, ⟨5, 24, ptrH, _⟩] a w := hst
  refine thn_normal ?_
  refine wp_seq ?_
  refine go_draw (anc := [[], [], [1], [1, 2], [], [4], [1, 2, 3, 4, 5], [0, 1, 2, 3, 4, 5, 6], [0, 1, 2, 3, 4, 5, 6, 7], [0, 1, 2, 3, 4, 5, 6, 7, 8], [0, 1, 2, 3, 4, 5, 6, 7, 8], [0, 1, 2, 3, 4, 5, 6, 7, 8, 10], [0, 1, 2, 3, 4, 5, 6, 7, 8, 10, 11], [0, 1, 2, 3, 4, 5, 6, 7, 8], [0, 1, 2, 3, 4, 5, 6, 7, 8, 13], [0, 1, 2, 3, 4, 5, 6, 7, 8, 10, 11, 12, 13, 14], [0, 1, 2, 3, 4, 5, 6, 7, 8, 9, 10, 11, 12, 13, 14, 15], [0, 1, 2, 3, 4, 5, 6, 7, 8, 9, 10, 11, 12, 13, 14, 15, 16], [0, 1, 2, 3, 4, 5, 6, 7, 8, 9, 10, 11, 12, 13, 14, 15, 16, 17]]) (sts := [none, none, none]) (news := []) (sp := [.val 11 _, .adr 12 2 (.some 0) True, .val 13 _, .val 14 _, .adr 15 3 (.some 2) True, .val 16 _, .val 17 _, .val 18 _, .val 19 _, .val 20 (Wh (_ = false) _), .adr 21 2 (.some 2) (_ = false), .val 22 (Wh (_ = false) _), .val 23 (Wh (_ = false) _), .adr 24 3 (.some 2) (_ = false), .val 25 (Wh (_ = false) _), .val 26 (Wh (_ = false) _), .val 27 (Wh (_ = false) _), .val 28 _, .val 4 _]) [.o 18] follows_mixed hst (oc (ob_v rfl rfl (r_load (lz0 2 rfl) ty_24)) (oc (ob_a rfl rfl (a_fld (lz0 0 rfl) fld_81_0)) (oc (ob_v rfl rfl (r_loadf 1 rfl (by kernel_rfl) trivial (lz0 0 rfl) (Sub.part 0 rfl rfl) ty_24)) (oc (ob_v rfl rfl (r_call (xs := [.tmp 13]) rsize_z (.cons (vq 2 rfl) .nil))) (oc (ob_a rfl rfl (a_fld (lz0 1 rfl) fld_26_1)) (oc (ob_v rfl rfl (r_loadf 4 rfl (by kernel_rfl) trivial (lz0 1 rfl) (Sub.part 1 rfl rfl) ty_24)) (oc (ob_v rfl rfl (r_call (xs := [.tmp 14, .tmp 16]) (rtimes_z (by omega) (by omega)) (.cons (vq 3 rfl) (.cons (vq 5 rfl) .nil)))) (oc (ob_v rfl rfl (r_call (xs := [.tmp 11, .tmp 17]) rbelow_z (.cons (vq 0 rfl) (.cons (vq 6 rfl) .nil)))) (oc (ob_v rfl rfl (r_move (vq 7 rfl))) (oc (ob_gd rfl rfl rfl (vq 8 rfl) nq (fun hg => r_load (lz0 2 rfl) ty_24)) (oc (ob_ag rfl rfl rfl (vq 8 rfl) nq (fun hg => a_fld (lz0 0 rfl) fld_81_1)) (oc (ob_gd rfl rfl rfl (vq 8 rfl) nq (fun hg => r_loadf 10 rfl (by kernel_rfl) hg (lz0 0 rfl) (Sub.part 1 rfl rfl) ty_24)) (oc (ob_gd rfl rfl rfl (vq 8 rfl) nq (fun hg => r_call (xs := [.tmp 22]) rsize_z (.cons (has_wh (vq 11 rfl) hg) .nil))) (oc (ob_ag rfl rfl rfl (vq 8 rfl) nq (fun hg => a_fld (lz0 1 rfl) fld_26_1)) (oc (ob_gd rfl rfl rfl (vq 8 rfl) nq (fun hg => r_loadf 13 rfl (by kernel_rfl) hg (lz0 1 rfl) (Sub.part 1 rfl rfl) ty_24)) (oc (ob_gd rfl rfl rfl (vq 8 rfl) nq (fun hg => r_call (xs := [.tmp 23, .tmp 25]) (rtimes_z (by omega) (by omega)) (.cons (has_wh (vq 12 rfl) hg) (.cons (has_wh (vq 14 rfl) hg) .nil)))) (oc (ob_gd rfl rfl rfl (vq 8 rfl) nq (fun hg => r_call (xs := [.tmp 20, .tmp 26]) rbelow_z (.cons (has_wh (vq 9 rfl) hg) (.cons (has_wh (vq 15 rfl) hg) .nil)))) (oc (ob_v rfl rfl (r_or (vq 8 rfl) (vq 16 rfl))) (oc (ob_v rfl rfl (r_assign (vq 17 rfl))) o0))))))))))))))))))) (by kernel_rfl) (by kernel_rfl) (by kernel_rfl) (by kernel_rfl) (fun a w hst => ?_)
  have hst : St B w0 29 [(4, _)] [⟨2, 81, ptrH, _⟩, ⟨3, 26, ptrH, _⟩, ⟨5, 24, ptrH, _⟩] a w := hst
  refine thn_normal ?_
  refine wp_ret ?_
  refine ret_wk ?_ (ret_tmp rfl hst (List.mem_of_getElem? (i := 0) rfl))
  exact wk_eq (congrArg Bo (by rw [far_e, far_e]; rfl))

set_option maxRecDepth 100000 in
theorem r13fine_c (m : RM) (r : RR) : Cn Tryz.prog 48 [(RMA m).va, (RRA r).va] (Bo (fiO m r)) := by
  refine Cn.intro Tryz.func48 rfl (by kernel_rfl) nq (fun B w0 a hst => ?_)
  have hst : St B w0 12 [(0, (RMA m).va), (1, (RRA r).va)] [] a w0.w := hst
  refine wp_seq ?_
  refine gl (sts := []) (news := [⟨2, 28, ptrH, some 0, _, none⟩, ⟨3, 30, ptrH, some 1, _, none⟩]) (sp := [.alc 0, .alc 1, .val 4 _]) [.o 2] hst (oc (ob_box rfl rfl rfl (gq 0 rfl)) (oc (ob_box rfl rfl rfl (gq 1 rfl)) (oc (ob_v rfl rfl (r_assign has_bo)) o0))) (fun a w hst => ?_)
  have hst : St B w0 12 [(4, _)] [⟨2, 28, ptrH, _⟩, ⟨3, 30, ptrH, _⟩] a w := hst
  refine thn_normal ?_
  refine wp_seq ?_
  refine gl (sts := [none, none]) (news := []) (sp := [.val 5 _, .val 6 _, .val 7 _, .val 8 _, .val 9 (Wh (_ = true) _), .val 10 (Wh (_ = true) _), .val 11 _, .val 4 _]) [.o 7] hst (oc (ob_v rfl rfl (r_load (lz0 0 rfl) ty_28)) (oc (ob_v rfl rfl (r_call (xs := [.tmp 5]) (r9check_c m) (.cons (vq 0 rfl) .nil))) (oc (ob_v rfl rfl (r_eql (vq 1 rfl) has_num)) (oc (ob_v rfl rfl (r_move (vq 2 rfl))) (oc (ob_gd rfl rfl rfl (vq 3 rfl) nq (fun hg => r_load (lz0 1 rfl) ty_30)) (oc (ob_gd rfl rfl rfl (vq 3 rfl) nq (fun hg => r_call (xs := [.tmp 9]) (r9mayRay_c r) (.cons (has_wh (vq 4 rfl) hg) .nil))) (oc (ob_v rfl rfl (r_and (vq 3 rfl) (vq 5 rfl))) (oc (ob_v rfl rfl (r_assign (vq 6 rfl))) o0)))))))) (fun a w hst => ?_)
  have hst : St B w0 12 [(4, _)] [⟨2, 28, ptrH, _⟩, ⟨3, 30, ptrH, _⟩] a w := hst
  refine thn_normal ?_
  refine wp_ret ?_
  refine ret_wk ?_ (ret_tmp rfl hst (List.mem_of_getElem? (i := 0) rfl))
  refine wk_eq (congrArg Bo ?_); unfold fiO; cases okM m <;> simp

theorem wk8_mono {k k' j : Nat} {p : Int × Int} {d : Int} {m : I4} {q : Int} (h : k ≤ k') : WkA (WkA8 k j p d m q) (WkA8 k' j p d m q) := cat_wk (.cons (za_mono h) (.cons (za_mono h) (.cons (za_mono h) (.cons (.refl _) (.cons (.refl _) (.cons (.refl _) (.cons (.refl _) (.cons (.refl _) .nil))))))))

set_option maxRecDepth 100000 in
theorem r13leaves_c (m : RM) (r : RR) (lm : RF) : Cn Tryz.prog 15 [(RMA m).va, (RRA r).va, (RFA lm).va] (Tu [In (leO m r lm).1, In (leO m r lm).2]) := by
  refine Cn.intro Tryz.func15 rfl (by kernel_rfl) nq (fun B w0 a hst => ?_)
  have hst : St B w0 32 [(0, (RMA m).va), (1, (RRA r).va), (2, (RFA lm).va)] [] a w0.w := hst
  refine wp_seq ?_
  refine gl (sts := []) (news := [⟨3, 28, ptrH, some 0, _, none⟩, ⟨4, 30, ptrH, some 1, _, none⟩, ⟨5, 26, ptrH, some 2, _, none⟩]) (sp := [.alc 0, .alc 1, .alc 2, .val 6 _, .val 7 _]) [.o 3, .o 4] hst (oc (ob_box rfl rfl rfl (gq 0 rfl)) (oc (ob_box rfl rfl rfl (gq 1 rfl)) (oc (ob_box rfl rfl rfl (gq 2 rfl)) (oc (ob_v rfl rfl (r_assign has_num)) (oc (ob_v rfl rfl (r_assign has_num)) o0))))) (fun a w hst => ?_)
  have hst : St B w0 32 [(6, _), (7, _)] [⟨3, 28, ptrH, _⟩, ⟨4, 30, ptrH, _⟩, ⟨5, 26, ptrH, _⟩] a w := hst
  refine thn_normal ?_
  refine wp_seq ?_
  refine wp_seq ?_
  refine gl (sts := [none, none, none]) (news := []) (sp := [.val 10 _, .val 11 _, .val 12 _, .val 13 _, .val 14 _, .val 15 (Wh (_ = false) _), .val 16 (Wh (_ = false) _), .val 17 (Wh (_ = false) _), .val 18 _]) [.g 0, .g 1, .o 8] hst (oc (ob_v rfl rfl (r_load (lz0 0 rfl) ty_28)) (oc (ob_v rfl rfl (r_load (lz0 1 rfl) ty_30)) (oc (ob_v rfl rfl (r_call (xs := [.tmp 10, .tmp 11]) (r13fine_c m r) (.cons (vq 0 rfl) (.cons (vq 1 rfl) .nil)))) (oc (ob_v rfl rfl (r_not (vq 2 rfl))) (oc (ob_v rfl rfl (r_move (vq 3 rfl))) (oc (ob_gd rfl rfl rfl (vq 4 rfl) nq (fun hg => r_load (lz0 2 rfl) ty_26)) (oc (ob_gd rfl rfl rfl (vq 4 rfl) nq (fun hg => r_call (xs := [.tmp 15]) (r2check_x lm) (.cons (has_wh (vq 5 rfl) hg) .nil))) (oc (ob_gd rfl rfl rfl (vq 4 rfl) nq (fun hg => r_neq (has_wh (vq 6 rfl) hg) has_num)) (oc (ob_v rfl rfl (r_or (vq 4 rfl) (vq 7 rfl))) o0))))))))) (fun a w hst => ?_)
  have hst : St B w0 32 [(6, _), (7, _), (18, _)] [⟨3, 28, ptrH, _⟩, ⟨4, 30, ptrH, _⟩, ⟨5, 26, ptrH, _⟩] a w := hst
  refine thn_normal ?_
  refine cond_of hst (List.mem_of_getElem? (i := 2) rfl) (fun hb0 => ?_) (fun hb0 => ?_)
  · refine wp_seq ?_
    refine gl (sts := [none, none, none]) (news := []) (sp := [.val 6 _, .val 7 _]) [.o 0, .o 1] hst (oc (ob_v rfl rfl (r_assign has_num)) (oc (ob_v rfl rfl (r_assign has_num)) o0)) (fun a w hst => ?_)
    have hst : St B w0 32 [(6, _), (7, _)] [⟨3, 28, ptrH, _⟩, ⟨4, 30, ptrH, _⟩, ⟨5, 26, ptrH, _⟩] a w := hst
    refine thn_normal ?_
    refine wp_ret ?_
    refine thn_ret ?_
    refine ret_wk ?_ (ret_many (rs := [.tmp 6, .tmp 7]) rfl hst (.tmp (List.mem_of_getElem? (i := 0) rfl) (.tmp (List.mem_of_getElem? (i := 1) rfl) .nil)) (by decide))
    rw [le_no hb0]; exact wk_id
  · have hin := le_in hb0
    have hok := fiO_ok (m := m) (r := r) (by rw [hin.1]; rfl)
    have hst := St.wkL hst 0 rfl (qm_x (okM_q hok.1).1)
    have hst := St.wkL hst 1 rfl (qr_x hok.2)
    have hst := St.wkL hst 2 rfl (qa_x hin.2 (Nat.le_refl _))
    refine wp_skip ?_
    refine thn_normal ?_
    refine wp_seq ?_
    refine gl (sts := [none, none, none]) (news := [⟨8, 81, ptrH, some 3, _, some (4, _)⟩]) (sp := [.val 19 _, .val 20 _, .val 21 _, .alc 3, .sto 3]) [.g 0, .g 1] hst (oc (ob_v rfl rfl (r_load (lz0 0 rfl) ty_28)) (oc (ob_v rfl rfl (r_load (lz0 1 rfl) ty_30)) (oc (ob_v rfl rfl (r_call (xs := [.tmp 19, .tmp 20]) (r13begin_c (toM m) (toY r)) (.cons (vq 0 rfl) (.cons (vq 1 rfl) .nil)))) (oc (ob_alc rfl rfl rfl (Str.zero str_walk)) (oc (ob_sto rfl rfl rfl (vq 2 rfl) ty_81 (Eq.trans (b := 16) rfl rfl)) o0))))) (fun a w hst => ?_)
    have hst : St B w0 32 [(6, _), (7, _)] [⟨3, 28, ptrH, _⟩, ⟨4, 30, ptrH, _⟩, ⟨5, 26, ptrH, _⟩, ⟨8, 81, ptrH, _⟩] a w := hst
    refine thn_normal ?_
    refine wp_seq ?_
    refine wp_seq ?_
    refine gl (sts := [none, none, none, none]) (news := []) (sp := [.val 9 _]) [.g 0, .g 1, .o 0] hst (oc (ob_v rfl rfl (r_assign has_num)) o0) (fun a w hst => ?_)
    have hst : St B w0 32 [(6, _), (7, _), (9, _)] [⟨3, 28, ptrH, _⟩, ⟨4, 30, ptrH, _⟩, ⟨5, 26, ptrH, _⟩, ⟨8, 81, ptrH, _⟩] a w := hst
    refine thn_normal ?_
    refine wp_block ?_
    have hst := St.sel hst [2]
    refine wp_loop_ghost (fun n a w => ∃ j : Nat, (n + j = 4097 ∧ ∀ i, i < j → farK m r lm i = false) ∧ St B w0 32 [(9, In (j : Nat))] [⟨3, 28, ptrH, QMA 2048 (toM m)⟩, ⟨4, 30, ptrH, QRA 2048 (toY r)⟩, ⟨5, 26, ptrH, QA 2048 (toQ lm)⟩, ⟨8, 81, ptrH, WkA8 (10242 + 20485 * j) 10242 (wkL (mI (toM m)) (rI (toY r)) j) (wkD (mq (toM m)) (rq (toY r)) j) (mI (toM m)) (mq (toM m))⟩] a w) (4097) ?_ ?_
    · exact ⟨0, ⟨by omega, fun i hi => absurd hi (Nat.not_lt_zero _)⟩, hst⟩
    intro n a w hI
    obtain ⟨j, ⟨hn, hno⟩, hst⟩ := hI
    refine wp_seq ?_
    refine wp_seq ?_
    refine gl (sts := [none, none, none, none]) (news := []) (sp := [.val 22 _, .val 23 _]) [.g 0, .o 1] hst (oc (ob_v rfl rfl (r_move (gq 0 rfl))) (oc (ob_v rfl rfl (r_leq (vq 0 rfl) has_num)) o0)) (fun a w hst => ?_)
    have hst : St B w0 32 [(9, _), (23, _)] [⟨3, 28, ptrH, _⟩, ⟨4, 30, ptrH, _⟩, ⟨5, 26, ptrH, _⟩, ⟨8, 81, ptrH, _⟩] a w := hst
    refine thn_normal ?_
    refine cond_of hst (List.mem_of_getElem? (i := 1) rfl) (fun hb1 => ?_) (fun hb1 => ?_)
    · have hj : j ≤ 4096 := by have := of_decide_eq_true hb1; omega
      refine wp_skip ?_
      refine thn_normal ?_
      refine wp_seq ?_
      refine wp_block ?_
      refine wp_seq ?_
      refine wp_seq ?_
      refine gl (sts := [none, none, none, none]) (news := []) (sp := [.val 26 _, .val 27 _, .val 28 _]) [.g 0, .o 2] hst (oc (ob_v rfl rfl (r_load (lz0 3 rfl) ty_81)) (oc (ob_v rfl rfl (r_load (lz0 2 rfl) ty_26)) (oc (ob_v rfl rfl (r_call (xs := [.tmp 26, .tmp 27]) (r13farther_c (by omega)) (.cons (vq 0 rfl) (.cons (vq 1 rfl) .nil)))) o0))) (fun a w hst => ?_)
      have hst : St B w0 32 [(9, _), (28, _)] [⟨3, 28, ptrH, _⟩, ⟨4, 30, ptrH, _⟩, ⟨5, 26, ptrH, _⟩, ⟨8, 81, ptrH, _⟩] a w := hst
      refine thn_normal ?_
      refine cond_of hst (List.mem_of_getElem? (i := 1) rfl) (fun hb2 => ?_) (fun hb2 => ?_)
      · have hle := le_some hin (fst_some hj hno hb2)
        have hfk : fstK m r lm = j := by rw [fstK, fst_some hj hno hb2]; rfl
        refine wp_seq ?_
        refine gl (sts := [none, none, none, none]) (news := []) (sp := [.val 29 _, .val 6 _, .val 7 _]) [.g 0, .o 1, .o 2] hst (oc (ob_v rfl rfl (r_move (gq 0 rfl))) (oc (ob_v rfl rfl (r_assign (vq 0 rfl))) (oc (ob_v rfl rfl (r_assign has_num)) o0))) (fun a w hst => ?_)
        have hst : St B w0 32 [(9, _), (6, _), (7, _)] [⟨3, 28, ptrH, _⟩, ⟨4, 30, ptrH, _⟩, ⟨5, 26, ptrH, _⟩, ⟨8, 81, ptrH, _⟩] a w := hst
        refine thn_normal ?_
        refine wp_ret ?_
        refine thn_ret ?_
        refine blk_ret ?_
        refine thn_ret ?_
        refine thn_ret ?_
        refine blk_ret ?_
        refine thn_ret ?_
        refine ret_wk ?_ (ret_many (rs := [.tmp 6, .tmp 7]) rfl hst (.tmp (List.mem_of_getElem? (i := 1) rfl) (.tmp (List.mem_of_getElem? (i := 2) rfl) .nil)) (by decide))
        rw [hle, hfk]; exact wk_id
      · refine wp_skip ?_
        refine thn_normal ?_
        refine gl (sts := [none, none, none, some (2, _)]) (news := []) (sp := [.val 30 _, .val 31 _, .sto 3]) [.g 0] hst (oc (ob_v rfl rfl (r_load (lz0 3 rfl) ty_81)) (oc (ob_v rfl rfl (r_call (xs := [.tmp 30]) (r13next_c (by omega) (by decide)) (.cons (vq 0 rfl) .nil))) (oc (ob_sto rfl rfl rfl (vq 1 rfl) ty_81 (Eq.trans (b := 16) rfl rfl)) o0))) (fun a w hst => ?_)
        have hst : St B w0 32 [(9, _)] [⟨3, 28, ptrH, _⟩, ⟨4, 30, ptrH, _⟩, ⟨5, 26, ptrH, _⟩, ⟨8, 81, ptrH, _⟩] a w := hst
        refine blk_normal ?_
        refine thn_normal ?_
        refine gl (sts := [none, none, none, none]) (news := []) (sp := [.val 24 _, .val 25 _, .val 9 _]) [.o 2] hst (oc (ob_v rfl rfl (r_move (gq 0 rfl))) (oc (ob_v rfl rfl (r_add (vq 0 rfl) has_num ((wi64 (by omega) (by omega)).trans (by omega : (_ : Int) = ((j + 1 : Nat) : Int))))) (oc (ob_v rfl rfl (r_assign (vq 1 rfl))) o0))) (fun a w hst => ?_)
        have hst : St B w0 32 [(9, _)] [⟨3, 28, ptrH, _⟩, ⟨4, 30, ptrH, _⟩, ⟨5, 26, ptrH, _⟩, ⟨8, 81, ptrH, _⟩] a w := hst
        refine thn_normal ?_
        have hst := St.sel hst [0]
        exact ⟨n - 1, by omega, j + 1, ⟨by omega, all_nx2 hno hb2⟩, St.wkL hst 3 rfl (wk8_mono (by omega))⟩
    · obtain rfl : j = 4097 := by have := of_decide_eq_false hb1; omega
      have hle := le_none hin hno
      refine wp_exit ?_
      refine thn_exit ?_
      refine thn_exit ?_
      refine blk_exit ?_
      refine thn_normal ?_
      refine wp_seq ?_
      refine gl (sts := [none, none, none, none]) (news := []) (sp := [.val 6 _, .val 7 _]) [.o 0, .o 1] hst (oc (ob_v rfl rfl (r_assign has_num)) (oc (ob_v rfl rfl (r_assign has_num)) o0)) (fun a w hst => ?_)
      have hst : St B w0 32 [(6, _), (7, _)] [⟨3, 28, ptrH, _⟩, ⟨4, 30, ptrH, _⟩, ⟨5, 26, ptrH, _⟩, ⟨8, 81, ptrH, _⟩] a w := hst
      refine thn_normal ?_
      refine wp_ret ?_
      refine ret_wk ?_ (ret_many (rs := [.tmp 6, .tmp 7]) rfl hst (.tmp (List.mem_of_getElem? (i := 0) rfl) (.tmp (List.mem_of_getElem? (i := 1) rfl) .nil)) (by decide))
      rw [hle]; exact wk_id

end Go.Proofs.YtmghfjcjcfaagaaGreat
