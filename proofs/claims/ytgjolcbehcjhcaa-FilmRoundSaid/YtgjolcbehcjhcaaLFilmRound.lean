/- FilmRound: for all ends and sheets the law of chapter 18 on the film the other way round, and on ends without a film, answers true. No condition. -/
import Derived.Test.YtgjolcbehcjhcaaFilG
import Derived.Test.YtgjolcbehcjhcaaMatC
import Derived.Test.YtgjolcbehcjhcaaRows
import Derived.WalkKit
import Derived.ProofKit
import Derived.OpenShut
import Derived.ShutString
import Derived.ChangeOld
import Derived.Below
namespace Go.Proofs.Ytgjolcbehcjhcaa
open Go Go.RowKit
namespace LFilmRound
theorem fld_80_0 : Fld Try.prog 80 0 0 4 := ⟨_, _, Try.underlying80, rfl, rfl, by kernel_rfl, by decide⟩
theorem fld_80_1 : Fld Try.prog 80 1 4 4 := ⟨_, _, Try.underlying80, rfl, rfl, by kernel_rfl, by decide⟩
theorem sl_111 : Sl Try.prog 111 26 4 := ⟨by kernel_rfl, by kernel_rfl⟩
theorem sl_77 : Sl Try.prog 77 96 8 := ⟨by kernel_rfl, by kernel_rfl⟩
theorem ty_26 : Ty Try.prog 26 4 true := ⟨by kernel_rfl, by kernel_rfl⟩
theorem ty_80 : Ty Try.prog 80 8 true := ⟨by kernel_rfl, by kernel_rfl⟩
theorem ty_96 : Ty Try.prog 96 8 true := ⟨by kernel_rfl, by kernel_rfl⟩
end LFilmRound
open LFilmRound
theorem nd_self {A : As} {D : List TypeId} (h : (A.deps.all fun T => D.contains T) = true) : ∀ T ∈ A.deps, T ∈ D := fun T hT => by
  have := List.all_eq_true.1 h T hT
  simpa using this
theorem bo_and {c : Bool} (h : c = true) : Wk (Bo (c && true)) (Bo true) := by subst h; exact wk_id
theorem bo_t {c : Bool} (h : c = true) : Wk (Bo c) (Bo true) := by subst h; exact wk_id
theorem nil_wv (h g : RF) : Cn Try.prog 58 [(RFA h).va, (RFA g).va, EqV (.slice none 0 0)] (WvR (wvF h g [])) := (wavesF_c h g []).wk (.cons wk_id (.cons wk_id (.cons nil_sl .nil)))
theorem rnd_end (a b c : RF) : (((((((0 : Int) == 0) && ((0 : Int) == 0)) && decide (a = a)) && decide (b = b)) && decide (c = c)) && (sgF (rfOf 0) == 0)) = true := by
  have e0 : sgF (rfOf 0) = 0 := by kernel_rfl
  rw [e0, decide_eq_true rfl, decide_eq_true rfl, decide_eq_true rfl]
  rfl

set_option maxRecDepth 100000 in
set_option maxHeartbeats 4000000 in
theorem round_w (h g : RF) (xs : List RR) : Cn Try.prog 10 [(RFA h).va, (RFA g).va, (SlA 96 [U32] (xs.map RRA)).va] (Bo true) := by
  obtain ⟨it, z, e1, e2, e3, e4, e5⟩ := app_sh
  refine Cn.introF Try.func10 rfl (by kernel_rfl) nq (fun B w0 a hF hst => ?_)
  have hst : St B w0 129 [(0, (RFA h).va), (1, (RFA g).va), (2, (SlA 96 [U32] (xs.map RRA)).va)] [] a w0.w := hst
  obtain ⟨v2, hv2, hst⟩ := St.eqv hst 2 rfl
  refine wp_seq ?_
  refine gl (sts := []) (news := [⟨3, 26, ptrH, some 0, _, none⟩, ⟨4, 26, ptrH, some 1, _, none⟩]) (sp := [.alc 0, .alc 1, .val 6 _]) [.g 2, .o 2] hst (oc (ob_box rfl rfl rfl (gq 0 rfl)) (oc (ob_box rfl rfl rfl (gq 1 rfl)) (oc (ob_v rfl rfl (r_assign has_bo)) o0))) (fun a w hst => ?_)
  have hst : St B w0 129 [(2, _), (6, _)] [⟨3, 26, ptrH, _⟩, ⟨4, 26, ptrH, _⟩] a w := hst
  refine thn_normal ?_
  refine wp_seq ?_
  refine wp_seq ?_
  refine gl (sts := [none, none]) (news := []) (sp := [.val 24 _, .val 25 _, .val 26 _, .val 27 _, .val 28 _, .val 29 _]) [.g 0, .g 1, .o 5] hst (oc (ob_v rfl rfl (r_move (gq 0 rfl))) (oc (ob_v rfl rfl (r_load (lz0 0 rfl) ty_26)) (oc (ob_v rfl rfl (r_load (lz0 1 rfl) ty_26)) (oc (ob_v rfl rfl (r_slice (D := [U32]) (l := [_, _]) (xs := [.tmp 25, .tmp 26]) (nd_ok (by kernel_rfl)) sl_111 (by kernel_rfl) (n_ok (by kernel_rfl)) nq nq nq (.cons (vq 1 rfl) (.cons (vq 2 rfl) .nil)) rfl rfl)) (oc (ob_v rfl rfl (r_call (xs := [.tmp 24, .tmp 27]) (small18_c xs [_, _]) (.cons (has_again hF hv2 (vq 0 rfl)) (.cons (vq 3 rfl) .nil)))) (oc (ob_v rfl rfl (r_not (vq 4 rfl))) o0)))))) (fun a w hst => ?_)
  have hst : St B w0 129 [(2, _), (6, _), (29, _)] [⟨3, 26, ptrH, _⟩, ⟨4, 26, ptrH, _⟩] a w := hst
  refine thn_normal ?_
  refine cond_of hst (List.mem_of_getElem? (i := 2) rfl) (fun hb0 => ?_) (fun hb0 => ?_)
  · refine wp_seq ?_
    refine gl (sts := [none, none]) (news := []) (sp := [.val 30 _, .val 6 _]) [.g 0, .o 1] hst (oc (ob_v rfl rfl (r_call (xs := []) alive18_c .nil)) (oc (ob_v rfl rfl (r_assign (vq 0 rfl))) o0)) (fun a w hst => ?_)
    have hst : St B w0 129 [(2, _), (6, _)] [⟨3, 26, ptrH, _⟩, ⟨4, 26, ptrH, _⟩] a w := hst
    refine thn_normal ?_
    refine wp_ret ?_
    refine thn_ret ?_
    refine ret_wk ?_ (ret_tmp rfl hst (List.mem_of_getElem? (i := 1) rfl))
    exact wk_id
  · have hs : sm18 xs [h, g] = true := by simpa using hb0
    have h64 : xs.length ≤ 64 := by unfold sm18 at hs; rw [Bool.and_eq_true] at hs; have := of_decide_eq_true hs.2; omega
    refine wp_skip ?_
    refine thn_normal ?_
    refine wp_seq ?_
    refine gl (sts := [none, none]) (news := []) (sp := [.val 7 _]) [.g 0, .g 1, .o 0] hst (oc (ob_v rfl rfl (r_assign has_const)) o0) (fun a w hst => ?_)
    have hst : St B w0 129 [(2, _), (6, _), (7, _)] [⟨3, 26, ptrH, _⟩, ⟨4, 26, ptrH, _⟩] a w := hst
    refine thn_normal ?_
    refine wp_seq ?_
    refine wp_seq ?_
    refine gl (sts := [none, none]) (news := []) (sp := [.val 31 _, .val 32 _, .val 33 _, .val 8 _]) [.g 0, .g 1, .g 2, .o 3] hst (oc (ob_v rfl rfl (r_move (gq 0 rfl))) (oc (ob_v rfl rfl (r_len Try.underlying77 (has_again hF hv2 (vq 0 rfl)))) (oc (ob_v rfl rfl (r_sub (vq 1 rfl) has_num ((wi64 (by rw [List.length_map]; omega) (by rw [List.length_map]; omega))))) (oc (ob_v rfl rfl (r_assign (vq 2 rfl))) o0)))) (fun a w hst => ?_)
    have hst : St B w0 129 [(2, _), (6, _), (7, _), (8, _)] [⟨3, 26, ptrH, _⟩, ⟨4, 26, ptrH, _⟩] a w := hst
    refine thn_normal ?_
    refine wp_block ?_
    have hst := St.sel hst [0, 2, 3]
    refine wp_loop_ghost (fun n a w => ∃ (j : Nat) (z1 : Int), (n + j = xs.length ∧ z1 = (n : Int) - 1) ∧ St B w0 129 [(2, EqV v2), (7, OwnR w0.w.heap.size 96 8 [U32] ((xs.reverse.take j).map RRA)), (8, In z1)] [⟨3, 26, ptrH, RFA h⟩, ⟨4, 26, ptrH, RFA g⟩] a w) (xs.length) ?_ ?_
    · rw [List.length_map] at hst
      have hst := St.wkG (A' := OwnR w0.w.heap.size 96 8 [U32] ((xs.reverse.take 0).map RRA)) hst 1 rfl own_nil
      exact ⟨0, _, ⟨by omega, rfl⟩, hst⟩
    intro n a w hI
    obtain ⟨j, z1, ⟨hn, hz⟩, hst⟩ := hI
    refine wp_seq ?_
    refine wp_seq ?_
    refine gl (sts := [none, none]) (news := []) (sp := [.val 34 _, .val 35 _]) [.g 0, .g 1, .g 2, .o 1] hst (oc (ob_v rfl rfl (r_move (gq 2 rfl))) (oc (ob_v rfl rfl (r_geq (vq 0 rfl) has_num)) o0)) (fun a w hst => ?_)
    have hst : St B w0 129 [(2, _), (7, _), (8, _), (35, _)] [⟨3, 26, ptrH, _⟩, ⟨4, 26, ptrH, _⟩] a w := hst
    refine thn_normal ?_
    refine cond_of hst (List.mem_of_getElem? (i := 3) rfl) (fun hb1 => ?_) (fun hb1 => ?_)
    · have hz0 : z1 ≥ 0 := of_decide_eq_true hb1
      obtain rfl : z1 = ((xs.length - 1 - j : Nat) : Int) := by omega
      have hj : xs.length - 1 - j < xs.length := by omega
      refine wp_skip ?_
      refine thn_normal ?_
      refine wp_seq ?_
      refine wp_block ?_
      refine go_appL (sp := [.val 38 _, .val 39 _, .val 40 _, .val 41 _, .val 42 _, .val 43 _, .val 44 VT, .val 7 VT]) 6 [0, 2] 0 5 hst (oc (ob_v rfl rfl (r_move (gq 1 rfl))) (oc (ob_v rfl rfl (r_move (gq 0 rfl))) (oc (ob_v rfl rfl (r_move (gq 2 rfl))) (oc (ob_v rfl rfl (r_idx sl_77 (map_n fun _ => rfl) (has_again hF hv2 (vq 1 rfl)) (vq 2 rfl) (map_at hj))) (oc (ob_v rfl rfl (r_loade (vq 3 rfl) ty_96)) (oc (ob_v rfl rfl (r_slice (D := [U32]) (l := [_]) (xs := [.tmp 42]) (nd_ok (by kernel_rfl)) sl_77 (by kernel_rfl) (n_ok (by kernel_rfl)) nq nq nq (.cons (vq 4 rfl) .nil) rfl rfl)) o0)))))) rfl (by kernel_rfl) rfl rfl (by decide) rfl (by decide) rfl (fun _ _ h _ => h) Try.underlying77 e1 e2 e3 e4 e5 (by decide) (by rw [List.length_map, List.length_take, List.length_reverse]; show _ + 1 ≤ _; omega) (by decide) (fun T hT => hT) (by decide) (fun A hA => by cases List.mem_singleton.1 hA; rfl) (by kernel_rfl) nq nq (by kernel_rfl) (by kernel_rfl) (fun a w hst => ?_)
      have hst : St B w0 129 [(7, _), (2, _), (8, _)] [⟨3, 26, ptrH, _⟩, ⟨4, 26, ptrH, _⟩] a w := hst
      refine blk_normal ?_
      refine thn_normal ?_
      refine gl (sts := [none, none]) (news := []) (sp := [.val 36 _, .val 37 _, .val 8 _]) [.g 0, .g 1, .o 2] hst (oc (ob_v rfl rfl (r_move (gq 2 rfl))) (oc (ob_v rfl rfl (r_sub (vq 0 rfl) has_num ((wi64 (by omega) (by omega))))) (oc (ob_v rfl rfl (r_assign (vq 1 rfl))) o0))) (fun a w hst => ?_)
      have hst : St B w0 129 [(7, _), (2, _), (8, _)] [⟨3, 26, ptrH, _⟩, ⟨4, 26, ptrH, _⟩] a w := hst
      refine thn_normal ?_
      have hst := St.sel hst [1, 0, 2]
      rw [rev_nx (by omega) (by omega)] at hst
      exact ⟨n - 1, by omega, j + 1, _, ⟨by omega, by omega⟩, hst⟩
    · have hz0 : ¬ z1 ≥ 0 := of_decide_eq_false hb1
      obtain rfl : j = xs.length := by omega
      rw [List.take_of_length_le (show xs.reverse.length ≤ xs.length by rw [List.length_reverse]; exact Nat.le_refl _)] at hst
      have hst := St.wkG hst 1 rfl own_sl
      refine wp_exit ?_
      refine thn_exit ?_
      refine thn_exit ?_
      refine blk_exit ?_
      refine thn_normal ?_
      refine wp_seq ?_
      refine gl (sts := [none, none]) (news := [⟨9, 26, ptrH, some 8, _, some (10, _)⟩, ⟨10, 26, ptrH, some 9, _, some (11, _)⟩]) (sp := [.val 46 _, .val 47 _, .val 48 _, .val 49 _, .val 45 _, .val 50 _, .val 51 _, .val 52 _, .alc 2, .alc 3, .sto 2, .sto 3, .val 11 _]) [.g 1, .o 12] hst (oc (ob_v rfl rfl (r_load (lz0 0 rfl) ty_26)) (oc (ob_v rfl rfl (r_load (lz0 1 rfl) ty_26)) (oc (ob_v rfl rfl (r_move (gq 0 rfl))) (oc (ob_v rfl rfl (r_call (xs := [.tmp 46, .tmp 47, .tmp 48]) (powers_c h g xs) (.cons (vq 0 rfl) (.cons (vq 1 rfl) (.cons (has_again hF hv2 (vq 2 rfl)) .nil))))) (oc (ob_v rfl rfl (r_move (vq 3 rfl))) (oc (ob_v rfl rfl (r_ex0 (vq 4 rfl))) (oc (ob_v rfl rfl (r_ex1 (vq 4 rfl))) (oc (ob_v rfl rfl (r_ex2 (vq 4 rfl))) (oc (ob_alc rfl rfl rfl (Str.zero str_frac)) (oc (ob_alc rfl rfl rfl (Str.zero str_frac)) (oc (ob_sto rfl rfl rfl (vq 5 rfl) ty_26 (Eq.trans (b := 4) rfl rfl)) (oc (ob_sto rfl rfl rfl (vq 6 rfl) ty_26 (Eq.trans (b := 4) rfl rfl)) (oc (ob_v rfl rfl (r_assign (vq 7 rfl))) o0))))))))))))) (fun a w hst => ?_)
      have hst : St B w0 129 [(7, _), (11, _)] [⟨3, 26, ptrH, _⟩, ⟨4, 26, ptrH, _⟩, ⟨9, 26, ptrH, _⟩, ⟨10, 26, ptrH, _⟩] a w := hst
      refine thn_normal ?_
      refine wp_seq ?_
      refine gl (sts := [none, none, none, none]) (news := [⟨12, 26, ptrH, some 8, _, some (10, _)⟩, ⟨13, 26, ptrH, some 9, _, some (11, _)⟩]) (sp := [.val 54 _, .val 55 _, .val 56 _, .val 57 _, .val 53 _, .val 58 _, .val 59 _, .val 60 _, .alc 4, .alc 5, .sto 4, .sto 5, .val 14 _]) [.g 1, .o 12] hst (oc (ob_v rfl rfl (r_load (lz0 1 rfl) ty_26)) (oc (ob_v rfl rfl (r_load (lz0 0 rfl) ty_26)) (oc (ob_v rfl rfl (r_move (gq 0 rfl))) (oc (ob_v rfl rfl (r_call (xs := [.tmp 54, .tmp 55, .tmp 56]) (powers_c g h xs.reverse) (.cons (vq 0 rfl) (.cons (vq 1 rfl) (.cons (vq 2 rfl) .nil))))) (oc (ob_v rfl rfl (r_move (vq 3 rfl))) (oc (ob_v rfl rfl (r_ex0 (vq 4 rfl))) (oc (ob_v rfl rfl (r_ex1 (vq 4 rfl))) (oc (ob_v rfl rfl (r_ex2 (vq 4 rfl))) (oc (ob_alc rfl rfl rfl (Str.zero str_frac)) (oc (ob_alc rfl rfl rfl (Str.zero str_frac)) (oc (ob_sto rfl rfl rfl (vq 5 rfl) ty_26 (Eq.trans (b := 4) rfl rfl)) (oc (ob_sto rfl rfl rfl (vq 6 rfl) ty_26 (Eq.trans (b := 4) rfl rfl)) (oc (ob_v rfl rfl (r_assign (vq 7 rfl))) o0))))))))))))) (fun a w hst => ?_)
      have hst : St B w0 129 [(11, _), (14, _)] [⟨3, 26, ptrH, _⟩, ⟨4, 26, ptrH, _⟩, ⟨9, 26, ptrH, _⟩, ⟨10, 26, ptrH, _⟩, ⟨12, 26, ptrH, _⟩, ⟨13, 26, ptrH, _⟩] a w := hst
      refine thn_normal ?_
      refine wp_seq ?_
      refine wp_seq ?_
      refine gl (sts := [none, none, none, none, none, none]) (news := []) (sp := [.val 61 _, .val 62 _, .val 63 _, .val 64 (Wh (_ = false) _), .val 65 (Wh (_ = false) _), .val 66 _]) [.g 0, .g 1, .o 5] hst (oc (ob_v rfl rfl (r_move (gq 0 rfl))) (oc (ob_v rfl rfl (r_neq (vq 0 rfl) has_num)) (oc (ob_v rfl rfl (r_move (vq 1 rfl))) (oc (ob_gd rfl rfl rfl (vq 2 rfl) nq (fun hg => r_move (gq 1 rfl))) (oc (ob_gd rfl rfl rfl (vq 2 rfl) nq (fun hg => r_neq (has_wh (vq 3 rfl) hg) has_num)) (oc (ob_v rfl rfl (r_or (vq 2 rfl) (vq 4 rfl))) o0)))))) (fun a w hst => ?_)
      have hst : St B w0 129 [(11, _), (14, _), (66, _)] [⟨3, 26, ptrH, _⟩, ⟨4, 26, ptrH, _⟩, ⟨9, 26, ptrH, _⟩, ⟨10, 26, ptrH, _⟩, ⟨12, 26, ptrH, _⟩, ⟨13, 26, ptrH, _⟩] a w := hst
      refine thn_normal ?_
      refine cond_of hst (List.mem_of_getElem? (i := 2) rfl) (fun hb2 => ?_) (fun hb2 => ?_)
      · have hr := rev_no hs
        refine wp_seq ?_
        refine gl (sts := [none, none, none, none, none, none]) (news := []) (sp := [.val 67 _, .val 68 _, .val 69 _, .val 70 _, .val 71 (Wh (_ = true) _), .val 72 _, .val 6 _]) [.o 6] hst (oc (ob_v rfl rfl (r_move (gq 0 rfl))) (oc (ob_v rfl rfl (r_move (gq 1 rfl))) (oc (ob_v rfl rfl (r_eql (vq 0 rfl) (vq 1 rfl))) (oc (ob_v rfl rfl (r_move (vq 2 rfl))) (oc (ob_gd rfl rfl rfl (vq 3 rfl) nq (fun hg => r_call (xs := []) alive18_c .nil)) (oc (ob_v rfl rfl (r_and (vq 3 rfl) (vq 4 rfl))) (oc (ob_v rfl rfl (r_assign (vq 5 rfl))) o0))))))) (fun a w hst => ?_)
        have hst : St B w0 129 [(6, _)] [⟨3, 26, ptrH, _⟩, ⟨4, 26, ptrH, _⟩, ⟨9, 26, ptrH, _⟩, ⟨10, 26, ptrH, _⟩, ⟨12, 26, ptrH, _⟩, ⟨13, 26, ptrH, _⟩] a w := hst
        refine thn_normal ?_
        refine wp_ret ?_
        refine thn_ret ?_
        refine ret_wk ?_ (ret_tmp rfl hst (List.mem_of_getElem? (i := 0) rfl))
        exact bo_and hr
      · have ho := rev_yes hb2
        have hE := ends_ok hs ho
        have ep := pw_rev hs ho
        have hst := St.cvA (A' := RFA (rfOf (rV (filmQ xs) (toQ h) (toQ g)))) hst 2 rfl (show RFA (pwF h g xs).1 = RFA (rfOf (rV (filmQ xs) (toQ h) (toQ g))) by rw [ep.1])
        have hst := St.cvA (A' := RFA (rfOf (1 - (rV (filmQ xs) (toQ h) (toQ g))))) hst 3 rfl (show RFA (pwF h g xs).2.1 = RFA (rfOf (1 - (rV (filmQ xs) (toQ h) (toQ g)))) by rw [ep.1])
        have hst := St.cvA (A' := RFA (rfOf (rV (filmQ xs) (toQ h) (toQ g)))) hst 4 rfl (show RFA (pwF g h xs.reverse).1 = RFA (rfOf (rV (filmQ xs) (toQ h) (toQ g))) by rw [ep.2])
        have hst := St.cvA (A' := RFA (rfOf (1 - (rV (filmQ xs) (toQ h) (toQ g))))) hst 5 rfl (show RFA (pwF g h xs.reverse).2.1 = RFA (rfOf (1 - (rV (filmQ xs) (toQ h) (toQ g)))) by rw [ep.2])
        refine wp_skip ?_
        refine thn_normal ?_
        refine wp_seq ?_
        refine gl (sts := [none, none, none, none, none, none]) (news := [⟨15, 80, ptrH, some 7, _, some (9, _)⟩, ⟨16, 80, ptrH, some 8, _, some (10, _)⟩]) (sp := [.val 74 _, .val 75 _, .val 76 _, .val 73 _, .val 77 _, .val 78 _, .val 79 _, .alc 6, .alc 7, .sto 6, .sto 7, .val 17 _]) [.o 11] hst (oc (ob_v rfl rfl (r_load (lz0 0 rfl) ty_26)) (oc (ob_v rfl rfl (r_load (lz0 1 rfl) ty_26)) (oc (ob_v rfl rfl (r_call (xs := [.tmp 74, .tmp 75, .const (.slice none 0 0)]) ((nil_wv h g).post (congrArg WvR hE.1)) (.cons (vq 0 rfl) (.cons (vq 1 rfl) (.cons has_const .nil))))) (oc (ob_v rfl rfl (r_move (vq 2 rfl))) (oc (ob_v rfl rfl (r_ex0 (vq 3 rfl))) (oc (ob_v rfl rfl (r_ex1 (vq 3 rfl))) (oc (ob_v rfl rfl (r_ex2 (vq 3 rfl))) (oc (ob_alc rfl rfl rfl (Str.zero str_gauss)) (oc (ob_alc rfl rfl rfl (Str.zero str_gauss)) (oc (ob_sto rfl rfl rfl (vq 4 rfl) ty_80 (Eq.trans (b := 8) rfl rfl)) (oc (ob_sto rfl rfl rfl (vq 5 rfl) ty_80 (Eq.trans (b := 8) rfl rfl)) (oc (ob_v rfl rfl (r_assign (vq 6 rfl))) o0)))))))))))) (fun a w hst => ?_)
        have hst : St B w0 129 [(17, _)] [⟨3, 26, ptrH, _⟩, ⟨4, 26, ptrH, _⟩, ⟨9, 26, ptrH, _⟩, ⟨10, 26, ptrH, _⟩, ⟨12, 26, ptrH, _⟩, ⟨13, 26, ptrH, _⟩, ⟨15, 80, ptrH, _⟩, ⟨16, 80, ptrH, _⟩] a w := hst
        refine thn_normal ?_
        refine wp_seq ?_
        refine gl (sts := [none, none, none, none, none, none, none, none]) (news := [⟨18, 26, ptrH, some 6, _, some (7, _)⟩]) (sp := [.val 81 _, .val 82 _, .val 83 _, .val 80 _, .val 84 _, .val 85 _, .alc 8, .sto 8, .val 19 _]) [.g 0] hst (oc (ob_v rfl rfl (r_load (lz0 0 rfl) ty_26)) (oc (ob_v rfl rfl (r_load (lz0 1 rfl) ty_26)) (oc (ob_v rfl rfl (r_call (xs := [.tmp 81, .tmp 82]) ((subF_c h g).post (congrArg FrR hE.2.1)) (.cons (vq 0 rfl) (.cons (vq 1 rfl) .nil)))) (oc (ob_v rfl rfl (r_move (vq 2 rfl))) (oc (ob_v rfl rfl (r_ex0 (vq 3 rfl))) (oc (ob_v rfl rfl (r_ex1 (vq 3 rfl))) (oc (ob_alc rfl rfl rfl (Str.zero str_frac)) (oc (ob_sto rfl rfl rfl (vq 4 rfl) ty_26 (Eq.trans (b := 4) rfl rfl)) (oc (ob_v rfl rfl (r_assign (vq 5 rfl))) o0))))))))) (fun a w hst => ?_)
        have hst : St B w0 129 [(17, _)] [⟨3, 26, ptrH, _⟩, ⟨4, 26, ptrH, _⟩, ⟨9, 26, ptrH, _⟩, ⟨10, 26, ptrH, _⟩, ⟨12, 26, ptrH, _⟩, ⟨13, 26, ptrH, _⟩, ⟨15, 80, ptrH, _⟩, ⟨16, 80, ptrH, _⟩, ⟨18, 26, ptrH, _⟩] a w := hst
        refine thn_normal ?_
        refine wp_seq ?_
        refine gl (sts := [none, none, none, none, none, none, none, none, none]) (news := [⟨20, 26, ptrH, some 6, _, some (7, _)⟩]) (sp := [.val 87 _, .val 88 _, .val 89 _, .val 86 _, .val 90 _, .val 91 _, .alc 9, .sto 9, .val 21 _]) [.g 0] hst (oc (ob_v rfl rfl (r_load (lz0 0 rfl) ty_26)) (oc (ob_v rfl rfl (r_load (lz0 1 rfl) ty_26)) (oc (ob_v rfl rfl (r_call (xs := [.tmp 87, .tmp 88]) ((addF_c h g).post (congrArg FrR hE.2.2.1)) (.cons (vq 0 rfl) (.cons (vq 1 rfl) .nil)))) (oc (ob_v rfl rfl (r_move (vq 2 rfl))) (oc (ob_v rfl rfl (r_ex0 (vq 3 rfl))) (oc (ob_v rfl rfl (r_ex1 (vq 3 rfl))) (oc (ob_alc rfl rfl rfl (Str.zero str_frac)) (oc (ob_sto rfl rfl rfl (vq 4 rfl) ty_26 (Eq.trans (b := 4) rfl rfl)) (oc (ob_v rfl rfl (r_assign (vq 5 rfl))) o0))))))))) (fun a w hst => ?_)
        have hst : St B w0 129 [(17, _)] [⟨3, 26, ptrH, _⟩, ⟨4, 26, ptrH, _⟩, ⟨9, 26, ptrH, _⟩, ⟨10, 26, ptrH, _⟩, ⟨12, 26, ptrH, _⟩, ⟨13, 26, ptrH, _⟩, ⟨15, 80, ptrH, _⟩, ⟨16, 80, ptrH, _⟩, ⟨18, 26, ptrH, _⟩, ⟨20, 26, ptrH, _⟩] a w := hst
        refine thn_normal ?_
        refine wp_seq ?_
        refine gl (sts := [none, none, none, none, none, none, none, none, none, none]) (news := [⟨22, 26, ptrH, some 6, _, some (7, _)⟩]) (sp := [.val 93 _, .val 94 _, .val 95 _, .val 92 _, .val 96 _, .val 97 _, .alc 10, .sto 10, .val 23 _]) [.g 0, .o 8] hst (oc (ob_v rfl rfl (r_load (lz0 8 rfl) ty_26)) (oc (ob_v rfl rfl (r_load (lz0 9 rfl) ty_26)) (oc (ob_v rfl rfl (r_call (xs := [.tmp 93, .tmp 94]) ((quoF_c (rfOf (toQ h - toQ g)) (rfOf (toQ h + toQ g))).post (congrArg FrR hE.2.2.2)) (.cons (vq 0 rfl) (.cons (vq 1 rfl) .nil)))) (oc (ob_v rfl rfl (r_move (vq 2 rfl))) (oc (ob_v rfl rfl (r_ex0 (vq 3 rfl))) (oc (ob_v rfl rfl (r_ex1 (vq 3 rfl))) (oc (ob_alc rfl rfl rfl (Str.zero str_frac)) (oc (ob_sto rfl rfl rfl (vq 4 rfl) ty_26 (Eq.trans (b := 4) rfl rfl)) (oc (ob_v rfl rfl (r_assign (vq 5 rfl))) o0))))))))) (fun a w hst => ?_)
        have hst : St B w0 129 [(17, _), (23, _)] [⟨3, 26, ptrH, _⟩, ⟨4, 26, ptrH, _⟩, ⟨9, 26, ptrH, _⟩, ⟨10, 26, ptrH, _⟩, ⟨12, 26, ptrH, _⟩, ⟨13, 26, ptrH, _⟩, ⟨15, 80, ptrH, _⟩, ⟨16, 80, ptrH, _⟩, ⟨18, 26, ptrH, _⟩, ⟨20, 26, ptrH, _⟩, ⟨22, 26, ptrH, _⟩] a w := hst
        refine thn_normal ?_
        refine wp_seq ?_
        refine gl (sts := [none, none, none, none, none, none, none, none, none, none, none]) (news := []) (sp := ((.val 98 _ : Sp) :: (.val 99 _) :: (.val 100 _) :: (.val 101 (Wh (_ = true) _)) :: (.val 102 (Wh (_ = true) _)) :: (.val 103 _) :: (.val 104 _) :: (.val 105 (Wh (_ = true) _)) :: (.val 106 (Wh (_ = true) _)) :: (.val 107 (Wh (_ = true) _)) :: (.val 108 _) :: (.val 109 _) :: (.val 110 (Wh (_ = true) _)) :: (.val 111 (Wh (_ = true) _)) :: (.val 112 (Wh (_ = true) _)) :: (.val 113 _) :: (.val 114 _) :: (.adr 115 15 (.some 0) (_ = true)) :: (.val 116 (Wh (_ = true) _)) :: (.val 117 (Wh (_ = true) _)) :: (.val 118 (Wh (_ = true) _)) :: (.val 119 _) :: (.val 120 _) :: (.adr 121 15 (.some 4) (_ = true)) :: (.val 122 (Wh (_ = true) _)) :: (.val 123 (Wh (_ = true) _)) :: (.val 124 (Wh (_ = true) _)) :: (.val 125 _) :: (.val 126 _) :: (.val 127 (Wh (_ = true) _)) :: (.val 128 _) :: (.val 6 _) :: [])) [.o 31] hst (oc (ob_v rfl rfl (r_move (gq 0 rfl))) (oc (ob_v rfl rfl (r_eql (vq 0 rfl) has_num)) (oc (ob_v rfl rfl (r_move (vq 1 rfl))) (oc (ob_gd rfl rfl rfl (vq 2 rfl) nq (fun hg => r_move (gq 1 rfl))) (oc (ob_gd rfl rfl rfl (vq 2 rfl) nq (fun hg => r_eql (has_wh (vq 3 rfl) hg) has_num)) (oc (ob_v rfl rfl (r_and (vq 2 rfl) (vq 4 rfl))) (oc (ob_v rfl rfl (r_move (vq 5 rfl))) (oc (ob_gd rfl rfl rfl (vq 6 rfl) nq (fun hg => r_load (lz0 2 rfl) ty_26)) (oc (ob_gd rfl rfl rfl (vq 6 rfl) nq (fun hg => r_load (lz0 4 rfl) ty_26)) (oc (ob_gd rfl rfl rfl (vq 6 rfl) nq (fun hg => r_call (xs := [.tmp 105, .tmp 106]) (sameFrac_c _ _) (.cons (has_wh (vq 7 rfl) hg) (.cons (has_wh (vq 8 rfl) hg) .nil)))) (oc (ob_v rfl rfl (r_and (vq 6 rfl) (vq 9 rfl))) (oc (ob_v rfl rfl (r_move (vq 10 rfl))) (oc (ob_gd rfl rfl rfl (vq 11 rfl) nq (fun hg => r_load (lz0 3 rfl) ty_26)) (oc (ob_gd rfl rfl rfl (vq 11 rfl) nq (fun hg => r_load (lz0 5 rfl) ty_26)) (oc (ob_gd rfl rfl rfl (vq 11 rfl) nq (fun hg => r_call (xs := [.tmp 110, .tmp 111]) (sameFrac_c _ _) (.cons (has_wh (vq 12 rfl) hg) (.cons (has_wh (vq 13 rfl) hg) .nil)))) (oc (ob_v rfl rfl (r_and (vq 11 rfl) (vq 14 rfl))) (oc (ob_v rfl rfl (r_move (vq 15 rfl))) (oc (ob_ag rfl rfl rfl (vq 16 rfl) nq (fun hg => a_fld (lz0 6 rfl) fld_80_0)) (oc (ob_gd rfl rfl rfl (vq 16 rfl) nq (fun hg => r_loadf 17 rfl (by kernel_rfl) hg (lz0 6 rfl) (Sub.part 0 rfl rfl) ty_26)) (oc (ob_gd rfl rfl rfl (vq 16 rfl) nq (fun hg => r_load (lz0 10 rfl) ty_26)) (oc (ob_gd rfl rfl rfl (vq 16 rfl) nq (fun hg => r_call (xs := [.tmp 116, .tmp 117]) (sameFrac_c _ _) (.cons (has_wh (vq 18 rfl) hg) (.cons (has_wh (vq 19 rfl) hg) .nil)))) (oc (ob_v rfl rfl (r_and (vq 16 rfl) (vq 20 rfl))) (oc (ob_v rfl rfl (r_move (vq 21 rfl))) (oc (ob_ag rfl rfl rfl (vq 22 rfl) nq (fun hg => a_fld (lz0 6 rfl) fld_80_1)) (oc (ob_gd rfl rfl rfl (vq 22 rfl) nq (fun hg => r_loadf 23 rfl (by kernel_rfl) hg (lz0 6 rfl) (Sub.part 1 rfl rfl) ty_26)) (oc (ob_gd rfl rfl rfl (vq 22 rfl) nq (fun hg => r_call (xs := [.tmp 122]) (fracSign_c _) (.cons (has_wh (vq 24 rfl) hg) .nil))) (oc (ob_gd rfl rfl rfl (vq 22 rfl) nq (fun hg => r_eql (has_wh (vq 25 rfl) hg) has_num)) (oc (ob_v rfl rfl (r_and (vq 22 rfl) (vq 26 rfl))) (oc (ob_v rfl rfl (r_move (vq 27 rfl))) (oc (ob_gd rfl rfl rfl (vq 28 rfl) nq (fun hg => r_call (xs := []) alive18_c .nil)) (oc (ob_v rfl rfl (r_and (vq 28 rfl) (vq 29 rfl))) (oc (ob_v rfl rfl (r_assign (vq 30 rfl))) o0)))))))))))))))))))))))))))))))) (fun a w hst => ?_)
        have hst : St B w0 129 [(6, _)] [⟨3, 26, ptrH, _⟩, ⟨4, 26, ptrH, _⟩, ⟨9, 26, ptrH, _⟩, ⟨10, 26, ptrH, _⟩, ⟨12, 26, ptrH, _⟩, ⟨13, 26, ptrH, _⟩, ⟨15, 80, ptrH, _⟩, ⟨16, 80, ptrH, _⟩, ⟨18, 26, ptrH, _⟩, ⟨20, 26, ptrH, _⟩, ⟨22, 26, ptrH, _⟩] a w := hst
        refine thn_normal ?_
        refine wp_ret ?_
        refine ret_wk ?_ (ret_tmp rfl hst (List.mem_of_getElem? (i := 0) rfl))
        exact bo_and (rnd_end _ _ _)

open Go.ChangeShapes Go.WideShapes Go.ChangeAt
open Go.ChangeMaps (open_string shut_string)
set_option linter.unusedVariables false
theorem own : ownKnob Try.prog.godebug = none := by kernel_rfl
theorem laidOut : laidOutB Try.prog = true := by kernel_rfl
set_option maxRecDepth 100000 in
theorem lifted (os : Os) (started : os.Started) (H : Type) (enc : TypeId × Value → H) :
    ReturnsInHanded {} Try.checked os 10 .any (Rows.filmRoundSpec.pre6 enc Try.prog Try.f10 Rows.filmRoundRow.domain false) (Rows.filmRoundSpec.post enc Try.prog Try.f10 false true false false) := by
  refine returnsInHanded_of_change (C := Try.checked) own started (by kernel_rfl) Try.func10
    (ChangeSpec.witness6 (enc := enc) (C := Try.checked) false ⟨#[], #[.agg #[.bool false, .slice none 0 0, .bool false, .slice none 0 0], .agg #[.bool false, .slice none 0 0, .bool false, .slice none 0 0], .slice none 0 0], []⟩ 8 (by kernel_rfl) (by kernel_rfl) (by kernel_rfl) (by kernel_rfl)) ?_
  intro W base args ds gs before hval0 hW hcnd _
  have hval : ∀ (j : Nat) t v, Try.f10.params[j]? = some t → args[j]? = some v → Value.okWide Try.prog W .any base t v := hval0
  have hW' := hW
  obtain ⟨p, q, hA0, hV, rfl, hfz, hnd⟩ := hW
  have hA : DataW.TrodAll enc Try.prog W 0 (fun _ => true) true Try.f10.params.toList args.toList ds p := hA0
  rw [Try.params10] at hA hval
  obtain ⟨v0, vs0, d0, ds0, p0, q0, hargs, rfl, rfl, h0, r0⟩ := trodAll_cons hA
  obtain ⟨v1, vs1, d1, ds1, p1, q1, rfl, rfl, rfl, h1, r1⟩ := trodAll_cons r0
  obtain ⟨v2, vs2, d2, ds2, p2, q2, rfl, rfl, rfl, h2, r2⟩ := trodAll_cons r1
  obtain ⟨rfl, rfl, rfl⟩ := trodAll_nil r2
  obtain rfl : args = #[v0, v1, v2] := by cases args; simp_all
  obtain ⟨rfl, rfl⟩ := trodVars_none hV
  have k0 := h0
  have lt0 : ∀ x ∈ p0, x.block < W.heap.size := by obtain ⟨m, hm⟩ := k0; exact DataW.trod_lt m _ _ _ hm
  have k1 := h1
  have lt1 : ∀ x ∈ p1, x.block < W.heap.size := by obtain ⟨m, hm⟩ := k1; exact DataW.trod_lt m _ _ _ hm
  have k2 := h2
  have lt2 : ∀ x ∈ p2, x.block < W.heap.size := by obtain ⟨m, hm⟩ := k2; exact DataW.trod_lt m _ _ _ hm
  obtain ⟨x0, a0⟩ := arg_of (A := RFA) (fun _ => rfl) Try.underlying26 rd_rf (hval 0 26 v0 rfl rfl) h0
  obtain ⟨x1, a1⟩ := arg_of (A := RFA) (fun _ => rfl) Try.underlying26 rd_rf (hval 1 26 v1 rfl rfl) h1
  obtain ⟨x2, a2⟩ := arg_sl (A := RRA) (m := 8) (D := [175]) Try.underlying77 (by kernel_rfl) (by decide) (fun _ => nd_self (by kernel_rfl)) rd_sh (hval 2 77 v2 rfl rfl) h2
  clear hA0 hval0
  refine ((round_w x0 x1 x2).2 W.heap.size W [v0, v1, v2] (Nat.le_refl _) (.cons a0 (.cons a1 (.cons a2 .nil)))).mono fun e W' ⟨v, he, hv, bel⟩ => ?_
  have hv' := bo_val hv
  subst hv' he
  exact ⟨_, rfl, _, _, _, [], _, [], hW', trodAll_mk1 (shut_bool Try.underlying4 _), (trodAll_cons_mk (Below.trod laidOut (by kernel_rfl) (of_decide_eq_true (by kernel_rfl)) k0 bel lt0) (trodAll_cons_mk (Below.trod laidOut (by kernel_rfl) (of_decide_eq_true (by kernel_rfl)) k1 bel lt1) (trodAll_cons_mk (Below.trod laidOut (by kernel_rfl) (of_decide_eq_true (by kernel_rfl)) k2 bel lt2) trodAll_mk0))), rfl, bel.frame _, fun h => by cases h⟩
theorem over : Rows.filmRoundRow.holds Try.pinned (OpenSpec.ofChange Rows.filmRoundSpec) :=
  OpenClaim.holds_of_wide 10 Try.f10 rfl rfl rfl rfl rfl rfl rfl ⟨rfl, rfl, rfl, rfl, rfl⟩ rfl rfl rfl rfl rfl (by kernel_rfl) Try.func10 (by kernel_rfl)
    (of_decide_eq_true (by kernel_rfl)) (by unfold Func.isWrapper; rw [if_neg (of_decide_eq_false (by kernel_rfl))]; exact ⟨rfl, rfl⟩)
    (fun os started H enc _ => lifted os started H enc)
theorem provedFilmRound : Rows.FilmRoundSaid := over
#print axioms provedFilmRound

end Go.Proofs.Ytgjolcbehcjhcaa
