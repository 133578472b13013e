/- Contracts of slices.Backward over elements, and of bench.Reverse. -/
import Derived.Test.YtgjolcbehcjhcaaGreatRngE
import Derived.Test.YtgjolcbehcjhcaaGreatBenE
import Derived.Test.YtgjolcbehcjhcaaGreatBenD
import Derived.Laws.AppendOwn
import Derived.Laws.OwnMore
import Derived.Orders
namespace Go.Proofs.YtgjolcbehcjhcaaGreat
open Go Go.RowKit
namespace BenH
theorem fld_24_0 : Fld Tryz.prog 24 0 0 1 := ⟨_, _, Tryz.underlying24, rfl, rfl, by kernel_rfl, by decide⟩
theorem fld_24_1 : Fld Tryz.prog 24 1 1 1 := ⟨_, _, Tryz.underlying24, rfl, rfl, by kernel_rfl, by decide⟩
theorem fld_26_0 : Fld Tryz.prog 26 0 0 2 := ⟨_, _, Tryz.underlying26, rfl, rfl, by kernel_rfl, by decide⟩
theorem fld_26_1 : Fld Tryz.prog 26 1 2 2 := ⟨_, _, Tryz.underlying26, rfl, rfl, by kernel_rfl, by decide⟩
theorem fld_94_0 : Fld Tryz.prog 94 0 0 1 := ⟨_, _, Tryz.underlying94, rfl, rfl, by kernel_rfl, by decide⟩
theorem fld_94_1 : Fld Tryz.prog 94 1 1 4 := ⟨_, _, Tryz.underlying94, rfl, rfl, by kernel_rfl, by decide⟩
theorem fld_94_2 : Fld Tryz.prog 94 2 5 4 := ⟨_, _, Tryz.underlying94, rfl, rfl, by kernel_rfl, by decide⟩
theorem sl_47 : Sl Tryz.prog 47 94 9 := ⟨by kernel_rfl, by kernel_rfl⟩
theorem ty_22 : Ty Tryz.prog 22 1 false := ⟨by kernel_rfl, by kernel_rfl⟩
theorem ty_24 : Ty Tryz.prog 24 2 true := ⟨by kernel_rfl, by kernel_rfl⟩
theorem ty_26 : Ty Tryz.prog 26 4 true := ⟨by kernel_rfl, by kernel_rfl⟩
theorem ty_4 : Ty Tryz.prog 4 1 false := ⟨by kernel_rfl, by kernel_rfl⟩
theorem ty_47 : Ty Tryz.prog 47 1 false := ⟨by kernel_rfl, by kernel_rfl⟩
theorem ty_92 : Ty Tryz.prog 92 1 false := ⟨by kernel_rfl, by kernel_rfl⟩
theorem ty_94 : Ty Tryz.prog 94 9 true := ⟨by kernel_rfl, by kernel_rfl⟩
end BenH
open BenH
theorem bw_at {xs : List RE} {k : Nat} (h : k < xs.length) : (xs.map REA)[xs.length - 1 - k]? = some (REA (xs.reverse.getD k re0)) := by
  rw [List.getElem?_map, List.getElem?_eq_getElem (by omega), List.getD_eq_getElem?_getD, List.getElem?_reverse h, List.getElem?_eq_getElem (by omega)]
  rfl
theorem zero_els : Zero Tryz.prog 47 (OwnC 94 9 [U32] []) := zero_own (by kernel_rfl)

set_option maxRecDepth 100000 in
theorem bw_it (xs : List RE) : ItC Tryz.prog 110 [(47, SlO 94 [U32] (xs.map REA) True)] (fun k => [In (((xs.length - 1 - k : Nat)) : Int), (REA (xs.reverse.getD k re0)).va]) false (xs.length) [U32] := by
  refine ItC.intro Tryz.func110 rfl (by kernel_rfl) nq (fun l B gs Db J Jx w0 a hgl hoff hIt hG hst => ?_)
  have hst : St B w0 19 [(0, EqV (.func (.yield l) #[] #[])), (1, EqV (ptr (gs.getD 0 0)))] [⟨1, 47, ptrH, SlO 94 [U32] (xs.map REA) True⟩] a w0.w := hst
  have hl : xs.length ≤ 9223372036854775807 := by
    obtain ⟨g, cs, _, _, _, hp⟩ := hst.locs _ List.mem_cons_self
    have := slO_len (l := xs.map REA) (p := True) (E := 94) (D := [U32]) (B := B) (w := w0.w) ⟨cs, hp, rfl⟩
    rwa [List.length_map] at this
  refine wpIn_seq ?_
  refine go_linF (sts := [none]) (news := []) (sp := [.val 4 _, .val 5 _, .val 6 _, .val 3 _]) [.g 0, .g 1, .o 3] (by kernel_rfl) (no_out fun _ _ h => h) hst (oc (ob_v rfl rfl (r_load (lz0 0 rfl) ty_47)) (oc (ob_v rfl rfl (r_len Tryz.underlying47 (has_and (has_old (E := 94) (vq 0 rfl))))) (oc (ob_v rfl rfl (r_sub (vq 1 rfl) has_num ((wi64 (by rw [List.length_map]; omega) (by rw [List.length_map]; omega))))) (oc (ob_v rfl rfl (r_assign (vq 2 rfl))) o0)))) (by kernel_rfl) (by kernel_rfl) (by kernel_rfl) (fun a w hst => ?_)
  have hst : St B w0 19 [(0, _), (1, _), (3, _)] [⟨1, 47, ptrH, _⟩] a w := hst
  refine thn_normal ?_
  refine wpIn_block ?_
  have hst := St.sel hst [0, 1, 2]
  refine wpIn_loop_ghost (fun n a w => ∃ (k : Nat) (z1 : Int) (w0 : Bs), (n + k = xs.length ∧ z1 = (n : Int) - 1 ∧ ItG B gs [47] J k w0) ∧ St B w0 19 [(0, EqV (.func (.yield l) #[] #[])), (1, EqV (ptr (gs.getD 0 0))), (3, In z1)] [⟨1, 47, ptrH, SlO 94 [U32] (xs.map REA) True⟩] a w) (xs.length) ?_ ?_
  · rw [List.length_map] at hst
    exact ⟨0, _, w0, ⟨rfl, rfl, hG⟩, hst⟩
  intro n a w hI
  obtain ⟨k, z1, w0, ⟨hn, hz, hG⟩, hst⟩ := hI
  refine wpIn_seq ?_
  refine wpIn_seq ?_
  refine go_linF (sts := [none]) (news := []) (sp := [.val 7 _, .val 8 _]) [.g 0, .g 1, .g 2, .o 1] (by kernel_rfl) (no_out fun _ _ h => h) hst (oc (ob_v rfl rfl (r_move (gq 2 rfl))) (oc (ob_v rfl rfl (r_geq (vq 0 rfl) has_num)) o0)) (by kernel_rfl) (by kernel_rfl) (by kernel_rfl) (fun a w hst => ?_)
  have hst : St B w0 19 [(0, _), (1, _), (3, _), (8, _)] [⟨1, 47, ptrH, _⟩] a w := hst
  refine thn_normal ?_
  refine cond_ofF hst (List.mem_of_getElem? (i := 3) rfl) (fun hb0 => ?_) (fun hb0 => ?_)
  · have hz0 : z1 ≥ 0 := of_decide_eq_true hb0
    have hj : k < xs.length := by omega
    obtain rfl : z1 = (((xs.length - 1 - k : Nat)) : Int) := by omega
    refine wpIn_skip ?_
    refine thn_normal ?_
    refine wpIn_seq ?_
    refine wpIn_block ?_
    refine wpIn_seq ?_
    refine go_yield2 (sp := [.val 11 _, .val 12 _, .val 13 _, .val 14 _, .val 15 _, .val 16 _, .val 17 VT, .val 18 VT]) 6 [0, 1, 2] [(1, 0)] (fun b => !b) hst (oc (ob_v rfl rfl (r_move (gq 0 rfl))) (oc (ob_v rfl rfl (r_move (gq 2 rfl))) (oc (ob_v rfl rfl (r_load (lz0 0 rfl) ty_47)) (oc (ob_v rfl rfl (r_move (gq 2 rfl))) (oc (ob_v rfl rfl (r_idx sl_47 (map_n fun _ => rfl) (has_and (has_old (E := 94) (vq 2 rfl))) (vq 3 rfl) (bw_at hj))) (oc (ob_v rfl rfl (r_loade (vq 4 rfl) ty_94)) o0)))))) rfl (by kernel_rfl) (by kernel_rfl) rfl rfl not_op nq (by decide) (vq 0 rfl) (.cons (vq 1 rfl) (.cons (vq 5 rfl) .nil)) hoff hIt hG hj ⟨rfl, ⟨_, rfl⟩, trivial⟩ hgl (by kernel_rfl) (by kernel_rfl) (by kernel_rfl) (by kernel_rfl) (no_out fun _ _ h => h) nq (fun w0 a w hG hst hw0 => ?_) (fun w0 a w hw0 hJx hst => ?_)
    · have hst : St B w0 19 [(18, Bo false), (0, _), (1, _), (3, _)] [⟨1, 47, ptrH, _⟩] a w := hst
      -- behind yield
      refine thn_normal ?_
      refine cond_ofF hst (List.mem_of_getElem? (i := 0) rfl) (fun hb1 => ?_) (fun hb1 => ?_)
      · cases hb1
      · refine wpIn_skip ?_
        refine blk_normal ?_
        refine thn_normal ?_
        refine go_linF (sts := [none]) (news := []) (sp := [.val 9 _, .val 10 _, .val 3 _]) [.g 1, .g 2, .o 2] (by kernel_rfl) (no_out fun _ _ h => h) hst (oc (ob_v rfl rfl (r_move (gq 3 rfl))) (oc (ob_v rfl rfl (r_sub (vq 0 rfl) has_num ((wi64 (by omega) (by omega)).trans (by omega : (_ : Int) = ((n - 1 : Nat) : Int) - 1)))) (oc (ob_v rfl rfl (r_assign (vq 1 rfl))) o0))) (by kernel_rfl) (by kernel_rfl) (by kernel_rfl) (fun a w hst => ?_)
        have hst : St B w0 19 [(0, _), (1, _), (3, _)] [⟨1, 47, ptrH, _⟩] a w := hst
        refine thn_normal ?_
        have hst := St.sel hst [0, 1, 2]
        exact ⟨n - 1, by omega, k + 1, _, w0, ⟨by omega, rfl, hG⟩, hst⟩
    · have hst : St B w0 19 [(18, Bo true)] [] a w := hst
      -- behind yield
      refine thn_normal ?_
      refine cond_ofF hst (List.mem_of_getElem? (i := 0) rfl) (fun hb2 => ?_) (fun hb2 => ?_)
      · refine wpIn_ret ?_
        refine blk_ret ?_
        refine thn_ret ?_
        refine thn_ret ?_
        refine blk_ret ?_
        exact it_stop rfl hst hw0 hIt hJx
      · cases hb2
  · have hz0 : ¬ z1 ≥ 0 := of_decide_eq_false hb0
    obtain rfl : k = xs.length := by omega
    refine wpIn_exit ?_
    refine thn_exit ?_
    refine thn_exit ?_
    refine blk_exit ?_
    refine nrm_ret ?_
    exact it_done (gs := gs) (ix := [(1, 0)]) rfl hst (Tc := [47]) ⟨rfl, ⟨_, rfl⟩, trivial⟩ hgl hIt hG

theorem plusN_e0 {a b : Int} (h : ((riOf a).neg == (riOf b).neg) = true) : (RIN (rsig (riOf a).neg (digs (max (riOf a).mag.length (riOf b).mag.length + 1) (val (riOf a).mag + val (riOf b).mag)))).va = (RIN (riOf (a + b))).va := by
  have h' : decide (a < 0) = decide (b < 0) := by simpa [riOf] using h
  rw [val_ri, val_ri, rsig_of (okL_digs _ _) (z := a + b) (by show val (digs (max (limbs a.natAbs).length (limbs b.natAbs).length + 1) _) = _; rw [val_sum]; simp only [decide_eq_decide] at h'; omega) (fun hz => by show decide (a < 0) = _; simp only [decide_eq_decide] at h' ⊢; omega)]
theorem plusN_e1 {a b : Int} (h : ((riOf a).neg == (riOf b).neg) = false) (h2 : b.natAbs ≤ a.natAbs) : (RIN (rsig (riOf a).neg (limbs (val (riOf a).mag - val (riOf b).mag)))).va = (RIN (riOf (a + b))).va := by
  have h' : ¬ decide (a < 0) = decide (b < 0) := by simpa [riOf] using h
  rw [val_ri, val_ri, rsig_of (canon_limbs _).1 (z := a + b) (by rw [val_limbs]; simp only [decide_eq_decide] at h'; omega) (fun hz => by show decide (a < 0) = _; simp only [decide_eq_decide] at h' ⊢; omega)]
theorem plusN_e2 {a b : Int} (h : ((riOf a).neg == (riOf b).neg) = false) (h2 : a.natAbs ≤ b.natAbs) : (RIN (rsig (riOf b).neg (limbs (val (riOf b).mag - val (riOf a).mag)))).va = (RIN (riOf (a + b))).va := by
  have h' : ¬ decide (a < 0) = decide (b < 0) := by simpa [riOf] using h
  rw [val_ri, val_ri, rsig_of (canon_limbs _).1 (z := a + b) (by rw [val_limbs]; simp only [decide_eq_decide] at h'; omega) (fun hz => by show decide (b < 0) = _; simp only [decide_eq_decide] at h' ⊢; omega)]

set_option maxRecDepth 100000 in
theorem plusN_c (p q : Int) (hp : lz p ≤ 1099511627776) (hq : lz q ≤ 1099511627776) : Cn Tryz.prog 104 [Zi p, Zi q] ((RIN (riOf (p + q))).va) := by
  refine Cn.intro Tryz.func104 rfl (by kernel_rfl) nq (fun B w0 a hst => ?_)
  have hst : St B w0 40 [(0, Zi p), (1, Zi q)] [] a w0.w := hst
  refine wp_seq ?_
  refine gl (sts := []) (news := [⟨2, 24, ptrH, some 0, _, none⟩, ⟨3, 24, ptrH, some 1, _, none⟩, ⟨4, 24, ptrH, some 2, _, none⟩]) (sp := [.alc 0, .alc 1, .alc 2]) [] hst (oc (ob_box rfl rfl rfl (gq 0 rfl)) (oc (ob_box rfl rfl rfl (gq 1 rfl)) (oc (ob_alc rfl rfl rfl (Str.zero str_int)) o0))) (fun a w hst => ?_)
  have hst : St B w0 40 [] [⟨2, 24, ptrH, _⟩, ⟨3, 24, ptrH, _⟩, ⟨4, 24, ptrH, _⟩] a w := hst
  refine thn_normal ?_
  refine wp_seq ?_
  refine wp_seq ?_
  refine gl (sts := [none, none, none]) (news := []) (sp := [.adr 5 2 (.some 0) True, .val 6 _, .adr 7 3 (.some 0) True, .val 8 _, .val 9 _]) [.o 4] hst (oc (ob_a rfl rfl (a_fld (lz0 0 rfl) fld_24_0)) (oc (ob_v rfl rfl (r_loadf 0 rfl (by kernel_rfl) trivial (lz0 0 rfl) (Sub.part 0 rfl rfl) ty_4)) (oc (ob_a rfl rfl (a_fld (lz0 1 rfl) fld_24_0)) (oc (ob_v rfl rfl (r_loadf 2 rfl (by kernel_rfl) trivial (lz0 1 rfl) (Sub.part 0 rfl rfl) ty_4)) (oc (ob_v rfl rfl (r_eqlb (by kernel_rfl) (vq 1 rfl) (vq 3 rfl))) o0))))) (fun a w hst => ?_)
  have hst : St B w0 40 [(9, _)] [⟨2, 24, ptrH, _⟩, ⟨3, 24, ptrH, _⟩, ⟨4, 24, ptrH, _⟩] a w := hst
  refine thn_normal ?_
  refine cond_of hst (List.mem_of_getElem? (i := 0) rfl) (fun hb0 => ?_) (fun hb0 => ?_)
  · refine wp_seq ?_
    refine go_draw (anc := [[], [0], [], [2], [], [4], [2, 3, 4, 5], [0, 1, 2, 3, 4, 5, 6], [0, 1, 2, 3, 4, 5, 6, 7]]) (sts := [none, none, some (8, _)]) (news := []) (sp := [.adr 10 2 (.some 0) True, .val 11 _, .adr 12 2 (.some 1) True, .val 13 _, .adr 14 3 (.some 1) True, .val 15 _, .val 16 _, .val 17 _, .sto 2]) [] follows_mixed hst (oc (ob_a rfl rfl (a_fld (lz0 0 rfl) fld_24_0)) (oc (ob_v rfl rfl (r_loadf 0 rfl (by kernel_rfl) trivial (lz0 0 rfl) (Sub.part 0 rfl rfl) ty_4)) (oc (ob_a rfl rfl (a_fld (lz0 0 rfl) fld_24_1)) (oc (ob_v rfl rfl (r_loadf 2 rfl (by kernel_rfl) trivial (lz0 0 rfl) (Sub.part 1 rfl rfl) ty_22)) (oc (ob_a rfl rfl (a_fld (lz0 1 rfl) fld_24_1)) (oc (ob_v rfl rfl (r_loadf 4 rfl (by kernel_rfl) trivial (lz0 1 rfl) (Sub.part 1 rfl rfl) ty_22)) (oc (ob_v rfl rfl (r_call (xs := [.tmp 13, .tmp 15]) (add_c _ _ hp hq) (.cons (vq 3 rfl) (.cons (vq 5 rfl) .nil)))) (oc (ob_v rfl rfl (r_call (xs := [.tmp 11, .tmp 16]) (signedN_c _ _) (.cons (vq 1 rfl) (.cons (vq 6 rfl) .nil)))) (oc (ob_sto rfl rfl rfl (vq 7 rfl) ty_24 (Eq.trans (b := 2) rfl rfl)) o0))))))))) (by kernel_rfl) (by kernel_rfl) (by kernel_rfl) (by kernel_rfl) (fun a w hst => ?_)
    have hst : St B w0 40 [] [⟨2, 24, ptrH, _⟩, ⟨3, 24, ptrH, _⟩, ⟨4, 24, ptrH, _⟩] a w := hst
    refine thn_normal ?_
    refine wp_ret ?_
    refine thn_ret ?_
    refine ret_cast ?_ (ret_cell rfl hst (List.mem_of_getElem? (i := 2) rfl) ty_24)
    exact plusN_e0 hb0
  · refine wp_skip ?_
    refine thn_normal ?_
    refine wp_seq ?_
    refine wp_seq ?_
    refine gl (sts := [none, none, none]) (news := []) (sp := [.adr 18 2 (.some 1) True, .val 19 _, .adr 20 3 (.some 1) True, .val 21 _, .val 22 _, .val 23 _]) [.o 5] hst (oc (ob_a rfl rfl (a_fld (lz0 0 rfl) fld_24_1)) (oc (ob_v rfl rfl (r_loadf 0 rfl (by kernel_rfl) trivial (lz0 0 rfl) (Sub.part 1 rfl rfl) ty_22)) (oc (ob_a rfl rfl (a_fld (lz0 1 rfl) fld_24_1)) (oc (ob_v rfl rfl (r_loadf 2 rfl (by kernel_rfl) trivial (lz0 1 rfl) (Sub.part 1 rfl rfl) ty_22)) (oc (ob_v rfl rfl (r_call (xs := [.tmp 19, .tmp 21]) (size_c _ _) (.cons (vq 1 rfl) (.cons (vq 3 rfl) .nil)))) (oc (ob_v rfl rfl (r_geq (vq 4 rfl) has_num)) o0)))))) (fun a w hst => ?_)
    have hst : St B w0 40 [(23, _)] [⟨2, 24, ptrH, _⟩, ⟨3, 24, ptrH, _⟩, ⟨4, 24, ptrH, _⟩] a w := hst
    refine thn_normal ?_
    refine cond_of hst (List.mem_of_getElem? (i := 0) rfl) (fun hb1 => ?_) (fun hb1 => ?_)
    · refine wp_seq ?_
      refine go_draw (anc := [[], [0], [], [2], [], [4], [2, 3, 4, 5], [0, 1, 2, 3, 4, 5, 6], [0, 1, 2, 3, 4, 5, 6, 7]]) (sts := [none, none, some (8, _)]) (news := []) (sp := [.adr 24 2 (.some 0) True, .val 25 _, .adr 26 2 (.some 1) True, .val 27 _, .adr 28 3 (.some 1) True, .val 29 _, .val 30 _, .val 31 _, .sto 2]) [] follows_mixed hst (oc (ob_a rfl rfl (a_fld (lz0 0 rfl) fld_24_0)) (oc (ob_v rfl rfl (r_loadf 0 rfl (by kernel_rfl) trivial (lz0 0 rfl) (Sub.part 0 rfl rfl) ty_4)) (oc (ob_a rfl rfl (a_fld (lz0 0 rfl) fld_24_1)) (oc (ob_v rfl rfl (r_loadf 2 rfl (by kernel_rfl) trivial (lz0 0 rfl) (Sub.part 1 rfl rfl) ty_22)) (oc (ob_a rfl rfl (a_fld (lz0 1 rfl) fld_24_1)) (oc (ob_v rfl rfl (r_loadf 4 rfl (by kernel_rfl) trivial (lz0 1 rfl) (Sub.part 1 rfl rfl) ty_22)) (oc (ob_v rfl rfl (r_call (xs := [.tmp 27, .tmp 29]) (sub_c _ _ hp (len_mono (plus_g1 hb1)) (by show val (limbs _) ≤ val (limbs _); rw [val_limbs, val_limbs]; exact plus_g1 hb1)) (.cons (vq 3 rfl) (.cons (vq 5 rfl) .nil)))) (oc (ob_v rfl rfl (r_call (xs := [.tmp 25, .tmp 30]) (signedN_c _ _) (.cons (vq 1 rfl) (.cons (vq 6 rfl) .nil)))) (oc (ob_sto rfl rfl rfl (vq 7 rfl) ty_24 (Eq.trans (b := 2) rfl rfl)) o0))))))))) (by kernel_rfl) (by kernel_rfl) (by kernel_rfl) (by kernel_rfl) (fun a w hst => ?_)
      have hst : St B w0 40 [] [⟨2, 24, ptrH, _⟩, ⟨3, 24, ptrH, _⟩, ⟨4, 24, ptrH, _⟩] a w := hst
      refine thn_normal ?_
      refine wp_ret ?_
      refine thn_ret ?_
      refine ret_cast ?_ (ret_cell rfl hst (List.mem_of_getElem? (i := 2) rfl) ty_24)
      exact plusN_e1 hb0 (plus_g1 hb1)
    · refine wp_skip ?_
      refine thn_normal ?_
      refine wp_seq ?_
      refine go_draw (anc := [[], [0], [], [2], [], [4], [2, 3, 4, 5], [0, 1, 2, 3, 4, 5, 6], [0, 1, 2, 3, 4, 5, 6, 7]]) (sts := [none, none, some (8, _)]) (news := []) (sp := [.adr 32 3 (.some 0) True, .val 33 _, .adr 34 3 (.some 1) True, .val 35 _, .adr 36 2 (.some 1) True, .val 37 _, .val 38 _, .val 39 _, .sto 2]) [] follows_mixed hst (oc (ob_a rfl rfl (a_fld (lz0 1 rfl) fld_24_0)) (oc (ob_v rfl rfl (r_loadf 0 rfl (by kernel_rfl) trivial (lz0 1 rfl) (Sub.part 0 rfl rfl) ty_4)) (oc (ob_a rfl rfl (a_fld (lz0 1 rfl) fld_24_1)) (oc (ob_v rfl rfl (r_loadf 2 rfl (by kernel_rfl) trivial (lz0 1 rfl) (Sub.part 1 rfl rfl) ty_22)) (oc (ob_a rfl rfl (a_fld (lz0 0 rfl) fld_24_1)) (oc (ob_v rfl rfl (r_loadf 4 rfl (by kernel_rfl) trivial (lz0 0 rfl) (Sub.part 1 rfl rfl) ty_22)) (oc (ob_v rfl rfl (r_call (xs := [.tmp 35, .tmp 37]) (sub_c _ _ hq (len_mono (plus_g2 hb1)) (by show val (limbs _) ≤ val (limbs _); rw [val_limbs, val_limbs]; exact plus_g2 hb1)) (.cons (vq 3 rfl) (.cons (vq 5 rfl) .nil)))) (oc (ob_v rfl rfl (r_call (xs := [.tmp 33, .tmp 38]) (signedN_c _ _) (.cons (vq 1 rfl) (.cons (vq 6 rfl) .nil)))) (oc (ob_sto rfl rfl rfl (vq 7 rfl) ty_24 (Eq.trans (b := 2) rfl rfl)) o0))))))))) (by kernel_rfl) (by kernel_rfl) (by kernel_rfl) (by kernel_rfl) (fun a w hst => ?_)
      have hst : St B w0 40 [] [⟨2, 24, ptrH, _⟩, ⟨3, 24, ptrH, _⟩, ⟨4, 24, ptrH, _⟩] a w := hst
      refine thn_normal ?_
      refine wp_ret ?_
      refine ret_cast ?_ (ret_cell rfl hst (List.mem_of_getElem? (i := 2) rfl) ty_24)
      exact plusN_e2 hb0 (plus_g2 hb1)

theorem plusN_z {a b : Nat} {p q : Int} (ha : a ≤ 1099511627776) (hb : b ≤ 1099511627776) : Cn Tryz.prog 104 [Zs a p, Zs b q] (RIN (riOf (p + q))).va := zs2 ex_Plus fun h h' => plusN_c p q (by omega) (by omega)
def RFN (x : RF) : As := cat [RIN x.num, RIN x.den]
def REN (x : RE) : As := cat [NumA .u8 x.k, RFN x.p, RFN x.q]
theorem free_rfN (x : RF) : FreeA (RFN x) (RFA x) := cat_free (.cons (free_riA _) (.cons (free_riA _) .nil))
theorem free_reN (x : RE) : FreeA (REN x) (REA x) := cat_free (.cons (free_num _ _) (.cons (free_rfN _) (.cons (free_rfN _) .nil)))
theorem copyN_e (x : Rat) : cat [RIN (riOf (x.num + 0)), RIN (riOf ((x.den : Int) + 0))] = RFN (rfOf x) := by rw [Int.add_zero, Int.add_zero]; rfl
theorem ren_e {x : RE} (h : [x.p, x.q].all okX = true) : cat [NumA .u8 x.k, RFN (rfOf (toQ x.p)), RFN (rfOf (toQ x.q))] = REN x := by
  simp only [List.all_cons, List.all_nil, Bool.and_true, Bool.and_eq_true] at h
  rw [← (okX_q h.1).1, ← (okX_q h.2).1]; rfl
theorem free_all {l l' : List VA} (h : All2 Free l l') {B B' : Nat} {w : World} (hB : B' ≤ B) : ∀ {vs : List Value}, All2 (fun (A : VA) x => A.p B x w) l vs → All2 (fun (A : VA) x => A.p B' x w) l' vs := by
  induction h with
  | nil => intro vs hv; cases hv; exact .nil
  | cons h _ ih => intro vs hv; cases hv with | cons h1 h2 => exact .cons (h _ _ _ _ hB h1) (ih h2)
theorem free_tu {l l' : List VA} (h : All2 Free l l') : Free (Tu l) (Tu l') := fun _ _ _ _ hB ⟨vs, e, hv⟩ => ⟨vs, e, free_all h hB hv⟩
theorem free_own {E : TypeId} {m : Nat} {D : List TypeId} {l l' : List As} (h : All2 FreeA l l') (hD : ∀ A ∈ l', ∀ T ∈ A.deps, T ∈ D) : Free (OwnC E m D l).va (SlA E D l').va := fun B B' v w hB hp => by
  obtain ⟨_, h2, ds, h3, h4, h5⟩ := ownC_v hp
  have hl := h.length
  have h3' := (cat_free h).2.2 B B' ds w hB h3
  rcases h5 with ⟨rfl, h5⟩ | ⟨g, cap, cur, rfl, e2, e3, e4, e5, e6, e7⟩
  · exact ⟨[.slice none 0 0], ⟨hD, none, 0, ds, by rw [← hl, h5], by omega, Nat.zero_le _, h3', fun h => by omega⟩, rfl⟩
  · refine ⟨[.slice (some ⟨g, 0, none⟩) l.length cap], ⟨hD, _, cap, ds, by rw [← hl], by omega, e5, h3', fun _ => ⟨g, 0, rfl, (Array.getElem?_eq_some_iff.1 e3).1, .inr ⟨_, _, e3⟩, fun j u hu => ?_⟩⟩, rfl⟩
    rw [cell_of_row w g (0 + j) cur E _ e3, Nat.zero_add]
    rw [← e7, List.getElem?_take] at hu
    split at hu
    · simpa using hu
    · cases hu
theorem nil_own {E : TypeId} {m : Nat} {D : List TypeId} : Wk (EqV (.slice none 0 0)) (OwnC E m D []).va := fun B v w h => ⟨[v], ⟨v, rfl, own_nil B v w h⟩, rfl⟩
theorem map_free {α : Type} {f g : α → As} (h : ∀ x, FreeA (f x) (g x)) : ∀ (l : List α), All2 FreeA (l.map f) (l.map g)
  | [] => .nil
  | x :: l => .cons (h x) (map_free h l)

set_option maxRecDepth 100000 in
theorem copyN_r {c : Nat} {x : Rat} (hc : c ≤ 549755813888) : Cn Tryz.prog 69 [Qs c x] ((RFN (rfOf x)).va) := by
  refine Cn.intro Tryz.func69 rfl (by kernel_rfl) nq (fun B w0 a hst => ?_)
  have hst : St B w0 14 [(0, Qs c x)] [] a w0.w := hst
  refine wp_seq ?_
  refine gl (sts := []) (news := [⟨1, 26, ptrH, some 0, _, none⟩, ⟨2, 26, ptrH, some 1, _, none⟩]) (sp := [.alc 0, .alc 1]) [] hst (oc (ob_box rfl rfl rfl (gq 0 rfl)) (oc (ob_alc rfl rfl rfl (Str.zero str_frac)) o0)) (fun a w hst => ?_)
  have hst : St B w0 14 [] [⟨1, 26, ptrH, _⟩, ⟨2, 26, ptrH, _⟩] a w := hst
  refine thn_normal ?_
  refine wp_seq ?_
  refine gl (sts := [none, none]) (news := [⟨3, 24, ptrH, some 1, _, some (2, _)⟩]) (sp := [.val 4 _, .alc 2, .sto 2]) [] hst (oc (ob_v rfl rfl (r_call (xs := [.const (.int .i64 (0))]) (of_z (by decide) (by decide)) (.cons has_num .nil))) (oc (ob_alc rfl rfl rfl (Str.zero str_int)) (oc (ob_sto rfl rfl rfl (vq 0 rfl) ty_24 (Eq.trans (b := 2) rfl rfl)) o0))) (fun a w hst => ?_)
  have hst : St B w0 14 [] [⟨1, 26, ptrH, _⟩, ⟨2, 26, ptrH, _⟩, ⟨3, 24, ptrH, _⟩] a w := hst
  refine thn_normal ?_
  refine wp_seq ?_
  refine go_draw (anc := [[], [0], [], [0, 1, 2], [], [4], [], [0, 1, 2, 3, 4, 5, 6], [0, 1, 2, 3, 4, 5, 6, 7], [0, 1, 2, 3, 4, 5, 6, 7, 8]]) (sts := [none, some (9, _), none]) (news := []) (sp := [.adr 5 1 (.some 0) True, .val 6 _, .val 7 _, .val 8 _, .adr 9 1 (.some 2) True, .val 10 _, .val 11 _, .val 12 _, .val 13 _, .sto 1]) [] follows_mixed hst (oc (ob_a rfl rfl (a_fld (lz0 0 rfl) fld_26_0)) (oc (ob_v rfl rfl (r_loadf 0 rfl (by kernel_rfl) trivial (lz0 0 rfl) (Sub.part 0 rfl rfl) ty_24)) (oc (ob_v rfl rfl (r_load (lz0 2 rfl) ty_24)) (oc (ob_v rfl rfl (r_call (xs := [.tmp 6, .tmp 7]) (plusN_z (by omega) (by omega)) (.cons (vq 1 rfl) (.cons (vq 2 rfl) .nil)))) (oc (ob_a rfl rfl (a_fld (lz0 0 rfl) fld_26_1)) (oc (ob_v rfl rfl (r_loadf 4 rfl (by kernel_rfl) trivial (lz0 0 rfl) (Sub.part 1 rfl rfl) ty_24)) (oc (ob_v rfl rfl (r_load (lz0 2 rfl) ty_24)) (oc (ob_v rfl rfl (r_call (xs := [.tmp 10, .tmp 11]) (plusN_z (by omega) (by omega)) (.cons (vq 5 rfl) (.cons (vq 6 rfl) .nil)))) (oc (ob_v rfl rfl (r_build (xs := [(0, .tmp 8), (1, .tmp 12)]) (qs := [(0, _), (1, _)]) str_frac (.cons ⟨rfl, (vq 3 rfl), rfl⟩ (.cons ⟨rfl, (vq 7 rfl), rfl⟩ .nil)))) (oc (ob_sto rfl rfl rfl (vq 8 rfl) ty_26 (Eq.trans (b := 4) rfl rfl)) o0)))))))))) (by kernel_rfl) (by kernel_rfl) (by kernel_rfl) (by kernel_rfl) (fun a w hst => ?_)
  have hst : St B w0 14 [] [⟨1, 26, ptrH, _⟩, ⟨2, 26, ptrH, _⟩, ⟨3, 24, ptrH, _⟩] a w := hst
  refine thn_normal ?_
  refine wp_ret ?_
  refine ret_wk ?_ (ret_cell rfl hst (List.mem_of_getElem? (i := 1) rfl) ty_26)
  exact wk_eq (congrArg As.va (copyN_e x))

set_option maxRecDepth 100000 in
theorem copied_c (x : RE) (hx : [x.p, x.q].all okX = true) : Cn Tryz.prog 62 [(REA x).va] ((REN x).va) := by
  refine Cn.intro Tryz.func62 rfl (by kernel_rfl) nq (fun B w0 a hst => ?_)
  have hst : St B w0 12 [(0, (REA x).va)] [] a w0.w := hst
  refine wp_seq ?_
  refine gl (sts := []) (news := [⟨1, 94, ptrH, some 0, _, none⟩, ⟨2, 94, ptrH, some 1, _, none⟩]) (sp := [.alc 0, .alc 1]) [] hst (oc (ob_box rfl rfl rfl (gq 0 rfl)) (oc (ob_alc rfl rfl rfl (Str.zero str_elem)) o0)) (fun a w hst => ?_)
  have hst : St B w0 12 [] [⟨1, 94, ptrH, _⟩, ⟨2, 94, ptrH, _⟩] a w := hst
  refine thn_normal ?_
  refine wp_seq ?_
  have hst := St.wkL hst 0 rfl (el_q hx)
  refine go_draw (anc := [[], [0], [], [2], [2, 3], [], [5], [2, 3, 4, 5, 6], [0, 1, 2, 3, 4, 5, 6, 7], [0, 1, 2, 3, 4, 5, 6, 7, 8]]) (sts := [none, some (9, _)]) (news := []) (sp := [.adr 3 1 (.some 0) True, .val 4 _, .adr 5 1 (.some 1) True, .val 6 _, .val 7 _, .adr 8 1 (.some 5) True, .val 9 _, .val 10 _, .val 11 _, .sto 1]) [] follows_mixed hst (oc (ob_a rfl rfl (a_fld (lz0 0 rfl) fld_94_0)) (oc (ob_v rfl rfl (r_loadf 0 rfl (by kernel_rfl) trivial (lz0 0 rfl) (Sub.part 0 rfl rfl) ty_92)) (oc (ob_a rfl rfl (a_fld (lz0 0 rfl) fld_94_1)) (oc (ob_v rfl rfl (r_loadf 2 rfl (by kernel_rfl) trivial (lz0 0 rfl) (Sub.part 1 rfl rfl) ty_26)) (oc (ob_v rfl rfl (r_call (xs := [.tmp 6]) (copyN_r (c := 2048) (by omega)) (.cons (vq 3 rfl) .nil))) (oc (ob_a rfl rfl (a_fld (lz0 0 rfl) fld_94_2)) (oc (ob_v rfl rfl (r_loadf 5 rfl (by kernel_rfl) trivial (lz0 0 rfl) (Sub.part 2 rfl rfl) ty_26)) (oc (ob_v rfl rfl (r_call (xs := [.tmp 9]) (copyN_r (c := 2048) (by omega)) (.cons (vq 6 rfl) .nil))) (oc (ob_v rfl rfl (r_build (xs := [(0, .tmp 4), (1, .tmp 7), (2, .tmp 10)]) (qs := [(0, _), (1, _), (2, _)]) str_elem (.cons ⟨rfl, (vq 1 rfl), rfl⟩ (.cons ⟨rfl, (vq 4 rfl), rfl⟩ (.cons ⟨rfl, (vq 7 rfl), rfl⟩ .nil))))) (oc (ob_sto rfl rfl rfl (vq 8 rfl) ty_94 (Eq.trans (b := 9) rfl rfl)) o0)))))))))) (by kernel_rfl) (by kernel_rfl) (by kernel_rfl) (by kernel_rfl) (fun a w hst => ?_)
  have hst : St B w0 12 [] [⟨1, 94, ptrH, _⟩, ⟨2, 94, ptrH, _⟩] a w := hst
  refine thn_normal ?_
  refine wp_ret ?_
  refine ret_wk ?_ (ret_cell rfl hst (List.mem_of_getElem? (i := 1) rfl) ty_94)
  exact wk_eq (congrArg As.va (ren_e hx))

def revF (xs : List RE) : List RE × Int := if chF xs = 0 then (xs.reverse, 0) else ([], chF xs)
theorem el_ok {xs : List RE} (h : chF xs = 0) : xs.length ≤ 4096 ∧ ∀ x ∈ xs, elF x = true := by
  unfold chF at h
  split at h
  · cases h
  · split at h
    · rename_i h1 h2; exact ⟨by omega, List.all_eq_true.1 h2⟩
    · cases h
theorem elF_x {x : RE} (h : elF x = true) : [x.p, x.q].all okX = true := by
  cases h1 : ([x.p, x.q].all okX) with
  | true => rfl
  | false => simp [elF, h1] at h
theorem rev_ok {xs : List RE} {k : Nat} (h : chF xs = 0) (hk : k < xs.length) : [(xs.reverse.getD k re0).p, (xs.reverse.getD k re0).q].all okX = true := by
  refine elF_x ((el_ok h).2 _ ?_)
  rw [List.getD_eq_getElem?_getD, List.getElem?_eq_getElem (by simpa using hk)]
  exact List.mem_reverse.1 (List.getElem_mem _)
theorem rev_nx {xs : List RE} {k : Nat} (hk : k < xs.length) : (xs.reverse.take k).map REN ++ [REN (xs.reverse.getD k re0)] = (xs.reverse.take (k + 1)).map REN := by
  rw [List.getD_eq_getElem?_getD, List.getElem?_eq_getElem (by simpa using hk), List.take_succ_eq_append_getElem (by simpa using hk), List.map_append]
  rfl
theorem rev_end (xs : List RE) : xs.reverse.take xs.length = xs.reverse := by rw [List.take_of_length_le (by simp)]
abbrev OwE (l : List As) : As := OwnC 94 9 [U32] l
theorem rev_free {l : List RE} {k : Int} : Free (Tu [(OwE (l.map REN)).va, In k]) (Tu [(SlA 94 [U32] (l.map REA)).va, In k]) :=
  free_tu (.cons (free_own (map_free free_reN l) (fun A hA => by obtain ⟨x, _, rfl⟩ := List.mem_map.1 hA; exact nd_ok (l := [REA x]) (by kernel_rfl) _ (by simp))) (.cons (free_num _ _).va .nil))

set_option maxRecDepth 100000 in
theorem bw_c {v : Value} (hv : v.oneCell' = true) : Cn Tryz.prog 61 [EqV v] (NewIt 110 47 v) := by
  refine Cn.intro Tryz.func61 rfl (by kernel_rfl) nq (fun B w0 a hst => ?_)
  have hst : St B w0 4 [(0, EqV v)] [] a w0.w := hst
  refine wp_seq ?_
  refine gl (sts := []) (news := [⟨1, 47, ptrH, some 0, _, none⟩]) (sp := [.alc 0, .val 2 _]) [.o 1] hst (oc (ob_box rfl rfl rfl (has_eqA hv (gq 0 rfl))) (oc (ob_v rfl rfl (r_assign has_const)) o0)) (fun a w hst => ?_)
  have hst : St B w0 4 [(2, _)] [⟨1, 47, ptrH, _⟩] a w := hst
  refine thn_normal ?_
  refine wp_seq ?_
  refine gl (sts := [none]) (news := []) (sp := [.val 3 _, .val 2 _]) [.o 1] hst (oc (ob_v rfl rfl (r_mkIt (lz0 0 rfl))) (oc (ob_v rfl rfl (r_assign (vq 0 rfl))) o0)) (fun a w hst => ?_)
  have hst : St B w0 4 [(2, _)] [⟨1, 47, ptrH, _⟩] a w := hst
  refine thn_normal ?_
  refine wp_ret ?_
  refine ret_wk ?_ (ret_tmp rfl hst (List.mem_of_getElem? (i := 0) rfl))
  exact wk_id

set_option maxRecDepth 100000 in
theorem reverse_c (xs : List RE) : Cn Tryz.prog 22 [(SlA 94 [U32] (xs.map REA)).va] (Tu [(SlA 94 [U32] ((revF xs).1.map REA)).va, In (revF xs).2]) := by
  obtain ⟨it, z, e1, e2, e3, e4, e5⟩ := app_elem
  refine Cn.introR Tryz.func22 rfl (by kernel_rfl) nq (.cons (up_sl (fun A hA => by obtain ⟨x, _, rfl⟩ := List.mem_map.1 hA; exact upA_re x)).va .nil) rev_free (fun B w0 a hB0 hN0 hst => ?_)
  have hst : St B w0 23 [(0, (SlO 94 [U32] (xs.map REA) True).va)] [] a w0.w := hst
  refine wp_seq ?_
  refine gl (sts := []) (news := []) (sp := [.val 2 _, .val 3 _]) [.g 0, .o 0, .o 1] hst (oc (ob_v rfl rfl (r_assign has_const)) (oc (ob_v rfl rfl (r_assign has_num)) o0)) (fun a w hst => ?_)
  have hst : St B w0 23 [(0, _), (2, _), (3, _)] [] a w := hst
  refine thn_normal ?_
  refine wp_seq ?_
  refine wp_seq ?_
  refine gl (sts := []) (news := []) (sp := [.val 8 _, .val 9 _, .val 4 _]) [.g 0, .g 1, .g 2, .o 2] hst (oc (ob_v rfl rfl (r_move (gq 0 rfl))) (oc (ob_v rfl rfl (r_call (xs := [.tmp 8]) ((benCheck_c xs).wk (.cons slx .nil)) (.cons (vq 0 rfl) .nil))) (oc (ob_v rfl rfl (r_assign (vq 1 rfl))) o0))) (fun a w hst => ?_)
  have hst : St B w0 23 [(0, _), (2, _), (3, _), (4, _)] [] a w := hst
  refine thn_normal ?_
  refine wp_seq ?_
  refine gl (sts := []) (news := []) (sp := [.val 10 _, .val 11 _]) [.g 0, .g 1, .g 2, .g 3, .o 1] hst (oc (ob_v rfl rfl (r_move (gq 3 rfl))) (oc (ob_v rfl rfl (r_neq (vq 0 rfl) has_num)) o0)) (fun a w hst => ?_)
  have hst : St B w0 23 [(0, _), (2, _), (3, _), (4, _), (11, _)] [] a w := hst
  refine thn_normal ?_
  refine cond_of hst (List.mem_of_getElem? (i := 4) rfl) (fun hb0 => ?_) (fun hb0 => ?_)
  · have hc : ¬ chF xs = 0 := by simpa using hb0
    refine wp_seq ?_
    refine gl (sts := []) (news := []) (sp := [.val 12 _, .val 2 _, .val 3 _]) [.g 0, .o 1, .o 2] hst (oc (ob_v rfl rfl (r_move (gq 3 rfl))) (oc (ob_v rfl rfl (r_assign has_const)) (oc (ob_v rfl rfl (r_assign (vq 0 rfl))) o0))) (fun a w hst => ?_)
    have hst : St B w0 23 [(0, _), (2, _), (3, _)] [] a w := hst
    refine thn_normal ?_
    refine wp_ret ?_
    refine thn_ret ?_
    refine ret_wk ?_ (ret_many (rs := [.tmp 2, .tmp 3]) rfl hst (.tmp (List.mem_of_getElem? (i := 1) rfl) (.tmp (List.mem_of_getElem? (i := 2) rfl) .nil)) (by decide))
    rw [revF, if_neg hc]; exact tu2w nil_own wk_id
  · have hc : chF xs = 0 := by simpa using hb0
    have hl4 := (el_ok hc).1
    refine wp_skip ?_
    refine thn_normal ?_
    refine wp_seq ?_
    refine gl (sts := []) (news := [⟨5, 47, ptrH, some 0, _, none⟩]) (sp := [.alc 0]) [.g 0, .g 1, .g 2] hst (oc (ob_alc rfl rfl rfl zero_els) o0) (fun a w hst => ?_)
    have hst : St B w0 23 [(0, _), (2, _), (3, _)] [⟨5, 47, ptrH, _⟩] a w := hst
    refine thn_normal ?_
    refine wp_seq ?_
    refine wp_seq ?_
    obtain ⟨q5, hst⟩ := St.nm hst 0 rfl
    refine gl (sts := [none]) (news := []) (sp := [.val 13 _, .val 14 _]) [.g 0, .g 2, .g 3, .o 1] hst (oc (ob_v rfl rfl (r_move (gq 1 rfl))) (oc (ob_v rfl rfl (r_callIt [(5, q5)] rfl (fun v hv => bw_c hv) (vq 0 rfl) (.cons (gq 0 rfl) (lz0 0 rfl) .nil))) o0)) (fun a w hst => ?_)
    have hst : St B w0 23 [(5, _), (2, _), (3, _), (14, _)] [⟨5, 47, ptrH, _⟩] a w := hst
    obtain ⟨gb, hst, hds⟩ := St.itn (ps := [(5, q5)]) 3 [0] hst rfl ⟨rfl, trivial⟩
    have hdis : ∀ s ∈ [5], ∀ g, blk (a.eval (.tmp s)) = some g → g ∉ gb := hds
    refine thn_normal ?_
    refine wp_block ?_
    have hst := St.selL hst [0]
    refine go_range (k0 := 3) (gb := gb) (Dd := [U32]) (Db := [47, 94]) (fun k => [⟨5, 47, ptrH, OwE ((xs.reverse.take k).map REN)⟩]) none (fun _ => none) hst hB0 hN0 rfl (bw_it xs) (M := xs.length) (Y := fun k => [In (((xs.length - 1 - k : Nat)) : Int), (REA (xs.reverse.getD k re0)).va]) (fun h => by cases h) (by kernel_rfl) [] (by kernel_rfl) (fun _ => by kernel_rfl) [5] (fun _ => by kernel_rfl) hdis (fun L hL => by cases hL) (fun _ L hL => by cases hL) (fun _ => rfl) (by decide) (by kernel_rfl) (fun l k a1 Ws hk hBs hct hst => ?_) (fun a w hst => ?_) (fun L hL => by cases hL) (fun _ L hL => by cases hL)
    · have hst : St B (rndB B [47, 94] gb Ws Ws) 23 [(15, _), (16, _), (5, _)] [⟨5, 47, ptrH, OwE ((xs.reverse.take k).map REN)⟩] a1 Ws := hst
      refine go_newF1 1 [0, 1, 2] hst rfl rfl rfl (by kernel_rfl) (no_out fun _ _ h => h) (Str.zero str_elem) rfl ty_94 rfl (by decide) rfl (by kernel_rfl) (by kernel_rfl) (fun a w hst => ?_)
      have hst : St B (rndB B [47, 94] gb Ws Ws) 23 [(15, _), (16, _), (5, _)] [⟨5, 47, ptrH, _⟩, ⟨7, 94, ptrH, _⟩] a w := hst
      refine thn_normal ?_
      refine ⟨hst.base, fun W3 hbg => ?_⟩
      have hrm := rowMay_r (E := 94) hst.base hbg hct rfl rfl
      have hst := St.begin hst (Nat.le_refl _) hBs hbg
      refine wpIn_block ?_
      refine go_appCDF (sp := [.val 17 _, .val 18 _, .val 19 _, .val 20 _, .val 21 VT, .sto 0]) [[], [], [1], [1, 2], [0, 1, 2, 3], [0, 1, 2, 3, 4]] 4 [0, 1, 2] 0 3 0 [0] 0 follows_mixed (by kernel_rfl) (no_out fun _ _ h => h) hst (oc (ob_v rfl rfl (r_load (lz0 0 rfl) ty_47)) (oc (ob_v rfl rfl (r_load (lz0 1 rfl) ty_94)) (oc (ob_v rfl rfl (r_call (xs := [.tmp 18]) (copied_c _ (rev_ok hc hk)) (.cons (vq 1 rfl) .nil))) (oc (ob_v rfl rfl (r_slice (D := [U32]) (l := [_]) (xs := [.tmp 19]) (nd_ok (by kernel_rfl)) sl_47 (by kernel_rfl) (n_ok (by kernel_rfl)) nq nq nq (.cons (vq 2 rfl) .nil) rfl rfl)) o0)))) rfl (by kernel_rfl) (anc_all (by kernel_rfl)) (by kernel_rfl) rfl rfl (by decide) rfl (by decide) rfl (fun _ _ h _ => h) rfl rfl (by kernel_rfl) hrm ty_47 Tryz.underlying47 e1 e2 e3 e4 e5 (by decide) (by simp only [List.length_map, List.length_take, List.length_reverse, List.length_singleton]; omega) (by decide) (fun T hT => hT) (by decide) (fun A hA => by obtain rfl := List.mem_singleton.1 hA; rfl) nq (by kernel_rfl) (by kernel_rfl) (fun a w hst => ?_)
      have hst : St B (rndB B [47, 94] gb Ws W3) 23 [(15, _), (16, _), (5, _)] [⟨5, 47, ptrH, _⟩] a w := hst
      refine blk_normal ?_
      rw [rev_nx hk] at hst
      have hst := St.selL hst [0]
      exact ⟨(fun h => by cases h), rend_of [2] hst ⟨rfl, trivial⟩⟩
    · have hst : St B w0 23 [] [⟨5, 47, ptrH, _⟩] a w := hst
      rw [rev_end] at hst
      refine blk_normal ?_
      refine thn_normal ?_
      refine wp_seq ?_
      refine gl (sts := [none]) (news := []) (sp := [.val 22 _, .val 2 _, .val 3 _]) [.o 1, .o 2] hst (oc (ob_v rfl rfl (r_load (lz0 0 rfl) ty_47)) (oc (ob_v rfl rfl (r_assign (vq 0 rfl))) (oc (ob_v rfl rfl (r_assign has_num)) o0))) (fun a w hst => ?_)
      have hst : St B w0 23 [(2, _), (3, _)] [⟨5, 47, ptrH, _⟩] a w := hst
      refine thn_normal ?_
      refine wp_ret ?_
      refine ret_wk ?_ (ret_many (rs := [.tmp 2, .tmp 3]) rfl hst (.tmp (List.mem_of_getElem? (i := 0) rfl) (.tmp (List.mem_of_getElem? (i := 1) rfl) .nil)) (by decide))
      rw [revF, if_pos hc]; exact wk_id

theorem re_eq {x y : RE} : ((((x.k == y.k) && decide (x.p = y.p))) && decide (x.q = y.q)) = decide (x = y) := by
  cases x; cases y
  simp [RE.mk.injEq, Bool.and_assoc]
  rfl
theorem se_no {xs ys : List RE} {j : Nat} (hx : j < xs.length) (hy : j < ys.length) (h : decide (xs[j] = ys[j]) = false) : decide (xs = ys) = false := by
  simp only [decide_eq_false_iff_not] at h ⊢
  rintro rfl
  exact h rfl
theorem se_nx {xs ys : List RE} {j : Nat} (hx : j < xs.length) (hy : j < ys.length) (hp : xs.take j = ys.take j) (h : decide (xs[j] = ys[j]) = true) : xs.take (j + 1) = ys.take (j + 1) := by
  rw [List.take_succ_eq_append_getElem hx, List.take_succ_eq_append_getElem hy, hp, of_decide_eq_true h]

set_option maxRecDepth 100000 in
theorem sameEl_c (x y : RE) : Cn Tryz.prog 63 [(REA x).va, (REA y).va] (Bo (decide (x = y))) := by
  refine Cn.intro Tryz.func63 rfl (by kernel_rfl) nq (fun B w0 a hst => ?_)
  have hst : St B w0 24 [(0, (REA x).va), (1, (REA y).va)] [] a w0.w := hst
  refine wp_seq ?_
  refine gl (sts := []) (news := [⟨2, 94, ptrH, some 0, _, none⟩, ⟨3, 94, ptrH, some 1, _, none⟩]) (sp := [.alc 0, .alc 1, .val 4 _]) [.o 2] hst (oc (ob_box rfl rfl rfl (gq 0 rfl)) (oc (ob_box rfl rfl rfl (gq 1 rfl)) (oc (ob_v rfl rfl (r_assign has_bo)) o0))) (fun a w hst => ?_)
  have hst : St B w0 24 [(4, _)] [⟨2, 94, ptrH, _⟩, ⟨3, 94, ptrH, _⟩] a w := hst
  refine thn_normal ?_
  refine wp_seq ?_
  refine gl (sts := [none, none]) (news := []) (sp := [.adr 5 2 (.some 0) True, .val 6 _, .adr 7 3 (.some 0) True, .val 8 _, .val 9 _, .val 10 _, .adr 11 2 (.some 1) (_ = true), .val 12 (Wh (_ = true) _), .adr 13 3 (.some 1) (_ = true), .val 14 (Wh (_ = true) _), .val 15 (Wh (_ = true) _), .val 16 _, .val 17 _, .adr 18 2 (.some 5) (_ = true), .val 19 (Wh (_ = true) _), .adr 20 3 (.some 5) (_ = true), .val 21 (Wh (_ = true) _), .val 22 (Wh (_ = true) _), .val 23 _, .val 4 _]) [.o 19] hst (oc (ob_a rfl rfl (a_fld (lz0 0 rfl) fld_94_0)) (oc (ob_v rfl rfl (r_loadf 0 rfl (by kernel_rfl) trivial (lz0 0 rfl) (Sub.part 0 rfl rfl) ty_92)) (oc (ob_a rfl rfl (a_fld (lz0 1 rfl) fld_94_0)) (oc (ob_v rfl rfl (r_loadf 2 rfl (by kernel_rfl) trivial (lz0 1 rfl) (Sub.part 0 rfl rfl) ty_92)) (oc (ob_v rfl rfl (r_eql (vq 1 rfl) (vq 3 rfl))) (oc (ob_v rfl rfl (r_move (vq 4 rfl))) (oc (ob_ag rfl rfl rfl (vq 5 rfl) nq (fun hg => a_fld (lz0 0 rfl) fld_94_1)) (oc (ob_gd rfl rfl rfl (vq 5 rfl) nq (fun hg => r_loadf 6 rfl (by kernel_rfl) hg (lz0 0 rfl) (Sub.part 1 rfl rfl) ty_26)) (oc (ob_ag rfl rfl rfl (vq 5 rfl) nq (fun hg => a_fld (lz0 1 rfl) fld_94_1)) (oc (ob_gd rfl rfl rfl (vq 5 rfl) nq (fun hg => r_loadf 8 rfl (by kernel_rfl) hg (lz0 1 rfl) (Sub.part 1 rfl rfl) ty_26)) (oc (ob_gd rfl rfl rfl (vq 5 rfl) nq (fun hg => r_call (xs := [.tmp 12, .tmp 14]) (sameFrac_c _ _) (.cons (has_wh (vq 7 rfl) hg) (.cons (has_wh (vq 9 rfl) hg) .nil)))) (oc (ob_v rfl rfl (r_and (vq 5 rfl) (vq 10 rfl))) (oc (ob_v rfl rfl (r_move (vq 11 rfl))) (oc (ob_ag rfl rfl rfl (vq 12 rfl) nq (fun hg => a_fld (lz0 0 rfl) fld_94_2)) (oc (ob_gd rfl rfl rfl (vq 12 rfl) nq (fun hg => r_loadf 13 rfl (by kernel_rfl) hg (lz0 0 rfl) (Sub.part 2 rfl rfl) ty_26)) (oc (ob_ag rfl rfl rfl (vq 12 rfl) nq (fun hg => a_fld (lz0 1 rfl) fld_94_2)) (oc (ob_gd rfl rfl rfl (vq 12 rfl) nq (fun hg => r_loadf 15 rfl (by kernel_rfl) hg (lz0 1 rfl) (Sub.part 2 rfl rfl) ty_26)) (oc (ob_gd rfl rfl rfl (vq 12 rfl) nq (fun hg => r_call (xs := [.tmp 19, .tmp 21]) (sameFrac_c _ _) (.cons (has_wh (vq 14 rfl) hg) (.cons (has_wh (vq 16 rfl) hg) .nil)))) (oc (ob_v rfl rfl (r_and (vq 12 rfl) (vq 17 rfl))) (oc (ob_v rfl rfl (r_assign (vq 18 rfl))) o0)))))))))))))))))))) (fun a w hst => ?_)
  have hst : St B w0 24 [(4, _)] [⟨2, 94, ptrH, _⟩, ⟨3, 94, ptrH, _⟩] a w := hst
  refine thn_normal ?_
  refine wp_ret ?_
  refine ret_wk ?_ (ret_tmp rfl hst (List.mem_of_getElem? (i := 0) rfl))
  exact wk_eq (congrArg Bo re_eq)

set_option maxRecDepth 100000 in
theorem sameEls_c (xs ys : List RE) : Cn Tryz.prog 23 [(SlA 94 [U32] (xs.map REA)).va, (SlA 94 [U32] (ys.map REA)).va] (Bo (decide (xs = ys))) := by
  refine Cn.intro Tryz.func23 rfl (by kernel_rfl) nq (fun B w0 a hst => ?_)
  have hst : St B w0 27 [(0, (SlA 94 [U32] (xs.map REA)).va), (1, (SlA 94 [U32] (ys.map REA)).va)] [] a w0.w := hst
  have hl := slA_lenm (hst.vals (0, (SlA 94 [U32] (xs.map REA)).va) (List.mem_of_getElem? (i := 0) rfl))
  refine wp_seq ?_
  refine gl (sts := []) (news := []) (sp := [.val 4 _]) [.g 0, .g 1, .o 0] hst (oc (ob_v rfl rfl (r_assign has_bo)) o0) (fun a w hst => ?_)
  have hst : St B w0 27 [(0, _), (1, _), (4, _)] [] a w := hst
  refine thn_normal ?_
  refine wp_seq ?_
  refine wp_seq ?_
  refine gl (sts := []) (news := []) (sp := [.val 6 _, .val 7 _, .val 8 _, .val 9 _, .val 10 _]) [.g 0, .g 1, .g 2, .o 4] hst (oc (ob_v rfl rfl (r_move (gq 0 rfl))) (oc (ob_v rfl rfl (r_len Tryz.underlying47 (vq 0 rfl))) (oc (ob_v rfl rfl (r_move (gq 1 rfl))) (oc (ob_v rfl rfl (r_len Tryz.underlying47 (vq 2 rfl))) (oc (ob_v rfl rfl (r_neq (vq 1 rfl) (vq 3 rfl))) o0))))) (fun a w hst => ?_)
  have hst : St B w0 27 [(0, _), (1, _), (4, _), (10, _)] [] a w := hst
  refine thn_normal ?_
  refine cond_of hst (List.mem_of_getElem? (i := 3) rfl) (fun hb0 => ?_) (fun hb0 => ?_)
  · have hne : decide (xs = ys) = false := by
      simp only [List.length_map] at hb0
      simp only [decide_eq_false_iff_not]
      rintro rfl
      simp at hb0
    refine wp_seq ?_
    refine gl (sts := []) (news := []) (sp := [.val 4 _]) [.g 0, .g 1, .o 0] hst (oc (ob_v rfl rfl (r_assign has_bo)) o0) (fun a w hst => ?_)
    have hst : St B w0 27 [(0, _), (1, _), (4, _)] [] a w := hst
    refine thn_normal ?_
    refine wp_ret ?_
    refine thn_ret ?_
    refine ret_wk ?_ (ret_tmp rfl hst (List.mem_of_getElem? (i := 2) rfl))
    exact wk_eq (congrArg Bo hne.symm)
  · have hee : xs.length = ys.length := by simp only [List.length_map] at hb0; have : (xs.length : Int) = (ys.length : Int) := by simpa using hb0
                                           omega
    refine wp_skip ?_
    refine thn_normal ?_
    refine wp_seq ?_
    refine wp_seq ?_
    refine gl (sts := []) (news := []) (sp := [.val 5 _]) [.g 0, .g 1, .g 2, .o 0] hst (oc (ob_v rfl rfl (r_assign has_num)) o0) (fun a w hst => ?_)
    have hst : St B w0 27 [(0, _), (1, _), (4, _), (5, _)] [] a w := hst
    refine thn_normal ?_
    refine wp_block ?_
    have hst := St.sel hst [0, 1, 3]
    refine wp_loop_ghost (fun n a w => ∃ (j : Nat), (n + j = xs.length ∧ xs.take j = ys.take j) ∧ St B w0 27 [(0, (SlA 94 [U32] (xs.map REA)).va), (1, (SlA 94 [U32] (ys.map REA)).va), (5, In (j : Nat))] [] a w) (xs.length) ?_ ?_
    · exact ⟨0, ⟨by omega, rfl⟩, hst⟩
    intro n a w hI
    obtain ⟨j, ⟨hn, hp⟩, hst⟩ := hI
    refine wp_seq ?_
    refine wp_seq ?_
    refine gl (sts := []) (news := []) (sp := [.val 11 _, .val 12 _, .val 13 _, .val 14 _]) [.g 0, .g 1, .g 2, .o 3] hst (oc (ob_v rfl rfl (r_move (gq 2 rfl))) (oc (ob_v rfl rfl (r_move (gq 0 rfl))) (oc (ob_v rfl rfl (r_len Tryz.underlying47 (vq 1 rfl))) (oc (ob_v rfl rfl (r_lss (vq 0 rfl) (vq 2 rfl))) o0)))) (fun a w hst => ?_)
    have hst : St B w0 27 [(0, _), (1, _), (5, _), (14, _)] [] a w := hst
    refine thn_normal ?_
    refine cond_of hst (List.mem_of_getElem? (i := 3) rfl) (fun hb1 => ?_) (fun hb1 => ?_)
    · have hj : j < xs.length := by rw [List.length_map] at hb1; have := of_decide_eq_true hb1; omega
      have hj2 : j < ys.length := by omega
      refine wp_skip ?_
      refine thn_normal ?_
      refine wp_seq ?_
      refine wp_block ?_
      refine wp_seq ?_
      refine go_draw (anc := [[], [], [0, 1], [0, 1, 2], [], [], [4, 5], [4, 5, 6], [0, 1, 2, 3, 4, 5, 6, 7], [0, 1, 2, 3, 4, 5, 6, 7, 8]]) (sts := []) (news := []) (sp := [.val 17 _, .val 18 _, .val 19 _, .val 20 _, .val 21 _, .val 22 _, .val 23 _, .val 24 _, .val 25 _, .val 26 _]) [.g 0, .g 1, .g 2, .o 9] follows_mixed hst (oc (ob_v rfl rfl (r_move (gq 0 rfl))) (oc (ob_v rfl rfl (r_move (gq 2 rfl))) (oc (ob_v rfl rfl (r_idx sl_47 (map_n fun _ => rfl) (vq 0 rfl) (vq 1 rfl) (map_at hj))) (oc (ob_v rfl rfl (r_loade (vq 2 rfl) ty_94)) (oc (ob_v rfl rfl (r_move (gq 1 rfl))) (oc (ob_v rfl rfl (r_move (gq 2 rfl))) (oc (ob_v rfl rfl (r_idx sl_47 (map_n fun _ => rfl) (vq 4 rfl) (vq 5 rfl) (map_at hj2))) (oc (ob_v rfl rfl (r_loade (vq 6 rfl) ty_94)) (oc (ob_v rfl rfl (r_call (xs := [.tmp 20, .tmp 24]) (sameEl_c _ _) (.cons (vq 3 rfl) (.cons (vq 7 rfl) .nil)))) (oc (ob_v rfl rfl (r_not (vq 8 rfl))) o0)))))))))) (by kernel_rfl) (by kernel_rfl) (by kernel_rfl) (by kernel_rfl) (fun a w hst => ?_)
      have hst : St B w0 27 [(0, _), (1, _), (5, _), (26, _)] [] a w := hst
      refine thn_normal ?_
      refine cond_of hst (List.mem_of_getElem? (i := 3) rfl) (fun hb2 => ?_) (fun hb2 => ?_)
      · refine wp_seq ?_
        refine gl (sts := []) (news := []) (sp := [.val 4 _]) [.g 0, .g 1, .g 2, .o 0] hst (oc (ob_v rfl rfl (r_assign has_bo)) o0) (fun a w hst => ?_)
        have hst : St B w0 27 [(0, _), (1, _), (5, _), (4, _)] [] a w := hst
        refine thn_normal ?_
        refine wp_ret ?_
        refine blk_ret ?_
        refine thn_ret ?_
        refine thn_ret ?_
        refine blk_ret ?_
        refine thn_ret ?_
        refine ret_wk ?_ (ret_tmp rfl hst (List.mem_of_getElem? (i := 3) rfl))
        exact wk_eq (congrArg Bo (se_no hj hj2 (by simpa using hb2)).symm)
      · refine wp_skip ?_
        refine blk_normal ?_
        refine thn_normal ?_
        refine gl (sts := []) (news := []) (sp := [.val 15 _, .val 16 _, .val 5 _]) [.g 0, .g 1, .o 2] hst (oc (ob_v rfl rfl (r_move (gq 2 rfl))) (oc (ob_v rfl rfl (r_add (vq 0 rfl) has_num ((wi64 (by omega) (by omega)).trans (by omega : (_ : Int) = ((j + 1 : Nat) : Int))))) (oc (ob_v rfl rfl (r_assign (vq 1 rfl))) o0))) (fun a w hst => ?_)
        have hst : St B w0 27 [(0, _), (1, _), (5, _)] [] a w := hst
        refine thn_normal ?_
        have hst := St.sel hst [0, 1, 2]
        exact ⟨n - 1, by omega, j + 1, ⟨by omega, se_nx hj hj2 hp (by simpa using hb2)⟩, hst⟩
    · have hj : j = xs.length := by rw [List.length_map] at hb1; have := of_decide_eq_false hb1; omega
      refine wp_exit ?_
      refine thn_exit ?_
      refine thn_exit ?_
      refine blk_exit ?_
      refine thn_normal ?_
      refine wp_seq ?_
      refine gl (sts := []) (news := []) (sp := [.val 4 _]) [.o 0] hst (oc (ob_v rfl rfl (r_assign has_bo)) o0) (fun a w hst => ?_)
      have hst : St B w0 27 [(4, _)] [] a w := hst
      refine thn_normal ?_
      refine wp_ret ?_
      refine ret_wk ?_ (ret_tmp rfl hst (List.mem_of_getElem? (i := 0) rfl))
      exact wk_eq (congrArg Bo (decide_eq_true (by rw [hj, List.take_length, hee, List.take_length] at hp; exact hp)).symm)

/-! what it computes -/
theorem mir_mul (m q : MQ) : mirQ (mulQ m q) = mulQ (mirQ q) (mirQ m) := by
  unfold mirQ mulQ
  simp only [MQ.mk.injEq]
  exact ⟨by grind, by grind, by grind, by grind⟩
theorem el_mir (x : RE) : mirQ (elM x) = elM x := by
  unfold elM elQ mirQ
  split
  · rfl
  · split
    · rfl
    · split
      · rfl
      · split <;> rfl
theorem prod_rev : ∀ (xs : List RE), prodQ xs.reverse = mirQ (prodQ xs) := fun xs => by
  induction xs with
  | nil => rfl
  | cons x xs ih =>
    have e : prodQ (x :: xs) = mulQ (prodQ xs) (prodQ [x]) := prod_app [x] xs
    have e1 : prodQ [x] = elM x := by
      show mulQ (elM x) ⟨1, 0, 0, 1⟩ = elM x
      simp [mulQ, Rat.add_zero, Rat.zero_add]
    rw [List.reverse_cons, prod_app, ih, e, mir_mul, e1, el_mir]
theorem rev_ch {xs : List RE} : chF xs.reverse = chF xs := by
  unfold chF
  rw [List.length_reverse, List.all_reverse]
theorem rev_l {xs : List RE} (h : chF xs = 0) : Cn Tryz.prog 22 [(SlA 94 [U32] (xs.map REA)).va] (Tu [(SlA 94 [U32] (xs.reverse.map REA)).va, In 0]) := (reverse_c xs).post (by rw [revF, if_pos h])

end Go.Proofs.YtgjolcbehcjhcaaGreat
