import Derived.Test.YtiokhlpbdabaeaaLeafS
namespace Go.Proofs.Ytiokhlpbdabaeaa
open Go Go.RowKit
namespace LeafT
theorem fld_28_0 : Fld Try.prog 28 0 0 4 := ⟨_, _, Try.underlying28, rfl, rfl, by kernel_rfl, by decide⟩
theorem fld_28_1 : Fld Try.prog 28 1 4 4 := ⟨_, _, Try.underlying28, rfl, rfl, by kernel_rfl, by decide⟩
theorem fld_42_0 : Fld Try.prog 42 0 0 4 := ⟨_, _, Try.underlying42, rfl, rfl, by kernel_rfl, by decide⟩
theorem fld_42_1 : Fld Try.prog 42 1 4 4 := ⟨_, _, Try.underlying42, rfl, rfl, by kernel_rfl, by decide⟩
theorem fld_42_2 : Fld Try.prog 42 2 8 4 := ⟨_, _, Try.underlying42, rfl, rfl, by kernel_rfl, by decide⟩
theorem fld_42_3 : Fld Try.prog 42 3 12 4 := ⟨_, _, Try.underlying42, rfl, rfl, by kernel_rfl, by decide⟩
theorem sl_116 : Sl Try.prog 116 26 4 := ⟨by kernel_rfl, by kernel_rfl⟩
theorem sl_29 : Sl Try.prog 29 28 8 := ⟨by kernel_rfl, by kernel_rfl⟩
theorem ty_26 : Ty Try.prog 26 4 true := ⟨by kernel_rfl, by kernel_rfl⟩
theorem ty_28 : Ty Try.prog 28 8 true := ⟨by kernel_rfl, by kernel_rfl⟩
theorem ty_42 : Ty Try.prog 42 16 true := ⟨by kernel_rfl, by kernel_rfl⟩
end LeafT
open LeafT
def bmC (x : RG) : Int := if [x.re, x.im].all okX then (if (toQ x.im).num.sign ≤ 0 then 8 else 0) else 1
def okB (x : RG) : Bool := !(bmC x != 0)
theorem okB_q {x : RG} (h : okB x = true) : [x.re, x.im].all okX = true ∧ 0 < (toG x).im := by
  unfold okB bmC at h
  cases h1 : [x.re, x.im].all okX with
  | false => rw [h1] at h; simp at h
  | true =>
    rw [h1, if_pos rfl] at h
    refine ⟨rfl, ?_⟩
    by_cases h2 : (toQ x.im).num.sign ≤ 0
    · rw [if_pos h2] at h; exact absurd h (by decide)
    · have h3 : 0 < (toQ x.im).num := Int.sign_pos_iff.1 (by omega)
      show 0 < toQ x.im
      rw [Rat.lt_iff_le_and_ne]
      refine ⟨Rat.num_nonneg.1 (by omega), fun e => ?_⟩
      rw [← e] at h3
      exact absurd h3 (by decide)
def lineQ (a b : Rat) (z : GQ) : GQ := ⟨a * z.re + b, a * z.im⟩
def normQ (z : GQ) : Rat := z.re * z.re + z.im * z.im
def behQ (m : MQ) (q : GQ) : GQ := ⟨((lineQ m.a m.b q).re * (lineQ m.c m.d q).re + (lineQ m.a m.b q).im * (lineQ m.c m.d q).im) / normQ (lineQ m.c m.d q), q.im / normQ (lineQ m.c m.d q)⟩
theorem sq_nn (x : Rat) : 0 ≤ x * x := by
  rcases Rat.le_total (a := 0) (b := x) with h | h
  · exact Rat.mul_nonneg h h
  · have : 0 ≤ (-x) * (-x) := Rat.mul_nonneg (by grind) (by grind)
    grind
theorem sum_sq {x y : Rat} (h : x * x + y * y = 0) : x = 0 ∧ y = 0 := by
  have h1 := sq_nn x
  have h2 := sq_nn y
  have h3 : x * x = 0 := Rat.le_antisymm (by grind) h1
  have h4 : y * y = 0 := by grind
  exact ⟨(Rat.mul_eq_zero.1 h3).elim id id, (Rat.mul_eq_zero.1 h4).elim id id⟩
theorem ne_of_pos {x : Rat} (h : 0 < x) : x ≠ 0 := Rat.ne_of_gt h
theorem norm_pos {z : GQ} (h : z.re ≠ 0 ∨ z.im ≠ 0) : normQ z ≠ 0 := fun e => by
  obtain ⟨h1, h2⟩ := sum_sq e
  rcases h with h | h
  · exact h h1
  · exact h h2
theorem norm_line {m : MQ} {q : GQ} (hd : detM m = 1) (hq : 0 < q.im) : normQ (lineQ m.c m.d q) ≠ 0 := by
  apply norm_pos
  by_cases hc : m.c = 0
  · left
    show m.c * q.re + m.d ≠ 0
    intro e
    unfold detM at hd
    rw [hc] at e hd
    have : m.d = 0 := by grind
    rw [this] at hd
    grind
  · right
    show m.c * q.im ≠ 0
    intro e
    rcases Rat.mul_eq_zero.1 e with h | h
    · exact hc h
    · exact ne_of_pos hq h
def ansG (z : GQ) : RG × Int := if longG z then (rg0, 4) else (rgOf z, 0)
abbrev GR (r : RG × Int) : VA := Tu [(RGA r.1).va, In r.2]
theorem one_longG {z : GQ} : [z].any longG = longG z := by simp

set_option maxRecDepth 100000 in
theorem bmCheck_c (x : RG) : Cn Try.prog 57 [(RGA x).va] (In (bmC x)) := by
  refine Cn.intro Try.func57 rfl (by kernel_rfl) (Nat.le_of_ble_eq_true (by kernel_rfl)) (fun B w0 a hst => ?_)
  have hst : St B w0 12 [(0, (RGA x).va)] [] a w0.w := hst
  refine wp_seq ?_
  refine go_lin (sts := []) (news := [⟨1, 28, ptrH, some 0, _, none⟩]) (sp := [.alc 0, .val 2 _]) [.o 1] hst (obs_cons (ob_box rfl rfl rfl (has_g 0 rfl (by kernel_rfl) (by kernel_rfl))) (obs_cons (ob_v rfl rfl (r_assign has_num)) (obs_nil))) (by kernel_rfl) (by kernel_rfl) (by kernel_rfl) (fun a w hst => ?_)
  have hst : St B w0 12 [(2, _)] [⟨1, 28, ptrH, _⟩] a w := hst
  refine thn_normal ?_
  refine wp_seq ?_
  refine wp_block ?_
  refine wp_seq ?_
  refine go_lin (sts := [none]) (news := []) (sp := [.val 4 _, .val 5 _, .val 6 _, .val 3 _]) [.g 0, .o 3] hst (obs_cons (ob_v rfl rfl (r_load (loc_at0 0 rfl (by kernel_rfl)) ty_28)) (obs_cons (ob_v rfl rfl (r_call (xs := [.tmp 4]) (argMay_c _) (.cons (has_v 0 rfl (by kernel_rfl) (by kernel_rfl)) .nil))) (obs_cons (ob_v rfl rfl (r_not (has_v 1 rfl (by kernel_rfl) (by kernel_rfl)))) (obs_cons (ob_v rfl rfl (r_assign (has_v 2 rfl (by kernel_rfl) (by kernel_rfl)))) (obs_nil))))) (by kernel_rfl) (by kernel_rfl) (by kernel_rfl) (fun a w hst => ?_)
  have hst : St B w0 12 [(2, _), (3, _)] [⟨1, 28, ptrH, _⟩] a w := hst
  refine thn_normal ?_
  refine cond_of hst (List.mem_of_getElem? (i := 1) rfl) (fun hb0 => ?_) (fun hb0 => ?_)
  · rw [Bool.not_eq_true'] at hb0
    refine wp_seq ?_
    refine go_lin (sts := [none]) (news := []) (sp := [.val 2 _]) [.o 0] hst (obs_cons (ob_v rfl rfl (r_assign has_num)) (obs_nil)) (by kernel_rfl) (by kernel_rfl) (by kernel_rfl) (fun a w hst => ?_)
    have hst : St B w0 12 [(2, _)] [⟨1, 28, ptrH, _⟩] a w := hst
    refine thn_normal ?_
    refine wp_ret ?_
    refine blk_ret ?_
    refine thn_ret ?_
    refine ret_wk ?_ (ret_tmp rfl hst (List.mem_of_getElem? (i := 0) rfl))
    rw [bmC, if_neg (by rw [hb0]; decide)]; exact wk_id
  · rw [Bool.not_eq_false'] at hb0
    have hst := St.wkL hst 0 rfl (qg_x hb0)
    refine wp_seq ?_
    refine go_lin (sts := [none]) (news := []) (sp := [.adr 8 1 (.some 4) True, .val 9 _, .val 10 _, .val 11 _, .val 7 _]) [.g 0, .o 4] hst (obs_cons (ob_a rfl rfl (a_fld (loc_at0 0 rfl (by kernel_rfl)) fld_28_1)) (obs_cons (ob_v rfl rfl (r_loadf 0 rfl (by kernel_rfl) trivial (loc_at0 0 rfl (by kernel_rfl)) (Sub.part 1 rfl rfl) ty_26)) (obs_cons (ob_v rfl rfl (r_call (xs := [.tmp 9]) sign_q (.cons (has_v 1 rfl (by kernel_rfl) (by kernel_rfl)) .nil))) (obs_cons (ob_v rfl rfl (r_leq (has_v 2 rfl (by kernel_rfl) (by kernel_rfl)) has_num)) (obs_cons (ob_v rfl rfl (r_assign (has_v 3 rfl (by kernel_rfl) (by kernel_rfl)))) (obs_nil)))))) (by kernel_rfl) (by kernel_rfl) (by kernel_rfl) (fun a w hst => ?_)
    have hst : St B w0 12 [(2, _), (7, _)] [⟨1, 28, ptrH, _⟩] a w := hst
    refine thn_normal ?_
    refine cond_of hst (List.mem_of_getElem? (i := 1) rfl) (fun hb1 => ?_) (fun hb1 => ?_)
    · refine wp_seq ?_
      refine go_lin (sts := [none]) (news := []) (sp := [.val 2 _]) [.o 0] hst (obs_cons (ob_v rfl rfl (r_assign has_num)) (obs_nil)) (by kernel_rfl) (by kernel_rfl) (by kernel_rfl) (fun a w hst => ?_)
      have hst : St B w0 12 [(2, _)] [⟨1, 28, ptrH, _⟩] a w := hst
      refine thn_normal ?_
      refine wp_ret ?_
      refine blk_ret ?_
      refine thn_ret ?_
      refine ret_wk ?_ (ret_tmp rfl hst (List.mem_of_getElem? (i := 0) rfl))
      rw [bmC, if_pos hb0, if_pos (show (toQ x.im).num.sign ≤ 0 from of_decide_eq_true hb1)]; exact wk_id
    · refine wp_skip ?_
      refine blk_normal ?_
      refine thn_normal ?_
      refine wp_seq ?_
      refine go_lin (sts := [none]) (news := []) (sp := [.val 2 _]) [.o 0] hst (obs_cons (ob_v rfl rfl (r_assign has_num)) (obs_nil)) (by kernel_rfl) (by kernel_rfl) (by kernel_rfl) (fun a w hst => ?_)
      have hst : St B w0 12 [(2, _)] [⟨1, 28, ptrH, _⟩] a w := hst
      refine thn_normal ?_
      refine wp_ret ?_
      refine ret_wk ?_ (ret_tmp rfl hst (List.mem_of_getElem? (i := 0) rfl))
      rw [bmC, if_pos hb0, if_neg (show ¬ (toQ x.im).num.sign ≤ 0 from of_decide_eq_false hb1)]; exact wk_id

set_option maxRecDepth 100000 in
theorem line_q {c d e : Nat} {x y : Rat} {z : GQ} (hk : c + d + e ≤ 137438953472) : Cn Try.prog 130 [Qs c x, Qs d y, (QGA e z).va] ((QGA (c + e + d + 1) (lineQ x y z)).va) := by
  refine Cn.intro Try.func130 rfl (by kernel_rfl) (Nat.le_of_ble_eq_true (by kernel_rfl)) (fun B w0 a hst => ?_)
  have hst : St B w0 18 [(0, Qs c x), (1, Qs d y), (2, (QGA e z).va)] [] a w0.w := hst
  refine wp_seq ?_
  refine go_lin (sts := []) (news := [⟨3, 26, ptrH, some 0, _, none⟩, ⟨4, 26, ptrH, some 1, _, none⟩, ⟨5, 28, ptrH, some 2, _, none⟩, ⟨6, 28, ptrH, some 3, _, none⟩]) (sp := [.alc 0, .alc 1, .alc 2, .alc 3]) [] hst (obs_cons (ob_box rfl rfl rfl (has_g 0 rfl (by kernel_rfl) (by kernel_rfl))) (obs_cons (ob_box rfl rfl rfl (has_g 1 rfl (by kernel_rfl) (by kernel_rfl))) (obs_cons (ob_box rfl rfl rfl (has_g 2 rfl (by kernel_rfl) (by kernel_rfl))) (obs_cons (ob_alc rfl rfl rfl (Str.zero str_gauss)) (obs_nil))))) (by kernel_rfl) (by kernel_rfl) (by kernel_rfl) (fun a w hst => ?_)
  have hst : St B w0 18 [] [⟨3, 26, ptrH, _⟩, ⟨4, 26, ptrH, _⟩, ⟨5, 28, ptrH, _⟩, ⟨6, 28, ptrH, _⟩] a w := hst
  refine thn_normal ?_
  refine wp_seq ?_
  refine go_draw (anc := [[], [], [1], [0, 1, 2], [], [0, 1, 2, 3, 4], [], [], [7], [0, 1, 2, 3, 4, 5, 6, 7, 8], [0, 1, 2, 3, 4, 5, 6, 7, 8, 9], [0, 1, 2, 3, 4, 5, 6, 7, 8, 9, 10]]) (sts := [none, none, none, some (11, _)]) (news := []) (sp := [.val 7 _, .adr 8 5 (.some 0) True, .val 9 _, .val 10 _, .val 11 _, .val 12 _, .val 13 _, .adr 14 5 (.some 4) True, .val 15 _, .val 16 _, .val 17 _, .sto 3]) [] follows_mixed hst (obs_cons (ob_v rfl rfl (r_load (loc_at0 0 rfl (by kernel_rfl)) ty_26)) (obs_cons (ob_a rfl rfl (a_fld (loc_at0 2 rfl (by kernel_rfl)) fld_28_0)) (obs_cons (ob_v rfl rfl (r_loadf 1 rfl (by kernel_rfl) trivial (loc_at0 2 rfl (by kernel_rfl)) (Sub.part 0 rfl rfl) ty_26)) (obs_cons (ob_v rfl rfl (r_call (xs := [.tmp 7, .tmp 9]) (times_q (by omega)) (.cons (has_v 0 rfl (by kernel_rfl) (by kernel_rfl)) (.cons (has_v 2 rfl (by kernel_rfl) (by kernel_rfl)) .nil)))) (obs_cons (ob_v rfl rfl (r_load (loc_at0 1 rfl (by kernel_rfl)) ty_26)) (obs_cons (ob_v rfl rfl (r_call (xs := [.tmp 10, .tmp 11]) (plus_q (by omega)) (.cons (has_v 3 rfl (by kernel_rfl) (by kernel_rfl)) (.cons (has_v 4 rfl (by kernel_rfl) (by kernel_rfl)) .nil)))) (obs_cons (ob_v rfl rfl (r_load (loc_at0 0 rfl (by kernel_rfl)) ty_26)) (obs_cons (ob_a rfl rfl (a_fld (loc_at0 2 rfl (by kernel_rfl)) fld_28_1)) (obs_cons (ob_v rfl rfl (r_loadf 7 rfl (by kernel_rfl) trivial (loc_at0 2 rfl (by kernel_rfl)) (Sub.part 1 rfl rfl) ty_26)) (obs_cons (ob_v rfl rfl (r_call (xs := [.tmp 13, .tmp 15]) (times_q (by omega)) (.cons (has_v 6 rfl (by kernel_rfl) (by kernel_rfl)) (.cons (has_v 8 rfl (by kernel_rfl) (by kernel_rfl)) .nil)))) (obs_cons (ob_v rfl rfl (r_build (xs := [(0, .tmp 12), (1, .tmp 16)]) (qs := [(0, _), (1, _)]) str_gauss (.cons ⟨rfl, (has_v 5 rfl (by kernel_rfl) (by kernel_rfl)), rfl⟩ (.cons ⟨rfl, (has_v 9 rfl (by kernel_rfl) (by kernel_rfl)), rfl⟩ .nil)))) (obs_cons (ob_sto rfl rfl rfl (has_v 10 rfl (by kernel_rfl) (by kernel_rfl)) ty_28 rfl) (obs_nil))))))))))))) (by kernel_rfl) (by kernel_rfl) (by kernel_rfl) (by kernel_rfl) (fun a w hst => ?_)
  have hst : St B w0 18 [] [⟨3, 26, ptrH, _⟩, ⟨4, 26, ptrH, _⟩, ⟨5, 28, ptrH, _⟩, ⟨6, 28, ptrH, _⟩] a w := hst
  refine thn_normal ?_
  refine wp_ret ?_
  refine ret_wk ?_ (ret_cell rfl hst (List.mem_of_getElem? (i := 3) rfl) ty_28)
  exact (cat_wk (.cons (WkA.refl _) (.cons (qa_mono (by omega)) .nil))).va

set_option maxRecDepth 100000 in
theorem behind_q {m : MQ} {z : GQ} (hd : detM m = 1) (hq : 0 < z.im) : Cn Try.prog 96 [(QMA 2048 m).va, (QGA 2048 z).va] ((QGA 49162 (behQ m z)).va) := by
  refine Cn.intro Try.func96 rfl (by kernel_rfl) (Nat.le_of_ble_eq_true (by kernel_rfl)) (fun B w0 a hst => ?_)
  have hst : St B w0 42 [(0, (QMA 2048 m).va), (1, (QGA 2048 z).va)] [] a w0.w := hst
  refine wp_seq ?_
  refine go_lin (sts := []) (news := [⟨2, 42, ptrH, some 0, _, none⟩, ⟨3, 28, ptrH, some 1, _, none⟩, ⟨4, 28, ptrH, some 2, _, none⟩]) (sp := [.alc 0, .alc 1, .alc 2]) [] hst (obs_cons (ob_box rfl rfl rfl (has_g 0 rfl (by kernel_rfl) (by kernel_rfl))) (obs_cons (ob_box rfl rfl rfl (has_g 1 rfl (by kernel_rfl) (by kernel_rfl))) (obs_cons (ob_alc rfl rfl rfl (Str.zero str_gauss)) (obs_nil)))) (by kernel_rfl) (by kernel_rfl) (by kernel_rfl) (fun a w hst => ?_)
  have hst : St B w0 42 [] [⟨2, 42, ptrH, _⟩, ⟨3, 28, ptrH, _⟩, ⟨4, 28, ptrH, _⟩] a w := hst
  refine thn_normal ?_
  refine wp_seq ?_
  refine go_draw (anc := [[], [0], [], [2], [], [0, 1, 2, 3, 4], [], [6], [], [8], [], [0, 1, 2, 3, 4, 5, 6, 7, 8, 9, 10], [], [], [0, 1, 2, 3, 4, 5, 6, 7, 8, 9, 10, 11, 12, 13], [0, 1, 2, 3, 4, 5, 6, 7, 8, 9, 10, 11, 12, 13, 14]]) (sts := [none, none, none]) (news := [⟨5, 28, ptrH, some 12, _, some (14, _)⟩, ⟨6, 28, ptrH, some 13, _, some (15, _)⟩]) (sp := [.adr 9 2 (.some 0) True, .val 10 _, .adr 11 2 (.some 4) True, .val 12 _, .val 13 _, .val 14 _, .adr 15 2 (.some 8) True, .val 16 _, .adr 17 2 (.some 12) True, .val 18 _, .val 19 _, .val 20 _, .alc 3, .alc 4, .sto 3, .sto 4]) [] follows_mixed hst (obs_cons (ob_a rfl rfl (a_fld (loc_at0 0 rfl (by kernel_rfl)) fld_42_0)) (obs_cons (ob_v rfl rfl (r_loadf 0 rfl (by kernel_rfl) trivial (loc_at0 0 rfl (by kernel_rfl)) (Sub.part 0 rfl rfl) ty_26)) (obs_cons (ob_a rfl rfl (a_fld (loc_at0 0 rfl (by kernel_rfl)) fld_42_1)) (obs_cons (ob_v rfl rfl (r_loadf 2 rfl (by kernel_rfl) trivial (loc_at0 0 rfl (by kernel_rfl)) (Sub.part 1 rfl rfl) ty_26)) (obs_cons (ob_v rfl rfl (r_load (loc_at0 1 rfl (by kernel_rfl)) ty_28)) (obs_cons (ob_v rfl rfl (r_call (xs := [.tmp 10, .tmp 12, .tmp 13]) (line_q (by decide)) (.cons (has_v 1 rfl (by kernel_rfl) (by kernel_rfl)) (.cons (has_v 3 rfl (by kernel_rfl) (by kernel_rfl)) (.cons (has_v 4 rfl (by kernel_rfl) (by kernel_rfl)) .nil))))) (obs_cons (ob_a rfl rfl (a_fld (loc_at0 0 rfl (by kernel_rfl)) fld_42_2)) (obs_cons (ob_v rfl rfl (r_loadf 6 rfl (by kernel_rfl) trivial (loc_at0 0 rfl (by kernel_rfl)) (Sub.part 2 rfl rfl) ty_26)) (obs_cons (ob_a rfl rfl (a_fld (loc_at0 0 rfl (by kernel_rfl)) fld_42_3)) (obs_cons (ob_v rfl rfl (r_loadf 8 rfl (by kernel_rfl) trivial (loc_at0 0 rfl (by kernel_rfl)) (Sub.part 3 rfl rfl) ty_26)) (obs_cons (ob_v rfl rfl (r_load (loc_at0 1 rfl (by kernel_rfl)) ty_28)) (obs_cons (ob_v rfl rfl (r_call (xs := [.tmp 16, .tmp 18, .tmp 19]) (line_q (by decide)) (.cons (has_v 7 rfl (by kernel_rfl) (by kernel_rfl)) (.cons (has_v 9 rfl (by kernel_rfl) (by kernel_rfl)) (.cons (has_v 10 rfl (by kernel_rfl) (by kernel_rfl)) .nil))))) (obs_cons (ob_alc rfl rfl rfl (Str.zero str_gauss)) (obs_cons (ob_alc rfl rfl rfl (Str.zero str_gauss)) (obs_cons (ob_sto rfl rfl rfl (has_v 5 rfl (by kernel_rfl) (by kernel_rfl)) ty_28 rfl) (obs_cons (ob_sto rfl rfl rfl (has_v 11 rfl (by kernel_rfl) (by kernel_rfl)) ty_28 rfl) (obs_nil))))))))))))))))) (by kernel_rfl) (by kernel_rfl) (by kernel_rfl) (by kernel_rfl) (fun a w hst => ?_)
  have hst : St B w0 42 [] [⟨2, 42, ptrH, _⟩, ⟨3, 28, ptrH, _⟩, ⟨4, 28, ptrH, _⟩, ⟨5, 28, ptrH, _⟩, ⟨6, 28, ptrH, _⟩] a w := hst
  refine thn_normal ?_
  refine wp_seq ?_
  refine go_lin (sts := [none, none, none, none, none]) (news := [⟨7, 26, ptrH, some 2, _, some (3, _)⟩]) (sp := [.val 21 _, .val 22 _, .alc 5, .sto 5]) [] hst (obs_cons (ob_v rfl rfl (r_load (loc_at0 4 rfl (by kernel_rfl)) ty_28)) (obs_cons (ob_v rfl rfl (r_call (xs := [.tmp 21]) (norm_q (by decide)) (.cons (has_v 0 rfl (by kernel_rfl) (by kernel_rfl)) .nil))) (obs_cons (ob_alc rfl rfl rfl (Str.zero str_frac)) (obs_cons (ob_sto rfl rfl rfl (has_v 1 rfl (by kernel_rfl) (by kernel_rfl)) ty_26 rfl) (obs_nil))))) (by kernel_rfl) (by kernel_rfl) (by kernel_rfl) (fun a w hst => ?_)
  have hst : St B w0 42 [] [⟨2, 42, ptrH, _⟩, ⟨3, 28, ptrH, _⟩, ⟨4, 28, ptrH, _⟩, ⟨5, 28, ptrH, _⟩, ⟨6, 28, ptrH, _⟩, ⟨7, 26, ptrH, _⟩] a w := hst
  refine thn_normal ?_
  refine wp_seq ?_
  refine go_draw (anc := [[], [0], [], [2], [0, 1, 2, 3], [], [5], [], [7], [0, 1, 2, 3, 4, 5, 6, 7, 8], [0, 1, 2, 3, 4, 5, 6, 7, 8, 9], [], [0, 1, 2, 3, 4, 5, 6, 7, 8, 9, 10, 11]]) (sts := [none, none, none, none, none, none]) (news := [⟨8, 26, ptrH, some 11, _, some (12, _)⟩]) (sp := [.adr 23 5 (.some 0) True, .val 24 _, .adr 25 6 (.some 0) True, .val 26 _, .val 27 _, .adr 28 5 (.some 4) True, .val 29 _, .adr 30 6 (.some 4) True, .val 31 _, .val 32 _, .val 33 _, .alc 6, .sto 6]) [] follows_mixed hst (obs_cons (ob_a rfl rfl (a_fld (loc_at0 3 rfl (by kernel_rfl)) fld_28_0)) (obs_cons (ob_v rfl rfl (r_loadf 0 rfl (by kernel_rfl) trivial (loc_at0 3 rfl (by kernel_rfl)) (Sub.part 0 rfl rfl) ty_26)) (obs_cons (ob_a rfl rfl (a_fld (loc_at0 4 rfl (by kernel_rfl)) fld_28_0)) (obs_cons (ob_v rfl rfl (r_loadf 2 rfl (by kernel_rfl) trivial (loc_at0 4 rfl (by kernel_rfl)) (Sub.part 0 rfl rfl) ty_26)) (obs_cons (ob_v rfl rfl (r_call (xs := [.tmp 24, .tmp 26]) (times_q (by omega)) (.cons (has_v 1 rfl (by kernel_rfl) (by kernel_rfl)) (.cons (has_v 3 rfl (by kernel_rfl) (by kernel_rfl)) .nil)))) (obs_cons (ob_a rfl rfl (a_fld (loc_at0 3 rfl (by kernel_rfl)) fld_28_1)) (obs_cons (ob_v rfl rfl (r_loadf 5 rfl (by kernel_rfl) trivial (loc_at0 3 rfl (by kernel_rfl)) (Sub.part 1 rfl rfl) ty_26)) (obs_cons (ob_a rfl rfl (a_fld (loc_at0 4 rfl (by kernel_rfl)) fld_28_1)) (obs_cons (ob_v rfl rfl (r_loadf 7 rfl (by kernel_rfl) trivial (loc_at0 4 rfl (by kernel_rfl)) (Sub.part 1 rfl rfl) ty_26)) (obs_cons (ob_v rfl rfl (r_call (xs := [.tmp 29, .tmp 31]) (times_q (by omega)) (.cons (has_v 6 rfl (by kernel_rfl) (by kernel_rfl)) (.cons (has_v 8 rfl (by kernel_rfl) (by kernel_rfl)) .nil)))) (obs_cons (ob_v rfl rfl (r_call (xs := [.tmp 27, .tmp 32]) (plus_q (by omega)) (.cons (has_v 4 rfl (by kernel_rfl) (by kernel_rfl)) (.cons (has_v 9 rfl (by kernel_rfl) (by kernel_rfl)) .nil)))) (obs_cons (ob_alc rfl rfl rfl (Str.zero str_frac)) (obs_cons (ob_sto rfl rfl rfl (has_v 10 rfl (by kernel_rfl) (by kernel_rfl)) ty_26 rfl) (obs_nil)))))))))))))) (by kernel_rfl) (by kernel_rfl) (by kernel_rfl) (by kernel_rfl) (fun a w hst => ?_)
  have hst : St B w0 42 [] [⟨2, 42, ptrH, _⟩, ⟨3, 28, ptrH, _⟩, ⟨4, 28, ptrH, _⟩, ⟨5, 28, ptrH, _⟩, ⟨6, 28, ptrH, _⟩, ⟨7, 26, ptrH, _⟩, ⟨8, 26, ptrH, _⟩] a w := hst
  refine thn_normal ?_
  refine wp_seq ?_
  refine go_draw (anc := [[], [], [0, 1], [], [3], [], [0, 1, 2, 3, 4, 5], [0, 1, 2, 3, 4, 5, 6], [0, 1, 2, 3, 4, 5, 6, 7]]) (sts := [none, none, some (8, _), none, none, none, none]) (news := []) (sp := [.val 34 _, .val 35 _, .val 36 _, .adr 37 3 (.some 4) True, .val 38 _, .val 39 _, .val 40 _, .val 41 _, .sto 2]) [] follows_mixed hst (obs_cons (ob_v rfl rfl (r_load (loc_at0 6 rfl (by kernel_rfl)) ty_26)) (obs_cons (ob_v rfl rfl (r_load (loc_at0 5 rfl (by kernel_rfl)) ty_26)) (obs_cons (ob_v rfl rfl (r_call (xs := [.tmp 34, .tmp 35]) (over_q (by decide) (norm_line hd hq)) (.cons (has_v 0 rfl (by kernel_rfl) (by kernel_rfl)) (.cons (has_v 1 rfl (by kernel_rfl) (by kernel_rfl)) .nil)))) (obs_cons (ob_a rfl rfl (a_fld (loc_at0 1 rfl (by kernel_rfl)) fld_28_1)) (obs_cons (ob_v rfl rfl (r_loadf 3 rfl (by kernel_rfl) trivial (loc_at0 1 rfl (by kernel_rfl)) (Sub.part 1 rfl rfl) ty_26)) (obs_cons (ob_v rfl rfl (r_load (loc_at0 5 rfl (by kernel_rfl)) ty_26)) (obs_cons (ob_v rfl rfl (r_call (xs := [.tmp 38, .tmp 39]) (over_q (by decide) (norm_line hd hq)) (.cons (has_v 4 rfl (by kernel_rfl) (by kernel_rfl)) (.cons (has_v 5 rfl (by kernel_rfl) (by kernel_rfl)) .nil)))) (obs_cons (ob_v rfl rfl (r_build (xs := [(0, .tmp 36), (1, .tmp 40)]) (qs := [(0, _), (1, _)]) str_gauss (.cons ⟨rfl, (has_v 2 rfl (by kernel_rfl) (by kernel_rfl)), rfl⟩ (.cons ⟨rfl, (has_v 6 rfl (by kernel_rfl) (by kernel_rfl)), rfl⟩ .nil)))) (obs_cons (ob_sto rfl rfl rfl (has_v 7 rfl (by kernel_rfl) (by kernel_rfl)) ty_28 rfl) (obs_nil)))))))))) (by kernel_rfl) (by kernel_rfl) (by kernel_rfl) (by kernel_rfl) (fun a w hst => ?_)
  have hst : St B w0 42 [] [⟨2, 42, ptrH, _⟩, ⟨3, 28, ptrH, _⟩, ⟨4, 28, ptrH, _⟩, ⟨5, 28, ptrH, _⟩, ⟨6, 28, ptrH, _⟩, ⟨7, 26, ptrH, _⟩, ⟨8, 26, ptrH, _⟩] a w := hst
  refine thn_normal ?_
  refine wp_ret ?_
  refine ret_wk ?_ (ret_cell rfl hst (List.mem_of_getElem? (i := 2) rfl) ty_28)
  exact (cat_wk (.cons (WkA.refl _) (.cons (qa_mono (by decide)) .nil))).va

set_option maxRecDepth 100000 in
theorem answeredG_q {c : Nat} {z : GQ} : Cn Try.prog 95 [(QGA c z).va] (GR (ansG z)) := by
  refine Cn.intro Try.func95 rfl (by kernel_rfl) (Nat.le_of_ble_eq_true (by kernel_rfl)) (fun B w0 a hst => ?_)
  have hst : St B w0 13 [(0, (QGA c z).va)] [] a w0.w := hst
  refine wp_seq ?_
  refine go_lin (sts := []) (news := [⟨1, 28, ptrH, some 0, _, none⟩, ⟨2, 28, ptrH, some 1, _, none⟩]) (sp := [.alc 0, .alc 1, .val 3 _]) [.o 2] hst (obs_cons (ob_box rfl rfl rfl (has_g 0 rfl (by kernel_rfl) (by kernel_rfl))) (obs_cons (ob_alc rfl rfl rfl (Str.zero str_gauss)) (obs_cons (ob_v rfl rfl (r_assign has_num)) (obs_nil)))) (by kernel_rfl) (by kernel_rfl) (by kernel_rfl) (fun a w hst => ?_)
  have hst : St B w0 13 [(3, _)] [⟨1, 28, ptrH, _⟩, ⟨2, 28, ptrH, _⟩] a w := hst
  refine thn_normal ?_
  refine wp_seq ?_
  refine wp_seq ?_
  refine go_lin (sts := [none, none]) (news := []) (sp := [.val 5 _, .val 6 _, .val 7 _, .val 4 _]) [.g 0, .o 3] hst (obs_cons (ob_v rfl rfl (r_load (loc_at0 0 rfl (by kernel_rfl)) ty_28)) (obs_cons (ob_v rfl rfl (r_slice (D := [U32]) (l := [_]) (xs := [.tmp 5]) (nd_ok (by kernel_rfl)) sl_29 (by kernel_rfl) (n_ok (by kernel_rfl)) (Nat.le_of_ble_eq_true (by kernel_rfl)) (Nat.le_of_ble_eq_true (by kernel_rfl)) (Nat.le_of_ble_eq_true (by kernel_rfl)) (.cons (has_v 0 rfl (by kernel_rfl) (by kernel_rfl)) .nil) rfl rfl)) (obs_cons (ob_v rfl rfl (r_call (xs := [.tmp 6]) (argAnswer_q [z] (.cons ⟨_, rfl⟩ .nil) (Nat.le_of_ble_eq_true (by kernel_rfl))) (.cons (has_v 1 rfl (by kernel_rfl) (by kernel_rfl)) .nil))) (obs_cons (ob_v rfl rfl (r_assign (has_v 2 rfl (by kernel_rfl) (by kernel_rfl)))) (obs_nil))))) (by kernel_rfl) (by kernel_rfl) (by kernel_rfl) (fun a w hst => ?_)
  have hst : St B w0 13 [(3, _), (4, _)] [⟨1, 28, ptrH, _⟩, ⟨2, 28, ptrH, _⟩] a w := hst
  refine thn_normal ?_
  refine wp_seq ?_
  refine go_lin (sts := [none, none]) (news := []) (sp := [.val 8 _, .val 9 _]) [.g 0, .g 1, .o 1] hst (obs_cons (ob_v rfl rfl (r_move (has_g 1 rfl (by kernel_rfl) (by kernel_rfl)))) (obs_cons (ob_v rfl rfl (r_neq (has_v 0 rfl (by kernel_rfl) (by kernel_rfl)) has_num)) (obs_nil))) (by kernel_rfl) (by kernel_rfl) (by kernel_rfl) (fun a w hst => ?_)
  have hst : St B w0 13 [(3, _), (4, _), (9, _)] [⟨1, 28, ptrH, _⟩, ⟨2, 28, ptrH, _⟩] a w := hst
  refine thn_normal ?_
  refine cond_of hst (List.mem_of_getElem? (i := 2) rfl) (fun hb0 => ?_) (fun hb0 => ?_)
  · rw [one_longG, ne0] at hb0
    refine wp_seq ?_
    refine go_lin (sts := [none, some (2, _)]) (news := []) (sp := [.val 10 _, .val 11 _, .sto 1, .val 3 _]) [.o 3] hst (obs_cons (ob_v rfl rfl (r_build (xs := []) (qs := []) str_gauss .nil)) (obs_cons (ob_v rfl rfl (r_move (has_g 1 rfl (by kernel_rfl) (by kernel_rfl)))) (obs_cons (ob_sto rfl rfl rfl (has_v 0 rfl (by kernel_rfl) (by kernel_rfl)) ty_28 rfl) (obs_cons (ob_v rfl rfl (r_assign (has_v 1 rfl (by kernel_rfl) (by kernel_rfl)))) (obs_nil))))) (by kernel_rfl) (by kernel_rfl) (by kernel_rfl) (fun a w hst => ?_)
    have hst : St B w0 13 [(3, _)] [⟨1, 28, ptrH, _⟩, ⟨2, 28, ptrH, _⟩] a w := hst
    refine thn_normal ?_
    refine wp_ret ?_
    refine thn_ret ?_
    refine ret_wk ?_ (ret_many (rs := [.cell 2 28, .tmp 3]) rfl hst (.cell (List.mem_of_getElem? (i := 1) rfl) ty_28 (.tmp (List.mem_of_getElem? (i := 0) rfl) .nil)) (by decide))
    rw [ansG, if_pos hb0]; exact tu2w wk_id (wk_eq (by rw [one_longG, hb0]; rfl))
  · rw [one_longG, ne0] at hb0
    refine wp_skip ?_
    refine thn_normal ?_
    refine wp_seq ?_
    refine go_lin (sts := [none, some (1, _)]) (news := []) (sp := [.val 12 _, .sto 1, .val 3 _]) [.o 2] hst (obs_cons (ob_v rfl rfl (r_load (loc_at0 0 rfl (by kernel_rfl)) ty_28)) (obs_cons (ob_sto rfl rfl rfl (has_v 0 rfl (by kernel_rfl) (by kernel_rfl)) ty_28 rfl) (obs_cons (ob_v rfl rfl (r_assign has_num)) (obs_nil)))) (by kernel_rfl) (by kernel_rfl) (by kernel_rfl) (fun a w hst => ?_)
    have hst : St B w0 13 [(3, _)] [⟨1, 28, ptrH, _⟩, ⟨2, 28, ptrH, _⟩] a w := hst
    refine thn_normal ?_
    refine wp_ret ?_
    refine ret_wk ?_ (ret_many (rs := [.cell 2 28, .tmp 3]) rfl hst (.cell (List.mem_of_getElem? (i := 1) rfl) ty_28 (.tmp (List.mem_of_getElem? (i := 0) rfl) .nil)) (by decide))
    rw [ansG, if_neg (by rw [hb0]; decide)]; exact tu2w qgA.va wk_id

def thrF (m : RM) (x : RG) : RG × Int := if okM m then (if bmC x != 0 then (rg0, bmC x) else ansG (behQ (toM m) (toG x))) else (rg0, 1)
theorem okM_q {m : RM} (h : okM m = true) : [m.a, m.b, m.c, m.d].all okX = true ∧ detM (toM m) = 1 := by
  unfold okM at h
  rw [Bool.and_eq_true, decide_eq_true_eq] at h
  exact h
theorem okB_of {x : RG} (h : (bmC x != 0) = false) : okB x = true := by rw [okB, h]; rfl

set_option maxRecDepth 100000 in
theorem bmThrough_c (m : RM) (x : RG) : Cn Try.prog 50 [(RMA m).va, (RGA x).va] (GR (thrF m x)) := by
  refine Cn.intro Try.func50 rfl (by kernel_rfl) (Nat.le_of_ble_eq_true (by kernel_rfl)) (fun B w0 a hst => ?_)
  have hst : St B w0 23 [(0, (RMA m).va), (1, (RGA x).va)] [] a w0.w := hst
  refine wp_seq ?_
  refine go_lin (sts := []) (news := [⟨2, 42, ptrH, some 0, _, none⟩, ⟨3, 28, ptrH, some 1, _, none⟩, ⟨4, 28, ptrH, some 2, _, none⟩]) (sp := [.alc 0, .alc 1, .alc 2, .val 5 _]) [.o 3] hst (obs_cons (ob_box rfl rfl rfl (has_g 0 rfl (by kernel_rfl) (by kernel_rfl))) (obs_cons (ob_box rfl rfl rfl (has_g 1 rfl (by kernel_rfl) (by kernel_rfl))) (obs_cons (ob_alc rfl rfl rfl (Str.zero str_gauss)) (obs_cons (ob_v rfl rfl (r_assign has_num)) (obs_nil))))) (by kernel_rfl) (by kernel_rfl) (by kernel_rfl) (fun a w hst => ?_)
  have hst : St B w0 23 [(5, _)] [⟨2, 42, ptrH, _⟩, ⟨3, 28, ptrH, _⟩, ⟨4, 28, ptrH, _⟩] a w := hst
  refine thn_normal ?_
  refine wp_seq ?_
  refine wp_seq ?_
  refine go_lin (sts := [none, none, none]) (news := []) (sp := [.val 7 _, .val 8 _, .val 9 _]) [.g 0, .o 2] hst (obs_cons (ob_v rfl rfl (r_load (loc_at0 0 rfl (by kernel_rfl)) ty_42)) (obs_cons (ob_v rfl rfl (r_call (xs := [.tmp 7]) (rowMay_c m) (.cons (has_v 0 rfl (by kernel_rfl) (by kernel_rfl)) .nil))) (obs_cons (ob_v rfl rfl (r_not (has_v 1 rfl (by kernel_rfl) (by kernel_rfl)))) (obs_nil)))) (by kernel_rfl) (by kernel_rfl) (by kernel_rfl) (fun a w hst => ?_)
  have hst : St B w0 23 [(5, _), (9, _)] [⟨2, 42, ptrH, _⟩, ⟨3, 28, ptrH, _⟩, ⟨4, 28, ptrH, _⟩] a w := hst
  refine thn_normal ?_
  refine cond_of hst (List.mem_of_getElem? (i := 1) rfl) (fun hb0 => ?_) (fun hb0 => ?_)
  · rw [Bool.not_eq_true'] at hb0
    refine wp_seq ?_
    refine go_lin (sts := [none, none, some (1, _)]) (news := []) (sp := [.val 10 _, .sto 2, .val 5 _]) [.o 2] hst (obs_cons (ob_v rfl rfl (r_build (xs := []) (qs := []) str_gauss .nil)) (obs_cons (ob_sto rfl rfl rfl (has_v 0 rfl (by kernel_rfl) (by kernel_rfl)) ty_28 rfl) (obs_cons (ob_v rfl rfl (r_assign has_num)) (obs_nil)))) (by kernel_rfl) (by kernel_rfl) (by kernel_rfl) (fun a w hst => ?_)
    have hst : St B w0 23 [(5, _)] [⟨2, 42, ptrH, _⟩, ⟨3, 28, ptrH, _⟩, ⟨4, 28, ptrH, _⟩] a w := hst
    refine thn_normal ?_
    refine wp_ret ?_
    refine thn_ret ?_
    refine ret_wk ?_ (ret_many (rs := [.cell 4 28, .tmp 5]) rfl hst (.cell (List.mem_of_getElem? (i := 2) rfl) ty_28 (.tmp (List.mem_of_getElem? (i := 0) rfl) .nil)) (by decide))
    rw [thrF, if_neg (by rw [hb0]; decide)]; exact wk_id
  · rw [Bool.not_eq_false'] at hb0
    have hm := okM_q hb0
    refine wp_skip ?_
    refine thn_normal ?_
    refine wp_seq ?_
    refine wp_seq ?_
    refine go_lin (sts := [none, none, none]) (news := []) (sp := [.val 11 _, .val 12 _, .val 6 _]) [.g 0, .o 2] hst (obs_cons (ob_v rfl rfl (r_load (loc_at0 1 rfl (by kernel_rfl)) ty_28)) (obs_cons (ob_v rfl rfl (r_call (xs := [.tmp 11]) (bmCheck_c x) (.cons (has_v 0 rfl (by kernel_rfl) (by kernel_rfl)) .nil))) (obs_cons (ob_v rfl rfl (r_assign (has_v 1 rfl (by kernel_rfl) (by kernel_rfl)))) (obs_nil)))) (by kernel_rfl) (by kernel_rfl) (by kernel_rfl) (fun a w hst => ?_)
    have hst : St B w0 23 [(5, _), (6, _)] [⟨2, 42, ptrH, _⟩, ⟨3, 28, ptrH, _⟩, ⟨4, 28, ptrH, _⟩] a w := hst
    refine thn_normal ?_
    refine wp_seq ?_
    refine go_lin (sts := [none, none, none]) (news := []) (sp := [.val 13 _, .val 14 _]) [.g 0, .g 1, .o 1] hst (obs_cons (ob_v rfl rfl (r_move (has_g 1 rfl (by kernel_rfl) (by kernel_rfl)))) (obs_cons (ob_v rfl rfl (r_neq (has_v 0 rfl (by kernel_rfl) (by kernel_rfl)) has_num)) (obs_nil))) (by kernel_rfl) (by kernel_rfl) (by kernel_rfl) (fun a w hst => ?_)
    have hst : St B w0 23 [(5, _), (6, _), (14, _)] [⟨2, 42, ptrH, _⟩, ⟨3, 28, ptrH, _⟩, ⟨4, 28, ptrH, _⟩] a w := hst
    refine thn_normal ?_
    refine cond_of hst (List.mem_of_getElem? (i := 2) rfl) (fun hb1 => ?_) (fun hb1 => ?_)
    · refine wp_seq ?_
      refine go_lin (sts := [none, none, some (2, _)]) (news := []) (sp := [.val 15 _, .val 16 _, .sto 2, .val 5 _]) [.o 3] hst (obs_cons (ob_v rfl rfl (r_build (xs := []) (qs := []) str_gauss .nil)) (obs_cons (ob_v rfl rfl (r_move (has_g 1 rfl (by kernel_rfl) (by kernel_rfl)))) (obs_cons (ob_sto rfl rfl rfl (has_v 0 rfl (by kernel_rfl) (by kernel_rfl)) ty_28 rfl) (obs_cons (ob_v rfl rfl (r_assign (has_v 1 rfl (by kernel_rfl) (by kernel_rfl)))) (obs_nil))))) (by kernel_rfl) (by kernel_rfl) (by kernel_rfl) (fun a w hst => ?_)
      have hst : St B w0 23 [(5, _)] [⟨2, 42, ptrH, _⟩, ⟨3, 28, ptrH, _⟩, ⟨4, 28, ptrH, _⟩] a w := hst
      refine thn_normal ?_
      refine wp_ret ?_
      refine thn_ret ?_
      refine ret_wk ?_ (ret_many (rs := [.cell 4 28, .tmp 5]) rfl hst (.cell (List.mem_of_getElem? (i := 2) rfl) ty_28 (.tmp (List.mem_of_getElem? (i := 0) rfl) .nil)) (by decide))
      rw [thrF, if_pos hb0, if_pos hb1]; exact wk_id
    · have hx := okB_q (okB_of hb1)
      have hst := St.wkL hst 0 rfl (qm_x hm.1)
      have hst := St.wkL hst 1 rfl (qg_x hx.1)
      refine wp_skip ?_
      refine thn_normal ?_
      refine wp_seq ?_
      refine go_lin (sts := [none, none, some (6, _)]) (news := []) (sp := [.val 17 _, .val 18 _, .val 19 _, .val 20 _, .val 21 _, .val 22 _, .sto 2, .val 5 _]) [.o 7] hst (obs_cons (ob_v rfl rfl (r_load (loc_at0 0 rfl (by kernel_rfl)) ty_42)) (obs_cons (ob_v rfl rfl (r_load (loc_at0 1 rfl (by kernel_rfl)) ty_28)) (obs_cons (ob_v rfl rfl (r_call (xs := [.tmp 17, .tmp 18]) (behind_q hm.2 hx.2) (.cons (has_v 0 rfl (by kernel_rfl) (by kernel_rfl)) (.cons (has_v 1 rfl (by kernel_rfl) (by kernel_rfl)) .nil)))) (obs_cons (ob_v rfl rfl (r_call (xs := [.tmp 19]) answeredG_q (.cons (has_v 2 rfl (by kernel_rfl) (by kernel_rfl)) .nil))) (obs_cons (ob_v rfl rfl (r_ex0 (has_v 3 rfl (by kernel_rfl) (by kernel_rfl)))) (obs_cons (ob_v rfl rfl (r_ex1 (has_v 3 rfl (by kernel_rfl) (by kernel_rfl)))) (obs_cons (ob_sto rfl rfl rfl (has_v 4 rfl (by kernel_rfl) (by kernel_rfl)) ty_28 rfl) (obs_cons (ob_v rfl rfl (r_assign (has_v 5 rfl (by kernel_rfl) (by kernel_rfl)))) (obs_nil))))))))) (by kernel_rfl) (by kernel_rfl) (by kernel_rfl) (fun a w hst => ?_)
      have hst : St B w0 23 [(5, _)] [⟨2, 42, ptrH, _⟩, ⟨3, 28, ptrH, _⟩, ⟨4, 28, ptrH, _⟩] a w := hst
      refine thn_normal ?_
      refine wp_ret ?_
      refine ret_wk ?_ (ret_many (rs := [.cell 4 28, .tmp 5]) rfl hst (.cell (List.mem_of_getElem? (i := 2) rfl) ty_28 (.tmp (List.mem_of_getElem? (i := 0) rfl) .nil)) (by decide))
      rw [thrF, if_pos hb0, if_neg (by rw [hb1]; decide)]; exact wk_id

theorem all_some {α : Type} {p : α → Bool} {l : List α} {j : Nat} (h : j < l.length) (h2 : p l[j] = false) : false = l.all p := (List.all_eq_false.2 ⟨_, List.getElem_mem h, by simp [h2]⟩).symm
theorem all_no {α : Type} {p : α → Bool} {l : List α} {j : Nat} (h : j < l.length) (h1 : (l.take j).all p = true) (h2 : p l[j] = true) : (l.take (j + 1)).all p = true := by
  rw [List.take_succ_eq_append_getElem h, List.all_append, h1]
  simp [h2]
theorem okB_no {x : RG} (h : (bmC x != 0) = true) : okB x = false := by rw [okB, h]; rfl
theorem upA_rg (x : RG) : UpA (RGA x) (RGA x) := cat_up (.cons (upA_rf _) (.cons (upA_rf _) .nil))
def sqQ (x y : Rat) : Rat := x * x + y * y
def alkQ (p q : GQ) : Rat := 4 * (p.im * q.im) / sqQ (p.re - q.re) (p.im + q.im)
def fdF (x : Rat) : RF × Bool × Int := if longQ x then (rf0, false, 4) else (rfOf x, true, 0)
abbrev R3 (r : RF × Bool × Int) : VA := Tu [(RFA r.1).va, Bo r.2.1, In r.2.2]
theorem tu3w {a b c d e f : VA} (h : Wk a d) (h' : Wk b e) (h'' : Wk c f) : Wk (Tu [a, b, c]) (Tu [d, e, f]) := tu_wk (.cons h (.cons h' (.cons h'' .nil)))
theorem sq_ne {x y : Rat} (h : 0 < y) : sqQ x y ≠ 0 := fun e => ne_of_pos h (sum_sq e).2
theorem two_B {x y : RG} : [x, y].all okB = (okB x && okB y) := by simp
theorem add_pos {x y : Rat} (h : 0 < x) (h' : 0 < y) : 0 < x + y := by grind
def ovF (x y : RG) : RF × Int := if okB x && okB y then ansF (alkQ (toG x) (toG y)) else (rf0, 1)
def lnF (x y : RG) : RF × Bool × Int := if okB x && okB y then (if (toG x).im / sqQ (toG x).re (toG x).im = (toG y).im / sqQ (toG y).re (toG y).im then fdF ((toG x).re / sqQ (toG x).re (toG x).im - (toG y).re / sqQ (toG y).re (toG y).im) else (rf0, false, 0)) else (rf0, false, 1)
def spF (x y : RG) : RF × Bool × Int := if okB x && okB y then (if (toG x).im = (toG y).im ∧ ¬ ((toG y).re - (toG x).re).num.sign < 0 then fdF ((toG y).re - (toG x).re) else (rf0, false, 0)) else (rf0, false, 1)
theorem fd_ans (x : Rat) : ((fdF x).1, (fdF x).2.2) = ansF x := by unfold fdF ansF; split <;> rfl
theorem sp_yes {x y : GQ} (h : ((cmQ x.im y.im != 0) || decide ((y.re - x.re).num.sign < 0)) = true) : ¬ (x.im = y.im ∧ ¬ (y.re - x.re).num.sign < 0) := by
  rw [cm_ne] at h
  rintro ⟨h1, h2⟩
  rw [decide_eq_true h1, decide_eq_false h2] at h
  exact absurd h (by decide)
theorem sp_no {x y : GQ} (h : ((cmQ x.im y.im != 0) || decide ((y.re - x.re).num.sign < 0)) = false) : x.im = y.im ∧ ¬ (y.re - x.re).num.sign < 0 := by
  rw [cm_ne, Bool.or_eq_false_iff] at h
  exact ⟨by simpa using h.1, of_decide_eq_false h.2⟩

set_option maxRecDepth 100000 in
theorem mayG_c (xs : List RG) : Cn Try.prog 59 [(SlA 28 [U32] (xs.map RGA)).va] (Bo (xs.all okB)) := by
  refine Cn.introW Try.func59 rfl (by kernel_rfl) (Nat.le_of_ble_eq_true (by kernel_rfl)) (.cons (up_sl (fun A hA => by obtain ⟨x, _, rfl⟩ := List.mem_map.1 hA; exact upA_rg x)).va .nil) (free_bo _).va (fun B w0 a hB0 hst => ?_)
  have hst : St B w0 15 [(0, (SlO 28 [U32] (xs.map RGA) True).va)] [] a w0.w := hst
  have hl := slO_len (hst.vals (0, (SlO 28 [U32] (xs.map RGA) True).va) (List.mem_of_getElem? (i := 0) rfl))
  rw [List.length_map] at hl
  refine wp_seq ?_
  refine go_lin (sts := []) (news := []) (sp := [.val 2 _]) [.g 0, .o 0] hst (obs_cons (ob_v rfl rfl (r_assign has_bo)) (obs_nil)) (by kernel_rfl) (by kernel_rfl) (by kernel_rfl) (fun a w hst => ?_)
  have hst : St B w0 15 [(0, _), (2, _)] [] a w := hst
  refine thn_normal ?_
  refine wp_seq ?_
  refine wp_seq ?_
  refine go_lin (sts := []) (news := []) (sp := [.val 5 _, .val 6 _, .val 7 _]) [.g 1, .o 0, .o 1, .o 2] hst (obs_cons (ob_v rfl rfl (r_move (has_g 0 rfl (by kernel_rfl) (by kernel_rfl)))) (obs_cons (ob_v rfl rfl (r_len Try.underlying29 (has_and (has_old (has_v 0 rfl (by kernel_rfl) (by kernel_rfl)))))) (obs_cons (ob_v rfl rfl (r_move has_num)) (obs_nil)))) (by kernel_rfl) (by kernel_rfl) (by kernel_rfl) (fun a w hst => ?_)
  have hst : St B w0 15 [(2, _), (5, _), (6, _), (7, _)] [] a w := hst
  refine thn_normal ?_
  refine wp_block ?_
  have hst := St.sel hst [1, 2, 3]
  refine wp_loop_ghost (fun n a w => ∃ j : Nat, (n + j = xs.length ∧ (xs.take j).all okB = true) ∧ St B w0 15 [(5, (SlO 28 [U32] (xs.map RGA) True).va), (6, In (xs.length : Nat)), (7, In (j : Nat))] [] a w) (xs.length) ?_ ?_
  · exact ⟨0, ⟨by omega, rfl⟩, by rw [List.length_map] at hst; exact hst⟩
  intro n a w hI
  obtain ⟨j, ⟨hn, hno⟩, hst⟩ := hI
  refine wp_seq ?_
  refine go_lin (sts := []) (news := []) (sp := [.val 8 _]) [.g 0, .g 1, .g 2, .o 0] hst (obs_cons (ob_v rfl rfl (r_lss (has_g 2 rfl (by kernel_rfl) (by kernel_rfl)) (has_g 1 rfl (by kernel_rfl) (by kernel_rfl)))) (obs_nil)) (by kernel_rfl) (by kernel_rfl) (by kernel_rfl) (fun a w hst => ?_)
  have hst : St B w0 15 [(5, _), (6, _), (7, _), (8, _)] [] a w := hst
  refine thn_normal ?_
  refine wp_seq ?_
  refine cond_of hst (List.mem_of_getElem? (i := 3) rfl) (fun hb0 => ?_) (fun hb0 => ?_)
  · have hj : j < xs.length := by simp at hb0; omega
    refine wp_skip ?_
    refine thn_normal ?_
    refine wp_seq ?_
    refine wp_block ?_
    refine wp_seq ?_
    refine go_lin (sts := []) (news := [⟨4, 28, ptrH, some 2, _, some (3, _)⟩]) (sp := [.val 9 _, .val 10 _, .alc 0, .sto 0]) [.g 0, .g 1, .g 2] hst (obs_cons (ob_v rfl rfl (r_idx sl_29 (map_n fun _ => rfl) (has_and (has_old (has_g 0 rfl (by kernel_rfl) (by kernel_rfl)))) (has_g 2 rfl (by kernel_rfl) (by kernel_rfl)) (map_at hj))) (obs_cons (ob_v rfl rfl (r_loade (has_v 0 rfl (by kernel_rfl) (by kernel_rfl)) ty_28)) (obs_cons (ob_alc rfl rfl rfl (Str.zero str_gauss)) (obs_cons (ob_sto rfl rfl rfl (has_v 1 rfl (by kernel_rfl) (by kernel_rfl)) ty_28 rfl) (obs_nil))))) (by kernel_rfl) (by kernel_rfl) (by kernel_rfl) (fun a w hst => ?_)
    have hst : St B w0 15 [(5, _), (6, _), (7, _)] [⟨4, 28, ptrH, _⟩] a w := hst
    refine thn_normal ?_
    refine wp_seq ?_
    refine go_lin (sts := [none]) (news := []) (sp := [.val 11 _, .val 12 _, .val 13 _]) [.g 0, .g 1, .g 2, .o 2] hst (obs_cons (ob_v rfl rfl (r_load (loc_at0 0 rfl (by kernel_rfl)) ty_28)) (obs_cons (ob_v rfl rfl (r_call (xs := [.tmp 11]) (bmCheck_c _) (.cons (has_v 0 rfl (by kernel_rfl) (by kernel_rfl)) .nil))) (obs_cons (ob_v rfl rfl (r_neq (has_v 1 rfl (by kernel_rfl) (by kernel_rfl)) has_num)) (obs_nil)))) (by kernel_rfl) (by kernel_rfl) (by kernel_rfl) (fun a w hst => ?_)
    have hst : St B w0 15 [(5, _), (6, _), (7, _), (13, _)] [⟨4, 28, ptrH, _⟩] a w := hst
    refine thn_normal ?_
    refine cond_of hst (List.mem_of_getElem? (i := 3) rfl) (fun hb1 => ?_) (fun hb1 => ?_)
    · refine wp_seq ?_
      refine go_lin (sts := [none]) (news := []) (sp := [.val 2 _]) [.g 0, .g 1, .g 2, .o 0] hst (obs_cons (ob_v rfl rfl (r_assign has_bo)) (obs_nil)) (by kernel_rfl) (by kernel_rfl) (by kernel_rfl) (fun a w hst => ?_)
      have hst : St B w0 15 [(5, _), (6, _), (7, _), (2, _)] [⟨4, 28, ptrH, _⟩] a w := hst
      refine thn_normal ?_
      refine wp_ret ?_
      refine blk_ret ?_
      refine thn_ret ?_
      refine thn_ret ?_
      refine blk_ret ?_
      refine thn_ret ?_
      refine ret_wk ?_ (ret_tmp rfl hst (List.mem_of_getElem? (i := 3) rfl))
      rw [← all_some hj (okB_no hb1)]; exact wk_id
    · refine wp_skip ?_
      refine blk_normal ?_
      refine thn_normal ?_
      refine go_lin (sts := [none]) (news := []) (sp := [.val 14 _, .val 7 _]) [.g 0, .g 1, .o 1] hst (obs_cons (ob_v rfl rfl (r_add (has_g 2 rfl (by kernel_rfl) (by kernel_rfl)) has_num ((wi64 (by omega) (by omega)).trans (by omega : (_ : Int) = ((j + 1 : Nat) : Int))))) (obs_cons (ob_v rfl rfl (r_move (has_v 0 rfl (by kernel_rfl) (by kernel_rfl)))) (obs_nil))) (by kernel_rfl) (by kernel_rfl) (by kernel_rfl) (fun a w hst => ?_)
      have hst : St B w0 15 [(5, _), (6, _), (7, _)] [⟨4, 28, ptrH, _⟩] a w := hst
      refine thn_normal ?_
      have hst := St.sel hst [0, 1, 2]
      have hst := St.selL hst []
      exact ⟨n - 1, by omega, j + 1, ⟨by omega, all_no hj hno (okB_of hb1)⟩, hst⟩
  · obtain rfl : j = xs.length := by simp at hb0; omega
    refine wp_exit ?_
    refine thn_exit ?_
    refine thn_exit ?_
    refine blk_exit ?_
    refine thn_normal ?_
    refine wp_seq ?_
    refine go_lin (sts := []) (news := []) (sp := [.val 2 _]) [.o 0] hst (obs_cons (ob_v rfl rfl (r_assign has_bo)) (obs_nil)) (by kernel_rfl) (by kernel_rfl) (by kernel_rfl) (fun a w hst => ?_)
    have hst : St B w0 15 [(2, _)] [] a w := hst
    refine thn_normal ?_
    refine wp_ret ?_
    refine ret_wk ?_ (ret_tmp rfl hst (List.mem_of_getElem? (i := 0) rfl))
    rw [List.take_length] at hno; rw [hno]; exact wk_id

set_option maxRecDepth 100000 in
theorem square_q {c d : Nat} {x y : Rat} (hk : c + d ≤ 137438953472) : Cn Try.prog 85 [Qs c x, Qs d y] (Qs (c + c + (d + d) + 1) (sqQ x y)) := by
  refine Cn.intro Try.func85 rfl (by kernel_rfl) (Nat.le_of_ble_eq_true (by kernel_rfl)) (fun B w0 a hst => ?_)
  have hst : St B w0 12 [(0, Qs c x), (1, Qs d y)] [] a w0.w := hst
  refine wp_seq ?_
  refine go_lin (sts := []) (news := [⟨2, 26, ptrH, some 0, _, none⟩, ⟨3, 26, ptrH, some 1, _, none⟩, ⟨4, 26, ptrH, some 2, _, none⟩]) (sp := [.alc 0, .alc 1, .alc 2]) [] hst (obs_cons (ob_box rfl rfl rfl (has_g 0 rfl (by kernel_rfl) (by kernel_rfl))) (obs_cons (ob_box rfl rfl rfl (has_g 1 rfl (by kernel_rfl) (by kernel_rfl))) (obs_cons (ob_alc rfl rfl rfl (Str.zero str_frac)) (obs_nil)))) (by kernel_rfl) (by kernel_rfl) (by kernel_rfl) (fun a w hst => ?_)
  have hst : St B w0 12 [] [⟨2, 26, ptrH, _⟩, ⟨3, 26, ptrH, _⟩, ⟨4, 26, ptrH, _⟩] a w := hst
  refine thn_normal ?_
  refine wp_seq ?_
  refine go_draw (anc := [[], [], [0, 1], [], [], [0, 1, 2, 3, 4], [0, 1, 2, 3, 4, 5], [0, 1, 2, 3, 4, 5, 6]]) (sts := [none, none, some (7, _)]) (news := []) (sp := [.val 5 _, .val 6 _, .val 7 _, .val 8 _, .val 9 _, .val 10 _, .val 11 _, .sto 2]) [] follows_mixed hst (obs_cons (ob_v rfl rfl (r_load (loc_at0 0 rfl (by kernel_rfl)) ty_26)) (obs_cons (ob_v rfl rfl (r_load (loc_at0 0 rfl (by kernel_rfl)) ty_26)) (obs_cons (ob_v rfl rfl (r_call (xs := [.tmp 5, .tmp 6]) (times_q (by omega)) (.cons (has_v 0 rfl (by kernel_rfl) (by kernel_rfl)) (.cons (has_v 1 rfl (by kernel_rfl) (by kernel_rfl)) .nil)))) (obs_cons (ob_v rfl rfl (r_load (loc_at0 1 rfl (by kernel_rfl)) ty_26)) (obs_cons (ob_v rfl rfl (r_load (loc_at0 1 rfl (by kernel_rfl)) ty_26)) (obs_cons (ob_v rfl rfl (r_call (xs := [.tmp 8, .tmp 9]) (times_q (by omega)) (.cons (has_v 3 rfl (by kernel_rfl) (by kernel_rfl)) (.cons (has_v 4 rfl (by kernel_rfl) (by kernel_rfl)) .nil)))) (obs_cons (ob_v rfl rfl (r_call (xs := [.tmp 7, .tmp 10]) (plus_q (by omega)) (.cons (has_v 2 rfl (by kernel_rfl) (by kernel_rfl)) (.cons (has_v 5 rfl (by kernel_rfl) (by kernel_rfl)) .nil)))) (obs_cons (ob_sto rfl rfl rfl (has_v 6 rfl (by kernel_rfl) (by kernel_rfl)) ty_26 rfl) (obs_nil))))))))) (by kernel_rfl) (by kernel_rfl) (by kernel_rfl) (by kernel_rfl) (fun a w hst => ?_)
  have hst : St B w0 12 [] [⟨2, 26, ptrH, _⟩, ⟨3, 26, ptrH, _⟩, ⟨4, 26, ptrH, _⟩] a w := hst
  refine thn_normal ?_
  refine wp_ret ?_
  refine ret_wk ?_ (ret_cell rfl hst (List.mem_of_getElem? (i := 2) rfl) ty_26)
  exact wk_id

set_option maxRecDepth 100000 in
theorem alike_q {p q : GQ} (hp : 0 < p.im) (hq : 0 < q.im) : Cn Try.prog 61 [(QGA 2048 p).va, (QGA 2048 q).va] (Qs 20487 (alkQ p q)) := by
  refine Cn.intro Try.func61 rfl (by kernel_rfl) (Nat.le_of_ble_eq_true (by kernel_rfl)) (fun B w0 a hst => ?_)
  have hst : St B w0 26 [(0, (QGA 2048 p).va), (1, (QGA 2048 q).va)] [] a w0.w := hst
  refine wp_seq ?_
  refine go_lin (sts := []) (news := [⟨2, 28, ptrH, some 0, _, none⟩, ⟨3, 28, ptrH, some 1, _, none⟩, ⟨4, 26, ptrH, some 2, _, none⟩]) (sp := [.alc 0, .alc 1, .alc 2]) [] hst (obs_cons (ob_box rfl rfl rfl (has_g 0 rfl (by kernel_rfl) (by kernel_rfl))) (obs_cons (ob_box rfl rfl rfl (has_g 1 rfl (by kernel_rfl) (by kernel_rfl))) (obs_cons (ob_alc rfl rfl rfl (Str.zero str_frac)) (obs_nil)))) (by kernel_rfl) (by kernel_rfl) (by kernel_rfl) (fun a w hst => ?_)
  have hst : St B w0 26 [] [⟨2, 28, ptrH, _⟩, ⟨3, 28, ptrH, _⟩, ⟨4, 26, ptrH, _⟩] a w := hst
  refine thn_normal ?_
  refine wp_seq ?_
  refine go_draw (anc := [[], [], [1], [], [3], [0, 1, 2, 3, 4], [0, 1, 2, 3, 4, 5], [], [0, 1, 2, 3, 4, 5, 6, 7]]) (sts := [none, none, none]) (news := [⟨5, 26, ptrH, some 7, _, some (8, _)⟩]) (sp := [.val 6 _, .adr 7 2 (.some 4) True, .val 8 _, .adr 9 3 (.some 4) True, .val 10 _, .val 11 _, .val 12 _, .alc 3, .sto 3]) [] follows_mixed hst (obs_cons (ob_v rfl rfl (r_call (xs := [.const (.int .i64 (4)), .const (.int .i64 (1))]) (small_q (by decide) (by decide) (by decide) (by decide) (by decide)) (.cons has_num (.cons has_num .nil)))) (obs_cons (ob_a rfl rfl (a_fld (loc_at0 0 rfl (by kernel_rfl)) fld_28_1)) (obs_cons (ob_v rfl rfl (r_loadf 1 rfl (by kernel_rfl) trivial (loc_at0 0 rfl (by kernel_rfl)) (Sub.part 1 rfl rfl) ty_26)) (obs_cons (ob_a rfl rfl (a_fld (loc_at0 1 rfl (by kernel_rfl)) fld_28_1)) (obs_cons (ob_v rfl rfl (r_loadf 3 rfl (by kernel_rfl) trivial (loc_at0 1 rfl (by kernel_rfl)) (Sub.part 1 rfl rfl) ty_26)) (obs_cons (ob_v rfl rfl (r_call (xs := [.tmp 8, .tmp 10]) (times_q (by omega)) (.cons (has_v 2 rfl (by kernel_rfl) (by kernel_rfl)) (.cons (has_v 4 rfl (by kernel_rfl) (by kernel_rfl)) .nil)))) (obs_cons (ob_v rfl rfl (r_call (xs := [.tmp 6, .tmp 11]) (times_q (by omega)) (.cons (has_v 0 rfl (by kernel_rfl) (by kernel_rfl)) (.cons (has_v 5 rfl (by kernel_rfl) (by kernel_rfl)) .nil)))) (obs_cons (ob_alc rfl rfl rfl (Str.zero str_frac)) (obs_cons (ob_sto rfl rfl rfl (has_v 6 rfl (by kernel_rfl) (by kernel_rfl)) ty_26 rfl) (obs_nil)))))))))) (by kernel_rfl) (by kernel_rfl) (by kernel_rfl) (by kernel_rfl) (fun a w hst => ?_)
  have hst : St B w0 26 [] [⟨2, 28, ptrH, _⟩, ⟨3, 28, ptrH, _⟩, ⟨4, 26, ptrH, _⟩, ⟨5, 26, ptrH, _⟩] a w := hst
  refine thn_normal ?_
  refine wp_seq ?_
  refine go_draw (anc := [[], [], [1], [], [3], [1, 2, 3, 4], [], [6], [], [8], [1, 2, 3, 4, 5, 6, 7, 8, 9], [1, 2, 3, 4, 5, 6, 7, 8, 9, 10], [0, 1, 2, 3, 4, 5, 6, 7, 8, 9, 10, 11], [0, 1, 2, 3, 4, 5, 6, 7, 8, 9, 10, 11, 12]]) (sts := [none, none, some (13, _), none]) (news := []) (sp := [.val 13 _, .adr 14 2 (.some 0) True, .val 15 _, .adr 16 3 (.some 0) True, .val 17 _, .val 18 _, .adr 19 2 (.some 4) True, .val 20 _, .adr 21 3 (.some 4) True, .val 22 _, .val 23 _, .val 24 _, .val 25 _, .sto 2]) [] follows_mixed hst (obs_cons (ob_v rfl rfl (r_load (loc_at0 3 rfl (by kernel_rfl)) ty_26)) (obs_cons (ob_a rfl rfl (a_fld (loc_at0 0 rfl (by kernel_rfl)) fld_28_0)) (obs_cons (ob_v rfl rfl (r_loadf 1 rfl (by kernel_rfl) trivial (loc_at0 0 rfl (by kernel_rfl)) (Sub.part 0 rfl rfl) ty_26)) (obs_cons (ob_a rfl rfl (a_fld (loc_at0 1 rfl (by kernel_rfl)) fld_28_0)) (obs_cons (ob_v rfl rfl (r_loadf 3 rfl (by kernel_rfl) trivial (loc_at0 1 rfl (by kernel_rfl)) (Sub.part 0 rfl rfl) ty_26)) (obs_cons (ob_v rfl rfl (r_call (xs := [.tmp 15, .tmp 17]) (minus_q (by omega)) (.cons (has_v 2 rfl (by kernel_rfl) (by kernel_rfl)) (.cons (has_v 4 rfl (by kernel_rfl) (by kernel_rfl)) .nil)))) (obs_cons (ob_a rfl rfl (a_fld (loc_at0 0 rfl (by kernel_rfl)) fld_28_1)) (obs_cons (ob_v rfl rfl (r_loadf 6 rfl (by kernel_rfl) trivial (loc_at0 0 rfl (by kernel_rfl)) (Sub.part 1 rfl rfl) ty_26)) (obs_cons (ob_a rfl rfl (a_fld (loc_at0 1 rfl (by kernel_rfl)) fld_28_1)) (obs_cons (ob_v rfl rfl (r_loadf 8 rfl (by kernel_rfl) trivial (loc_at0 1 rfl (by kernel_rfl)) (Sub.part 1 rfl rfl) ty_26)) (obs_cons (ob_v rfl rfl (r_call (xs := [.tmp 20, .tmp 22]) (plus_q (by omega)) (.cons (has_v 7 rfl (by kernel_rfl) (by kernel_rfl)) (.cons (has_v 9 rfl (by kernel_rfl) (by kernel_rfl)) .nil)))) (obs_cons (ob_v rfl rfl (r_call (xs := [.tmp 18, .tmp 23]) (square_q (by decide)) (.cons (has_v 5 rfl (by kernel_rfl) (by kernel_rfl)) (.cons (has_v 10 rfl (by kernel_rfl) (by kernel_rfl)) .nil)))) (obs_cons (ob_v rfl rfl (r_call (xs := [.tmp 13, .tmp 24]) (over_q (by decide) (sq_ne (add_pos hp hq))) (.cons (has_v 0 rfl (by kernel_rfl) (by kernel_rfl)) (.cons (has_v 11 rfl (by kernel_rfl) (by kernel_rfl)) .nil)))) (obs_cons (ob_sto rfl rfl rfl (has_v 12 rfl (by kernel_rfl) (by kernel_rfl)) ty_26 rfl) (obs_nil))))))))))))))) (by kernel_rfl) (by kernel_rfl) (by kernel_rfl) (by kernel_rfl) (fun a w hst => ?_)
  have hst : St B w0 26 [] [⟨2, 28, ptrH, _⟩, ⟨3, 28, ptrH, _⟩, ⟨4, 26, ptrH, _⟩, ⟨5, 26, ptrH, _⟩] a w := hst
  refine thn_normal ?_
  refine wp_ret ?_
  refine ret_wk ?_ (ret_cell rfl hst (List.mem_of_getElem? (i := 2) rfl) ty_26)
  exact wk_eq (congrArg (Qs _) (by rw [show Rat.divInt 4 1 = 4 from rfl]; rfl))

set_option maxRecDepth 100000 in
theorem found_q {c : Nat} {x : Rat} (hc : c ≤ 549755813888) : Cn Try.prog 62 [Qs c x] (R3 (fdF x)) := by
  refine Cn.intro Try.func62 rfl (by kernel_rfl) (Nat.le_of_ble_eq_true (by kernel_rfl)) (fun B w0 a hst => ?_)
  have hst : St B w0 15 [(0, Qs c x)] [] a w0.w := hst
  refine wp_seq ?_
  refine go_lin (sts := []) (news := [⟨1, 26, ptrH, some 0, _, none⟩, ⟨2, 26, ptrH, some 1, _, none⟩]) (sp := [.alc 0, .alc 1, .val 3 _, .val 4 _]) [.o 2, .o 3] hst (obs_cons (ob_box rfl rfl rfl (has_g 0 rfl (by kernel_rfl) (by kernel_rfl))) (obs_cons (ob_alc rfl rfl rfl (Str.zero str_frac)) (obs_cons (ob_v rfl rfl (r_assign has_bo)) (obs_cons (ob_v rfl rfl (r_assign has_num)) (obs_nil))))) (by kernel_rfl) (by kernel_rfl) (by kernel_rfl) (fun a w hst => ?_)
  have hst : St B w0 15 [(3, _), (4, _)] [⟨1, 26, ptrH, _⟩, ⟨2, 26, ptrH, _⟩] a w := hst
  refine thn_normal ?_
  refine wp_seq ?_
  refine wp_seq ?_
  refine go_lin (sts := [none, none]) (news := []) (sp := [.val 6 _, .val 7 _, .val 8 _, .val 5 _]) [.g 0, .g 1, .o 3] hst (obs_cons (ob_v rfl rfl (r_load (loc_at0 0 rfl (by kernel_rfl)) ty_26)) (obs_cons (ob_v rfl rfl (r_slice (D := [U32]) (l := [_]) (xs := [.tmp 6]) (nd_ok (by kernel_rfl)) sl_116 (by kernel_rfl) (n_ok (by kernel_rfl)) (Nat.le_of_ble_eq_true (by kernel_rfl)) (Nat.le_of_ble_eq_true (by kernel_rfl)) (Nat.le_of_ble_eq_true (by kernel_rfl)) (.cons (has_v 0 rfl (by kernel_rfl) (by kernel_rfl)) .nil) rfl rfl)) (obs_cons (ob_v rfl rfl (r_call (xs := [.tmp 7]) (answer_q [x] (.cons ⟨_, rfl⟩ .nil) (Nat.le_of_ble_eq_true (by kernel_rfl))) (.cons (has_v 1 rfl (by kernel_rfl) (by kernel_rfl)) .nil))) (obs_cons (ob_v rfl rfl (r_assign (has_v 2 rfl (by kernel_rfl) (by kernel_rfl)))) (obs_nil))))) (by kernel_rfl) (by kernel_rfl) (by kernel_rfl) (fun a w hst => ?_)
  have hst : St B w0 15 [(3, _), (4, _), (5, _)] [⟨1, 26, ptrH, _⟩, ⟨2, 26, ptrH, _⟩] a w := hst
  refine thn_normal ?_
  refine wp_seq ?_
  refine go_lin (sts := [none, none]) (news := []) (sp := [.val 9 _, .val 10 _]) [.g 0, .g 1, .g 2, .o 1] hst (obs_cons (ob_v rfl rfl (r_move (has_g 2 rfl (by kernel_rfl) (by kernel_rfl)))) (obs_cons (ob_v rfl rfl (r_neq (has_v 0 rfl (by kernel_rfl) (by kernel_rfl)) has_num)) (obs_nil))) (by kernel_rfl) (by kernel_rfl) (by kernel_rfl) (fun a w hst => ?_)
  have hst : St B w0 15 [(3, _), (4, _), (5, _), (10, _)] [⟨1, 26, ptrH, _⟩, ⟨2, 26, ptrH, _⟩] a w := hst
  refine thn_normal ?_
  refine cond_of hst (List.mem_of_getElem? (i := 3) rfl) (fun hb0 => ?_) (fun hb0 => ?_)
  · rw [one_long, ne0] at hb0
    refine wp_seq ?_
    refine go_lin (sts := [none, some (2, _)]) (news := []) (sp := [.val 11 _, .val 12 _, .sto 1, .val 3 _, .val 4 _]) [.o 3, .o 4] hst (obs_cons (ob_v rfl rfl (r_build (xs := []) (qs := []) str_frac .nil)) (obs_cons (ob_v rfl rfl (r_move (has_g 2 rfl (by kernel_rfl) (by kernel_rfl)))) (obs_cons (ob_sto rfl rfl rfl (has_v 0 rfl (by kernel_rfl) (by kernel_rfl)) ty_26 rfl) (obs_cons (ob_v rfl rfl (r_assign has_bo)) (obs_cons (ob_v rfl rfl (r_assign (has_v 1 rfl (by kernel_rfl) (by kernel_rfl)))) (obs_nil)))))) (by kernel_rfl) (by kernel_rfl) (by kernel_rfl) (fun a w hst => ?_)
    have hst : St B w0 15 [(3, _), (4, _)] [⟨1, 26, ptrH, _⟩, ⟨2, 26, ptrH, _⟩] a w := hst
    refine thn_normal ?_
    refine wp_ret ?_
    refine thn_ret ?_
    refine ret_wk ?_ (ret_many (rs := [.cell 2 26, .tmp 3, .tmp 4]) rfl hst (.cell (List.mem_of_getElem? (i := 1) rfl) ty_26 (.tmp (List.mem_of_getElem? (i := 0) rfl) (.tmp (List.mem_of_getElem? (i := 1) rfl) .nil))) (by decide))
    rw [fdF, if_pos hb0]; exact tu3w wk_id wk_id (wk_eq (by rw [one_long, hb0]; rfl))
  · rw [one_long, ne0] at hb0
    refine wp_skip ?_
    refine thn_normal ?_
    refine wp_seq ?_
    refine go_lin (sts := [none, some (2, _)]) (news := []) (sp := [.val 13 _, .val 14 _, .sto 1, .val 3 _, .val 4 _]) [.o 3, .o 4] hst (obs_cons (ob_v rfl rfl (r_load (loc_at0 0 rfl (by kernel_rfl)) ty_26)) (obs_cons (ob_v rfl rfl (r_call (xs := [.tmp 13]) (copy_q (by omega)) (.cons (has_v 0 rfl (by kernel_rfl) (by kernel_rfl)) .nil))) (obs_cons (ob_sto rfl rfl rfl (has_v 1 rfl (by kernel_rfl) (by kernel_rfl)) ty_26 rfl) (obs_cons (ob_v rfl rfl (r_assign has_bo)) (obs_cons (ob_v rfl rfl (r_assign has_num)) (obs_nil)))))) (by kernel_rfl) (by kernel_rfl) (by kernel_rfl) (fun a w hst => ?_)
    have hst : St B w0 15 [(3, _), (4, _)] [⟨1, 26, ptrH, _⟩, ⟨2, 26, ptrH, _⟩] a w := hst
    refine thn_normal ?_
    refine wp_ret ?_
    refine ret_wk ?_ (ret_many (rs := [.cell 2 26, .tmp 3, .tmp 4]) rfl hst (.cell (List.mem_of_getElem? (i := 1) rfl) ty_26 (.tmp (List.mem_of_getElem? (i := 0) rfl) (.tmp (List.mem_of_getElem? (i := 1) rfl) .nil))) (by decide))
    rw [fdF, if_neg (by rw [hb0]; decide)]; exact tu3w rq_wk wk_id wk_id

theorem and_ok {x y : RG} (h : (okB x && okB y) = true) : ([x.re, x.im].all okX = true ∧ 0 < (toG x).im) ∧ ([y.re, y.im].all okX = true ∧ 0 < (toG y).im) := by
  rw [Bool.and_eq_true] at h
  exact ⟨okB_q h.1, okB_q h.2⟩

set_option maxRecDepth 100000 in
theorem overlap_c (x y : RG) : Cn Try.prog 20 [(RGA x).va, (RGA y).va] (FrR (ovF x y)) := by
  refine Cn.intro Try.func20 rfl (by kernel_rfl) (Nat.le_of_ble_eq_true (by kernel_rfl)) (fun B w0 a hst => ?_)
  have hst : St B w0 25 [(0, (RGA x).va), (1, (RGA y).va)] [] a w0.w := hst
  refine wp_seq ?_
  refine go_lin (sts := []) (news := [⟨2, 28, ptrH, some 0, _, none⟩, ⟨3, 28, ptrH, some 1, _, none⟩, ⟨4, 26, ptrH, some 2, _, none⟩]) (sp := [.alc 0, .alc 1, .alc 2, .val 5 _]) [.o 3] hst (obs_cons (ob_box rfl rfl rfl (has_g 0 rfl (by kernel_rfl) (by kernel_rfl))) (obs_cons (ob_box rfl rfl rfl (has_g 1 rfl (by kernel_rfl) (by kernel_rfl))) (obs_cons (ob_alc rfl rfl rfl (Str.zero str_frac)) (obs_cons (ob_v rfl rfl (r_assign has_num)) (obs_nil))))) (by kernel_rfl) (by kernel_rfl) (by kernel_rfl) (fun a w hst => ?_)
  have hst : St B w0 25 [(5, _)] [⟨2, 28, ptrH, _⟩, ⟨3, 28, ptrH, _⟩, ⟨4, 26, ptrH, _⟩] a w := hst
  refine thn_normal ?_
  refine wp_seq ?_
  refine wp_seq ?_
  refine go_lin (sts := [none, none, none]) (news := []) (sp := [.val 9 _, .val 10 _, .val 11 _, .val 12 _, .val 13 _]) [.g 0, .o 4] hst (obs_cons (ob_v rfl rfl (r_load (loc_at0 0 rfl (by kernel_rfl)) ty_28)) (obs_cons (ob_v rfl rfl (r_load (loc_at0 1 rfl (by kernel_rfl)) ty_28)) (obs_cons (ob_v rfl rfl (r_slice (D := [U32]) (l := [_, _]) (xs := [.tmp 9, .tmp 10]) (nd_ok (by kernel_rfl)) sl_29 (by kernel_rfl) (n_ok (by kernel_rfl)) (Nat.le_of_ble_eq_true (by kernel_rfl)) (Nat.le_of_ble_eq_true (by kernel_rfl)) (Nat.le_of_ble_eq_true (by kernel_rfl)) (.cons (has_v 0 rfl (by kernel_rfl) (by kernel_rfl)) (.cons (has_v 1 rfl (by kernel_rfl) (by kernel_rfl)) .nil)) rfl rfl)) (obs_cons (ob_v rfl rfl (r_call (xs := [.tmp 11]) (mayG_c [x, y]) (.cons (has_v 2 rfl (by kernel_rfl) (by kernel_rfl)) .nil))) (obs_cons (ob_v rfl rfl (r_not (has_v 3 rfl (by kernel_rfl) (by kernel_rfl)))) (obs_nil)))))) (by kernel_rfl) (by kernel_rfl) (by kernel_rfl) (fun a w hst => ?_)
  have hst : St B w0 25 [(5, _), (13, _)] [⟨2, 28, ptrH, _⟩, ⟨3, 28, ptrH, _⟩, ⟨4, 26, ptrH, _⟩] a w := hst
  refine thn_normal ?_
  refine cond_of hst (List.mem_of_getElem? (i := 1) rfl) (fun hb0 => ?_) (fun hb0 => ?_)
  · rw [two_B, Bool.not_eq_true'] at hb0
    refine wp_seq ?_
    refine go_lin (sts := [none, none, some (1, _)]) (news := []) (sp := [.val 14 _, .sto 2, .val 5 _]) [.o 2] hst (obs_cons (ob_v rfl rfl (r_build (xs := []) (qs := []) str_frac .nil)) (obs_cons (ob_sto rfl rfl rfl (has_v 0 rfl (by kernel_rfl) (by kernel_rfl)) ty_26 rfl) (obs_cons (ob_v rfl rfl (r_assign has_num)) (obs_nil)))) (by kernel_rfl) (by kernel_rfl) (by kernel_rfl) (fun a w hst => ?_)
    have hst : St B w0 25 [(5, _)] [⟨2, 28, ptrH, _⟩, ⟨3, 28, ptrH, _⟩, ⟨4, 26, ptrH, _⟩] a w := hst
    refine thn_normal ?_
    refine wp_ret ?_
    refine thn_ret ?_
    refine ret_wk ?_ (ret_many (rs := [.cell 4 26, .tmp 5]) rfl hst (.cell (List.mem_of_getElem? (i := 2) rfl) ty_26 (.tmp (List.mem_of_getElem? (i := 0) rfl) .nil)) (by decide))
    rw [ovF, if_neg (by rw [hb0]; decide)]; exact wk_id
  · rw [two_B, Bool.not_eq_false'] at hb0
    obtain ⟨hx, hy⟩ := and_ok hb0
    have hst := St.wkL hst 0 rfl (qg_x hx.1)
    have hst := St.wkL hst 1 rfl (qg_x hy.1)
    refine wp_skip ?_
    refine thn_normal ?_
    refine wp_seq ?_
    refine go_lin (sts := [none, none, none]) (news := [⟨6, 26, ptrH, some 8, _, some (9, _)⟩]) (sp := [.val 16 _, .val 17 _, .val 18 _, .val 19 _, .val 15 _, .val 20 _, .val 21 _, .val 22 _, .alc 3, .sto 3, .val 7 _, .val 8 _]) [.g 0, .o 11] hst (obs_cons (ob_v rfl rfl (r_load (loc_at0 0 rfl (by kernel_rfl)) ty_28)) (obs_cons (ob_v rfl rfl (r_load (loc_at0 1 rfl (by kernel_rfl)) ty_28)) (obs_cons (ob_v rfl rfl (r_call (xs := [.tmp 16, .tmp 17]) (alike_q hx.2 hy.2) (.cons (has_v 0 rfl (by kernel_rfl) (by kernel_rfl)) (.cons (has_v 1 rfl (by kernel_rfl) (by kernel_rfl)) .nil)))) (obs_cons (ob_v rfl rfl (r_call (xs := [.tmp 18]) (found_q (by decide)) (.cons (has_v 2 rfl (by kernel_rfl) (by kernel_rfl)) .nil))) (obs_cons (ob_v rfl rfl (r_move (has_v 3 rfl (by kernel_rfl) (by kernel_rfl)))) (obs_cons (ob_v rfl rfl (r_ex0 (has_v 4 rfl (by kernel_rfl) (by kernel_rfl)))) (obs_cons (ob_v rfl rfl (r_ex1 (has_v 4 rfl (by kernel_rfl) (by kernel_rfl)))) (obs_cons (ob_v rfl rfl (r_ex2 (has_v 4 rfl (by kernel_rfl) (by kernel_rfl)))) (obs_cons (ob_alc rfl rfl rfl (Str.zero str_frac)) (obs_cons (ob_sto rfl rfl rfl (has_v 5 rfl (by kernel_rfl) (by kernel_rfl)) ty_26 rfl) (obs_cons (ob_v rfl rfl (r_assign (has_v 6 rfl (by kernel_rfl) (by kernel_rfl)))) (obs_cons (ob_v rfl rfl (r_assign (has_v 7 rfl (by kernel_rfl) (by kernel_rfl)))) (obs_nil))))))))))))) (by kernel_rfl) (by kernel_rfl) (by kernel_rfl) (fun a w hst => ?_)
    have hst : St B w0 25 [(5, _), (8, _)] [⟨2, 28, ptrH, _⟩, ⟨3, 28, ptrH, _⟩, ⟨4, 26, ptrH, _⟩, ⟨6, 26, ptrH, _⟩] a w := hst
    refine thn_normal ?_
    refine wp_seq ?_
    refine go_lin (sts := [none, none, some (2, _), none]) (news := []) (sp := [.val 23 _, .val 24 _, .sto 2, .val 5 _]) [.o 3] hst (obs_cons (ob_v rfl rfl (r_load (loc_at0 3 rfl (by kernel_rfl)) ty_26)) (obs_cons (ob_v rfl rfl (r_move (has_g 1 rfl (by kernel_rfl) (by kernel_rfl)))) (obs_cons (ob_sto rfl rfl rfl (has_v 0 rfl (by kernel_rfl) (by kernel_rfl)) ty_26 rfl) (obs_cons (ob_v rfl rfl (r_assign (has_v 1 rfl (by kernel_rfl) (by kernel_rfl)))) (obs_nil))))) (by kernel_rfl) (by kernel_rfl) (by kernel_rfl) (fun a w hst => ?_)
    have hst : St B w0 25 [(5, _)] [⟨2, 28, ptrH, _⟩, ⟨3, 28, ptrH, _⟩, ⟨4, 26, ptrH, _⟩, ⟨6, 26, ptrH, _⟩] a w := hst
    refine thn_normal ?_
    refine wp_ret ?_
    refine ret_wk ?_ (ret_many (rs := [.cell 4 26, .tmp 5]) rfl hst (.cell (List.mem_of_getElem? (i := 2) rfl) ty_26 (.tmp (List.mem_of_getElem? (i := 0) rfl) .nil)) (by decide))
    rw [ovF, if_pos hb0, ← fd_ans]; exact wk_id

set_option maxRecDepth 100000 in
theorem lens_c (x y : RG) : Cn Try.prog 40 [(RGA x).va, (RGA y).va] (R3 (lnF x y)) := by
  refine Cn.intro Try.func40 rfl (by kernel_rfl) (Nat.le_of_ble_eq_true (by kernel_rfl)) (fun B w0 a hst => ?_)
  have hst : St B w0 49 [(0, (RGA x).va), (1, (RGA y).va)] [] a w0.w := hst
  refine wp_seq ?_
  refine go_lin (sts := []) (news := [⟨2, 28, ptrH, some 0, _, none⟩, ⟨3, 28, ptrH, some 1, _, none⟩, ⟨4, 26, ptrH, some 2, _, none⟩]) (sp := [.alc 0, .alc 1, .alc 2, .val 5 _, .val 6 _]) [.o 3, .o 4] hst (obs_cons (ob_box rfl rfl rfl (has_g 0 rfl (by kernel_rfl) (by kernel_rfl))) (obs_cons (ob_box rfl rfl rfl (has_g 1 rfl (by kernel_rfl) (by kernel_rfl))) (obs_cons (ob_alc rfl rfl rfl (Str.zero str_frac)) (obs_cons (ob_v rfl rfl (r_assign has_bo)) (obs_cons (ob_v rfl rfl (r_assign has_num)) (obs_nil)))))) (by kernel_rfl) (by kernel_rfl) (by kernel_rfl) (fun a w hst => ?_)
  have hst : St B w0 49 [(5, _), (6, _)] [⟨2, 28, ptrH, _⟩, ⟨3, 28, ptrH, _⟩, ⟨4, 26, ptrH, _⟩] a w := hst
  refine thn_normal ?_
  refine wp_seq ?_
  refine wp_seq ?_
  refine go_lin (sts := [none, none, none]) (news := []) (sp := [.val 9 _, .val 10 _, .val 11 _, .val 12 _, .val 13 _]) [.g 0, .g 1, .o 4] hst (obs_cons (ob_v rfl rfl (r_load (loc_at0 0 rfl (by kernel_rfl)) ty_28)) (obs_cons (ob_v rfl rfl (r_load (loc_at0 1 rfl (by kernel_rfl)) ty_28)) (obs_cons (ob_v rfl rfl (r_slice (D := [U32]) (l := [_, _]) (xs := [.tmp 9, .tmp 10]) (nd_ok (by kernel_rfl)) sl_29 (by kernel_rfl) (n_ok (by kernel_rfl)) (Nat.le_of_ble_eq_true (by kernel_rfl)) (Nat.le_of_ble_eq_true (by kernel_rfl)) (Nat.le_of_ble_eq_true (by kernel_rfl)) (.cons (has_v 0 rfl (by kernel_rfl) (by kernel_rfl)) (.cons (has_v 1 rfl (by kernel_rfl) (by kernel_rfl)) .nil)) rfl rfl)) (obs_cons (ob_v rfl rfl (r_call (xs := [.tmp 11]) (mayG_c [x, y]) (.cons (has_v 2 rfl (by kernel_rfl) (by kernel_rfl)) .nil))) (obs_cons (ob_v rfl rfl (r_not (has_v 3 rfl (by kernel_rfl) (by kernel_rfl)))) (obs_nil)))))) (by kernel_rfl) (by kernel_rfl) (by kernel_rfl) (fun a w hst => ?_)
  have hst : St B w0 49 [(5, _), (6, _), (13, _)] [⟨2, 28, ptrH, _⟩, ⟨3, 28, ptrH, _⟩, ⟨4, 26, ptrH, _⟩] a w := hst
  refine thn_normal ?_
  refine cond_of hst (List.mem_of_getElem? (i := 2) rfl) (fun hb0 => ?_) (fun hb0 => ?_)
  · rw [two_B, Bool.not_eq_true'] at hb0
    refine wp_seq ?_
    refine go_lin (sts := [none, none, some (1, _)]) (news := []) (sp := [.val 14 _, .sto 2, .val 5 _, .val 6 _]) [.o 2, .o 3] hst (obs_cons (ob_v rfl rfl (r_build (xs := []) (qs := []) str_frac .nil)) (obs_cons (ob_sto rfl rfl rfl (has_v 0 rfl (by kernel_rfl) (by kernel_rfl)) ty_26 rfl) (obs_cons (ob_v rfl rfl (r_assign has_bo)) (obs_cons (ob_v rfl rfl (r_assign has_num)) (obs_nil))))) (by kernel_rfl) (by kernel_rfl) (by kernel_rfl) (fun a w hst => ?_)
    have hst : St B w0 49 [(5, _), (6, _)] [⟨2, 28, ptrH, _⟩, ⟨3, 28, ptrH, _⟩, ⟨4, 26, ptrH, _⟩] a w := hst
    refine thn_normal ?_
    refine wp_ret ?_
    refine thn_ret ?_
    refine ret_wk ?_ (ret_many (rs := [.cell 4 26, .tmp 5, .tmp 6]) rfl hst (.cell (List.mem_of_getElem? (i := 2) rfl) ty_26 (.tmp (List.mem_of_getElem? (i := 0) rfl) (.tmp (List.mem_of_getElem? (i := 1) rfl) .nil))) (by decide))
    rw [lnF, if_neg (by rw [hb0]; decide)]; exact wk_id
  · rw [two_B, Bool.not_eq_false'] at hb0
    obtain ⟨hx, hy⟩ := and_ok hb0
    have hst := St.wkL hst 0 rfl (qg_x hx.1)
    have hst := St.wkL hst 1 rfl (qg_x hy.1)
    refine wp_skip ?_
    refine thn_normal ?_
    refine wp_seq ?_
    refine go_draw (anc := [[], [0], [], [2], [0, 1, 2, 3], [], [5], [], [7], [0, 1, 2, 3, 4, 5, 6, 7, 8], [], [], [0, 1, 2, 3, 4, 5, 6, 7, 8, 9, 10, 11], [0, 1, 2, 3, 4, 5, 6, 7, 8, 9, 10, 11, 12]]) (sts := [none, none, none]) (news := [⟨7, 26, ptrH, some 10, _, some (12, _)⟩, ⟨8, 26, ptrH, some 11, _, some (13, _)⟩]) (sp := [.adr 15 2 (.some 0) True, .val 16 _, .adr 17 2 (.some 4) True, .val 18 _, .val 19 _, .adr 20 3 (.some 0) True, .val 21 _, .adr 22 3 (.some 4) True, .val 23 _, .val 24 _, .alc 3, .alc 4, .sto 3, .sto 4]) [.g 0, .g 1] follows_mixed hst (obs_cons (ob_a rfl rfl (a_fld (loc_at0 0 rfl (by kernel_rfl)) fld_28_0)) (obs_cons (ob_v rfl rfl (r_loadf 0 rfl (by kernel_rfl) trivial (loc_at0 0 rfl (by kernel_rfl)) (Sub.part 0 rfl rfl) ty_26)) (obs_cons (ob_a rfl rfl (a_fld (loc_at0 0 rfl (by kernel_rfl)) fld_28_1)) (obs_cons (ob_v rfl rfl (r_loadf 2 rfl (by kernel_rfl) trivial (loc_at0 0 rfl (by kernel_rfl)) (Sub.part 1 rfl rfl) ty_26)) (obs_cons (ob_v rfl rfl (r_call (xs := [.tmp 16, .tmp 18]) (square_q (by decide)) (.cons (has_v 1 rfl (by kernel_rfl) (by kernel_rfl)) (.cons (has_v 3 rfl (by kernel_rfl) (by kernel_rfl)) .nil)))) (obs_cons (ob_a rfl rfl (a_fld (loc_at0 1 rfl (by kernel_rfl)) fld_28_0)) (obs_cons (ob_v rfl rfl (r_loadf 5 rfl (by kernel_rfl) trivial (loc_at0 1 rfl (by kernel_rfl)) (Sub.part 0 rfl rfl) ty_26)) (obs_cons (ob_a rfl rfl (a_fld (loc_at0 1 rfl (by kernel_rfl)) fld_28_1)) (obs_cons (ob_v rfl rfl (r_loadf 7 rfl (by kernel_rfl) trivial (loc_at0 1 rfl (by kernel_rfl)) (Sub.part 1 rfl rfl) ty_26)) (obs_cons (ob_v rfl rfl (r_call (xs := [.tmp 21, .tmp 23]) (square_q (by decide)) (.cons (has_v 6 rfl (by kernel_rfl) (by kernel_rfl)) (.cons (has_v 8 rfl (by kernel_rfl) (by kernel_rfl)) .nil)))) (obs_cons (ob_alc rfl rfl rfl (Str.zero str_frac)) (obs_cons (ob_alc rfl rfl rfl (Str.zero str_frac)) (obs_cons (ob_sto rfl rfl rfl (has_v 4 rfl (by kernel_rfl) (by kernel_rfl)) ty_26 rfl) (obs_cons (ob_sto rfl rfl rfl (has_v 9 rfl (by kernel_rfl) (by kernel_rfl)) ty_26 rfl) (obs_nil))))))))))))))) (by kernel_rfl) (by kernel_rfl) (by kernel_rfl) (by kernel_rfl) (fun a w hst => ?_)
    have hst : St B w0 49 [(5, _), (6, _)] [⟨2, 28, ptrH, _⟩, ⟨3, 28, ptrH, _⟩, ⟨4, 26, ptrH, _⟩, ⟨7, 26, ptrH, _⟩, ⟨8, 26, ptrH, _⟩] a w := hst
    refine thn_normal ?_
    refine wp_seq ?_
    refine wp_seq ?_
    refine go_draw (anc := [[], [0], [], [0, 1, 2], [], [4], [], [0, 1, 2, 3, 4, 5, 6], [0, 1, 2, 3, 4, 5, 6, 7], [0, 1, 2, 3, 4, 5, 6, 7, 8]]) (sts := [none, none, none, none, none]) (news := []) (sp := [.adr 25 2 (.some 4) True, .val 26 _, .val 27 _, .val 28 _, .adr 29 3 (.some 4) True, .val 30 _, .val 31 _, .val 32 _, .val 33 _, .val 34 _]) [.g 0, .g 1, .o 9] follows_mixed hst (obs_cons (ob_a rfl rfl (a_fld (loc_at0 0 rfl (by kernel_rfl)) fld_28_1)) (obs_cons (ob_v rfl rfl (r_loadf 0 rfl (by kernel_rfl) trivial (loc_at0 0 rfl (by kernel_rfl)) (Sub.part 1 rfl rfl) ty_26)) (obs_cons (ob_v rfl rfl (r_load (loc_at0 3 rfl (by kernel_rfl)) ty_26)) (obs_cons (ob_v rfl rfl (r_call (xs := [.tmp 26, .tmp 27]) (over_q (by decide) (sq_ne hx.2)) (.cons (has_v 1 rfl (by kernel_rfl) (by kernel_rfl)) (.cons (has_v 2 rfl (by kernel_rfl) (by kernel_rfl)) .nil)))) (obs_cons (ob_a rfl rfl (a_fld (loc_at0 1 rfl (by kernel_rfl)) fld_28_1)) (obs_cons (ob_v rfl rfl (r_loadf 4 rfl (by kernel_rfl) trivial (loc_at0 1 rfl (by kernel_rfl)) (Sub.part 1 rfl rfl) ty_26)) (obs_cons (ob_v rfl rfl (r_load (loc_at0 4 rfl (by kernel_rfl)) ty_26)) (obs_cons (ob_v rfl rfl (r_call (xs := [.tmp 30, .tmp 31]) (over_q (by decide) (sq_ne hy.2)) (.cons (has_v 5 rfl (by kernel_rfl) (by kernel_rfl)) (.cons (has_v 6 rfl (by kernel_rfl) (by kernel_rfl)) .nil)))) (obs_cons (ob_v rfl rfl (r_call (xs := [.tmp 28, .tmp 32]) (cmp_q (by omega)) (.cons (has_v 3 rfl (by kernel_rfl) (by kernel_rfl)) (.cons (has_v 7 rfl (by kernel_rfl) (by kernel_rfl)) .nil)))) (obs_cons (ob_v rfl rfl (r_neq (has_v 8 rfl (by kernel_rfl) (by kernel_rfl)) has_num)) (obs_nil))))))))))) (by kernel_rfl) (by kernel_rfl) (by kernel_rfl) (by kernel_rfl) (fun a w hst => ?_)
    have hst : St B w0 49 [(5, _), (6, _), (34, _)] [⟨2, 28, ptrH, _⟩, ⟨3, 28, ptrH, _⟩, ⟨4, 26, ptrH, _⟩, ⟨7, 26, ptrH, _⟩, ⟨8, 26, ptrH, _⟩] a w := hst
    refine thn_normal ?_
    refine cond_of hst (List.mem_of_getElem? (i := 2) rfl) (fun hb1 => ?_) (fun hb1 => ?_)
    · rw [cm_ne, Bool.not_eq_true', decide_eq_false_iff_not] at hb1
      refine wp_seq ?_
      refine go_lin (sts := [none, none, some (1, _), none, none]) (news := []) (sp := [.val 35 _, .sto 2, .val 5 _, .val 6 _]) [.o 2, .o 3] hst (obs_cons (ob_v rfl rfl (r_build (xs := []) (qs := []) str_frac .nil)) (obs_cons (ob_sto rfl rfl rfl (has_v 0 rfl (by kernel_rfl) (by kernel_rfl)) ty_26 rfl) (obs_cons (ob_v rfl rfl (r_assign has_bo)) (obs_cons (ob_v rfl rfl (r_assign has_num)) (obs_nil))))) (by kernel_rfl) (by kernel_rfl) (by kernel_rfl) (fun a w hst => ?_)
      have hst : St B w0 49 [(5, _), (6, _)] [⟨2, 28, ptrH, _⟩, ⟨3, 28, ptrH, _⟩, ⟨4, 26, ptrH, _⟩, ⟨7, 26, ptrH, _⟩, ⟨8, 26, ptrH, _⟩] a w := hst
      refine thn_normal ?_
      refine wp_ret ?_
      refine thn_ret ?_
      refine ret_wk ?_ (ret_many (rs := [.cell 4 26, .tmp 5, .tmp 6]) rfl hst (.cell (List.mem_of_getElem? (i := 2) rfl) ty_26 (.tmp (List.mem_of_getElem? (i := 0) rfl) (.tmp (List.mem_of_getElem? (i := 1) rfl) .nil))) (by decide))
      rw [lnF, if_pos hb0, if_neg hb1]; exact wk_id
    · rw [cm_ne, Bool.not_eq_false', decide_eq_true_eq] at hb1
      refine wp_skip ?_
      refine thn_normal ?_
      refine wp_seq ?_
      refine go_draw (anc := [[], [0], [], [0, 1, 2], [], [4], [], [0, 1, 2, 3, 4, 5, 6], [0, 1, 2, 3, 4, 5, 6, 7], [0, 1, 2, 3, 4, 5, 6, 7, 8], [0, 1, 2, 3, 4, 5, 6, 7, 8, 9], [0, 1, 2, 3, 4, 5, 6, 7, 8, 9], [0, 1, 2, 3, 4, 5, 6, 7, 8, 9], [0, 1, 2, 3, 4, 5, 6, 7, 8, 9, 10, 11, 12], [0, 1, 2, 3, 4, 5, 6, 7, 8, 9, 10, 11, 12, 13], [0, 1, 2, 3, 4, 5, 6, 7, 8, 9, 10, 11, 12, 13, 14]]) (sts := [none, none, some (13, _), none, none]) (news := []) (sp := [.adr 36 2 (.some 0) True, .val 37 _, .val 38 _, .val 39 _, .adr 40 3 (.some 0) True, .val 41 _, .val 42 _, .val 43 _, .val 44 _, .val 45 _, .val 46 _, .val 47 _, .val 48 _, .sto 2, .val 5 _, .val 6 _]) [.o 14, .o 15] follows_mixed hst (obs_cons (ob_a rfl rfl (a_fld (loc_at0 0 rfl (by kernel_rfl)) fld_28_0)) (obs_cons (ob_v rfl rfl (r_loadf 0 rfl (by kernel_rfl) trivial (loc_at0 0 rfl (by kernel_rfl)) (Sub.part 0 rfl rfl) ty_26)) (obs_cons (ob_v rfl rfl (r_load (loc_at0 3 rfl (by kernel_rfl)) ty_26)) (obs_cons (ob_v rfl rfl (r_call (xs := [.tmp 37, .tmp 38]) (over_q (by decide) (sq_ne hx.2)) (.cons (has_v 1 rfl (by kernel_rfl) (by kernel_rfl)) (.cons (has_v 2 rfl (by kernel_rfl) (by kernel_rfl)) .nil)))) (obs_cons (ob_a rfl rfl (a_fld (loc_at0 1 rfl (by kernel_rfl)) fld_28_0)) (obs_cons (ob_v rfl rfl (r_loadf 4 rfl (by kernel_rfl) trivial (loc_at0 1 rfl (by kernel_rfl)) (Sub.part 0 rfl rfl) ty_26)) (obs_cons (ob_v rfl rfl (r_load (loc_at0 4 rfl (by kernel_rfl)) ty_26)) (obs_cons (ob_v rfl rfl (r_call (xs := [.tmp 41, .tmp 42]) (over_q (by decide) (sq_ne hy.2)) (.cons (has_v 5 rfl (by kernel_rfl) (by kernel_rfl)) (.cons (has_v 6 rfl (by kernel_rfl) (by kernel_rfl)) .nil)))) (obs_cons (ob_v rfl rfl (r_call (xs := [.tmp 39, .tmp 43]) (minus_q (by omega)) (.cons (has_v 3 rfl (by kernel_rfl) (by kernel_rfl)) (.cons (has_v 7 rfl (by kernel_rfl) (by kernel_rfl)) .nil)))) (obs_cons (ob_v rfl rfl (r_call (xs := [.tmp 44]) (found_q (by decide)) (.cons (has_v 8 rfl (by kernel_rfl) (by kernel_rfl)) .nil))) (obs_cons (ob_v rfl rfl (r_ex0 (has_v 9 rfl (by kernel_rfl) (by kernel_rfl)))) (obs_cons (ob_v rfl rfl (r_ex1 (has_v 9 rfl (by kernel_rfl) (by kernel_rfl)))) (obs_cons (ob_v rfl rfl (r_ex2 (has_v 9 rfl (by kernel_rfl) (by kernel_rfl)))) (obs_cons (ob_sto rfl rfl rfl (has_v 10 rfl (by kernel_rfl) (by kernel_rfl)) ty_26 rfl) (obs_cons (ob_v rfl rfl (r_assign (has_v 11 rfl (by kernel_rfl) (by kernel_rfl)))) (obs_cons (ob_v rfl rfl (r_assign (has_v 12 rfl (by kernel_rfl) (by kernel_rfl)))) (obs_nil))))))))))))))))) (by kernel_rfl) (by kernel_rfl) (by kernel_rfl) (by kernel_rfl) (fun a w hst => ?_)
      have hst : St B w0 49 [(5, _), (6, _)] [⟨2, 28, ptrH, _⟩, ⟨3, 28, ptrH, _⟩, ⟨4, 26, ptrH, _⟩, ⟨7, 26, ptrH, _⟩, ⟨8, 26, ptrH, _⟩] a w := hst
      refine thn_normal ?_
      refine wp_ret ?_
      refine ret_wk ?_ (ret_many (rs := [.cell 4 26, .tmp 5, .tmp 6]) rfl hst (.cell (List.mem_of_getElem? (i := 2) rfl) ty_26 (.tmp (List.mem_of_getElem? (i := 0) rfl) (.tmp (List.mem_of_getElem? (i := 1) rfl) .nil))) (by decide))
      rw [lnF, if_pos hb0, if_pos hb1]; exact wk_id

set_option maxRecDepth 100000 in
theorem space_c (x y : RG) : Cn Try.prog 41 [(RGA x).va, (RGA y).va] (R3 (spF x y)) := by
  refine Cn.intro Try.func41 rfl (by kernel_rfl) (Nat.le_of_ble_eq_true (by kernel_rfl)) (fun B w0 a hst => ?_)
  have hst : St B w0 36 [(0, (RGA x).va), (1, (RGA y).va)] [] a w0.w := hst
  refine wp_seq ?_
  refine go_lin (sts := []) (news := [⟨2, 28, ptrH, some 0, _, none⟩, ⟨3, 28, ptrH, some 1, _, none⟩, ⟨4, 26, ptrH, some 2, _, none⟩]) (sp := [.alc 0, .alc 1, .alc 2, .val 5 _, .val 6 _]) [.o 3, .o 4] hst (obs_cons (ob_box rfl rfl rfl (has_g 0 rfl (by kernel_rfl) (by kernel_rfl))) (obs_cons (ob_box rfl rfl rfl (has_g 1 rfl (by kernel_rfl) (by kernel_rfl))) (obs_cons (ob_alc rfl rfl rfl (Str.zero str_frac)) (obs_cons (ob_v rfl rfl (r_assign has_bo)) (obs_cons (ob_v rfl rfl (r_assign has_num)) (obs_nil)))))) (by kernel_rfl) (by kernel_rfl) (by kernel_rfl) (fun a w hst => ?_)
  have hst : St B w0 36 [(5, _), (6, _)] [⟨2, 28, ptrH, _⟩, ⟨3, 28, ptrH, _⟩, ⟨4, 26, ptrH, _⟩] a w := hst
  refine thn_normal ?_
  refine wp_seq ?_
  refine wp_seq ?_
  refine go_lin (sts := [none, none, none]) (news := []) (sp := [.val 8 _, .val 9 _, .val 10 _, .val 11 _, .val 12 _]) [.g 0, .g 1, .o 4] hst (obs_cons (ob_v rfl rfl (r_load (loc_at0 0 rfl (by kernel_rfl)) ty_28)) (obs_cons (ob_v rfl rfl (r_load (loc_at0 1 rfl (by kernel_rfl)) ty_28)) (obs_cons (ob_v rfl rfl (r_slice (D := [U32]) (l := [_, _]) (xs := [.tmp 8, .tmp 9]) (nd_ok (by kernel_rfl)) sl_29 (by kernel_rfl) (n_ok (by kernel_rfl)) (Nat.le_of_ble_eq_true (by kernel_rfl)) (Nat.le_of_ble_eq_true (by kernel_rfl)) (Nat.le_of_ble_eq_true (by kernel_rfl)) (.cons (has_v 0 rfl (by kernel_rfl) (by kernel_rfl)) (.cons (has_v 1 rfl (by kernel_rfl) (by kernel_rfl)) .nil)) rfl rfl)) (obs_cons (ob_v rfl rfl (r_call (xs := [.tmp 10]) (mayG_c [x, y]) (.cons (has_v 2 rfl (by kernel_rfl) (by kernel_rfl)) .nil))) (obs_cons (ob_v rfl rfl (r_not (has_v 3 rfl (by kernel_rfl) (by kernel_rfl)))) (obs_nil)))))) (by kernel_rfl) (by kernel_rfl) (by kernel_rfl) (fun a w hst => ?_)
  have hst : St B w0 36 [(5, _), (6, _), (12, _)] [⟨2, 28, ptrH, _⟩, ⟨3, 28, ptrH, _⟩, ⟨4, 26, ptrH, _⟩] a w := hst
  refine thn_normal ?_
  refine cond_of hst (List.mem_of_getElem? (i := 2) rfl) (fun hb0 => ?_) (fun hb0 => ?_)
  · rw [two_B, Bool.not_eq_true'] at hb0
    refine wp_seq ?_
    refine go_lin (sts := [none, none, some (1, _)]) (news := []) (sp := [.val 13 _, .sto 2, .val 5 _, .val 6 _]) [.o 2, .o 3] hst (obs_cons (ob_v rfl rfl (r_build (xs := []) (qs := []) str_frac .nil)) (obs_cons (ob_sto rfl rfl rfl (has_v 0 rfl (by kernel_rfl) (by kernel_rfl)) ty_26 rfl) (obs_cons (ob_v rfl rfl (r_assign has_bo)) (obs_cons (ob_v rfl rfl (r_assign has_num)) (obs_nil))))) (by kernel_rfl) (by kernel_rfl) (by kernel_rfl) (fun a w hst => ?_)
    have hst : St B w0 36 [(5, _), (6, _)] [⟨2, 28, ptrH, _⟩, ⟨3, 28, ptrH, _⟩, ⟨4, 26, ptrH, _⟩] a w := hst
    refine thn_normal ?_
    refine wp_ret ?_
    refine thn_ret ?_
    refine ret_wk ?_ (ret_many (rs := [.cell 4 26, .tmp 5, .tmp 6]) rfl hst (.cell (List.mem_of_getElem? (i := 2) rfl) ty_26 (.tmp (List.mem_of_getElem? (i := 0) rfl) (.tmp (List.mem_of_getElem? (i := 1) rfl) .nil))) (by decide))
    rw [spF, if_neg (by rw [hb0]; decide)]; exact wk_id
  · rw [two_B, Bool.not_eq_false'] at hb0
    obtain ⟨hx, hy⟩ := and_ok hb0
    have hst := St.wkL hst 0 rfl (qg_x hx.1)
    have hst := St.wkL hst 1 rfl (qg_x hy.1)
    refine wp_skip ?_
    refine thn_normal ?_
    refine wp_seq ?_
    refine go_lin (sts := [none, none, none]) (news := [⟨7, 26, ptrH, some 5, _, some (6, _)⟩]) (sp := [.adr 14 3 (.some 0) True, .val 15 _, .adr 16 2 (.some 0) True, .val 17 _, .val 18 _, .alc 3, .sto 3]) [.g 0, .g 1] hst (obs_cons (ob_a rfl rfl (a_fld (loc_at0 1 rfl (by kernel_rfl)) fld_28_0)) (obs_cons (ob_v rfl rfl (r_loadf 0 rfl (by kernel_rfl) trivial (loc_at0 1 rfl (by kernel_rfl)) (Sub.part 0 rfl rfl) ty_26)) (obs_cons (ob_a rfl rfl (a_fld (loc_at0 0 rfl (by kernel_rfl)) fld_28_0)) (obs_cons (ob_v rfl rfl (r_loadf 2 rfl (by kernel_rfl) trivial (loc_at0 0 rfl (by kernel_rfl)) (Sub.part 0 rfl rfl) ty_26)) (obs_cons (ob_v rfl rfl (r_call (xs := [.tmp 15, .tmp 17]) (minus_q (by omega)) (.cons (has_v 1 rfl (by kernel_rfl) (by kernel_rfl)) (.cons (has_v 3 rfl (by kernel_rfl) (by kernel_rfl)) .nil)))) (obs_cons (ob_alc rfl rfl rfl (Str.zero str_frac)) (obs_cons (ob_sto rfl rfl rfl (has_v 4 rfl (by kernel_rfl) (by kernel_rfl)) ty_26 rfl) (obs_nil)))))))) (by kernel_rfl) (by kernel_rfl) (by kernel_rfl) (fun a w hst => ?_)
    have hst : St B w0 36 [(5, _), (6, _)] [⟨2, 28, ptrH, _⟩, ⟨3, 28, ptrH, _⟩, ⟨4, 26, ptrH, _⟩, ⟨7, 26, ptrH, _⟩] a w := hst
    refine thn_normal ?_
    refine wp_seq ?_
    refine wp_seq ?_
    refine go_lin (sts := [none, none, none, none]) (news := []) (sp := [.adr 19 2 (.some 4) True, .val 20 _, .adr 21 3 (.some 4) True, .val 22 _, .val 23 _, .val 24 _, .val 25 _, .val 26 (Wh (_ = false) _), .val 27 (Wh (_ = false) _), .val 28 (Wh (_ = false) _), .val 29 _]) [.g 0, .g 1, .o 10] hst (obs_cons (ob_a rfl rfl (a_fld (loc_at0 0 rfl (by kernel_rfl)) fld_28_1)) (obs_cons (ob_v rfl rfl (r_loadf 0 rfl (by kernel_rfl) trivial (loc_at0 0 rfl (by kernel_rfl)) (Sub.part 1 rfl rfl) ty_26)) (obs_cons (ob_a rfl rfl (a_fld (loc_at0 1 rfl (by kernel_rfl)) fld_28_1)) (obs_cons (ob_v rfl rfl (r_loadf 2 rfl (by kernel_rfl) trivial (loc_at0 1 rfl (by kernel_rfl)) (Sub.part 1 rfl rfl) ty_26)) (obs_cons (ob_v rfl rfl (r_call (xs := [.tmp 20, .tmp 22]) (cmp_q (by omega)) (.cons (has_v 1 rfl (by kernel_rfl) (by kernel_rfl)) (.cons (has_v 3 rfl (by kernel_rfl) (by kernel_rfl)) .nil)))) (obs_cons (ob_v rfl rfl (r_neq (has_v 4 rfl (by kernel_rfl) (by kernel_rfl)) has_num)) (obs_cons (ob_v rfl rfl (r_move (has_v 5 rfl (by kernel_rfl) (by kernel_rfl)))) (obs_cons (ob_gd rfl rfl rfl (has_v 6 rfl (by kernel_rfl) (by kernel_rfl)) (Nat.le_of_ble_eq_true (by kernel_rfl)) (fun hg => r_load (loc_at0 3 rfl (by kernel_rfl)) ty_26)) (obs_cons (ob_gd rfl rfl rfl (has_v 6 rfl (by kernel_rfl) (by kernel_rfl)) (Nat.le_of_ble_eq_true (by kernel_rfl)) (fun hg => r_call (xs := [.tmp 26]) sign_q (.cons (has_wh (has_v 7 rfl (by kernel_rfl) (by kernel_rfl)) hg) .nil))) (obs_cons (ob_gd rfl rfl rfl (has_v 6 rfl (by kernel_rfl) (by kernel_rfl)) (Nat.le_of_ble_eq_true (by kernel_rfl)) (fun hg => r_lss (has_wh (has_v 8 rfl (by kernel_rfl) (by kernel_rfl)) hg) has_num)) (obs_cons (ob_v rfl rfl (r_or (has_v 6 rfl (by kernel_rfl) (by kernel_rfl)) (has_v 9 rfl (by kernel_rfl) (by kernel_rfl)))) (obs_nil)))))))))))) (by kernel_rfl) (by kernel_rfl) (by kernel_rfl) (fun a w hst => ?_)
    have hst : St B w0 36 [(5, _), (6, _), (29, _)] [⟨2, 28, ptrH, _⟩, ⟨3, 28, ptrH, _⟩, ⟨4, 26, ptrH, _⟩, ⟨7, 26, ptrH, _⟩] a w := hst
    refine thn_normal ?_
    refine cond_of hst (List.mem_of_getElem? (i := 2) rfl) (fun hb1 => ?_) (fun hb1 => ?_)
    · refine wp_seq ?_
      refine go_lin (sts := [none, none, some (1, _), none]) (news := []) (sp := [.val 30 _, .sto 2, .val 5 _, .val 6 _]) [.o 2, .o 3] hst (obs_cons (ob_v rfl rfl (r_build (xs := []) (qs := []) str_frac .nil)) (obs_cons (ob_sto rfl rfl rfl (has_v 0 rfl (by kernel_rfl) (by kernel_rfl)) ty_26 rfl) (obs_cons (ob_v rfl rfl (r_assign has_bo)) (obs_cons (ob_v rfl rfl (r_assign has_num)) (obs_nil))))) (by kernel_rfl) (by kernel_rfl) (by kernel_rfl) (fun a w hst => ?_)
      have hst : St B w0 36 [(5, _), (6, _)] [⟨2, 28, ptrH, _⟩, ⟨3, 28, ptrH, _⟩, ⟨4, 26, ptrH, _⟩, ⟨7, 26, ptrH, _⟩] a w := hst
      refine thn_normal ?_
      refine wp_ret ?_
      refine thn_ret ?_
      refine ret_wk ?_ (ret_many (rs := [.cell 4 26, .tmp 5, .tmp 6]) rfl hst (.cell (List.mem_of_getElem? (i := 2) rfl) ty_26 (.tmp (List.mem_of_getElem? (i := 0) rfl) (.tmp (List.mem_of_getElem? (i := 1) rfl) .nil))) (by decide))
      rw [spF, if_pos hb0, if_neg (sp_yes hb1)]; exact wk_id
    · refine wp_skip ?_
      refine thn_normal ?_
      refine wp_seq ?_
      refine go_lin (sts := [none, none, some (5, _), none]) (news := []) (sp := [.val 31 _, .val 32 _, .val 33 _, .val 34 _, .val 35 _, .sto 2, .val 5 _, .val 6 _]) [.o 6, .o 7] hst (obs_cons (ob_v rfl rfl (r_load (loc_at0 3 rfl (by kernel_rfl)) ty_26)) (obs_cons (ob_v rfl rfl (r_call (xs := [.tmp 31]) (found_q (by decide)) (.cons (has_v 0 rfl (by kernel_rfl) (by kernel_rfl)) .nil))) (obs_cons (ob_v rfl rfl (r_ex0 (has_v 1 rfl (by kernel_rfl) (by kernel_rfl)))) (obs_cons (ob_v rfl rfl (r_ex1 (has_v 1 rfl (by kernel_rfl) (by kernel_rfl)))) (obs_cons (ob_v rfl rfl (r_ex2 (has_v 1 rfl (by kernel_rfl) (by kernel_rfl)))) (obs_cons (ob_sto rfl rfl rfl (has_v 2 rfl (by kernel_rfl) (by kernel_rfl)) ty_26 rfl) (obs_cons (ob_v rfl rfl (r_assign (has_v 3 rfl (by kernel_rfl) (by kernel_rfl)))) (obs_cons (ob_v rfl rfl (r_assign (has_v 4 rfl (by kernel_rfl) (by kernel_rfl)))) (obs_nil))))))))) (by kernel_rfl) (by kernel_rfl) (by kernel_rfl) (fun a w hst => ?_)
      have hst : St B w0 36 [(5, _), (6, _)] [⟨2, 28, ptrH, _⟩, ⟨3, 28, ptrH, _⟩, ⟨4, 26, ptrH, _⟩, ⟨7, 26, ptrH, _⟩] a w := hst
      refine thn_normal ?_
      refine wp_ret ?_
      refine ret_wk ?_ (ret_many (rs := [.cell 4 26, .tmp 5, .tmp 6]) rfl hst (.cell (List.mem_of_getElem? (i := 2) rfl) ty_26 (.tmp (List.mem_of_getElem? (i := 0) rfl) (.tmp (List.mem_of_getElem? (i := 1) rfl) .nil))) (by decide))
      rw [spF, if_pos hb0, if_pos (sp_no hb1)]; exact wk_id

end Go.Proofs.Ytiokhlpbdabaeaa
