import Derived.Test.YtmghfjcjcfaagaaGreatLeafS
namespace Go.Proofs.YtmghfjcjcfaagaaGreat
open Go Go.RowKit
namespace LeafT
theorem fld_52_0 : Fld Tryz.prog 52 0 0 4 := ⟨_, _, Tryz.underlying52, rfl, rfl, by kernel_rfl, by decide⟩
theorem fld_52_1 : Fld Tryz.prog 52 1 4 4 := ⟨_, _, Tryz.underlying52, rfl, rfl, by kernel_rfl, by decide⟩
theorem sl_53 : Sl Tryz.prog 53 52 8 := ⟨by kernel_rfl, by kernel_rfl⟩
theorem sl_71 : Sl Tryz.prog 71 26 4 := ⟨by kernel_rfl, by kernel_rfl⟩
theorem ty_26 : Ty Tryz.prog 26 4 true := ⟨by kernel_rfl, by kernel_rfl⟩
theorem ty_52 : Ty Tryz.prog 52 8 true := ⟨by kernel_rfl, by kernel_rfl⟩
end LeafT
open LeafT
def bmC (x : RG) : Int := if [x.re, x.im].all okX then (if (toQ x.im).num.sign ≤ 0 then 8 else 0) else 1
def okB (x : RG) : Bool := !(bmC x != 0)
theorem okB_q {x : RG} (h : okB x = true) : [x.re, x.im].all okX = true ∧ 0 < (toG x).im := by
  unfold okB bmC at h
  cases h1 : [x.re, x.im].all okX with
  | false => rw [h1] at h; simp at h
  | true =>
    rw [h1, if_pos rfl] at h
    refine ⟨rfl, ?_⟩
    by_cases h2 : (toQ x.im).num.sign ≤ 0
    · rw [if_pos h2] at h; exact absurd h (by decide)
    · have h3 : 0 < (toQ x.im).num := Int.sign_pos_iff.1 (by omega)
      show 0 < toQ x.im
      rw [Rat.lt_iff_le_and_ne]
      refine ⟨Rat.num_nonneg.1 (by omega), fun e => ?_⟩
      rw [← e] at h3
      exact absurd h3 (by decide)
theorem sq_nn (x : Rat) : 0 ≤ x * x := by
  rcases Rat.le_total (a := 0) (b := x) with h | h
  · exact Rat.mul_nonneg h h
  · have : 0 ≤ (-x) * (-x) := Rat.mul_nonneg (by grind) (by grind)
    grind
theorem sum_sq {x y : Rat} (h : x * x + y * y = 0) : x = 0 ∧ y = 0 := by
  have h1 := sq_nn x
  have h2 := sq_nn y
  have h3 : x * x = 0 := Rat.le_antisymm (by grind) h1
  have h4 : y * y = 0 := by grind
  exact ⟨(Rat.mul_eq_zero.1 h3).elim id id, (Rat.mul_eq_zero.1 h4).elim id id⟩
theorem ne_of_pos {x : Rat} (h : 0 < x) : x ≠ 0 := Rat.ne_of_gt h
set_option maxRecDepth 100000 in
theorem bmCheck_c (x : RG) : Cn Tryz.prog 132 [(RGA x).va] (In (bmC x)) := by
  refine Cn.intro Tryz.func132 rfl (by kernel_rfl) nq (fun B w0 a hst => ?_)
  have hst : St B w0 12 [(0, (RGA x).va)] [] a w0.w := hst
  refine wp_seq ?_
  refine gl (sts := []) (news := [⟨1, 52, ptrH, some 0, _, none⟩]) (sp := [.alc 0, .val 2 _]) [.o 1] hst (oc (ob_box rfl rfl rfl (gq 0 rfl)) (oc (ob_v rfl rfl (r_assign has_num)) o0)) (fun a w hst => ?_)
  have hst : St B w0 12 [(2, _)] [⟨1, 52, ptrH, _⟩] a w := hst
  refine thn_normal ?_
  refine wp_seq ?_
  refine wp_block ?_
  refine wp_seq ?_
  refine gl (sts := [none]) (news := []) (sp := [.val 4 _, .val 5 _, .val 6 _, .val 3 _]) [.g 0, .o 3] hst (oc (ob_v rfl rfl (r_load (lz0 0 rfl) ty_52)) (oc (ob_v rfl rfl (r_call (xs := [.tmp 4]) (argMay_c _) (.cons (vq 0 rfl) .nil))) (oc (ob_v rfl rfl (r_not (vq 1 rfl))) (oc (ob_v rfl rfl (r_assign (vq 2 rfl))) o0)))) (fun a w hst => ?_)
  have hst : St B w0 12 [(2, _), (3, _)] [⟨1, 52, ptrH, _⟩] a w := hst
  refine thn_normal ?_
  refine cond_of hst (List.mem_of_getElem? (i := 1) rfl) (fun hb0 => ?_) (fun hb0 => ?_)
  · rw [Bool.not_eq_true'] at hb0
    refine wp_seq ?_
    refine gl (sts := [none]) (news := []) (sp := [.val 2 _]) [.o 0] hst (oc (ob_v rfl rfl (r_assign has_num)) o0) (fun a w hst => ?_)
    have hst : St B w0 12 [(2, _)] [⟨1, 52, ptrH, _⟩] a w := hst
    refine thn_normal ?_
    refine wp_ret ?_
    refine blk_ret ?_
    refine thn_ret ?_
    refine ret_wk ?_ (ret_tmp rfl hst (List.mem_of_getElem? (i := 0) rfl))
    rw [bmC, if_neg (by rw [hb0]; decide)]; exact wk_id
  · rw [Bool.not_eq_false'] at hb0
    have hst := St.wkL hst 0 rfl (qg_x hb0)
    refine wp_seq ?_
    refine gl (sts := [none]) (news := []) (sp := [.adr 8 1 (.some 4) True, .val 9 _, .val 10 _, .val 11 _, .val 7 _]) [.g 0, .o 4] hst (oc (ob_a rfl rfl (a_fld (lz0 0 rfl) fld_52_1)) (oc (ob_v rfl rfl (r_loadf 0 rfl (by kernel_rfl) trivial (lz0 0 rfl) (Sub.part 1 rfl rfl) ty_26)) (oc (ob_v rfl rfl (r_call (xs := [.tmp 9]) sign_q (.cons (vq 1 rfl) .nil))) (oc (ob_v rfl rfl (r_leq (vq 2 rfl) has_num)) (oc (ob_v rfl rfl (r_assign (vq 3 rfl))) o0))))) (fun a w hst => ?_)
    have hst : St B w0 12 [(2, _), (7, _)] [⟨1, 52, ptrH, _⟩] a w := hst
    refine thn_normal ?_
    refine cond_of hst (List.mem_of_getElem? (i := 1) rfl) (fun hb1 => ?_) (fun hb1 => ?_)
    · refine wp_seq ?_
      refine gl (sts := [none]) (news := []) (sp := [.val 2 _]) [.o 0] hst (oc (ob_v rfl rfl (r_assign has_num)) o0) (fun a w hst => ?_)
      have hst : St B w0 12 [(2, _)] [⟨1, 52, ptrH, _⟩] a w := hst
      refine thn_normal ?_
      refine wp_ret ?_
      refine blk_ret ?_
      refine thn_ret ?_
      refine ret_wk ?_ (ret_tmp rfl hst (List.mem_of_getElem? (i := 0) rfl))
      rw [bmC, if_pos hb0, if_pos (show (toQ x.im).num.sign ≤ 0 from of_decide_eq_true hb1)]; exact wk_id
    · refine wp_skip ?_
      refine blk_normal ?_
      refine thn_normal ?_
      refine wp_seq ?_
      refine gl (sts := [none]) (news := []) (sp := [.val 2 _]) [.o 0] hst (oc (ob_v rfl rfl (r_assign has_num)) o0) (fun a w hst => ?_)
      have hst : St B w0 12 [(2, _)] [⟨1, 52, ptrH, _⟩] a w := hst
      refine thn_normal ?_
      refine wp_ret ?_
      refine ret_wk ?_ (ret_tmp rfl hst (List.mem_of_getElem? (i := 0) rfl))
      rw [bmC, if_pos hb0, if_neg (show ¬ (toQ x.im).num.sign ≤ 0 from of_decide_eq_false hb1)]; exact wk_id

theorem okB_of {x : RG} (h : (bmC x != 0) = false) : okB x = true := by rw [okB, h]; rfl
theorem okM_q {m : RM} (h : okM m = true) : [m.a, m.b, m.c, m.d].all okX = true ∧ detM (toM m) = 1 := by
  unfold okM at h
  rw [Bool.and_eq_true, decide_eq_true_eq] at h
  exact h

theorem all_some {α : Type} {p : α → Bool} {l : List α} {j : Nat} (h : j < l.length) (h2 : p l[j] = false) : false = l.all p := (List.all_eq_false.2 ⟨_, List.getElem_mem h, by simp [h2]⟩).symm
theorem all_no {α : Type} {p : α → Bool} {l : List α} {j : Nat} (h : j < l.length) (h1 : (l.take j).all p = true) (h2 : p l[j] = true) : (l.take (j + 1)).all p = true := by
  rw [List.take_succ_eq_append_getElem h, List.all_append, h1]
  simp [h2]
theorem okB_no {x : RG} (h : (bmC x != 0) = true) : okB x = false := by rw [okB, h]; rfl
theorem upA_rg (x : RG) : UpA (RGA x) (RGA x) := cat_up (.cons (upA_rf _) (.cons (upA_rf _) .nil))
def sqQ (x y : Rat) : Rat := x * x + y * y
def alkQ (p q : GQ) : Rat := 4 * (p.im * q.im) / sqQ (p.re - q.re) (p.im + q.im)
def fdF (x : Rat) : RF × Bool × Int := if longQ x then (rf0, false, 4) else (rfOf x, true, 0)
abbrev R3 (r : RF × Bool × Int) : VA := Tu [(RFA r.1).va, Bo r.2.1, In r.2.2]
theorem tu3w {a b c d e f : VA} (h : Wk a d) (h' : Wk b e) (h'' : Wk c f) : Wk (Tu [a, b, c]) (Tu [d, e, f]) := tu_wk (.cons h (.cons h' (.cons h'' .nil)))
theorem sq_ne {x y : Rat} (h : 0 < y) : sqQ x y ≠ 0 := fun e => ne_of_pos h (sum_sq e).2
theorem two_B {x y : RG} : [x, y].all okB = (okB x && okB y) := by simp
theorem add_pos {x y : Rat} (h : 0 < x) (h' : 0 < y) : 0 < x + y := by grind
def ovF (x y : RG) : RF × Int := if okB x && okB y then ansF (alkQ (toG x) (toG y)) else (rf0, 1)
theorem fd_ans (x : Rat) : ((fdF x).1, (fdF x).2.2) = ansF x := by unfold fdF ansF; split <;> rfl
set_option maxRecDepth 100000 in
theorem mayG_c (xs : List RG) : Cn Tryz.prog 70 [(SlA 52 [U32] (xs.map RGA)).va] (Bo (xs.all okB)) := by
  refine Cn.introW Tryz.func70 rfl (by kernel_rfl) nq (.cons (up_sl (fun A hA => by obtain ⟨x, _, rfl⟩ := List.mem_map.1 hA; exact upA_rg x)).va .nil) (free_bo _).va (fun B w0 a hB0 hst => ?_)
  have hst : St B w0 15 [(0, (SlO 52 [U32] (xs.map RGA) True).va)] [] a w0.w := hst
  have hl := slO_len (hst.vals (0, (SlO 52 [U32] (xs.map RGA) True).va) (List.mem_of_getElem? (i := 0) rfl))
  rw [List.length_map] at hl
  refine wp_seq ?_
  refine gl (sts := []) (news := []) (sp := [.val 2 _]) [.g 0, .o 0] hst (oc (ob_v rfl rfl (r_assign has_bo)) o0) (fun a w hst => ?_)
  have hst : St B w0 15 [(0, _), (2, _)] [] a w := hst
  refine thn_normal ?_
  refine wp_seq ?_
  refine wp_seq ?_
  refine gl (sts := []) (news := []) (sp := [.val 5 _, .val 6 _, .val 7 _]) [.g 1, .o 0, .o 1, .o 2] hst (oc (ob_v rfl rfl (r_move (gq 0 rfl))) (oc (ob_v rfl rfl (r_len Tryz.underlying53 (has_and (has_old (vq 0 rfl))))) (oc (ob_v rfl rfl (r_move has_num)) o0))) (fun a w hst => ?_)
  have hst : St B w0 15 [(2, _), (5, _), (6, _), (7, _)] [] a w := hst
  refine thn_normal ?_
  refine wp_block ?_
  have hst := St.sel hst [1, 2, 3]
  refine wp_loop_ghost (fun n a w => ∃ j : Nat, (n + j = xs.length ∧ (xs.take j).all okB = true) ∧ St B w0 15 [(5, (SlO 52 [U32] (xs.map RGA) True).va), (6, In (xs.length : Nat)), (7, In (j : Nat))] [] a w) (xs.length) ?_ ?_
  · exact ⟨0, ⟨by omega, rfl⟩, by rw [List.length_map] at hst; exact hst⟩
  intro n a w hI
  obtain ⟨j, ⟨hn, hno⟩, hst⟩ := hI
  refine wp_seq ?_
  refine gl (sts := []) (news := []) (sp := [.val 8 _]) [.g 0, .g 1, .g 2, .o 0] hst (oc (ob_v rfl rfl (r_lss (gq 2 rfl) (gq 1 rfl))) o0) (fun a w hst => ?_)
  have hst : St B w0 15 [(5, _), (6, _), (7, _), (8, _)] [] a w := hst
  refine thn_normal ?_
  refine wp_seq ?_
  refine cond_of hst (List.mem_of_getElem? (i := 3) rfl) (fun hb0 => ?_) (fun hb0 => ?_)
  · have hj : j < xs.length := by simp at hb0; omega
    refine wp_skip ?_
    refine thn_normal ?_
    refine wp_seq ?_
    refine wp_block ?_
    refine wp_seq ?_
    refine gl (sts := []) (news := [⟨4, 52, ptrH, some 2, _, some (3, _)⟩]) (sp := [.val 9 _, .val 10 _, .alc 0, .sto 0]) [.g 0, .g 1, .g 2] hst (oc (ob_v rfl rfl (r_idx sl_53 (map_n fun _ => rfl) (has_and (has_old (gq 0 rfl))) (gq 2 rfl) (map_at hj))) (oc (ob_v rfl rfl (r_loade (vq 0 rfl) ty_52)) (oc (ob_alc rfl rfl rfl (Str.zero str_gauss)) (oc (ob_sto rfl rfl rfl (vq 1 rfl) ty_52 (Eq.trans (b := 8) rfl rfl)) o0)))) (fun a w hst => ?_)
    have hst : St B w0 15 [(5, _), (6, _), (7, _)] [⟨4, 52, ptrH, _⟩] a w := hst
    refine thn_normal ?_
    refine wp_seq ?_
    refine gl (sts := [none]) (news := []) (sp := [.val 11 _, .val 12 _, .val 13 _]) [.g 0, .g 1, .g 2, .o 2] hst (oc (ob_v rfl rfl (r_load (lz0 0 rfl) ty_52)) (oc (ob_v rfl rfl (r_call (xs := [.tmp 11]) (bmCheck_c _) (.cons (vq 0 rfl) .nil))) (oc (ob_v rfl rfl (r_neq (vq 1 rfl) has_num)) o0))) (fun a w hst => ?_)
    have hst : St B w0 15 [(5, _), (6, _), (7, _), (13, _)] [⟨4, 52, ptrH, _⟩] a w := hst
    refine thn_normal ?_
    refine cond_of hst (List.mem_of_getElem? (i := 3) rfl) (fun hb1 => ?_) (fun hb1 => ?_)
    · refine wp_seq ?_
      refine gl (sts := [none]) (news := []) (sp := [.val 2 _]) [.g 0, .g 1, .g 2, .o 0] hst (oc (ob_v rfl rfl (r_assign has_bo)) o0) (fun a w hst => ?_)
      have hst : St B w0 15 [(5, _), (6, _), (7, _), (2, _)] [⟨4, 52, ptrH, _⟩] a w := hst
      refine thn_normal ?_
      refine wp_ret ?_
      refine blk_ret ?_
      refine thn_ret ?_
      refine thn_ret ?_
      refine blk_ret ?_
      refine thn_ret ?_
      refine ret_wk ?_ (ret_tmp rfl hst (List.mem_of_getElem? (i := 3) rfl))
      rw [← all_some hj (okB_no hb1)]; exact wk_id
    · refine wp_skip ?_
      refine blk_normal ?_
      refine thn_normal ?_
      refine gl (sts := [none]) (news := []) (sp := [.val 14 _, .val 7 _]) [.g 0, .g 1, .o 1] hst (oc (ob_v rfl rfl (r_add (gq 2 rfl) has_num ((wi64 (by omega) (by omega)).trans (by omega : (_ : Int) = ((j + 1 : Nat) : Int))))) (oc (ob_v rfl rfl (r_move (vq 0 rfl))) o0)) (fun a w hst => ?_)
      have hst : St B w0 15 [(5, _), (6, _), (7, _)] [⟨4, 52, ptrH, _⟩] a w := hst
      refine thn_normal ?_
      have hst := St.sel hst [0, 1, 2]
      have hst := St.selL hst []
      exact ⟨n - 1, by omega, j + 1, ⟨by omega, all_no hj hno (okB_of hb1)⟩, hst⟩
  · obtain rfl : j = xs.length := by simp at hb0; omega
    refine wp_exit ?_
    refine thn_exit ?_
    refine thn_exit ?_
    refine blk_exit ?_
    refine thn_normal ?_
    refine wp_seq ?_
    refine gl (sts := []) (news := []) (sp := [.val 2 _]) [.o 0] hst (oc (ob_v rfl rfl (r_assign has_bo)) o0) (fun a w hst => ?_)
    have hst : St B w0 15 [(2, _)] [] a w := hst
    refine thn_normal ?_
    refine wp_ret ?_
    refine ret_wk ?_ (ret_tmp rfl hst (List.mem_of_getElem? (i := 0) rfl))
    rw [List.take_length] at hno; rw [hno]; exact wk_id

set_option maxRecDepth 100000 in
theorem square_q {c d : Nat} {x y : Rat} (hk : c + d ≤ 137438953472) : Cn Tryz.prog 135 [Qs c x, Qs d y] (Qs (c + c + (d + d) + 1) (sqQ x y)) := by
  refine Cn.intro Tryz.func135 rfl (by kernel_rfl) nq (fun B w0 a hst => ?_)
  have hst : St B w0 12 [(0, Qs c x), (1, Qs d y)] [] a w0.w := hst
  refine wp_seq ?_
  refine gl (sts := []) (news := [⟨2, 26, ptrH, some 0, _, none⟩, ⟨3, 26, ptrH, some 1, _, none⟩, ⟨4, 26, ptrH, some 2, _, none⟩]) (sp := [.alc 0, .alc 1, .alc 2]) [] hst (oc (ob_box rfl rfl rfl (gq 0 rfl)) (oc (ob_box rfl rfl rfl (gq 1 rfl)) (oc (ob_alc rfl rfl rfl (Str.zero str_frac)) o0))) (fun a w hst => ?_)
  have hst : St B w0 12 [] [⟨2, 26, ptrH, _⟩, ⟨3, 26, ptrH, _⟩, ⟨4, 26, ptrH, _⟩] a w := hst
  refine thn_normal ?_
  refine wp_seq ?_
  refine go_draw (anc := [[], [], [0, 1], [], [], [0, 1, 2, 3, 4], [0, 1, 2, 3, 4, 5], [0, 1, 2, 3, 4, 5, 6]]) (sts := [none, none, some (7, _)]) (news := []) (sp := [.val 5 _, .val 6 _, .val 7 _, .val 8 _, .val 9 _, .val 10 _, .val 11 _, .sto 2]) [] follows_mixed hst (oc (ob_v rfl rfl (r_load (lz0 0 rfl) ty_26)) (oc (ob_v rfl rfl (r_load (lz0 0 rfl) ty_26)) (oc (ob_v rfl rfl (r_call (xs := [.tmp 5, .tmp 6]) (times_q (by omega)) (.cons (vq 0 rfl) (.cons (vq 1 rfl) .nil)))) (oc (ob_v rfl rfl (r_load (lz0 1 rfl) ty_26)) (oc (ob_v rfl rfl (r_load (lz0 1 rfl) ty_26)) (oc (ob_v rfl rfl (r_call (xs := [.tmp 8, .tmp 9]) (times_q (by omega)) (.cons (vq 3 rfl) (.cons (vq 4 rfl) .nil)))) (oc (ob_v rfl rfl (r_call (xs := [.tmp 7, .tmp 10]) (plus_q (by omega)) (.cons (vq 2 rfl) (.cons (vq 5 rfl) .nil)))) (oc (ob_sto rfl rfl rfl (vq 6 rfl) ty_26 (Eq.trans (b := 4) rfl rfl)) o0)))))))) (by kernel_rfl) (by kernel_rfl) (by kernel_rfl) (by kernel_rfl) (fun a w hst => ?_)
  have hst : St B w0 12 [] [⟨2, 26, ptrH, _⟩, ⟨3, 26, ptrH, _⟩, ⟨4, 26, ptrH, _⟩] a w := hst
  refine thn_normal ?_
  refine wp_ret ?_
  refine ret_wk ?_ (ret_cell rfl hst (List.mem_of_getElem? (i := 2) rfl) ty_26)
  exact wk_id

set_option maxRecDepth 100000 in
theorem alike_q {p q : GQ} (hp : 0 < p.im) (hq : 0 < q.im) : Cn Tryz.prog 72 [(QGA 2048 p).va, (QGA 2048 q).va] (Qs 20487 (alkQ p q)) := by
  refine Cn.intro Tryz.func72 rfl (by kernel_rfl) nq (fun B w0 a hst => ?_)
  have hst : St B w0 26 [(0, (QGA 2048 p).va), (1, (QGA 2048 q).va)] [] a w0.w := hst
  refine wp_seq ?_
  refine gl (sts := []) (news := [⟨2, 52, ptrH, some 0, _, none⟩, ⟨3, 52, ptrH, some 1, _, none⟩, ⟨4, 26, ptrH, some 2, _, none⟩]) (sp := [.alc 0, .alc 1, .alc 2]) [] hst (oc (ob_box rfl rfl rfl (gq 0 rfl)) (oc (ob_box rfl rfl rfl (gq 1 rfl)) (oc (ob_alc rfl rfl rfl (Str.zero str_frac)) o0))) (fun a w hst => ?_)
  have hst : St B w0 26 [] [⟨2, 52, ptrH, _⟩, ⟨3, 52, ptrH, _⟩, ⟨4, 26, ptrH, _⟩] a w := hst
  refine thn_normal ?_
  refine wp_seq ?_
  refine go_draw (anc := [[], [], [1], [], [3], [0, 1, 2, 3, 4], [0, 1, 2, 3, 4, 5], [], [0, 1, 2, 3, 4, 5, 6, 7]]) (sts := [none, none, none]) (news := [⟨5, 26, ptrH, some 7, _, some (8, _)⟩]) (sp := [.val 6 _, .adr 7 2 (.some 4) True, .val 8 _, .adr 9 3 (.some 4) True, .val 10 _, .val 11 _, .val 12 _, .alc 3, .sto 3]) [] follows_mixed hst (oc (ob_v rfl rfl (r_call (xs := [.const (.int .i64 (4)), .const (.int .i64 (1))]) (small_q (by decide) (by decide) (by decide) (by decide) (by decide)) (.cons has_num (.cons has_num .nil)))) (oc (ob_a rfl rfl (a_fld (lz0 0 rfl) fld_52_1)) (oc (ob_v rfl rfl (r_loadf 1 rfl (by kernel_rfl) trivial (lz0 0 rfl) (Sub.part 1 rfl rfl) ty_26)) (oc (ob_a rfl rfl (a_fld (lz0 1 rfl) fld_52_1)) (oc (ob_v rfl rfl (r_loadf 3 rfl (by kernel_rfl) trivial (lz0 1 rfl) (Sub.part 1 rfl rfl) ty_26)) (oc (ob_v rfl rfl (r_call (xs := [.tmp 8, .tmp 10]) (times_q (by omega)) (.cons (vq 2 rfl) (.cons (vq 4 rfl) .nil)))) (oc (ob_v rfl rfl (r_call (xs := [.tmp 6, .tmp 11]) (times_q (by omega)) (.cons (vq 0 rfl) (.cons (vq 5 rfl) .nil)))) (oc (ob_alc rfl rfl rfl (Str.zero str_frac)) (oc (ob_sto rfl rfl rfl (vq 6 rfl) ty_26 (Eq.trans (b := 4) rfl rfl)) o0))))))))) (by kernel_rfl) (by kernel_rfl) (by kernel_rfl) (by kernel_rfl) (fun a w hst => ?_)
  have hst : St B w0 26 [] [⟨2, 52, ptrH, _⟩, ⟨3, 52, ptrH, _⟩, ⟨4, 26, ptrH, _⟩, ⟨5, 26, ptrH, _⟩] a w := hst
  refine thn_normal ?_
  refine wp_seq ?_
  refine go_draw (anc := [[], [], [1], [], [3], [1, 2, 3, 4], [], [6], [], [8], [1, 2, 3, 4, 5, 6, 7, 8, 9], [1, 2, 3, 4, 5, 6, 7, 8, 9, 10], [0, 1, 2, 3, 4, 5, 6, 7, 8, 9, 10, 11], [0, 1, 2, 3, 4, 5, 6, 7, 8, 9, 10, 11, 12]]) (sts := [none, none, some (13, _), none]) (news := []) (sp := [.val 13 _, .adr 14 2 (.some 0) True, .val 15 _, .adr 16 3 (.some 0) True, .val 17 _, .val 18 _, .adr 19 2 (.some 4) True, .val 20 _, .adr 21 3 (.some 4) True, .val 22 _, .val 23 _, .val 24 _, .val 25 _, .sto 2]) [] follows_mixed hst (oc (ob_v rfl rfl (r_load (lz0 3 rfl) ty_26)) (oc (ob_a rfl rfl (a_fld (lz0 0 rfl) fld_52_0)) (oc (ob_v rfl rfl (r_loadf 1 rfl (by kernel_rfl) trivial (lz0 0 rfl) (Sub.part 0 rfl rfl) ty_26)) (oc (ob_a rfl rfl (a_fld (lz0 1 rfl) fld_52_0)) (oc (ob_v rfl rfl (r_loadf 3 rfl (by kernel_rfl) trivial (lz0 1 rfl) (Sub.part 0 rfl rfl) ty_26)) (oc (ob_v rfl rfl (r_call (xs := [.tmp 15, .tmp 17]) (minus_q (by omega)) (.cons (vq 2 rfl) (.cons (vq 4 rfl) .nil)))) (oc (ob_a rfl rfl (a_fld (lz0 0 rfl) fld_52_1)) (oc (ob_v rfl rfl (r_loadf 6 rfl (by kernel_rfl) trivial (lz0 0 rfl) (Sub.part 1 rfl rfl) ty_26)) (oc (ob_a rfl rfl (a_fld (lz0 1 rfl) fld_52_1)) (oc (ob_v rfl rfl (r_loadf 8 rfl (by kernel_rfl) trivial (lz0 1 rfl) (Sub.part 1 rfl rfl) ty_26)) (oc (ob_v rfl rfl (r_call (xs := [.tmp 20, .tmp 22]) (plus_q (by omega)) (.cons (vq 7 rfl) (.cons (vq 9 rfl) .nil)))) (oc (ob_v rfl rfl (r_call (xs := [.tmp 18, .tmp 23]) (square_q (by decide)) (.cons (vq 5 rfl) (.cons (vq 10 rfl) .nil)))) (oc (ob_v rfl rfl (r_call (xs := [.tmp 13, .tmp 24]) (over_q (by decide) (sq_ne (add_pos hp hq))) (.cons (vq 0 rfl) (.cons (vq 11 rfl) .nil)))) (oc (ob_sto rfl rfl rfl (vq 12 rfl) ty_26 (Eq.trans (b := 4) rfl rfl)) o0)))))))))))))) (by kernel_rfl) (by kernel_rfl) (by kernel_rfl) (by kernel_rfl) (fun a w hst => ?_)
  have hst : St B w0 26 [] [⟨2, 52, ptrH, _⟩, ⟨3, 52, ptrH, _⟩, ⟨4, 26, ptrH, _⟩, ⟨5, 26, ptrH, _⟩] a w := hst
  refine thn_normal ?_
  refine wp_ret ?_
  refine ret_wk ?_ (ret_cell rfl hst (List.mem_of_getElem? (i := 2) rfl) ty_26)
  exact wk_eq (congrArg (Qs _) (by rw [show Rat.divInt 4 1 = 4 from rfl]; rfl))

set_option maxRecDepth 100000 in
theorem found_q {c : Nat} {x : Rat} (hc : c ≤ 549755813888) : Cn Tryz.prog 143 [Qs c x] (R3 (fdF x)) := by
  refine Cn.intro Tryz.func143 rfl (by kernel_rfl) nq (fun B w0 a hst => ?_)
  have hst : St B w0 15 [(0, Qs c x)] [] a w0.w := hst
  refine wp_seq ?_
  refine gl (sts := []) (news := [⟨1, 26, ptrH, some 0, _, none⟩, ⟨2, 26, ptrH, some 1, _, none⟩]) (sp := [.alc 0, .alc 1, .val 3 _, .val 4 _]) [.o 2, .o 3] hst (oc (ob_box rfl rfl rfl (gq 0 rfl)) (oc (ob_alc rfl rfl rfl (Str.zero str_frac)) (oc (ob_v rfl rfl (r_assign has_bo)) (oc (ob_v rfl rfl (r_assign has_num)) o0)))) (fun a w hst => ?_)
  have hst : St B w0 15 [(3, _), (4, _)] [⟨1, 26, ptrH, _⟩, ⟨2, 26, ptrH, _⟩] a w := hst
  refine thn_normal ?_
  refine wp_seq ?_
  refine wp_seq ?_
  refine gl (sts := [none, none]) (news := []) (sp := [.val 6 _, .val 7 _, .val 8 _, .val 5 _]) [.g 0, .g 1, .o 3] hst (oc (ob_v rfl rfl (r_load (lz0 0 rfl) ty_26)) (oc (ob_v rfl rfl (r_slice (D := [U32]) (l := [_]) (xs := [.tmp 6]) (nd_ok (by kernel_rfl)) sl_71 (by kernel_rfl) (n_ok (by kernel_rfl)) nq nq nq (.cons (vq 0 rfl) .nil) rfl rfl)) (oc (ob_v rfl rfl (r_call (xs := [.tmp 7]) (answer_q [x] (.cons ⟨_, rfl⟩ .nil) nq) (.cons (vq 1 rfl) .nil))) (oc (ob_v rfl rfl (r_assign (vq 2 rfl))) o0)))) (fun a w hst => ?_)
  have hst : St B w0 15 [(3, _), (4, _), (5, _)] [⟨1, 26, ptrH, _⟩, ⟨2, 26, ptrH, _⟩] a w := hst
  refine thn_normal ?_
  refine wp_seq ?_
  refine gl (sts := [none, none]) (news := []) (sp := [.val 9 _, .val 10 _]) [.g 0, .g 1, .g 2, .o 1] hst (oc (ob_v rfl rfl (r_move (gq 2 rfl))) (oc (ob_v rfl rfl (r_neq (vq 0 rfl) has_num)) o0)) (fun a w hst => ?_)
  have hst : St B w0 15 [(3, _), (4, _), (5, _), (10, _)] [⟨1, 26, ptrH, _⟩, ⟨2, 26, ptrH, _⟩] a w := hst
  refine thn_normal ?_
  refine cond_of hst (List.mem_of_getElem? (i := 3) rfl) (fun hb0 => ?_) (fun hb0 => ?_)
  · rw [one_long, ne0] at hb0
    refine wp_seq ?_
    refine gl (sts := [none, some (2, _)]) (news := []) (sp := [.val 11 _, .val 12 _, .sto 1, .val 3 _, .val 4 _]) [.o 3, .o 4] hst (oc (ob_v rfl rfl (r_build (xs := []) (qs := []) str_frac .nil)) (oc (ob_v rfl rfl (r_move (gq 2 rfl))) (oc (ob_sto rfl rfl rfl (vq 0 rfl) ty_26 (Eq.trans (b := 4) rfl rfl)) (oc (ob_v rfl rfl (r_assign has_bo)) (oc (ob_v rfl rfl (r_assign (vq 1 rfl))) o0))))) (fun a w hst => ?_)
    have hst : St B w0 15 [(3, _), (4, _)] [⟨1, 26, ptrH, _⟩, ⟨2, 26, ptrH, _⟩] a w := hst
    refine thn_normal ?_
    refine wp_ret ?_
    refine thn_ret ?_
    refine ret_wk ?_ (ret_many (rs := [.cell 2 26, .tmp 3, .tmp 4]) rfl hst (.cell (List.mem_of_getElem? (i := 1) rfl) ty_26 (.tmp (List.mem_of_getElem? (i := 0) rfl) (.tmp (List.mem_of_getElem? (i := 1) rfl) .nil))) (by decide))
    rw [fdF, if_pos hb0]; exact tu3w wk_id wk_id (wk_eq (by rw [one_long, hb0]; rfl))
  · rw [one_long, ne0] at hb0
    refine wp_skip ?_
    refine thn_normal ?_
    refine wp_seq ?_
    refine gl (sts := [none, some (2, _)]) (news := []) (sp := [.val 13 _, .val 14 _, .sto 1, .val 3 _, .val 4 _]) [.o 3, .o 4] hst (oc (ob_v rfl rfl (r_load (lz0 0 rfl) ty_26)) (oc (ob_v rfl rfl (r_call (xs := [.tmp 13]) (copy_q (by omega)) (.cons (vq 0 rfl) .nil))) (oc (ob_sto rfl rfl rfl (vq 1 rfl) ty_26 (Eq.trans (b := 4) rfl rfl)) (oc (ob_v rfl rfl (r_assign has_bo)) (oc (ob_v rfl rfl (r_assign has_num)) o0))))) (fun a w hst => ?_)
    have hst : St B w0 15 [(3, _), (4, _)] [⟨1, 26, ptrH, _⟩, ⟨2, 26, ptrH, _⟩] a w := hst
    refine thn_normal ?_
    refine wp_ret ?_
    refine ret_wk ?_ (ret_many (rs := [.cell 2 26, .tmp 3, .tmp 4]) rfl hst (.cell (List.mem_of_getElem? (i := 1) rfl) ty_26 (.tmp (List.mem_of_getElem? (i := 0) rfl) (.tmp (List.mem_of_getElem? (i := 1) rfl) .nil))) (by decide))
    rw [fdF, if_neg (by rw [hb0]; decide)]; exact tu3w rq_wk wk_id wk_id

theorem and_ok {x y : RG} (h : (okB x && okB y) = true) : ([x.re, x.im].all okX = true ∧ 0 < (toG x).im) ∧ ([y.re, y.im].all okX = true ∧ 0 < (toG y).im) := by
  rw [Bool.and_eq_true] at h
  exact ⟨okB_q h.1, okB_q h.2⟩

set_option maxRecDepth 100000 in
theorem overlap_c (x y : RG) : Cn Tryz.prog 75 [(RGA x).va, (RGA y).va] (FrR (ovF x y)) := by
  refine Cn.intro Tryz.func75 rfl (by kernel_rfl) nq (fun B w0 a hst => ?_)
  have hst : St B w0 25 [(0, (RGA x).va), (1, (RGA y).va)] [] a w0.w := hst
  refine wp_seq ?_
  refine gl (sts := []) (news := [⟨2, 52, ptrH, some 0, _, none⟩, ⟨3, 52, ptrH, some 1, _, none⟩, ⟨4, 26, ptrH, some 2, _, none⟩]) (sp := [.alc 0, .alc 1, .alc 2, .val 5 _]) [.o 3] hst (oc (ob_box rfl rfl rfl (gq 0 rfl)) (oc (ob_box rfl rfl rfl (gq 1 rfl)) (oc (ob_alc rfl rfl rfl (Str.zero str_frac)) (oc (ob_v rfl rfl (r_assign has_num)) o0)))) (fun a w hst => ?_)
  have hst : St B w0 25 [(5, _)] [⟨2, 52, ptrH, _⟩, ⟨3, 52, ptrH, _⟩, ⟨4, 26, ptrH, _⟩] a w := hst
  refine thn_normal ?_
  refine wp_seq ?_
  refine wp_seq ?_
  refine gl (sts := [none, none, none]) (news := []) (sp := [.val 9 _, .val 10 _, .val 11 _, .val 12 _, .val 13 _]) [.g 0, .o 4] hst (oc (ob_v rfl rfl (r_load (lz0 0 rfl) ty_52)) (oc (ob_v rfl rfl (r_load (lz0 1 rfl) ty_52)) (oc (ob_v rfl rfl (r_slice (D := [U32]) (l := [_, _]) (xs := [.tmp 9, .tmp 10]) (nd_ok (by kernel_rfl)) sl_53 (by kernel_rfl) (n_ok (by kernel_rfl)) nq nq nq (.cons (vq 0 rfl) (.cons (vq 1 rfl) .nil)) rfl rfl)) (oc (ob_v rfl rfl (r_call (xs := [.tmp 11]) (mayG_c [x, y]) (.cons (vq 2 rfl) .nil))) (oc (ob_v rfl rfl (r_not (vq 3 rfl))) o0))))) (fun a w hst => ?_)
  have hst : St B w0 25 [(5, _), (13, _)] [⟨2, 52, ptrH, _⟩, ⟨3, 52, ptrH, _⟩, ⟨4, 26, ptrH, _⟩] a w := hst
  refine thn_normal ?_
  refine cond_of hst (List.mem_of_getElem? (i := 1) rfl) (fun hb0 => ?_) (fun hb0 => ?_)
  · rw [two_B, Bool.not_eq_true'] at hb0
    refine wp_seq ?_
    refine gl (sts := [none, none, some (1, _)]) (news := []) (sp := [.val 14 _, .sto 2, .val 5 _]) [.o 2] hst (oc (ob_v rfl rfl (r_build (xs := []) (qs := []) str_frac .nil)) (oc (ob_sto rfl rfl rfl (vq 0 rfl) ty_26 (Eq.trans (b := 4) rfl rfl)) (oc (ob_v rfl rfl (r_assign has_num)) o0))) (fun a w hst => ?_)
    have hst : St B w0 25 [(5, _)] [⟨2, 52, ptrH, _⟩, ⟨3, 52, ptrH, _⟩, ⟨4, 26, ptrH, _⟩] a w := hst
    refine thn_normal ?_
    refine wp_ret ?_
    refine thn_ret ?_
    refine ret_wk ?_ (ret_many (rs := [.cell 4 26, .tmp 5]) rfl hst (.cell (List.mem_of_getElem? (i := 2) rfl) ty_26 (.tmp (List.mem_of_getElem? (i := 0) rfl) .nil)) (by decide))
    rw [ovF, if_neg (by rw [hb0]; decide)]; exact wk_id
  · rw [two_B, Bool.not_eq_false'] at hb0
    obtain ⟨hx, hy⟩ := and_ok hb0
    have hst := St.wkL hst 0 rfl (qg_x hx.1)
    have hst := St.wkL hst 1 rfl (qg_x hy.1)
    refine wp_skip ?_
    refine thn_normal ?_
    refine wp_seq ?_
    refine gl (sts := [none, none, none]) (news := [⟨6, 26, ptrH, some 8, _, some (9, _)⟩]) (sp := [.val 16 _, .val 17 _, .val 18 _, .val 19 _, .val 15 _, .val 20 _, .val 21 _, .val 22 _, .alc 3, .sto 3, .val 7 _, .val 8 _]) [.g 0, .o 11] hst (oc (ob_v rfl rfl (r_load (lz0 0 rfl) ty_52)) (oc (ob_v rfl rfl (r_load (lz0 1 rfl) ty_52)) (oc (ob_v rfl rfl (r_call (xs := [.tmp 16, .tmp 17]) (alike_q hx.2 hy.2) (.cons (vq 0 rfl) (.cons (vq 1 rfl) .nil)))) (oc (ob_v rfl rfl (r_call (xs := [.tmp 18]) (found_q (by decide)) (.cons (vq 2 rfl) .nil))) (oc (ob_v rfl rfl (r_move (vq 3 rfl))) (oc (ob_v rfl rfl (r_ex0 (vq 4 rfl))) (oc (ob_v rfl rfl (r_ex1 (vq 4 rfl))) (oc (ob_v rfl rfl (r_ex2 (vq 4 rfl))) (oc (ob_alc rfl rfl rfl (Str.zero str_frac)) (oc (ob_sto rfl rfl rfl (vq 5 rfl) ty_26 (Eq.trans (b := 4) rfl rfl)) (oc (ob_v rfl rfl (r_assign (vq 6 rfl))) (oc (ob_v rfl rfl (r_assign (vq 7 rfl))) o0)))))))))))) (fun a w hst => ?_)
    have hst : St B w0 25 [(5, _), (8, _)] [⟨2, 52, ptrH, _⟩, ⟨3, 52, ptrH, _⟩, ⟨4, 26, ptrH, _⟩, ⟨6, 26, ptrH, _⟩] a w := hst
    refine thn_normal ?_
    refine wp_seq ?_
    refine gl (sts := [none, none, some (2, _), none]) (news := []) (sp := [.val 23 _, .val 24 _, .sto 2, .val 5 _]) [.o 3] hst (oc (ob_v rfl rfl (r_load (lz0 3 rfl) ty_26)) (oc (ob_v rfl rfl (r_move (gq 1 rfl))) (oc (ob_sto rfl rfl rfl (vq 0 rfl) ty_26 (Eq.trans (b := 4) rfl rfl)) (oc (ob_v rfl rfl (r_assign (vq 1 rfl))) o0)))) (fun a w hst => ?_)
    have hst : St B w0 25 [(5, _)] [⟨2, 52, ptrH, _⟩, ⟨3, 52, ptrH, _⟩, ⟨4, 26, ptrH, _⟩, ⟨6, 26, ptrH, _⟩] a w := hst
    refine thn_normal ?_
    refine wp_ret ?_
    refine ret_wk ?_ (ret_many (rs := [.cell 4 26, .tmp 5]) rfl hst (.cell (List.mem_of_getElem? (i := 2) rfl) ty_26 (.tmp (List.mem_of_getElem? (i := 0) rfl) .nil)) (by decide))
    rw [ovF, if_pos hb0, ← fd_ans]; exact wk_id

end Go.Proofs.YtmghfjcjcfaagaaGreat
