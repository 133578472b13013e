/- CavityForth: for all benches the law of chapter 12 on the way there and back answers true. No condition. -/
import Derived.Test.YtgjolcbehcjhcaaGreatBenH
import Derived.Test.YtgjolcbehcjhcaaGreatCavC
import Derived.Test.YtgjolcbehcjhcaaGreatRows
import Derived.WalkKit
import Derived.ProofKit
import Derived.OpenShut
import Derived.ShutString
import Derived.ChangeOld
import Derived.Below
namespace Go.Proofs.YtgjolcbehcjhcaaGreat
open Go Go.RowKit
namespace LCavityForth
theorem fld_56_0 : Fld Tryz.prog 56 0 0 4 := ⟨_, _, Tryz.underlying56, rfl, rfl, by kernel_rfl, by decide⟩
theorem fld_56_3 : Fld Tryz.prog 56 3 12 4 := ⟨_, _, Tryz.underlying56, rfl, rfl, by kernel_rfl, by decide⟩
theorem ty_26 : Ty Tryz.prog 26 4 true := ⟨by kernel_rfl, by kernel_rfl⟩
theorem ty_56 : Ty Tryz.prog 56 16 true := ⟨by kernel_rfl, by kernel_rfl⟩
end LCavityForth
open LCavityForth
theorem mulF_l {r s : Rat} (hr : longQ r = false) (hs : longQ s = false) (hl : longQ (r * s) = false) : Cn Tryz.prog 10 [(RFA (rfOf r)).va, (RFA (rfOf s)).va] (FrR (rfOf (r * s), 0)) :=
  (mul_c (rfOf r) (rfOf s)).post (congrArg FrR (by
    unfold mulF doF
    rw [okX_of, okX_of, hr, hs, toQ_of, toQ_of]
    exact ansF_ok (longQ_false.1 hl)))
theorem subF_l {r s : Rat} (hr : longQ r = false) (hs : longQ s = false) (hl : longQ (r - s) = false) : Cn Tryz.prog 13 [(RFA (rfOf r)).va, (RFA (rfOf s)).va] (FrR (rfOf (r - s), 0)) :=
  (subF_c (rfOf r) (rfOf s)).post (congrArg FrR ((sub_of hr hs).trans (ansF_ok (longQ_false.1 hl))))
theorem tr_l {M : MQ} (hm : okM (rmOf M) = true) (hl : longQ (M.a + M.d) = false) : Cn Tryz.prog 35 [(RMA (rmOf M)).va] (FrR (rfOf (M.a + M.d), 0)) :=
  (trace_c (rmOf M)).post (congrArg FrR (by
    unfold trF asF kM
    rw [hm, toM_of]
    exact ansF_ok (longQ_false.1 hl)))
theorem bQ4 : bQ 1 (Rat.divInt 4 1) := ⟨Nat.le_of_ble_eq_true (by kernel_rfl), Nat.le_of_ble_eq_true (by kernel_rfl)⟩
theorem bQ2 : bQ 1 (Rat.divInt 2 1) := ⟨Nat.le_of_ble_eq_true (by kernel_rfl), Nat.le_of_ble_eq_true (by kernel_rfl)⟩
theorem bQ_neg {k : Nat} {x : Rat} (h : bQ k x) : bQ k (-x) := ⟨by rw [Rat.neg_num, lz_neg]; exact h.1, by rw [Rat.neg_den]; exact h.2⟩
theorem bQ_sub {c d : Nat} {x y : Rat} (hx : bQ c x) (hy : bQ d y) : bQ (c + d + 1) (x - y) := by
  have e : x - y = x + -y := by grind
  rw [e]
  exact bQ_add hx (bQ_neg hy)
def fouQ (x : Rat) : Rat := x * Rat.divInt 4 1 - Rat.divInt 2 1
theorem rep_mir {b : Nat} {m : MQ} (h : RepM b m) : RepM b (mirQ m) := by
  obtain ⟨n1, n2, n3, n4, D, hD, e1, e2, e3, e4, h1, h2, h3, h4, h5⟩ := h
  exact ⟨n4, n2, n3, n1, D, hD, e4, e2, e3, e1, h4, h2, h3, h1, h5⟩
abbrev trp (m : MQ) : MQ := mulQ (mirQ m) m
theorem fo_in {xs : List RE} (h : (decide (elszF (xs.length : Nat) xs > 400) || (chF xs != 0)) = false) : elszF (xs.length : Nat) xs ≤ 400 ∧ chF xs = 0 := by
  simp only [Bool.or_eq_false_iff, decide_eq_false_iff_not] at h
  exact ⟨by omega, by simpa using h.2⟩
structure FoOk (m : MQ) : Prop where
  l : Ls m
  k : okM (rmOf m) = true
  a : bQ 401 m.a
  d : bQ 401 m.d
  tl : Ls (trp m)
  tk : okM (rmOf (trp m)) = true
  tr : longQ ((trp m).a + (trp m).d) = false
theorem fo_ok {m : MQ} (h : RepM 401 m) (hd : detM m = 1) : FoOk m := by
  obtain ⟨h1, h2, h3, h4⟩ := rep_bQ h
  obtain ⟨t1, t2, t3, t4⟩ := rep_bQ (rep_mul (rep_mir h) h)
  have hl : Ls m := ⟨bQ_long h1 (by omega), bQ_long h2 (by omega), bQ_long h3 (by omega), bQ_long h4 (by omega)⟩
  have hk := okM_of hl.1 hl.2.1 hl.2.2.1 hl.2.2.2 hd
  have htl : Ls (trp m) := ⟨bQ_long t1 (by omega), bQ_long t2 (by omega), bQ_long t3 (by omega), bQ_long t4 (by omega)⟩
  exact ⟨hl, hk, h1, h4, htl, okM_mul (mir_k hk) hk htl, bQ_long (bQ_add t1 t4) (by omega)⟩
theorem fo_ben {xs : List RE} (h : chF xs = 0) (hl : Ls (prodQ xs)) : benF xs = (rmOf (prodQ xs), 0) := by
  rw [benF, if_pos h]
  exact asM_of rfl hl
theorem fo_trip {xs : List RE} (h : chF xs = 0) (hl : Ls (trp (prodQ xs))) : tripF xs false = (rmOf (trp (prodQ xs)), 0) := by
  rw [tripF, if_pos h]
  exact asM_of rfl hl
theorem fo_tr {m : MQ} (hd : detM m = 1) : (trp m).a + (trp m).d = fouQ (m.a * m.d) := by
  have e4 : Rat.divInt 4 1 = 4 := rfl
  have e2 : Rat.divInt 2 1 = 2 := rfl
  unfold detM at hd
  unfold trp mulQ mirQ fouQ
  rw [e4, e2]
  grind
theorem fo_tr2 (m : MQ) : (trp m).a + (trp m).d = (trp (mirQ m)).a + (trp (mirQ m)).d := by
  unfold trp mulQ mirQ
  grind
theorem fo_no {u v : RM} {x y : RF} (e1 : u = v) (e2 : x = y) (h : ((((((((((0 : Int) != 0) || ((0 : Int) != 0)) || ((0 : Int) != 0)) || ((0 : Int) != 0)) || ((0 : Int) != 0)) || ((0 : Int) != 0)) || (!decide (u = v))) || (!decide (x = y)))) = true) : False := by
  subst e1 e2
  simp at h
theorem fo_end {x y : RF} (h : x = y) : ((((((0 : Int) == 0) && ((0 : Int) == 0)) && decide (x = y)) && true)) = true := by subst h; simp

set_option maxRecDepth 100000 in
theorem fourth_l {g o : Rat} (hg : bQ 401 g) (ho : bQ 401 o) : Cn Tryz.prog 36 [(RFA (rfOf g)).va, (RFA (rfOf o)).va] ((RFA (rfOf (fouQ (g * o)))).va) := by
  have h1 := bQ_mul hg ho
  have h2 := bQ_mul h1 bQ4
  have h3 := bQ_sub h2 bQ2
  refine Cn.intro Tryz.func36 rfl (by kernel_rfl) nq (fun B w0 a hst => ?_)
  have hst : St B w0 38 [(0, (RFA (rfOf g)).va), (1, (RFA (rfOf o)).va)] [] a w0.w := hst
  refine wp_seq ?_
  refine gl (sts := []) (news := [⟨2, 26, ptrH, some 0, _, none⟩, ⟨3, 26, ptrH, some 1, _, none⟩, ⟨4, 26, ptrH, some 2, _, none⟩]) (sp := [.alc 0, .alc 1, .alc 2]) [] hst (oc (ob_box rfl rfl rfl (gq 0 rfl)) (oc (ob_box rfl rfl rfl (gq 1 rfl)) (oc (ob_alc rfl rfl rfl (Str.zero str_frac)) o0))) (fun a w hst => ?_)
  have hst : St B w0 38 [] [⟨2, 26, ptrH, _⟩, ⟨3, 26, ptrH, _⟩, ⟨4, 26, ptrH, _⟩] a w := hst
  refine thn_normal ?_
  refine wp_seq ?_
  refine gl (sts := [none, none, none]) (news := [⟨5, 26, ptrH, some 4, _, some (5, _)⟩]) (sp := [.val 12 _, .val 11 _, .val 13 _, .val 14 _, .alc 3, .sto 3, .val 6 _]) [] hst (oc (ob_v rfl rfl (r_call (xs := [.const (.int .i64 (4)), .const (.int .i64 (1))]) (ofQ_c (by decide) (by decide) (by decide) (by decide) (by decide)) (.cons has_num (.cons has_num .nil)))) (oc (ob_v rfl rfl (r_move (vq 0 rfl))) (oc (ob_v rfl rfl (r_ex0 (vq 1 rfl))) (oc (ob_v rfl rfl (r_ex1 (vq 1 rfl))) (oc (ob_alc rfl rfl rfl (Str.zero str_frac)) (oc (ob_sto rfl rfl rfl (vq 2 rfl) ty_26 (Eq.trans (b := 4) rfl rfl)) (oc (ob_v rfl rfl (r_assign (vq 3 rfl))) o0))))))) (fun a w hst => ?_)
  have hst : St B w0 38 [] [⟨2, 26, ptrH, _⟩, ⟨3, 26, ptrH, _⟩, ⟨4, 26, ptrH, _⟩, ⟨5, 26, ptrH, _⟩] a w := hst
  refine thn_normal ?_
  refine wp_seq ?_
  refine gl (sts := [none, none, none, none]) (news := [⟨7, 26, ptrH, some 4, _, some (5, _)⟩]) (sp := [.val 16 _, .val 15 _, .val 17 _, .val 18 _, .alc 4, .sto 4, .val 8 _]) [] hst (oc (ob_v rfl rfl (r_call (xs := [.const (.int .i64 (2)), .const (.int .i64 (1))]) (ofQ_c (by decide) (by decide) (by decide) (by decide) (by decide)) (.cons has_num (.cons has_num .nil)))) (oc (ob_v rfl rfl (r_move (vq 0 rfl))) (oc (ob_v rfl rfl (r_ex0 (vq 1 rfl))) (oc (ob_v rfl rfl (r_ex1 (vq 1 rfl))) (oc (ob_alc rfl rfl rfl (Str.zero str_frac)) (oc (ob_sto rfl rfl rfl (vq 2 rfl) ty_26 (Eq.trans (b := 4) rfl rfl)) (oc (ob_v rfl rfl (r_assign (vq 3 rfl))) o0))))))) (fun a w hst => ?_)
  have hst : St B w0 38 [] [⟨2, 26, ptrH, _⟩, ⟨3, 26, ptrH, _⟩, ⟨4, 26, ptrH, _⟩, ⟨5, 26, ptrH, _⟩, ⟨7, 26, ptrH, _⟩] a w := hst
  refine thn_normal ?_
  refine wp_seq ?_
  refine gl (sts := [none, none, none, none, none]) (news := [⟨9, 26, ptrH, some 6, _, some (7, _)⟩]) (sp := [.val 20 _, .val 21 _, .val 22 _, .val 19 _, .val 23 _, .val 24 _, .alc 5, .sto 5, .val 10 _]) [] hst (oc (ob_v rfl rfl (r_load (lz0 0 rfl) ty_26)) (oc (ob_v rfl rfl (r_load (lz0 1 rfl) ty_26)) (oc (ob_v rfl rfl (r_call (xs := [.tmp 20, .tmp 21]) (mulF_l (bQ_long hg (by decide)) (bQ_long ho (by decide)) (bQ_long h1 (by decide))) (.cons (vq 0 rfl) (.cons (vq 1 rfl) .nil)))) (oc (ob_v rfl rfl (r_move (vq 2 rfl))) (oc (ob_v rfl rfl (r_ex0 (vq 3 rfl))) (oc (ob_v rfl rfl (r_ex1 (vq 3 rfl))) (oc (ob_alc rfl rfl rfl (Str.zero str_frac)) (oc (ob_sto rfl rfl rfl (vq 4 rfl) ty_26 (Eq.trans (b := 4) rfl rfl)) (oc (ob_v rfl rfl (r_assign (vq 5 rfl))) o0))))))))) (fun a w hst => ?_)
  have hst : St B w0 38 [] [⟨2, 26, ptrH, _⟩, ⟨3, 26, ptrH, _⟩, ⟨4, 26, ptrH, _⟩, ⟨5, 26, ptrH, _⟩, ⟨7, 26, ptrH, _⟩, ⟨9, 26, ptrH, _⟩] a w := hst
  refine thn_normal ?_
  refine wp_seq ?_
  refine gl (sts := [none, none, none, none, none, some (6, _)]) (news := []) (sp := [.val 26 _, .val 27 _, .val 28 _, .val 25 _, .val 29 _, .val 30 _, .sto 5]) [] hst (oc (ob_v rfl rfl (r_load (lz0 5 rfl) ty_26)) (oc (ob_v rfl rfl (r_load (lz0 3 rfl) ty_26)) (oc (ob_v rfl rfl (r_call (xs := [.tmp 26, .tmp 27]) (mulF_l (bQ_long h1 (by decide)) (bQ_long bQ4 (by decide)) (bQ_long h2 (by decide))) (.cons (vq 0 rfl) (.cons (vq 1 rfl) .nil)))) (oc (ob_v rfl rfl (r_move (vq 2 rfl))) (oc (ob_v rfl rfl (r_ex0 (vq 3 rfl))) (oc (ob_v rfl rfl (r_ex1 (vq 3 rfl))) (oc (ob_sto rfl rfl rfl (vq 4 rfl) ty_26 (Eq.trans (b := 4) rfl rfl)) o0))))))) (fun a w hst => ?_)
  have hst : St B w0 38 [] [⟨2, 26, ptrH, _⟩, ⟨3, 26, ptrH, _⟩, ⟨4, 26, ptrH, _⟩, ⟨5, 26, ptrH, _⟩, ⟨7, 26, ptrH, _⟩, ⟨9, 26, ptrH, _⟩] a w := hst
  refine thn_normal ?_
  refine wp_seq ?_
  refine gl (sts := [none, none, none, none, none, some (6, _)]) (news := []) (sp := [.val 32 _, .val 33 _, .val 34 _, .val 31 _, .val 35 _, .val 36 _, .sto 5]) [] hst (oc (ob_v rfl rfl (r_load (lz0 5 rfl) ty_26)) (oc (ob_v rfl rfl (r_load (lz0 4 rfl) ty_26)) (oc (ob_v rfl rfl (r_call (xs := [.tmp 32, .tmp 33]) (subF_l (bQ_long h2 (by decide)) (bQ_long bQ2 (by decide)) (bQ_long h3 (by decide))) (.cons (vq 0 rfl) (.cons (vq 1 rfl) .nil)))) (oc (ob_v rfl rfl (r_move (vq 2 rfl))) (oc (ob_v rfl rfl (r_ex0 (vq 3 rfl))) (oc (ob_v rfl rfl (r_ex1 (vq 3 rfl))) (oc (ob_sto rfl rfl rfl (vq 4 rfl) ty_26 (Eq.trans (b := 4) rfl rfl)) o0))))))) (fun a w hst => ?_)
  have hst : St B w0 38 [] [⟨2, 26, ptrH, _⟩, ⟨3, 26, ptrH, _⟩, ⟨4, 26, ptrH, _⟩, ⟨5, 26, ptrH, _⟩, ⟨7, 26, ptrH, _⟩, ⟨9, 26, ptrH, _⟩] a w := hst
  refine thn_normal ?_
  refine wp_seq ?_
  refine gl (sts := [none, none, some (1, _), none, none, none]) (news := []) (sp := [.val 37 _, .sto 2]) [] hst (oc (ob_v rfl rfl (r_load (lz0 5 rfl) ty_26)) (oc (ob_sto rfl rfl rfl (vq 0 rfl) ty_26 (Eq.trans (b := 4) rfl rfl)) o0)) (fun a w hst => ?_)
  have hst : St B w0 38 [] [⟨2, 26, ptrH, _⟩, ⟨3, 26, ptrH, _⟩, ⟨4, 26, ptrH, _⟩, ⟨5, 26, ptrH, _⟩, ⟨7, 26, ptrH, _⟩, ⟨9, 26, ptrH, _⟩] a w := hst
  refine thn_normal ?_
  refine wp_ret ?_
  refine ret_wk ?_ (ret_cell rfl hst (List.mem_of_getElem? (i := 2) rfl) ty_26)
  exact wk_id

set_option maxRecDepth 100000 in
set_option maxHeartbeats 4000000 in
theorem forth_w (xs : List RE) : Cn Tryz.prog 5 [(SlA 94 [U32] (xs.map REA)).va] (Bo true) := by
  refine Cn.intro Tryz.func5 rfl (by kernel_rfl) nq (fun B w0 a hst => ?_)
  have hst : St B w0 120 [(0, (SlA 94 [U32] (xs.map REA)).va)] [] a w0.w := hst
  refine wp_seq ?_
  refine gl (sts := []) (news := []) (sp := [.val 2 _]) [.g 0, .o 0] hst (oc (ob_v rfl rfl (r_assign has_bo)) o0) (fun a w hst => ?_)
  have hst : St B w0 120 [(0, _), (2, _)] [] a w := hst
  refine thn_normal ?_
  refine wp_seq ?_
  refine wp_seq ?_
  refine gl (sts := []) (news := []) (sp := [.val 18 _, .val 19 _, .val 20 _, .val 21 _, .val 22 (Wh (_ = false) _), .val 23 (Wh (_ = false) _), .val 24 (Wh (_ = false) _), .val 25 _]) [.g 0, .g 1, .o 7] hst (oc (ob_v rfl rfl (r_move (gq 0 rfl))) (oc (ob_v rfl rfl (r_call (xs := [.tmp 18]) (elsSize_c _) (.cons (vq 0 rfl) .nil))) (oc (ob_v rfl rfl (r_gtr (vq 1 rfl) has_num)) (oc (ob_v rfl rfl (r_move (vq 2 rfl))) (oc (ob_gd rfl rfl rfl (vq 3 rfl) nq (fun hg => r_move (gq 0 rfl))) (oc (ob_gd rfl rfl rfl (vq 3 rfl) nq (fun hg => r_call (xs := [.tmp 22]) (benCheck_c _) (.cons (has_wh (vq 4 rfl) hg) .nil))) (oc (ob_gd rfl rfl rfl (vq 3 rfl) nq (fun hg => r_neq (has_wh (vq 5 rfl) hg) has_num)) (oc (ob_v rfl rfl (r_or (vq 3 rfl) (vq 6 rfl))) o0)))))))) (fun a w hst => ?_)
  have hst : St B w0 120 [(0, _), (2, _), (25, _)] [] a w := hst
  refine thn_normal ?_
  refine cond_of hst (List.mem_of_getElem? (i := 2) rfl) (fun hb0 => ?_) (fun hb0 => ?_)
  · refine wp_seq ?_
    refine gl (sts := []) (news := []) (sp := [.val 26 _, .val 2 _]) [.g 0, .o 1] hst (oc (ob_v rfl rfl (r_call (xs := []) alive12_c .nil)) (oc (ob_v rfl rfl (r_assign (vq 0 rfl))) o0)) (fun a w hst => ?_)
    have hst : St B w0 120 [(0, _), (2, _)] [] a w := hst
    refine thn_normal ?_
    refine wp_ret ?_
    refine thn_ret ?_
    refine ret_wk ?_ (ret_tmp rfl hst (List.mem_of_getElem? (i := 1) rfl))
    exact wk_id
  · have hin := fo_in hb0
    have hall := (ch_ok hin.2).2
    have hsz := elsz_le xs _ (by omega) hall hin.1
    have o1 := fo_ok (rep_mono (prod_rep' xs hall) (by omega)) (prod_det hall)
    have o2 := fo_ok (rep_mir (rep_mono (prod_rep' xs hall) (by omega))) (det_of (mir_k o1.k))
    refine wp_skip ?_
    refine thn_normal ?_
    refine wp_seq ?_
    refine gl (sts := []) (news := [⟨3, 56, ptrH, some 5, _, some (6, _)⟩]) (sp := [.val 28 _, .val 29 _, .val 27 _, .val 30 _, .val 31 _, .alc 0, .sto 0, .val 4 _]) [.g 0, .g 1, .o 7] hst (oc (ob_v rfl rfl (r_move (gq 0 rfl))) (oc (ob_v rfl rfl (r_call (xs := [.tmp 28]) ((benMatrix_c xs).post (congrArg MR (fo_ben hin.2 o1.l))) (.cons (vq 0 rfl) .nil))) (oc (ob_v rfl rfl (r_move (vq 1 rfl))) (oc (ob_v rfl rfl (r_ex0 (vq 2 rfl))) (oc (ob_v rfl rfl (r_ex1 (vq 2 rfl))) (oc (ob_alc rfl rfl rfl (Str.zero str_matrix)) (oc (ob_sto rfl rfl rfl (vq 3 rfl) ty_56 (Eq.trans (b := 16) rfl rfl)) (oc (ob_v rfl rfl (r_assign (vq 4 rfl))) o0)))))))) (fun a w hst => ?_)
    have hst : St B w0 120 [(0, _), (2, _), (4, _)] [⟨3, 56, ptrH, _⟩] a w := hst
    refine thn_normal ?_
    refine wp_seq ?_
    refine gl (sts := [none]) (news := [⟨5, 56, ptrH, some 5, _, some (6, _)⟩]) (sp := [.val 33 _, .val 34 _, .val 32 _, .val 35 _, .val 36 _, .alc 1, .sto 1, .val 6 _]) [.g 0, .g 1, .g 2, .o 7] hst (oc (ob_v rfl rfl (r_move (gq 0 rfl))) (oc (ob_v rfl rfl (r_call (xs := [.tmp 33, .const (.bool false)]) ((trip_c xs false).post (congrArg MR (fo_trip hin.2 o1.tl))) (.cons (vq 0 rfl) (.cons has_bo .nil)))) (oc (ob_v rfl rfl (r_move (vq 1 rfl))) (oc (ob_v rfl rfl (r_ex0 (vq 2 rfl))) (oc (ob_v rfl rfl (r_ex1 (vq 2 rfl))) (oc (ob_alc rfl rfl rfl (Str.zero str_matrix)) (oc (ob_sto rfl rfl rfl (vq 3 rfl) ty_56 (Eq.trans (b := 16) rfl rfl)) (oc (ob_v rfl rfl (r_assign (vq 4 rfl))) o0)))))))) (fun a w hst => ?_)
    have hst : St B w0 120 [(0, _), (2, _), (4, _), (6, _)] [⟨3, 56, ptrH, _⟩, ⟨5, 56, ptrH, _⟩] a w := hst
    refine thn_normal ?_
    refine wp_seq ?_
    refine gl (sts := [none, none]) (news := [⟨7, 56, ptrH, some 5, _, some (6, _)⟩]) (sp := [.val 38 _, .val 39 _, .val 37 _, .val 40 _, .val 41 _, .alc 2, .sto 2, .val 8 _]) [.g 0, .g 1, .g 2, .g 3, .o 7] hst (oc (ob_v rfl rfl (r_load (lz0 0 rfl) ty_56)) (oc (ob_v rfl rfl (r_call (xs := [.tmp 38]) (mir_l o1.k) (.cons (vq 0 rfl) .nil))) (oc (ob_v rfl rfl (r_move (vq 1 rfl))) (oc (ob_v rfl rfl (r_ex0 (vq 2 rfl))) (oc (ob_v rfl rfl (r_ex1 (vq 2 rfl))) (oc (ob_alc rfl rfl rfl (Str.zero str_matrix)) (oc (ob_sto rfl rfl rfl (vq 3 rfl) ty_56 (Eq.trans (b := 16) rfl rfl)) (oc (ob_v rfl rfl (r_assign (vq 4 rfl))) o0)))))))) (fun a w hst => ?_)
    have hst : St B w0 120 [(0, _), (2, _), (4, _), (6, _), (8, _)] [⟨3, 56, ptrH, _⟩, ⟨5, 56, ptrH, _⟩, ⟨7, 56, ptrH, _⟩] a w := hst
    refine thn_normal ?_
    refine wp_seq ?_
    refine gl (sts := [none, none, none]) (news := [⟨9, 56, ptrH, some 6, _, some (7, _)⟩]) (sp := [.val 43 _, .val 44 _, .val 45 _, .val 42 _, .val 46 _, .val 47 _, .alc 3, .sto 3, .val 10 _]) [.g 0, .g 1, .g 2, .g 3, .g 4, .o 8] hst (oc (ob_v rfl rfl (r_load (lz0 2 rfl) ty_56)) (oc (ob_v rfl rfl (r_load (lz0 0 rfl) ty_56)) (oc (ob_v rfl rfl (r_call (xs := [.tmp 43, .tmp 44]) (mulM_l (mir_k o1.k) o1.k o1.tl) (.cons (vq 0 rfl) (.cons (vq 1 rfl) .nil)))) (oc (ob_v rfl rfl (r_move (vq 2 rfl))) (oc (ob_v rfl rfl (r_ex0 (vq 3 rfl))) (oc (ob_v rfl rfl (r_ex1 (vq 3 rfl))) (oc (ob_alc rfl rfl rfl (Str.zero str_matrix)) (oc (ob_sto rfl rfl rfl (vq 4 rfl) ty_56 (Eq.trans (b := 16) rfl rfl)) (oc (ob_v rfl rfl (r_assign (vq 5 rfl))) o0))))))))) (fun a w hst => ?_)
    have hst : St B w0 120 [(0, _), (2, _), (4, _), (6, _), (8, _), (10, _)] [⟨3, 56, ptrH, _⟩, ⟨5, 56, ptrH, _⟩, ⟨7, 56, ptrH, _⟩, ⟨9, 56, ptrH, _⟩] a w := hst
    refine thn_normal ?_
    refine wp_seq ?_
    refine gl (sts := [none, none, none, none]) (news := [⟨11, 26, ptrH, some 5, _, some (6, _)⟩]) (sp := [.val 49 _, .val 50 _, .val 48 _, .val 51 _, .val 52 _, .alc 4, .sto 4, .val 12 _]) [.g 0, .g 1, .g 2, .g 3, .g 4, .g 5, .o 7] hst (oc (ob_v rfl rfl (r_load (lz0 1 rfl) ty_56)) (oc (ob_v rfl rfl (r_call (xs := [.tmp 49]) (tr_l o1.tk o1.tr) (.cons (vq 0 rfl) .nil))) (oc (ob_v rfl rfl (r_move (vq 1 rfl))) (oc (ob_v rfl rfl (r_ex0 (vq 2 rfl))) (oc (ob_v rfl rfl (r_ex1 (vq 2 rfl))) (oc (ob_alc rfl rfl rfl (Str.zero str_frac)) (oc (ob_sto rfl rfl rfl (vq 3 rfl) ty_26 (Eq.trans (b := 4) rfl rfl)) (oc (ob_v rfl rfl (r_assign (vq 4 rfl))) o0)))))))) (fun a w hst => ?_)
    have hst : St B w0 120 [(0, _), (2, _), (4, _), (6, _), (8, _), (10, _), (12, _)] [⟨3, 56, ptrH, _⟩, ⟨5, 56, ptrH, _⟩, ⟨7, 56, ptrH, _⟩, ⟨9, 56, ptrH, _⟩, ⟨11, 26, ptrH, _⟩] a w := hst
    refine thn_normal ?_
    refine wp_seq ?_
    refine gl (sts := [none, none, none, none, none]) (news := []) (sp := [.val 54 _, .val 55 _, .val 53 _, .val 56 _, .val 57 _, .val 13 _, .val 14 _]) [.g 1, .g 2, .g 3, .g 4, .g 5, .g 6, .o 5, .o 6] hst (oc (ob_v rfl rfl (r_move (gq 0 rfl))) (oc (ob_v rfl rfl (r_call (xs := [.tmp 54]) (rev_l hin.2) (.cons (vq 0 rfl) .nil))) (oc (ob_v rfl rfl (r_move (vq 1 rfl))) (oc (ob_v rfl rfl (r_ex0 (vq 2 rfl))) (oc (ob_v rfl rfl (r_ex1 (vq 2 rfl))) (oc (ob_v rfl rfl (r_assign (vq 3 rfl))) (oc (ob_v rfl rfl (r_assign (vq 4 rfl))) o0))))))) (fun a w hst => ?_)
    have hst : St B w0 120 [(2, _), (4, _), (6, _), (8, _), (10, _), (12, _), (13, _), (14, _)] [⟨3, 56, ptrH, _⟩, ⟨5, 56, ptrH, _⟩, ⟨7, 56, ptrH, _⟩, ⟨9, 56, ptrH, _⟩, ⟨11, 26, ptrH, _⟩] a w := hst
    refine thn_normal ?_
    refine wp_seq ?_
    refine wp_seq ?_
    refine go_draw (anc := [[], [0], [0, 1], [0, 1, 2], [0, 1, 2, 3], [0, 1, 2, 3, 4], [0, 1, 2, 3, 4, 5], [0, 1, 2, 3, 4, 5, 6], [0, 1, 2, 3, 4, 5, 6, 7], [0, 1, 2, 3, 4, 5, 6, 7, 8], [0, 1, 2, 3, 4, 5, 6, 7, 8, 9], [0, 1, 2, 3, 4, 5, 6, 7, 8, 9, 10], [0, 1, 2, 3, 4, 5, 6, 7, 8, 9, 10, 11], [0, 1, 2, 3, 4, 5, 6, 7, 8, 9, 10, 11, 12], [0, 1, 2, 3, 4, 5, 6, 7, 8, 9, 10, 11, 12, 13], [0, 1, 2, 3, 4, 5, 6, 7, 8, 9, 10, 11, 12, 13, 14], [0, 1, 2, 3, 4, 5, 6, 7, 8, 9, 10, 11, 12, 13, 14, 15], [0, 1, 2, 3, 4, 5, 6, 7, 8, 9, 10, 11, 12, 13, 14, 15, 16], [0, 1, 2, 3, 4, 5, 6, 7, 8, 9, 10, 11, 12, 13, 14, 15, 16, 17], [0, 1, 2, 3, 4, 5, 6, 7, 8, 9, 10, 11, 12, 13, 14, 15, 16, 17, 18], [0, 1, 2, 3, 4, 5, 6, 7, 8, 9, 10, 11, 12, 13, 14, 15, 16, 17, 18, 19], [0, 1, 2, 3, 4, 5, 6, 7, 8, 9, 10, 11, 12, 13, 14, 15, 16, 17, 18, 19, 20], [0, 1, 2, 3, 4, 5, 6, 7, 8, 9, 10, 11, 12, 13, 14, 15, 16, 17, 18, 19, 20, 21], [0, 1, 2, 3, 4, 5, 6, 7, 8, 9, 10, 11, 12, 13, 14, 15, 16, 17, 18, 19, 20, 21, 22], [0, 1, 2, 3, 4, 5, 6, 7, 8, 9, 10, 11, 12, 13, 14, 15, 16, 17, 18, 19, 20, 21, 22], [0, 1, 2, 3, 4, 5, 6, 7, 8, 9, 10, 11, 12, 13, 14, 15, 16, 17, 18, 19, 20, 21, 22, 23, 24], [0, 1, 2, 3, 4, 5, 6, 7, 8, 9, 10, 11, 12, 13, 14, 15, 16, 17, 18, 19, 20, 21, 22, 23, 24, 25], [0, 1, 2, 3, 4, 5, 6, 7, 8, 9, 10, 11, 12, 13, 14, 15, 16, 17, 18, 19, 20, 21, 22, 23, 24, 25, 26], [0, 1, 2, 3, 4, 5, 6, 7, 8, 9, 10, 11, 12, 13, 14, 15, 16, 17, 18, 19, 20, 21, 22, 23, 24, 25, 26, 27], [0, 1, 2, 3, 4, 5, 6, 7, 8, 9, 10, 11, 12, 13, 14, 15, 16, 17, 18, 19, 20, 21, 22, 23, 24, 25, 26, 27, 28], [0, 1, 2, 3, 4, 5, 6, 7, 8, 9, 10, 11, 12, 13, 14, 15, 16, 17, 18, 19, 20, 21, 22, 23, 24, 25, 26, 27, 28], [0, 1, 2, 3, 4, 5, 6, 7, 8, 9, 10, 11, 12, 13, 14, 15, 16, 17, 18, 19, 20, 21, 22, 23, 24, 25, 26, 27, 28, 30], [0, 1, 2, 3, 4, 5, 6, 7, 8, 9, 10, 11, 12, 13, 14, 15, 16, 17, 18, 19, 20, 21, 22, 23, 24, 25, 26, 27, 28], [0, 1, 2, 3, 4, 5, 6, 7, 8, 9, 10, 11, 12, 13, 14, 15, 16, 17, 18, 19, 20, 21, 22, 23, 24, 25, 26, 27, 28, 32], [0, 1, 2, 3, 4, 5, 6, 7, 8, 9, 10, 11, 12, 13, 14, 15, 16, 17, 18, 19, 20, 21, 22, 23, 24, 25, 26, 27, 28, 30, 31, 32, 33], [0, 1, 2, 3, 4, 5, 6, 7, 8, 9, 10, 11, 12, 13, 14, 15, 16, 17, 18, 19, 20, 21, 22, 23, 24, 25, 26, 27, 28, 29, 30, 31, 32, 33, 34], [0, 1, 2, 3, 4, 5, 6, 7, 8, 9, 10, 11, 12, 13, 14, 15, 16, 17, 18, 19, 20, 21, 22, 23, 24, 25, 26, 27, 28, 29, 30, 31, 32, 33, 34, 35], [0, 1, 2, 3, 4, 5, 6, 7, 8, 9, 10, 11, 12, 13, 14, 15, 16, 17, 18, 19, 20, 21, 22, 23, 24, 25, 26, 27, 28, 29, 30, 31, 32, 33, 34, 35, 36]]) (sts := [none, none, none, none, none]) (news := []) (sp := ((.val 58 _ : Sp) :: (.val 59 _) :: (.val 60 _) :: (.val 61 (Wh (_ = false) _)) :: (.val 62 (Wh (_ = false) _)) :: (.val 63 _) :: (.val 64 _) :: (.val 65 (Wh (_ = false) _)) :: (.val 66 (Wh (_ = false) _)) :: (.val 67 _) :: (.val 68 _) :: (.val 69 (Wh (_ = false) _)) :: (.val 70 (Wh (_ = false) _)) :: (.val 71 _) :: (.val 72 _) :: (.val 73 (Wh (_ = false) _)) :: (.val 74 (Wh (_ = false) _)) :: (.val 75 _) :: (.val 76 _) :: (.val 77 (Wh (_ = false) _)) :: (.val 78 (Wh (_ = false) _)) :: (.val 79 _) :: (.val 80 _) :: (.val 81 (Wh (_ = false) _)) :: (.val 82 (Wh (_ = false) _)) :: (.val 83 (Wh (_ = false) _)) :: (.val 84 (Wh (_ = false) _)) :: (.val 85 _) :: (.val 86 _) :: (.val 87 (Wh (_ = false) _)) :: (.adr 88 3 (.some 0) (_ = false)) :: (.val 89 (Wh (_ = false) _)) :: (.adr 90 3 (.some 12) (_ = false)) :: (.val 91 (Wh (_ = false) _)) :: (.val 92 (Wh (_ = false) _)) :: (.val 93 (Wh (_ = false) _)) :: (.val 94 (Wh (_ = false) _)) :: (.val 95 _) :: [])) [.g 0, .g 6, .g 7, .o 37] follows_mixed hst (oc (ob_v rfl rfl (r_move (gq 1 rfl))) (oc (ob_v rfl rfl (r_neq (vq 0 rfl) has_num)) (oc (ob_v rfl rfl (r_move (vq 1 rfl))) (oc (ob_gd rfl rfl rfl (vq 2 rfl) nq (fun hg => r_move (gq 2 rfl))) (oc (ob_gd rfl rfl rfl (vq 2 rfl) nq (fun hg => r_neq (has_wh (vq 3 rfl) hg) has_num)) (oc (ob_v rfl rfl (r_or (vq 2 rfl) (vq 4 rfl))) (oc (ob_v rfl rfl (r_move (vq 5 rfl))) (oc (ob_gd rfl rfl rfl (vq 6 rfl) nq (fun hg => r_move (gq 3 rfl))) (oc (ob_gd rfl rfl rfl (vq 6 rfl) nq (fun hg => r_neq (has_wh (vq 7 rfl) hg) has_num)) (oc (ob_v rfl rfl (r_or (vq 6 rfl) (vq 8 rfl))) (oc (ob_v rfl rfl (r_move (vq 9 rfl))) (oc (ob_gd rfl rfl rfl (vq 10 rfl) nq (fun hg => r_move (gq 4 rfl))) (oc (ob_gd rfl rfl rfl (vq 10 rfl) nq (fun hg => r_neq (has_wh (vq 11 rfl) hg) has_num)) (oc (ob_v rfl rfl (r_or (vq 10 rfl) (vq 12 rfl))) (oc (ob_v rfl rfl (r_move (vq 13 rfl))) (oc (ob_gd rfl rfl rfl (vq 14 rfl) nq (fun hg => r_move (gq 5 rfl))) (oc (ob_gd rfl rfl rfl (vq 14 rfl) nq (fun hg => r_neq (has_wh (vq 15 rfl) hg) has_num)) (oc (ob_v rfl rfl (r_or (vq 14 rfl) (vq 16 rfl))) (oc (ob_v rfl rfl (r_move (vq 17 rfl))) (oc (ob_gd rfl rfl rfl (vq 18 rfl) nq (fun hg => r_move (gq 7 rfl))) (oc (ob_gd rfl rfl rfl (vq 18 rfl) nq (fun hg => r_neq (has_wh (vq 19 rfl) hg) has_num)) (oc (ob_v rfl rfl (r_or (vq 18 rfl) (vq 20 rfl))) (oc (ob_v rfl rfl (r_move (vq 21 rfl))) (oc (ob_gd rfl rfl rfl (vq 22 rfl) nq (fun hg => r_load (lz0 1 rfl) ty_56)) (oc (ob_gd rfl rfl rfl (vq 22 rfl) nq (fun hg => r_load (lz0 3 rfl) ty_56)) (oc (ob_gd rfl rfl rfl (vq 22 rfl) nq (fun hg => r_call (xs := [.tmp 81, .tmp 82]) (sameMatrix_c _ _) (.cons (has_wh (vq 23 rfl) hg) (.cons (has_wh (vq 24 rfl) hg) .nil)))) (oc (ob_gd rfl rfl rfl (vq 22 rfl) nq (fun hg => r_not (has_wh (vq 25 rfl) hg))) (oc (ob_v rfl rfl (r_or (vq 22 rfl) (vq 26 rfl))) (oc (ob_v rfl rfl (r_move (vq 27 rfl))) (oc (ob_gd rfl rfl rfl (vq 28 rfl) nq (fun hg => r_load (lz0 4 rfl) ty_26)) (oc (ob_ag rfl rfl rfl (vq 28 rfl) nq (fun hg => a_fld (lz0 0 rfl) fld_56_0)) (oc (ob_gd rfl rfl rfl (vq 28 rfl) nq (fun hg => r_loadf 30 rfl (by kernel_rfl) hg (lz0 0 rfl) (Sub.part 0 rfl rfl) ty_26)) (oc (ob_ag rfl rfl rfl (vq 28 rfl) nq (fun hg => a_fld (lz0 0 rfl) fld_56_3)) (oc (ob_gd rfl rfl rfl (vq 28 rfl) nq (fun hg => r_loadf 32 rfl (by kernel_rfl) hg (lz0 0 rfl) (Sub.part 3 rfl rfl) ty_26)) (oc (ob_gd rfl rfl rfl (vq 28 rfl) nq (fun hg => r_call (xs := [.tmp 89, .tmp 91]) (fourth_l o1.a o1.d) (.cons (has_wh (vq 31 rfl) hg) (.cons (has_wh (vq 33 rfl) hg) .nil)))) (oc (ob_gd rfl rfl rfl (vq 28 rfl) nq (fun hg => r_call (xs := [.tmp 87, .tmp 92]) (sameFrac_c _ _) (.cons (has_wh (vq 29 rfl) hg) (.cons (has_wh (vq 34 rfl) hg) .nil)))) (oc (ob_gd rfl rfl rfl (vq 28 rfl) nq (fun hg => r_not (has_wh (vq 35 rfl) hg))) (oc (ob_v rfl rfl (r_or (vq 28 rfl) (vq 36 rfl))) o0)))))))))))))))))))))))))))))))))))))) (by kernel_rfl) (by kernel_rfl) (by kernel_rfl) (by kernel_rfl) (fun a w hst => ?_)
    have hst : St B w0 120 [(2, _), (13, _), (14, _), (95, _)] [⟨3, 56, ptrH, _⟩, ⟨5, 56, ptrH, _⟩, ⟨7, 56, ptrH, _⟩, ⟨9, 56, ptrH, _⟩, ⟨11, 26, ptrH, _⟩] a w := hst
    refine thn_normal ?_
    refine cond_of hst (List.mem_of_getElem? (i := 3) rfl) (fun hb1 => ?_) (fun hb1 => ?_)
    · exact (fo_no rfl (congrArg rfOf (fo_tr (prod_det hall))) hb1).elim
    · refine wp_skip ?_
      refine thn_normal ?_
      refine wp_seq ?_
      refine gl (sts := [none, none, none, none, none]) (news := [⟨15, 56, ptrH, some 5, _, some (6, _)⟩]) (sp := [.val 97 _, .val 98 _, .val 96 _, .val 99 _, .val 100 _, .alc 5, .sto 5, .val 14 _]) [.g 0, .o 7] hst (oc (ob_v rfl rfl (r_move (gq 1 rfl))) (oc (ob_v rfl rfl (r_call (xs := [.tmp 97, .const (.bool false)]) ((trip_c xs.reverse false).post (congrArg MR (by rw [fo_trip (rev_ch.trans hin.2) (by rw [prod_rev]; exact o2.tl), prod_rev]))) (.cons (vq 0 rfl) (.cons has_bo .nil)))) (oc (ob_v rfl rfl (r_move (vq 1 rfl))) (oc (ob_v rfl rfl (r_ex0 (vq 2 rfl))) (oc (ob_v rfl rfl (r_ex1 (vq 2 rfl))) (oc (ob_alc rfl rfl rfl (Str.zero str_matrix)) (oc (ob_sto rfl rfl rfl (vq 3 rfl) ty_56 (Eq.trans (b := 16) rfl rfl)) (oc (ob_v rfl rfl (r_assign (vq 4 rfl))) o0)))))))) (fun a w hst => ?_)
      have hst : St B w0 120 [(2, _), (14, _)] [⟨3, 56, ptrH, _⟩, ⟨5, 56, ptrH, _⟩, ⟨7, 56, ptrH, _⟩, ⟨9, 56, ptrH, _⟩, ⟨11, 26, ptrH, _⟩, ⟨15, 56, ptrH, _⟩] a w := hst
      refine thn_normal ?_
      refine wp_seq ?_
      refine gl (sts := [none, none, none, none, none, none]) (news := [⟨16, 26, ptrH, some 5, _, some (6, _)⟩]) (sp := [.val 102 _, .val 103 _, .val 101 _, .val 104 _, .val 105 _, .alc 6, .sto 6, .val 17 _]) [.g 0, .g 1, .o 7] hst (oc (ob_v rfl rfl (r_load (lz0 5 rfl) ty_56)) (oc (ob_v rfl rfl (r_call (xs := [.tmp 102]) (tr_l o2.tk o2.tr) (.cons (vq 0 rfl) .nil))) (oc (ob_v rfl rfl (r_move (vq 1 rfl))) (oc (ob_v rfl rfl (r_ex0 (vq 2 rfl))) (oc (ob_v rfl rfl (r_ex1 (vq 2 rfl))) (oc (ob_alc rfl rfl rfl (Str.zero str_frac)) (oc (ob_sto rfl rfl rfl (vq 3 rfl) ty_26 (Eq.trans (b := 4) rfl rfl)) (oc (ob_v rfl rfl (r_assign (vq 4 rfl))) o0)))))))) (fun a w hst => ?_)
      have hst : St B w0 120 [(2, _), (14, _), (17, _)] [⟨3, 56, ptrH, _⟩, ⟨5, 56, ptrH, _⟩, ⟨7, 56, ptrH, _⟩, ⟨9, 56, ptrH, _⟩, ⟨11, 26, ptrH, _⟩, ⟨15, 56, ptrH, _⟩, ⟨16, 26, ptrH, _⟩] a w := hst
      refine thn_normal ?_
      refine wp_seq ?_
      refine gl (sts := [none, none, none, none, none, none, none]) (news := []) (sp := [.val 106 _, .val 107 _, .val 108 _, .val 109 (Wh (_ = true) _), .val 110 (Wh (_ = true) _), .val 111 _, .val 112 _, .val 113 (Wh (_ = true) _), .val 114 (Wh (_ = true) _), .val 115 (Wh (_ = true) _), .val 116 _, .val 117 _, .val 118 (Wh (_ = true) _), .val 119 _, .val 2 _]) [.o 14] hst (oc (ob_v rfl rfl (r_move (gq 1 rfl))) (oc (ob_v rfl rfl (r_eql (vq 0 rfl) has_num)) (oc (ob_v rfl rfl (r_move (vq 1 rfl))) (oc (ob_gd rfl rfl rfl (vq 2 rfl) nq (fun hg => r_move (gq 2 rfl))) (oc (ob_gd rfl rfl rfl (vq 2 rfl) nq (fun hg => r_eql (has_wh (vq 3 rfl) hg) has_num)) (oc (ob_v rfl rfl (r_and (vq 2 rfl) (vq 4 rfl))) (oc (ob_v rfl rfl (r_move (vq 5 rfl))) (oc (ob_gd rfl rfl rfl (vq 6 rfl) nq (fun hg => r_load (lz0 4 rfl) ty_26)) (oc (ob_gd rfl rfl rfl (vq 6 rfl) nq (fun hg => r_load (lz0 6 rfl) ty_26)) (oc (ob_gd rfl rfl rfl (vq 6 rfl) nq (fun hg => r_call (xs := [.tmp 113, .tmp 114]) (sameFrac_c _ _) (.cons (has_wh (vq 7 rfl) hg) (.cons (has_wh (vq 8 rfl) hg) .nil)))) (oc (ob_v rfl rfl (r_and (vq 6 rfl) (vq 9 rfl))) (oc (ob_v rfl rfl (r_move (vq 10 rfl))) (oc (ob_gd rfl rfl rfl (vq 11 rfl) nq (fun hg => r_call (xs := []) alive12_c .nil)) (oc (ob_v rfl rfl (r_and (vq 11 rfl) (vq 12 rfl))) (oc (ob_v rfl rfl (r_assign (vq 13 rfl))) o0))))))))))))))) (fun a w hst => ?_)
      have hst : St B w0 120 [(2, _)] [⟨3, 56, ptrH, _⟩, ⟨5, 56, ptrH, _⟩, ⟨7, 56, ptrH, _⟩, ⟨9, 56, ptrH, _⟩, ⟨11, 26, ptrH, _⟩, ⟨15, 56, ptrH, _⟩, ⟨16, 26, ptrH, _⟩] a w := hst
      refine thn_normal ?_
      refine wp_ret ?_
      refine ret_wk ?_ (ret_tmp rfl hst (List.mem_of_getElem? (i := 0) rfl))
      exact wk_eq (congrArg Bo (fo_end (congrArg rfOf (fo_tr2 _))))

open Go.ChangeShapes Go.WideShapes Go.ChangeAt
open Go.ChangeMaps (open_string shut_string)
set_option linter.unusedVariables false
theorem own : ownKnob Tryz.prog.godebug = none := by kernel_rfl
theorem laidOut : laidOutB Tryz.prog = true := by kernel_rfl
set_option maxRecDepth 100000 in
theorem lifted (os : Os) (started : os.Started) (H : Type) (enc : TypeId × Value → H) :
    ReturnsInHanded {} Tryz.checked os 5 .any (Rows.cavityForthSpec.pre6 enc Tryz.prog Tryz.f5 Rows.cavityForthRow.domain false) (Rows.cavityForthSpec.post enc Tryz.prog Tryz.f5 false true false false) := by
  refine returnsInHanded_of_change (C := Tryz.checked) own started (by kernel_rfl) Tryz.func5
    (ChangeSpec.witness6 (enc := enc) (C := Tryz.checked) false ⟨#[], #[.slice none 0 0], []⟩ 8 (by kernel_rfl) (by kernel_rfl) (by kernel_rfl) (by kernel_rfl)) ?_
  intro W base args ds gs before hval0 hW hcnd _
  have hval : ∀ (j : Nat) t v, Tryz.f5.params[j]? = some t → args[j]? = some v → Value.okWide Tryz.prog W .any base t v := hval0
  have hW' := hW
  obtain ⟨p, q, hA0, hV, rfl, hfz, hnd⟩ := hW
  have hA : DataW.TrodAll enc Tryz.prog W 0 (fun _ => true) true Tryz.f5.params.toList args.toList ds p := hA0
  rw [Tryz.params5] at hA hval
  obtain ⟨v0, vs0, d0, ds0, p0, q0, hargs, rfl, rfl, h0, r0⟩ := trodAll_cons hA
  obtain ⟨rfl, rfl, rfl⟩ := trodAll_nil r0
  obtain rfl : args = #[v0] := by cases args; simp_all
  obtain ⟨rfl, rfl⟩ := trodVars_none hV
  have k0 := h0
  have lt0 : ∀ x ∈ p0, x.block < W.heap.size := by obtain ⟨m, hm⟩ := k0; exact DataW.trod_lt m _ _ _ hm
  obtain ⟨x0, a0⟩ := arg_sl (A := REA) (m := 9) (D := [145]) Tryz.underlying47 (by kernel_rfl) (by decide) (fun _ => nd_self (by kernel_rfl)) rd_re (hval 0 47 v0 rfl rfl) h0
  clear hA0 hval0
  refine ((forth_w x0).2 W.heap.size W [v0] (Nat.le_refl _) (.cons a0 .nil)).mono fun e W' ⟨v, he, hv, bel⟩ => ?_
  have hv' := bo_val hv
  subst hv' he
  exact ⟨_, rfl, _, _, _, [], _, [], hW', trodAll_mk1 (shut_bool Tryz.underlying4 _), (trodAll_cons_mk (Below.trod laidOut (by kernel_rfl) (of_decide_eq_true (by kernel_rfl)) k0 bel lt0) trodAll_mk0), rfl, bel.frame _, fun h => by cases h⟩
theorem over : Rows.cavityForthRow.holds Tryz.pinned (OpenSpec.ofChange Rows.cavityForthSpec) :=
  OpenClaim.holds_of_wide 5 Tryz.f5 rfl rfl rfl rfl rfl rfl rfl ⟨rfl, rfl, rfl, rfl, rfl⟩ rfl rfl rfl rfl rfl (by kernel_rfl) Tryz.func5 (by kernel_rfl)
    (of_decide_eq_true (by kernel_rfl)) (by unfold Func.isWrapper; rw [if_neg (of_decide_eq_false (by kernel_rfl))]; exact ⟨rfl, rfl⟩)
    (fun os started H enc _ => lifted os started H enc)
theorem provedCavityForth : Rows.CavityForthSaid := over
#print axioms provedCavityForth

end Go.Proofs.YtgjolcbehcjhcaaGreat
