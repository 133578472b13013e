/- Contract of ray.Mul: the product of two matrices. -/
import Derived.Test.YtgjolcbehcjhcaaGreatRayE
namespace Go.Proofs.YtgjolcbehcjhcaaGreat
open Go Go.RowKit
namespace RayF
theorem fld_56_0 : Fld Tryz.prog 56 0 0 4 := ⟨_, _, Tryz.underlying56, rfl, rfl, by kernel_rfl, by decide⟩
theorem fld_56_1 : Fld Tryz.prog 56 1 4 4 := ⟨_, _, Tryz.underlying56, rfl, rfl, by kernel_rfl, by decide⟩
theorem fld_56_2 : Fld Tryz.prog 56 2 8 4 := ⟨_, _, Tryz.underlying56, rfl, rfl, by kernel_rfl, by decide⟩
theorem fld_56_3 : Fld Tryz.prog 56 3 12 4 := ⟨_, _, Tryz.underlying56, rfl, rfl, by kernel_rfl, by decide⟩
theorem sl_73 : Sl Tryz.prog 73 26 4 := ⟨by kernel_rfl, by kernel_rfl⟩
theorem ty_127 : Ty Tryz.prog 127 16 true := ⟨by kernel_rfl, by kernel_rfl⟩
theorem ty_26 : Ty Tryz.prog 26 4 true := ⟨by kernel_rfl, by kernel_rfl⟩
theorem ty_56 : Ty Tryz.prog 56 16 true := ⟨by kernel_rfl, by kernel_rfl⟩
end RayF
open RayF
def p4 (m : MQ) (j : Nat) : Rat := [m.a, m.b, m.c, m.d].getD j 0
def mE (m q : MQ) (j : Nat) : Rat := p4 m (j / 2 * 2) * p4 q (j % 2) + p4 m (j / 2 * 2 + 1) * p4 q (j % 2 + 2)
def mulQ (m q : MQ) : MQ := ⟨m.a * q.a + m.b * q.c, m.a * q.b + m.b * q.d, m.c * q.a + m.d * q.c, m.c * q.b + m.d * q.d⟩
def mulL (m q : MQ) (i : Nat) : List As := (List.range i).map fun j => QA 8193 (mE m q j)
theorem mulL_len (m q : MQ) (i : Nat) : (mulL m q i).length = i := by simp [mulL]
theorem mulL_succ (m q : MQ) (i : Nat) : mulL m q i ++ [QA 8193 (mE m q i)] = mulL m q (i + 1) := by simp [mulL, List.range_succ]
theorem mulL_end (m q : MQ) : mulL m q 4 = [QA 8193 (mulQ m q).a, QA 8193 (mulQ m q).b, QA 8193 (mulQ m q).c, QA 8193 (mulQ m q).d] := rfl
theorem arr_at {k : Nat} {m : MQ} {j : Nat} (h : j < 4) : [QA k m.a, QA k m.b, QA k m.c, QA k m.d][j]? = some (QA k (p4 m j)) :=
  match j, h with
  | 0, _ => rfl
  | 1, _ => rfl
  | 2, _ => rfl
  | 3, _ => rfl
theorem ar_quo {i : Nat} (h : i < 4) : IntKind.i64.wrap (Int.tdiv (i : Int) 2) = ((i / 2 : Nat) : Int) :=
  match i, h with
  | 0, _ => by decide
  | 1, _ => by decide
  | 2, _ => by decide
  | 3, _ => by decide
theorem ar_rem {i : Nat} (h : i < 4) : Int.tmod (i : Int) 2 = ((i % 2 : Nat) : Int) :=
  match i, h with
  | 0, _ => by decide
  | 1, _ => by decide
  | 2, _ => by decide
  | 3, _ => by decide
theorem ar_mul {i : Nat} (h : i < 4) : IntKind.i64.wrap (((i / 2 : Nat) : Int) * 2) = ((i / 2 * 2 : Nat) : Int) :=
  match i, h with
  | 0, _ => by decide
  | 1, _ => by decide
  | 2, _ => by decide
  | 3, _ => by decide
theorem ar_one {i : Nat} (h : i < 4) : IntKind.i64.wrap (((i / 2 * 2 : Nat) : Int) + 1) = ((i / 2 * 2 + 1 : Nat) : Int) :=
  match i, h with
  | 0, _ => by decide
  | 1, _ => by decide
  | 2, _ => by decide
  | 3, _ => by decide
theorem ar_two {i : Nat} (h : i < 4) : IntKind.i64.wrap (((i % 2 : Nat) : Int) + 2) = ((i % 2 + 2 : Nat) : Int) :=
  match i, h with
  | 0, _ => by decide
  | 1, _ => by decide
  | 2, _ => by decide
  | 3, _ => by decide
theorem ar_nxt {i : Nat} (h : i < 4) : IntKind.i64.wrap ((i : Int) + 1) = ((i + 1 : Nat) : Int) :=
  match i, h with
  | 0, _ => by decide
  | 1, _ => by decide
  | 2, _ => by decide
  | 3, _ => by decide
theorem app_frac : ∃ it z, Tryz.prog.info? 26 = some it ∧ it.zero = some z ∧ it.size = 4 ∧ it.bytes = 64 ∧ z.cells.size = 4 := by
  have h : ((Tryz.prog.info? 26).bind fun it => it.zero.map fun z => (it.size, it.bytes, z.cells.size)) = some (4, 64, 4) := by kernel_rfl
  cases hi : Tryz.prog.info? 26 with
  | none => rw [hi] at h; simp at h
  | some it =>
    rw [hi] at h
    cases hz : it.zero with
    | none => simp [hz] at h
    | some z =>
      simp [hz] at h
      exact ⟨it, z, rfl, hz, h.1, h.2.1, h.2.2⟩

set_option maxRecDepth 100000 in
theorem fourOf_c {k : Nat} (m : MQ) : Cn Tryz.prog 82 [(QMA k m).va] ((QMA k m).va) := by
  refine Cn.intro Tryz.func82 rfl (by kernel_rfl) nq (fun B w0 a hst => ?_)
  have hst : St B w0 12 [(0, (QMA k m).va)] [] a w0.w := hst
  refine wp_seq ?_
  refine gl (sts := []) (news := [⟨1, 56, ptrH, some 0, _, none⟩, ⟨2, 127, ptrH, some 1, _, none⟩]) (sp := [.alc 0, .alc 1]) [] hst (oc (ob_box rfl rfl rfl (gq 0 rfl)) (oc (ob_alc rfl rfl rfl (Arr.zero arr_four)) o0)) (fun a w hst => ?_)
  have hst : St B w0 12 [] [⟨1, 56, ptrH, _⟩, ⟨2, 127, ptrH, _⟩] a w := hst
  refine thn_normal ?_
  refine wp_seq ?_
  refine gl (sts := [none, some (9, _)]) (news := []) (sp := [.adr 3 1 (.some 0) True, .val 4 _, .adr 5 1 (.some 4) True, .val 6 _, .adr 7 1 (.some 8) True, .val 8 _, .adr 9 1 (.some 12) True, .val 10 _, .val 11 _, .sto 1]) [] hst (oc (ob_a rfl rfl (a_fld (lz0 0 rfl) fld_56_0)) (oc (ob_v rfl rfl (r_loadf 0 rfl (by kernel_rfl) trivial (lz0 0 rfl) (Sub.part 0 rfl rfl) ty_26)) (oc (ob_a rfl rfl (a_fld (lz0 0 rfl) fld_56_1)) (oc (ob_v rfl rfl (r_loadf 2 rfl (by kernel_rfl) trivial (lz0 0 rfl) (Sub.part 1 rfl rfl) ty_26)) (oc (ob_a rfl rfl (a_fld (lz0 0 rfl) fld_56_2)) (oc (ob_v rfl rfl (r_loadf 4 rfl (by kernel_rfl) trivial (lz0 0 rfl) (Sub.part 2 rfl rfl) ty_26)) (oc (ob_a rfl rfl (a_fld (lz0 0 rfl) fld_56_3)) (oc (ob_v rfl rfl (r_loadf 6 rfl (by kernel_rfl) trivial (lz0 0 rfl) (Sub.part 3 rfl rfl) ty_26)) (oc (ob_v rfl rfl (r_buildA (xs := [(0, .tmp 4), (1, .tmp 6), (2, .tmp 8), (3, .tmp 10)]) (qs := [(0, _), (1, _), (2, _), (3, _)]) arr_four (.cons ⟨rfl, (vq 1 rfl), rfl⟩ (.cons ⟨rfl, (vq 3 rfl), rfl⟩ (.cons ⟨rfl, (vq 5 rfl), rfl⟩ (.cons ⟨rfl, (vq 7 rfl), rfl⟩ .nil)))))) (oc (ob_sto rfl rfl rfl (vq 8 rfl) ty_127 (Eq.trans (b := 16) rfl rfl)) o0)))))))))) (fun a w hst => ?_)
  have hst : St B w0 12 [] [⟨1, 56, ptrH, _⟩, ⟨2, 127, ptrH, _⟩] a w := hst
  refine thn_normal ?_
  refine wp_ret ?_
  refine ret_wk ?_ (ret_cell rfl hst (List.mem_of_getElem? (i := 1) rfl) ty_127)
  exact wk_id

set_option maxRecDepth 100000 in
theorem mul1_c (m q : MQ) : Cn Tryz.prog 81 [(ElP 56 (QMA 2048 m)), (ElP 56 (QMA 2048 q))] ((SlA 26 [U32] [QA 8193 (mulQ m q).a, QA 8193 (mulQ m q).b, QA 8193 (mulQ m q).c, QA 8193 (mulQ m q).d]).va) := by
  obtain ⟨it, z, e1, e2, e3, e4, e5⟩ := app_frac
  refine Cn.intro Tryz.func81 rfl (by kernel_rfl) nq (fun B w0 a hst => ?_)
  have hst : St B w0 41 [(0, (ElP 56 (QMA 2048 m))), (1, (ElP 56 (QMA 2048 q)))] [] a w0.w := hst
  refine wp_seq ?_
  refine gl (sts := []) (news := []) (sp := [.val 2 _]) [.g 0, .g 1, .o 0] hst (oc (ob_v rfl rfl (r_assign has_const)) o0) (fun a w hst => ?_)
  have hst : St B w0 41 [(0, _), (1, _), (2, _)] [] a w := hst
  refine thn_normal ?_
  refine wp_seq ?_
  refine go_draw (anc := [[], [0], [], [0, 1, 2], [], [], [0, 1, 2, 3, 4, 5], [0, 1, 2, 3, 4, 5, 6]]) (sts := []) (news := [⟨3, 127, ptrH, some 4, _, some (6, _)⟩, ⟨4, 127, ptrH, some 5, _, some (7, _)⟩]) (sp := [.val 9 _, .val 10 _, .val 11 _, .val 12 _, .alc 0, .alc 1, .sto 0, .sto 1]) [.g 2] follows_mixed hst (oc (ob_v rfl rfl (r_loade (gq 0 rfl) ty_56)) (oc (ob_v rfl rfl (r_call (xs := [.tmp 9]) (fourOf_c _) (.cons (vq 0 rfl) .nil))) (oc (ob_v rfl rfl (r_loade (gq 1 rfl) ty_56)) (oc (ob_v rfl rfl (r_call (xs := [.tmp 11]) (fourOf_c _) (.cons (vq 2 rfl) .nil))) (oc (ob_alc rfl rfl rfl (Arr.zero arr_four)) (oc (ob_alc rfl rfl rfl (Arr.zero arr_four)) (oc (ob_sto rfl rfl rfl (vq 1 rfl) ty_127 (Eq.trans (b := 16) rfl rfl)) (oc (ob_sto rfl rfl rfl (vq 3 rfl) ty_127 (Eq.trans (b := 16) rfl rfl)) o0)))))))) (by kernel_rfl) (by kernel_rfl) (by kernel_rfl) (by kernel_rfl) (fun a w hst => ?_)
  have hst : St B w0 41 [(2, _)] [⟨3, 127, ptrH, _⟩, ⟨4, 127, ptrH, _⟩] a w := hst
  refine thn_normal ?_
  refine wp_seq ?_
  refine gl (sts := [none, none]) (news := []) (sp := [.val 5 _]) [.g 0, .o 0] hst (oc (ob_v rfl rfl (r_assign has_const)) o0) (fun a w hst => ?_)
  have hst : St B w0 41 [(2, _), (5, _)] [⟨3, 127, ptrH, _⟩, ⟨4, 127, ptrH, _⟩] a w := hst
  refine thn_normal ?_
  refine wp_seq ?_
  refine wp_seq ?_
  refine gl (sts := [none, none]) (news := []) (sp := [.val 13 _]) [.g 0, .g 1, .o 0] hst (oc (ob_v rfl rfl (r_move has_num)) o0) (fun a w hst => ?_)
  have hst : St B w0 41 [(2, _), (5, _), (13, _)] [⟨3, 127, ptrH, _⟩, ⟨4, 127, ptrH, _⟩] a w := hst
  refine thn_normal ?_
  refine wp_block ?_
  have hst := St.sel hst [2, 1]
  refine wp_loop_ghost (fun n a w => ∃ i : Nat, i + n = 4 ∧ St B w0 41 [(13, In (i : Int)), (5, OwnR w0.w.heap.size 26 4 [U32] (mulL m q i))] [⟨3, 127, ptrH, QMA 2048 m⟩, ⟨4, 127, ptrH, QMA 2048 q⟩] a w) (4) ?_ ?_
  · exact ⟨0, rfl, St.wkG hst 1 rfl own_nil⟩
  intro n a w hI
  obtain ⟨i, hi, hst⟩ := hI
  refine wp_seq ?_
  refine gl (sts := [none, none]) (news := []) (sp := [.val 14 _]) [.g 0, .g 1, .o 0] hst (oc (ob_v rfl rfl (r_lss (gq 0 rfl) has_num)) o0) (fun a w hst => ?_)
  have hst : St B w0 41 [(13, _), (5, _), (14, _)] [⟨3, 127, ptrH, _⟩, ⟨4, 127, ptrH, _⟩] a w := hst
  refine thn_normal ?_
  refine wp_seq ?_
  refine cond_of hst (List.mem_of_getElem? (i := 2) rfl) (fun hb0 => ?_) (fun hb0 => ?_)
  · have hi4 : i < 4 := (by have := of_decide_eq_true hb0; omega)
    refine wp_skip ?_
    refine thn_normal ?_
    refine wp_seq ?_
    refine wp_block ?_
    refine wp_seq ?_
    refine gl (sts := [none, none]) (news := []) (sp := [.val 15 _, .val 6 _]) [.g 0, .g 1, .o 1] hst (oc (ob_v rfl rfl (r_move (gq 0 rfl))) (oc (ob_v rfl rfl (r_assign (vq 0 rfl))) o0)) (fun a w hst => ?_)
    have hst : St B w0 41 [(13, _), (5, _), (6, _)] [⟨3, 127, ptrH, _⟩, ⟨4, 127, ptrH, _⟩] a w := hst
    refine thn_normal ?_
    refine wp_seq ?_
    refine gl (sts := [none, none]) (news := []) (sp := [.val 16 _, .val 17 _, .val 18 _, .val 19 _, .val 20 _, .val 7 _, .val 8 _]) [.g 0, .g 1, .o 5, .o 6] hst (oc (ob_v rfl rfl (r_move (gq 2 rfl))) (oc (ob_v rfl rfl (r_quo (vq 0 rfl) has_num (by decide) (ar_quo hi4))) (oc (ob_v rfl rfl (r_mul (vq 1 rfl) has_num (ar_mul hi4))) (oc (ob_v rfl rfl (r_move (gq 2 rfl))) (oc (ob_v rfl rfl (r_rem (vq 3 rfl) has_num (by decide) (ar_rem hi4))) (oc (ob_v rfl rfl (r_assign (vq 2 rfl))) (oc (ob_v rfl rfl (r_assign (vq 4 rfl))) o0))))))) (fun a w hst => ?_)
    have hst : St B w0 41 [(13, _), (5, _), (7, _), (8, _)] [⟨3, 127, ptrH, _⟩, ⟨4, 127, ptrH, _⟩] a w := hst
    refine thn_normal ?_
    refine go_app (sp := [.val 21 _, .val 22 _, .val 23 _, .val 24 _, .val 25 _, .val 26 _, .val 27 _, .val 28 _, .val 29 _, .val 30 _, .val 31 _, .val 32 _, .val 33 _, .val 34 _, .val 35 _, .val 36 _, .val 37 _, .val 38 VT, .val 5 VT]) [[], [], [1], [1, 2], [], [4], [4, 5], [], [7], [7, 8], [7, 8, 9], [], [11], [11, 12], [11, 12, 13], [1, 2, 3, 4, 5, 6, 7, 8, 9, 10, 11, 12, 13, 14], [1, 2, 3, 4, 5, 6, 7, 8, 9, 10, 11, 12, 13, 14, 15], [0, 1, 2, 3, 4, 5, 6, 7, 8, 9, 10, 11, 12, 13, 14, 15, 16], [0, 1, 2, 3, 4, 5, 6, 7, 8, 9, 10, 11, 12, 13, 14, 15, 16, 17]] 17 [0] 0 16 follows_mixed hst (oc (ob_v rfl rfl (r_move (gq 1 rfl))) (oc (ob_v rfl rfl (r_move (gq 2 rfl))) (oc (ob_v rfl rfl (r_arrv (m := 4) (lz0 0 rfl) Tryz.underlying127 (by kernel_rfl) (n_ok (by kernel_rfl)) (vq 1 rfl) (arr_at (by omega)))) (oc (ob_v rfl rfl (r_loade (vq 2 rfl) ty_26)) (oc (ob_v rfl rfl (r_move (gq 3 rfl))) (oc (ob_v rfl rfl (r_arrv (m := 4) (lz0 1 rfl) Tryz.underlying127 (by kernel_rfl) (n_ok (by kernel_rfl)) (vq 4 rfl) (arr_at (by omega)))) (oc (ob_v rfl rfl (r_loade (vq 5 rfl) ty_26)) (oc (ob_v rfl rfl (r_move (gq 2 rfl))) (oc (ob_v rfl rfl (r_add (vq 7 rfl) has_num (ar_one hi4))) (oc (ob_v rfl rfl (r_arrv (m := 4) (lz0 0 rfl) Tryz.underlying127 (by kernel_rfl) (n_ok (by kernel_rfl)) (vq 8 rfl) (arr_at (by omega)))) (oc (ob_v rfl rfl (r_loade (vq 9 rfl) ty_26)) (oc (ob_v rfl rfl (r_move (gq 3 rfl))) (oc (ob_v rfl rfl (r_add (vq 11 rfl) has_num (ar_two hi4))) (oc (ob_v rfl rfl (r_arrv (m := 4) (lz0 1 rfl) Tryz.underlying127 (by kernel_rfl) (n_ok (by kernel_rfl)) (vq 12 rfl) (arr_at (by omega)))) (oc (ob_v rfl rfl (r_loade (vq 13 rfl) ty_26)) (oc (ob_v rfl rfl (r_call (xs := [.tmp 24, .tmp 27, .tmp 31, .tmp 35]) (rpair_q (by decide)) (.cons (vq 3 rfl) (.cons (vq 6 rfl) (.cons (vq 10 rfl) (.cons (vq 14 rfl) .nil)))))) (oc (ob_v rfl rfl (r_slice (D := [U32]) (l := [_]) (xs := [.tmp 36]) (nd_ok (by kernel_rfl)) sl_73 (by kernel_rfl) (n_ok (by kernel_rfl)) nq nq nq (.cons (vq 15 rfl) .nil) rfl rfl)) o0))))))))))))))))) rfl (by kernel_rfl) (by kernel_rfl) (by kernel_rfl) (by kernel_rfl) rfl rfl (by decide) rfl (by decide) rfl Tryz.underlying73 e1 e2 e3 e4 e5 (by decide) (by rw [mulL_len]; omega) (by decide) (fun T hT => hT) (by decide) rfl (by kernel_rfl) nq nq (by kernel_rfl) (by kernel_rfl) (fun a w hst => ?_)
    have hst : St B w0 41 [(5, _), (13, _)] [⟨3, 127, ptrH, _⟩, ⟨4, 127, ptrH, _⟩] a w := hst
    refine blk_normal ?_
    refine thn_normal ?_
    refine gl (sts := [none, none]) (news := []) (sp := [.val 39 _, .val 13 _]) [.g 0, .o 1] hst (oc (ob_v rfl rfl (r_add (gq 1 rfl) has_num (ar_nxt hi4))) (oc (ob_v rfl rfl (r_move (vq 0 rfl))) o0)) (fun a w hst => ?_)
    have hst : St B w0 41 [(5, _), (13, _)] [⟨3, 127, ptrH, _⟩, ⟨4, 127, ptrH, _⟩] a w := hst
    refine thn_normal ?_
    have hst := St.sel hst [1, 0]
    have hst := St.wkG (A' := OwnR w0.w.heap.size 26 4 [U32] (mulL m q (i + 1))) hst 1 rfl (wk_eq (congrArg (OwnR w0.w.heap.size 26 4 [U32]) (mulL_succ m q i)))
    obtain ⟨j, rfl⟩ : ∃ j, n = j + 1 := ⟨n - 1, by omega⟩; exact ⟨j, by omega, i + 1, by omega, hst⟩
  · obtain rfl : i = 4 := (by have := of_decide_eq_false hb0; omega)
    refine wp_exit ?_
    refine thn_exit ?_
    refine thn_exit ?_
    refine blk_exit ?_
    refine thn_normal ?_
    refine wp_seq ?_
    refine gl (sts := [none, none]) (news := []) (sp := [.val 40 _, .val 2 _]) [.o 1] hst (oc (ob_v rfl rfl (r_move (gq 1 rfl))) (oc (ob_v rfl rfl (r_assign (vq 0 rfl))) o0)) (fun a w hst => ?_)
    have hst : St B w0 41 [(2, _)] [⟨3, 127, ptrH, _⟩, ⟨4, 127, ptrH, _⟩] a w := hst
    refine thn_normal ?_
    refine wp_ret ?_
    refine ret_wk ?_ (ret_tmp rfl hst (List.mem_of_getElem? (i := 0) rfl))
    exact wk_trans own_sl (wk_eq (by rw [mulL_end]))

def mulM (m q : RM) : RM × Int := asM (kM (kM 0 m) q) (mulQ (toM m) (toM q))
theorem mul1_x {m q : RM} (h : kM (kM 0 m) q = 0) : Cn Tryz.prog 81 [(ElP 56 (RMA m)), (ElP 56 (RMA q))] (SlA 26 [U32] [QA 8193 (mulQ (toM m) (toM q)).a, QA 8193 (mulQ (toM m) (toM q)).b, QA 8193 (mulQ (toM m) (toM q)).c, QA 8193 (mulQ (toM m) (toM q)).d]).va := (mul1_c (toM m) (toM q)).wk (.cons (elp_wk (qm_x (okM_q (kM_0 (kM_0 h).2).1).1)) (.cons (elp_wk (qm_x (okM_q (kM_0 h).1).1)) .nil))

set_option maxRecDepth 100000 in
theorem mul09_c (m q : RM) : Cn Tryz.prog 34 [(RMA m).va, (RMA q).va] (MR (mulM m q)) := by
  refine Cn.intro Tryz.func34 rfl (by kernel_rfl) nq (fun B w0 a hst => ?_)
  have hst : St B w0 20 [(0, (RMA m).va), (1, (RMA q).va)] [] a w0.w := hst
  refine wp_seq ?_
  refine gl (sts := []) (news := [⟨2, 56, ptrH, some 0, _, none⟩, ⟨3, 56, ptrH, some 1, _, none⟩, ⟨4, 56, ptrH, some 2, _, none⟩]) (sp := [.alc 0, .alc 1, .alc 2, .val 5 _]) [.o 3] hst (oc (ob_box rfl rfl rfl (gq 0 rfl)) (oc (ob_box rfl rfl rfl (gq 1 rfl)) (oc (ob_alc rfl rfl rfl (Str.zero str_matrix)) (oc (ob_v rfl rfl (r_assign has_num)) o0)))) (fun a w hst => ?_)
  have hst : St B w0 20 [(5, _)] [⟨2, 56, ptrH, _⟩, ⟨3, 56, ptrH, _⟩, ⟨4, 56, ptrH, _⟩] a w := hst
  refine thn_normal ?_
  refine wp_seq ?_
  refine go_linR (sts := [none, none, none]) (news := [⟨8, 106, ptrH, some 1, _, none⟩]) (sp := [.val 7 _, .alc 3, .adr 6 8 .none True]) [.g 0] [(6, 8)] [⟨2, 56, ptrH, _⟩, ⟨3, 56, ptrH, _⟩, ⟨4, 56, ptrH, _⟩, ⟨6, 106, ptrH, _⟩] hst (oc (ob_v rfl rfl (r_build (xs := []) (qs := []) str_keeper .nil)) (oc (ob_box rfl rfl rfl (vq 0 rfl)) (oc (ob_a rfl rfl a_asg) o0))) (by kernel_rfl) (by kernel_rfl) (by kernel_rfl) ⟨⟨2, rfl⟩, trivial⟩ rfl (by kernel_rfl) (fun a w hst => ?_)
  have hst : St B w0 20 [(5, _)] [⟨2, 56, ptrH, _⟩, ⟨3, 56, ptrH, _⟩, ⟨4, 56, ptrH, _⟩, ⟨6, 106, ptrH, _⟩] a w := hst
  refine thn_normal ?_
  refine wp_seq ?_
  refine gl (sts := [none, none, none, some (2, _)]) (news := []) (sp := [.adr 9 6 (.some 0) True, .val 10 _, .cal 11 _ 3]) [.g 0] hst (oc (ob_a rfl rfl (a_mov0 (lz0 3 rfl))) (oc (ob_v rfl rfl (r_load (lz0 0 rfl) ty_56)) (oc (ob_cal (xs := [.tmp 9, .tmp 10]) rfl rfl rfl (kmatrix_c _ _) (.cons (arw0 0 rfl (by kernel_rfl) (lz0 3 rfl)) (.cons (vq 1 rfl) .nil))) o0))) (fun a w hst => ?_)
  have hst : St B w0 20 [(5, _)] [⟨2, 56, ptrH, _⟩, ⟨3, 56, ptrH, _⟩, ⟨4, 56, ptrH, _⟩, ⟨6, 106, ptrH, _⟩] a w := hst
  refine thn_normal ?_
  refine wp_seq ?_
  refine gl (sts := [none, none, none, some (2, _)]) (news := []) (sp := [.adr 12 6 (.some 0) True, .val 13 _, .cal 14 _ 3]) [.g 0] hst (oc (ob_a rfl rfl (a_mov0 (lz0 3 rfl))) (oc (ob_v rfl rfl (r_load (lz0 1 rfl) ty_56)) (oc (ob_cal (xs := [.tmp 12, .tmp 13]) rfl rfl rfl (kmatrix_c _ _) (.cons (arw0 0 rfl (by kernel_rfl) (lz0 3 rfl)) (.cons (vq 1 rfl) .nil))) o0))) (fun a w hst => ?_)
  have hst : St B w0 20 [(5, _)] [⟨2, 56, ptrH, _⟩, ⟨3, 56, ptrH, _⟩, ⟨4, 56, ptrH, _⟩, ⟨6, 106, ptrH, _⟩] a w := hst
  refine thn_normal ?_
  refine wp_seq ?_
  refine gl (sts := [none, none, some (5, _), some (2, _)]) (news := []) (sp := [.adr 15 6 (.some 0) True, .val 16 _, .cal 17 _ 3, .val 18 _, .val 19 _, .sto 2, .val 5 _]) [.o 6] hst (oc (ob_a rfl rfl (a_mov0 (lz0 3 rfl))) (oc (ob_v rfl rfl (r_mkfunc (xs := [.tmp 2, .tmp 3]) (D := [56, 49, 145]) (pre := fun _ : PLift (kM (kM 0 m) q = 0) => []) (post := fun _ => (SlA 26 [U32] [QA 8193 (mulQ (toM m) (toM q)).a, QA 8193 (mulQ (toM m) (toM q)).b, QA 8193 (mulQ (toM m) (toM q)).c, QA 8193 (mulQ (toM m) (toM q)).d]).va) (fun i => mul1_x i.down) (nd_va rfl) (.cons (has_ptr (lz0 0 rfl)) (.cons (has_ptr (lz0 1 rfl)) .nil)))) (oc (ob_cal (xs := [.tmp 15, .tmp 16]) rfl rfl rfl (kasMatrix_c _ 8193 (mulQ (toM m) (toM q))) (.cons (arw0 0 rfl (by kernel_rfl) (lz0 3 rfl)) (.cons (vq 1 rfl) .nil))) (oc (ob_v rfl rfl (r_ex0 (has_c 2 rfl (by kernel_rfl) (by kernel_rfl)))) (oc (ob_v rfl rfl (r_ex1 (has_c 2 rfl (by kernel_rfl) (by kernel_rfl)))) (oc (ob_sto rfl rfl rfl (vq 3 rfl) ty_56 (Eq.trans (b := 16) rfl rfl)) (oc (ob_v rfl rfl (r_assign (vq 4 rfl))) o0))))))) (fun a w hst => ?_)
  have hst : St B w0 20 [(5, _)] [⟨2, 56, ptrH, _⟩, ⟨3, 56, ptrH, _⟩, ⟨4, 56, ptrH, _⟩, ⟨6, 106, ptrH, _⟩] a w := hst
  refine thn_normal ?_
  refine wp_ret ?_
  refine ret_wk ?_ (ret_many (rs := [.cell 4 56, .tmp 5]) rfl hst (.cell (List.mem_of_getElem? (i := 2) rfl) ty_56 (.tmp (List.mem_of_getElem? (i := 0) rfl) .nil)) (by decide))
  exact wk_id

end Go.Proofs.YtgjolcbehcjhcaaGreat
