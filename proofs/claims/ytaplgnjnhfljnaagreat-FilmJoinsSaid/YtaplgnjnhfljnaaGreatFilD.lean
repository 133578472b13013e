/- A row of structs as a variable of its own; contracts of film.over, waves and Powers; what is thrown back, and what goes through. -/
import Derived.Test.YtaplgnjnhfljnaaGreatFilC
import Derived.Great.BuildSlice
namespace Go.Proofs.YtaplgnjnhfljnaaGreat
open Go Go.RowKit
namespace FilD
theorem fld_59_0 : Fld Tryz.prog 59 0 0 4 := ⟨_, _, Tryz.underlying59, rfl, rfl, by kernel_rfl, by decide⟩
theorem fld_59_1 : Fld Tryz.prog 59 1 4 4 := ⟨_, _, Tryz.underlying59, rfl, rfl, by kernel_rfl, by decide⟩
theorem fld_59_2 : Fld Tryz.prog 59 2 8 4 := ⟨_, _, Tryz.underlying59, rfl, rfl, by kernel_rfl, by decide⟩
theorem fld_59_3 : Fld Tryz.prog 59 3 12 4 := ⟨_, _, Tryz.underlying59, rfl, rfl, by kernel_rfl, by decide⟩
theorem fld_70_0 : Fld Tryz.prog 70 0 0 16 := ⟨_, _, Tryz.underlying70, rfl, rfl, by kernel_rfl, by decide⟩
theorem fld_70_1 : Fld Tryz.prog 70 1 16 4 := ⟨_, _, Tryz.underlying70, rfl, rfl, by kernel_rfl, by decide⟩
theorem fld_70_2 : Fld Tryz.prog 70 2 20 4 := ⟨_, _, Tryz.underlying70, rfl, rfl, by kernel_rfl, by decide⟩
theorem sl_47 : Sl Tryz.prog 47 26 4 := ⟨by kernel_rfl, by kernel_rfl⟩
theorem ty_26 : Ty Tryz.prog 26 4 true := ⟨by kernel_rfl, by kernel_rfl⟩
theorem ty_36 : Ty Tryz.prog 36 8 true := ⟨by kernel_rfl, by kernel_rfl⟩
theorem ty_70 : Ty Tryz.prog 70 24 true := ⟨by kernel_rfl, by kernel_rfl⟩
end FilD
open FilD
section
variable {P : Program} {R : Rg} {Q : Exit → Act → World → Prop} {B i : Nat} {w0 : Bs}
/-- a slice of structs, written out: a row that is a variable of its own. -/
theorem ob_bsl {e d n : Nat} {S E : TypeId} {l : List As} {m : Nat} {xs : List Operand} {st : Option (Nat × As)} {ps' : Array (Nat × Operand)} {ty : TypeId} {ps : String} {af : Array Edge} (hs : R.sp[i]? = some (.alc e)) (he : R.les[e]? = some ⟨d, E, slH n n, some i, cat l, st⟩)
    (ho : R.ops[i]? = some ⟨some d, .buildSlice S n ps', ty, ps, af, none⟩) (hS : Sl P S E m) (hz : ((P.info? E).bind (·.zero)).isSome = true) (hm : ∀ A ∈ l, A.n = m) (hm0 : 0 < m) (hl0 : 0 < l.length) (hsmall : l.length * m ≤ 16777216)
    (hx : All2 (fun (A : As) x => Has R B w0 i x A.va) l xs) (hps : ps'.toList = (xs.zipIdx 0).map fun x => (x.2, x.1)) (hn : n = l.length) : R.Ob P Q B w0 i := by
  unfold Rg.Ob
  simp only [hs, he]
  intro a w av K hK
  subst hn
  obtain ⟨hs1, hs2⟩ := hS
  cases hi : P.info? E with
  | none => rw [hi] at hs2; simp at hs2
  | some it =>
    rw [hi] at hs2 hz
    have hsz : it.size = m := by simpa using hs2
    obtain ⟨z, hzz⟩ := Option.isSome_iff_exists.1 hz
    simp only [Option.bind_some] at hzz
    have hvs : All2 (fun (A : As) v => A.va.p B v w) l (xs.map a.eval) := by
      clear hps hm hl0 hsmall ho he hK
      induction hx with
      | nil => exact .nil
      | cons h _ ih => exact .cons (h a w av) ih
    have hlen := hvs.length
    have hvn : ∀ v ∈ xs.map a.eval, v.cells.size = m := by
      intro v hv
      obtain ⟨k, hk⟩ := List.getElem?_of_mem hv
      have hkl : k < l.length := by rw [hlen]; exact (List.getElem?_eq_some_iff.1 hk).1
      obtain ⟨v', hv', cs, hp, he⟩ := hvs.get (List.getElem?_eq_getElem hkl)
      rw [hk] at hv'
      injection hv' with hv'
      subst hv'
      rw [he, As.cells_shape _ hp]
      have := As.len _ _ _ _ hp
      simp [this]
      exact hm _ (by simp)
    have hf := Great.fill_whole hm0 (xs.map a.eval) ((Array.range (l.length * m)).map (z.cells[· % z.cells.size]!)) hvn (by simp [hlen])
    have hrun := run_buildSlice (P := P) w S E l.length (ps'.map fun x => (x.1, a.eval x.2)) ((xs.map a.eval).flatMap fun v => v.cells.toList).toArray it z hs1 hi hzz (by rw [hsz]; omega) (by rw [hsz]; exact Nat.ne_of_gt (Nat.mul_pos hl0 hm0)) (by
      rw [hsz, ← hf]
      congr 1
      rw [Array.toList_map, hps]
      simp [List.zipIdx_map, List.map_map, Function.comp_def])
    refine wpOp_of ho rfl (wp_value (w' := w.alloc (.cells ((xs.map a.eval).flatMap fun v => v.cells.toList).toArray E)) (v := .slice (some ⟨w.heap.size, 0, none⟩) l.length l.length) ?_ (hK w.heap.size _ _ (Grow.alloc _ _) (Nat.le_refl _) (heap_alloc_new w _) ((cat l).grow _ _ _ _ (Grow.alloc _ _) (flatMap_va hvs))))
    simp [execOp, hrun]
end

def okP (x : RF) : Bool := !((![x].all okX) || decide ((toQ x).num.sign ≤ 0))
def two (h g : RF) (j : Nat) : RF := if j = 0 then h else g
theorem two_at {h g : RF} {j : Nat} (hj : j < 2) : [RFA h, RFA g][j]? = some (RFA (two h g j)) :=
  match j, hj with
  | 0, _ => rfl
  | 1, _ => rfl
theorem okP_no {x : RF} (h : ((![x].all okX) || decide ((toQ x).num.sign ≤ 0)) = true) : okP x = false := by rw [okP, h]; rfl
theorem okP_yes {x : RF} (h : ((![x].all okX) || decide ((toQ x).num.sign ≤ 0)) = false) : okP x = true := by rw [okP, h]; rfl
theorem okP_q {x : RF} (h : okP x = true) : okX x = true ∧ 0 < toQ x := by
  unfold okP at h
  rw [Bool.not_eq_true', Bool.or_eq_false_iff, Bool.not_eq_false'] at h
  refine ⟨by simpa using h.1, Decidable.byContradiction fun h2 => (of_decide_eq_false h.2) (sgn_le.2 h2)⟩
theorem sgn_p {x : RF} (h : (![x].all okX) = false) : Cn Tryz.prog 33 [(RFA x).va] (In (toQ x).num.sign) := by
  rw [Bool.not_eq_false'] at h
  exact sign_q.wk (.cons (qa_x (by simpa using h) (Nat.le_refl 2048)).va .nil)
def overF (h g : RF) (xs : List RR) : (RM × RF × RF) × Int := if okP h && okP g then (if mayS xs = 0 then ((rmOf (filmQ xs), h, g), 0) else (lt0, mayS xs)) else (lt0, 1)
abbrev OvR (r : (RM × RF × RF) × Int) : VA := Tu [(LtA r.1).va, In r.2]
theorem two_no {h g : RF} {j : Nat} (hj : j < 2) (h2 : okP (two h g j) = false) : (okP h && okP g) = false := by
  match j, hj with
  | 0, _ => have : okP h = false := h2; rw [this]; rfl
  | 1, _ => have : okP g = false := h2; rw [this, Bool.and_false]
theorem twoP_ok {h g : RF} (h2 : ∀ i, i < 2 → okP (two h g i) = true) : (okP h && okP g) = true := by
  have e0 : okP h = true := h2 0 (by decide)
  have e1 : okP g = true := h2 1 (by decide)
  rw [e0, e1]
  rfl
theorem two_nx {h g : RF} {j : Nat} (h1 : ∀ i, i < j → okP (two h g i) = true) (h2 : okP (two h g j) = true) : ∀ i, i < j + 1 → okP (two h g i) = true := fun i hi => by
  by_cases e : i = j
  · rw [e]; exact h2
  · exact h1 i (by omega)

set_option maxRecDepth 100000 in
set_option maxHeartbeats 2000000 in
theorem over_c (h g : RF) (xs : List RR) : Cn Tryz.prog 39 [(RFA h).va, (RFA g).va, (SlA 28 [U32] (xs.map RRA)).va] (OvR (overF h g xs)) := by
  refine Cn.introF Tryz.func39 rfl (by kernel_rfl) nq (fun B w0 a hF hst => ?_)
  have hst : St B w0 41 [(0, (RFA h).va), (1, (RFA g).va), (2, (SlA 28 [U32] (xs.map RRA)).va)] [] a w0.w := hst
  obtain ⟨v2, hv2, hst⟩ := St.eqv hst 2 rfl
  refine wp_seq ?_
  refine gl (sts := []) (news := [⟨3, 26, ptrH, some 0, _, none⟩, ⟨4, 26, ptrH, some 1, _, none⟩, ⟨6, 70, ptrH, some 2, _, none⟩]) (sp := [.alc 0, .alc 1, .alc 2, .val 7 _]) [.g 2, .o 3] hst (oc (ob_box rfl rfl rfl (gq 0 rfl)) (oc (ob_box rfl rfl rfl (gq 1 rfl)) (oc (ob_alc rfl rfl rfl (Str.zero str_light)) (oc (ob_v rfl rfl (r_assign has_num)) o0)))) (fun a w hst => ?_)
  have hst : St B w0 41 [(2, _), (7, _)] [⟨3, 26, ptrH, _⟩, ⟨4, 26, ptrH, _⟩, ⟨6, 70, ptrH, _⟩] a w := hst
  refine thn_normal ?_
  refine wp_seq ?_
  refine wp_seq ?_
  refine gl (sts := [none, none, none]) (news := [⟨13, 26, slH 2 2, some 2, _, none⟩]) (sp := [.val 11 _, .val 12 _, .alc 3, .val 14 _, .val 15 _]) [.g 0, .g 1, .o 3, .o 4] hst (oc (ob_v rfl rfl (r_load (lz0 0 rfl) ty_26)) (oc (ob_v rfl rfl (r_load (lz0 1 rfl) ty_26)) (oc (ob_bsl (l := [_, _]) (xs := [.tmp 11, .tmp 12]) rfl rfl rfl sl_47 (by kernel_rfl) (n_ok (by kernel_rfl)) nq nq nq (.cons (vq 0 rfl) (.cons (vq 1 rfl) .nil)) rfl rfl) (oc (ob_v rfl rfl (r_lenL (lz0 3 rfl) Tryz.underlying47)) (oc (ob_v rfl rfl (r_move has_num)) o0))))) (fun a w hst => ?_)
  have hst : St B w0 41 [(2, _), (7, _), (14, _), (15, _)] [⟨3, 26, ptrH, _⟩, ⟨4, 26, ptrH, _⟩, ⟨6, 70, ptrH, _⟩, ⟨13, 26, slH 2 2, _⟩] a w := hst
  refine thn_normal ?_
  refine wp_block ?_
  have hst := St.sel hst [0, 2, 3]
  refine wp_loop_ghost (fun n a w => ∃ j : Nat, (n + j = 2 ∧ ∀ i, i < j → okP (two h g i) = true) ∧ St B w0 41 [(2, EqV v2), (14, In (2 : Nat)), (15, In (j : Nat))] [⟨3, 26, ptrH, RFA h⟩, ⟨4, 26, ptrH, RFA g⟩, ⟨6, 70, ptrH, LtA lt0⟩, ⟨13, 26, slH 2 2, cat [RFA h, RFA g]⟩] a w) (2) ?_ ?_
  · exact ⟨0, ⟨rfl, fun i hi => absurd hi (Nat.not_lt_zero i)⟩, hst⟩
  intro n a w hI
  obtain ⟨j, ⟨hn, hno⟩, hst⟩ := hI
  refine wp_seq ?_
  refine gl (sts := [none, none, none, none]) (news := []) (sp := [.val 16 _]) [.g 0, .g 1, .g 2, .o 0] hst (oc (ob_v rfl rfl (r_lss (gq 2 rfl) (gq 1 rfl))) o0) (fun a w hst => ?_)
  have hst : St B w0 41 [(2, _), (14, _), (15, _), (16, _)] [⟨3, 26, ptrH, _⟩, ⟨4, 26, ptrH, _⟩, ⟨6, 70, ptrH, _⟩, ⟨13, 26, slH 2 2, _⟩] a w := hst
  refine thn_normal ?_
  refine wp_seq ?_
  refine cond_of hst (List.mem_of_getElem? (i := 3) rfl) (fun hb0 => ?_) (fun hb0 => ?_)
  · have hj : j < 2 := by have := of_decide_eq_true hb0; omega
    refine wp_skip ?_
    refine thn_normal ?_
    refine wp_seq ?_
    refine wp_block ?_
    refine wp_seq ?_
    refine gl (sts := [none, none, none, none]) (news := [⟨9, 26, ptrH, some 2, _, some (3, _)⟩]) (sp := [.val 17 _, .val 18 _, .alc 4, .sto 4]) [.g 0, .g 1, .g 2] hst (oc (ob_v rfl rfl (r_rowv (lz0 3 rfl) sl_47 (n_ok (by kernel_rfl)) (gq 2 rfl) (two_at hj) rfl)) (oc (ob_v rfl rfl (r_loade (vq 0 rfl) ty_26)) (oc (ob_alc rfl rfl rfl (Str.zero str_frac)) (oc (ob_sto rfl rfl rfl (vq 1 rfl) ty_26 (Eq.trans (b := 4) rfl rfl)) o0)))) (fun a w hst => ?_)
    have hst : St B w0 41 [(2, _), (14, _), (15, _)] [⟨3, 26, ptrH, _⟩, ⟨4, 26, ptrH, _⟩, ⟨6, 70, ptrH, _⟩, ⟨13, 26, slH 2 2, _⟩, ⟨9, 26, ptrH, _⟩] a w := hst
    refine thn_normal ?_
    refine wp_seq ?_
    refine gl (sts := [none, none, none, none, none]) (news := []) (sp := [.val 19 _, .val 20 _, .val 21 _, .val 22 _, .val 23 _, .val 24 (Wh (_ = false) _), .val 25 (Wh (_ = false) _), .val 26 (Wh (_ = false) _), .val 27 _]) [.g 0, .g 1, .g 2, .o 8] hst (oc (ob_v rfl rfl (r_load (lz0 4 rfl) ty_26)) (oc (ob_v rfl rfl (r_slice (D := [U32]) (l := [_]) (xs := [.tmp 19]) (nd_ok (by kernel_rfl)) sl_47 (by kernel_rfl) (n_ok (by kernel_rfl)) nq nq nq (.cons (vq 0 rfl) .nil) rfl rfl)) (oc (ob_v rfl rfl (r_call (xs := [.tmp 20]) (checks_c [_] nq) (.cons (vq 1 rfl) .nil))) (oc (ob_v rfl rfl (r_not (vq 2 rfl))) (oc (ob_v rfl rfl (r_move (vq 3 rfl))) (oc (ob_gd rfl rfl rfl (vq 4 rfl) nq (fun hg => r_load (lz0 4 rfl) ty_26)) (oc (ob_gd rfl rfl rfl (vq 4 rfl) nq (fun hg => r_call (xs := [.tmp 24]) (sgn_p hg) (.cons (has_wh (vq 5 rfl) hg) .nil))) (oc (ob_gd rfl rfl rfl (vq 4 rfl) nq (fun hg => r_leq (has_wh (vq 6 rfl) hg) has_num)) (oc (ob_v rfl rfl (r_or (vq 4 rfl) (vq 7 rfl))) o0))))))))) (fun a w hst => ?_)
    have hst : St B w0 41 [(2, _), (14, _), (15, _), (27, _)] [⟨3, 26, ptrH, _⟩, ⟨4, 26, ptrH, _⟩, ⟨6, 70, ptrH, _⟩, ⟨13, 26, slH 2 2, _⟩, ⟨9, 26, ptrH, _⟩] a w := hst
    refine thn_normal ?_
    refine cond_of hst (List.mem_of_getElem? (i := 3) rfl) (fun hb1 => ?_) (fun hb1 => ?_)
    · refine wp_seq ?_
      refine gl (sts := [none, none, some (1, _), none, none]) (news := []) (sp := [.val 28 _, .sto 2, .val 7 _]) [.g 0, .g 1, .g 2, .o 2] hst (oc (ob_v rfl rfl (r_build (xs := []) (qs := []) str_light .nil)) (oc (ob_sto rfl rfl rfl (vq 0 rfl) ty_70 (Eq.trans (b := 24) rfl rfl)) (oc (ob_v rfl rfl (r_assign has_num)) o0))) (fun a w hst => ?_)
      have hst : St B w0 41 [(2, _), (14, _), (15, _), (7, _)] [⟨3, 26, ptrH, _⟩, ⟨4, 26, ptrH, _⟩, ⟨6, 70, ptrH, _⟩, ⟨13, 26, slH 2 2, _⟩, ⟨9, 26, ptrH, _⟩] a w := hst
      refine thn_normal ?_
      refine wp_ret ?_
      refine blk_ret ?_
      refine thn_ret ?_
      refine thn_ret ?_
      refine blk_ret ?_
      refine thn_ret ?_
      refine ret_wk ?_ (ret_many (rs := [.cell 6 70, .tmp 7]) rfl hst (.cell (List.mem_of_getElem? (i := 2) rfl) ty_70 (.tmp (List.mem_of_getElem? (i := 3) rfl) .nil)) (by decide))
      rw [overF, two_no hj (okP_no hb1)]; exact wk_id
    · refine wp_skip ?_
      refine blk_normal ?_
      refine thn_normal ?_
      refine gl (sts := [none, none, none, none, none]) (news := []) (sp := [.val 29 _, .val 15 _]) [.g 0, .g 1, .o 1] hst (oc (ob_v rfl rfl (r_add (gq 2 rfl) has_num ((wi64 (by omega) (by omega)).trans (by omega : (_ : Int) = ((j + 1 : Nat) : Int))))) (oc (ob_v rfl rfl (r_move (vq 0 rfl))) o0)) (fun a w hst => ?_)
      have hst : St B w0 41 [(2, _), (14, _), (15, _)] [⟨3, 26, ptrH, _⟩, ⟨4, 26, ptrH, _⟩, ⟨6, 70, ptrH, _⟩, ⟨13, 26, slH 2 2, _⟩, ⟨9, 26, ptrH, _⟩] a w := hst
      refine thn_normal ?_
      have hst := St.sel hst [0, 1, 2]
      have hst := St.selL hst [0, 1, 2, 3]
      exact ⟨n - 1, by omega, j + 1, ⟨by omega, two_nx hno (okP_yes hb1)⟩, hst⟩
  · obtain rfl : j = 2 := by have := of_decide_eq_false hb0; omega
    refine wp_exit ?_
    refine thn_exit ?_
    refine thn_exit ?_
    refine blk_exit ?_
    refine thn_normal ?_
    refine wp_seq ?_
    refine wp_seq ?_
    refine gl (sts := [none, none, none, none]) (news := []) (sp := [.val 30 _, .val 31 _, .val 10 _]) [.g 0, .o 2] hst (oc (ob_v rfl rfl (r_move (gq 0 rfl))) (oc (ob_v rfl rfl (r_call (xs := [.tmp 30]) (filMay_c xs) (.cons (has_again hF hv2 (vq 0 rfl)) .nil))) (oc (ob_v rfl rfl (r_assign (vq 1 rfl))) o0))) (fun a w hst => ?_)
    have hst : St B w0 41 [(2, _), (10, _)] [⟨3, 26, ptrH, _⟩, ⟨4, 26, ptrH, _⟩, ⟨6, 70, ptrH, _⟩, ⟨13, 26, slH 2 2, _⟩] a w := hst
    refine thn_normal ?_
    refine wp_seq ?_
    refine gl (sts := [none, none, none, none]) (news := []) (sp := [.val 32 _, .val 33 _]) [.g 0, .g 1, .o 1] hst (oc (ob_v rfl rfl (r_move (gq 1 rfl))) (oc (ob_v rfl rfl (r_neq (vq 0 rfl) has_num)) o0)) (fun a w hst => ?_)
    have hst : St B w0 41 [(2, _), (10, _), (33, _)] [⟨3, 26, ptrH, _⟩, ⟨4, 26, ptrH, _⟩, ⟨6, 70, ptrH, _⟩, ⟨13, 26, slH 2 2, _⟩] a w := hst
    refine thn_normal ?_
    refine cond_of hst (List.mem_of_getElem? (i := 2) rfl) (fun hb2 => ?_) (fun hb2 => ?_)
    · have hc : ¬ mayS xs = 0 := by simpa using hb2
      refine wp_seq ?_
      refine gl (sts := [none, none, some (2, _), none]) (news := []) (sp := [.val 34 _, .val 35 _, .sto 2, .val 7 _]) [.g 0, .o 3] hst (oc (ob_v rfl rfl (r_build (xs := []) (qs := []) str_light .nil)) (oc (ob_v rfl rfl (r_move (gq 1 rfl))) (oc (ob_sto rfl rfl rfl (vq 0 rfl) ty_70 (Eq.trans (b := 24) rfl rfl)) (oc (ob_v rfl rfl (r_assign (vq 1 rfl))) o0)))) (fun a w hst => ?_)
      have hst : St B w0 41 [(2, _), (7, _)] [⟨3, 26, ptrH, _⟩, ⟨4, 26, ptrH, _⟩, ⟨6, 70, ptrH, _⟩, ⟨13, 26, slH 2 2, _⟩] a w := hst
      refine thn_normal ?_
      refine wp_ret ?_
      refine thn_ret ?_
      refine ret_wk ?_ (ret_many (rs := [.cell 6 70, .tmp 7]) rfl hst (.cell (List.mem_of_getElem? (i := 2) rfl) ty_70 (.tmp (List.mem_of_getElem? (i := 1) rfl) .nil)) (by decide))
      rw [overF, twoP_ok hno, if_pos rfl, if_neg hc]; exact wk_id
    · have hc : mayS xs = 0 := by simpa using hb2
      have hk := may_ok hc
      refine wp_skip ?_
      refine thn_normal ?_
      refine wp_seq ?_
      refine go_draw (anc := [[], [0], [], [], [0, 1, 2, 3], [0, 1, 2, 3, 4], [0, 1, 2, 3, 4, 5]]) (sts := [none, none, some (5, _), none]) (news := []) (sp := [.val 36 _, .val 37 _, .val 38 _, .val 39 _, .val 40 _, .sto 2, .val 7 _]) [.o 6] follows_mixed hst (oc (ob_v rfl rfl (r_move (gq 0 rfl))) (oc (ob_v rfl rfl (r_call (xs := [.tmp 36]) (film_c hk.1 hk.2) (.cons (has_again hF hv2 (vq 0 rfl)) .nil))) (oc (ob_v rfl rfl (r_load (lz0 0 rfl) ty_26)) (oc (ob_v rfl rfl (r_load (lz0 1 rfl) ty_26)) (oc (ob_v rfl rfl (r_build (xs := [(0, .tmp 37), (1, .tmp 38), (2, .tmp 39)]) (qs := [(0, _), (1, _), (2, _)]) str_light (.cons ⟨rfl, (vq 1 rfl), rfl⟩ (.cons ⟨rfl, (vq 2 rfl), rfl⟩ (.cons ⟨rfl, (vq 3 rfl), rfl⟩ .nil))))) (oc (ob_sto rfl rfl rfl (vq 4 rfl) ty_70 (Eq.trans (b := 24) rfl rfl)) (oc (ob_v rfl rfl (r_assign has_num)) o0))))))) (by kernel_rfl) (by kernel_rfl) (by kernel_rfl) (by kernel_rfl) (fun a w hst => ?_)
      have hst : St B w0 41 [(7, _)] [⟨3, 26, ptrH, _⟩, ⟨4, 26, ptrH, _⟩, ⟨6, 70, ptrH, _⟩, ⟨13, 26, slH 2 2, _⟩] a w := hst
      refine thn_normal ?_
      refine wp_ret ?_
      refine ret_wk ?_ (ret_many (rs := [.cell 6 70, .tmp 7]) rfl hst (.cell (List.mem_of_getElem? (i := 2) rfl) ty_70 (.tmp (List.mem_of_getElem? (i := 0) rfl) .nil)) (by decide))
      rw [overF, twoP_ok hno, if_pos rfl, if_pos hc]; exact tu2w (cat_wk (.cons qmA (.cons (WkA.refl _) (.cons (WkA.refl _) .nil)))).va wk_id

def bV (m : MQ) (h g : Rat) : GQ := ⟨h * m.a, h * (m.b * g)⟩
def kV (m : MQ) (_ g : Rat) : GQ := ⟨m.d * g, m.c⟩
def sV (m : MQ) (h g : Rat) : GQ := addG (bV m h g) (kV m h g)
def backV (m : MQ) (h g : Rat) : GQ := overG (subG (bV m h g) (kV m h g)) (sV m h g)
def thrV (m : MQ) (h g : Rat) : GQ := overG ⟨h + h, 0⟩ (sV m h g)
theorem gk {k l p : Nat} {x y : Rat} (h1 : k ≤ p) (h2 : l ≤ p) : WkA (cat [QA k x, QA l y]) (QGA p ⟨x, y⟩) := cat_wk (.cons (qa_mono h1) (.cons (qa_mono h2) .nil))

set_option maxRecDepth 100000 in
set_option maxHeartbeats 2000000 in
theorem waves_q {m : MQ} {h g : Rat} (hn : normG (sV m h g) ≠ 0) : Cn Tryz.prog 40 [(QLtA 1048705 2048 2048 m h g).va] (Tu [(QGA 30000000 (backV m h g)).va, (QGA 30000000 (thrV m h g)).va]) := by
  refine Cn.intro Tryz.func40 rfl (by kernel_rfl) nq (fun B w0 a hst => ?_)
  have hst : St B w0 49 [(0, (QLtA 1048705 2048 2048 m h g).va)] [] a w0.w := hst
  refine wp_seq ?_
  refine gl (sts := []) (news := [⟨1, 70, ptrH, some 0, _, none⟩, ⟨2, 36, ptrH, some 1, _, none⟩, ⟨3, 36, ptrH, some 2, _, none⟩]) (sp := [.alc 0, .alc 1, .alc 2]) [] hst (oc (ob_box rfl rfl rfl (gq 0 rfl)) (oc (ob_alc rfl rfl rfl (Str.zero str_gauss)) (oc (ob_alc rfl rfl rfl (Str.zero str_gauss)) o0))) (fun a w hst => ?_)
  have hst : St B w0 49 [] [⟨1, 70, ptrH, _⟩, ⟨2, 36, ptrH, _⟩, ⟨3, 36, ptrH, _⟩] a w := hst
  refine thn_normal ?_
  refine wp_seq ?_
  refine go_draw (anc := [[], [0], [], [2], [2, 3], [0, 1, 2, 3, 4], [], [6], [], [8], [8, 9], [], [11], [0, 1, 2, 3, 4, 5, 8, 9, 10, 11, 12], [0, 1, 2, 3, 4, 5, 6, 7, 8, 9, 10, 11, 12, 13], [0, 1, 2, 3, 4, 5, 6, 7, 8, 9, 10, 11, 12, 13, 14], [], [0, 1, 2, 3, 4, 5, 6, 7, 8, 9, 10, 11, 12, 13, 14, 15, 16]]) (sts := [none, none, none]) (news := [⟨4, 36, ptrH, some 16, _, some (17, _)⟩]) (sp := [.adr 7 1 (.some 16) True, .val 8 _, .adr 9 1 (.some 0) True, .adr 10 1 (.some (0 + 0)) True, .val 11 _, .val 12 _, .adr 13 1 (.some 16) True, .val 14 _, .adr 15 1 (.some 0) True, .adr 16 1 (.some (0 + 4)) True, .val 17 _, .adr 18 1 (.some 20) True, .val 19 _, .val 20 _, .val 21 _, .val 22 _, .alc 3, .sto 3]) [] follows_mixed hst (oc (ob_a rfl rfl (a_fld (lz0 0 rfl) fld_70_1)) (oc (ob_v rfl rfl (r_loadf 0 rfl (by kernel_rfl) trivial (lz0 0 rfl) (Sub.part 1 rfl rfl) ty_26)) (oc (ob_a rfl rfl (a_fld (lz0 0 rfl) fld_70_0)) (oc (ob_a rfl rfl (a_fld2 2 rfl (by kernel_rfl) trivial (lz0 0 rfl) fld_59_0)) (oc (ob_v rfl rfl (r_loadf 3 rfl (by kernel_rfl) trivial (lz0 0 rfl) (Sub.trans (Sub.part 0 rfl rfl) (Sub.part 0 rfl rfl) rfl) ty_26)) (oc (ob_v rfl rfl (r_call (xs := [.tmp 8, .tmp 11]) (times_q (by decide)) (.cons (vq 1 rfl) (.cons (vq 4 rfl) .nil)))) (oc (ob_a rfl rfl (a_fld (lz0 0 rfl) fld_70_1)) (oc (ob_v rfl rfl (r_loadf 6 rfl (by kernel_rfl) trivial (lz0 0 rfl) (Sub.part 1 rfl rfl) ty_26)) (oc (ob_a rfl rfl (a_fld (lz0 0 rfl) fld_70_0)) (oc (ob_a rfl rfl (a_fld2 8 rfl (by kernel_rfl) trivial (lz0 0 rfl) fld_59_1)) (oc (ob_v rfl rfl (r_loadf 9 rfl (by kernel_rfl) trivial (lz0 0 rfl) (Sub.trans (Sub.part 0 rfl rfl) (Sub.part 1 rfl rfl) rfl) ty_26)) (oc (ob_a rfl rfl (a_fld (lz0 0 rfl) fld_70_2)) (oc (ob_v rfl rfl (r_loadf 11 rfl (by kernel_rfl) trivial (lz0 0 rfl) (Sub.part 2 rfl rfl) ty_26)) (oc (ob_v rfl rfl (r_call (xs := [.tmp 17, .tmp 19]) (times_q (by decide)) (.cons (vq 10 rfl) (.cons (vq 12 rfl) .nil)))) (oc (ob_v rfl rfl (r_call (xs := [.tmp 14, .tmp 20]) (times_q (by decide)) (.cons (vq 7 rfl) (.cons (vq 13 rfl) .nil)))) (oc (ob_v rfl rfl (r_build (xs := [(0, .tmp 12), (1, .tmp 21)]) (qs := [(0, _), (1, _)]) str_gauss (.cons ⟨rfl, (vq 5 rfl), rfl⟩ (.cons ⟨rfl, (vq 14 rfl), rfl⟩ .nil)))) (oc (ob_alc rfl rfl rfl (Str.zero str_gauss)) (oc (ob_sto rfl rfl rfl (vq 15 rfl) ty_36 (Eq.trans (b := 8) rfl rfl)) o0)))))))))))))))))) (by kernel_rfl) (by kernel_rfl) (by kernel_rfl) (by kernel_rfl) (fun a w hst => ?_)
  have hst : St B w0 49 [] [⟨1, 70, ptrH, _⟩, ⟨2, 36, ptrH, _⟩, ⟨3, 36, ptrH, _⟩, ⟨4, 36, ptrH, _⟩] a w := hst
  have hst := St.wkL (A' := QGA 1052801 (bV m h g)) hst 3 rfl (gk (by decide) (by decide))
  refine thn_normal ?_
  refine wp_seq ?_
  refine go_draw (anc := [[], [0], [0, 1], [], [3], [0, 1, 2, 3, 4], [], [6], [6, 7], [0, 1, 2, 3, 4, 5, 6, 7, 8], [], [0, 1, 2, 3, 4, 5, 6, 7, 8, 9, 10]]) (sts := [none, none, none, none]) (news := [⟨5, 36, ptrH, some 10, _, some (11, _)⟩]) (sp := [.adr 23 1 (.some 0) True, .adr 24 1 (.some (0 + 12)) True, .val 25 _, .adr 26 1 (.some 20) True, .val 27 _, .val 28 _, .adr 29 1 (.some 0) True, .adr 30 1 (.some (0 + 8)) True, .val 31 _, .val 32 _, .alc 4, .sto 4]) [] follows_mixed hst (oc (ob_a rfl rfl (a_fld (lz0 0 rfl) fld_70_0)) (oc (ob_a rfl rfl (a_fld2 0 rfl (by kernel_rfl) trivial (lz0 0 rfl) fld_59_3)) (oc (ob_v rfl rfl (r_loadf 1 rfl (by kernel_rfl) trivial (lz0 0 rfl) (Sub.trans (Sub.part 0 rfl rfl) (Sub.part 3 rfl rfl) rfl) ty_26)) (oc (ob_a rfl rfl (a_fld (lz0 0 rfl) fld_70_2)) (oc (ob_v rfl rfl (r_loadf 3 rfl (by kernel_rfl) trivial (lz0 0 rfl) (Sub.part 2 rfl rfl) ty_26)) (oc (ob_v rfl rfl (r_call (xs := [.tmp 25, .tmp 27]) (times_q (by decide)) (.cons (vq 2 rfl) (.cons (vq 4 rfl) .nil)))) (oc (ob_a rfl rfl (a_fld (lz0 0 rfl) fld_70_0)) (oc (ob_a rfl rfl (a_fld2 6 rfl (by kernel_rfl) trivial (lz0 0 rfl) fld_59_2)) (oc (ob_v rfl rfl (r_loadf 7 rfl (by kernel_rfl) trivial (lz0 0 rfl) (Sub.trans (Sub.part 0 rfl rfl) (Sub.part 2 rfl rfl) rfl) ty_26)) (oc (ob_v rfl rfl (r_build (xs := [(0, .tmp 28), (1, .tmp 31)]) (qs := [(0, _), (1, _)]) str_gauss (.cons ⟨rfl, (vq 5 rfl), rfl⟩ (.cons ⟨rfl, (vq 8 rfl), rfl⟩ .nil)))) (oc (ob_alc rfl rfl rfl (Str.zero str_gauss)) (oc (ob_sto rfl rfl rfl (vq 9 rfl) ty_36 (Eq.trans (b := 8) rfl rfl)) o0)))))))))))) (by kernel_rfl) (by kernel_rfl) (by kernel_rfl) (by kernel_rfl) (fun a w hst => ?_)
  have hst : St B w0 49 [] [⟨1, 70, ptrH, _⟩, ⟨2, 36, ptrH, _⟩, ⟨3, 36, ptrH, _⟩, ⟨4, 36, ptrH, _⟩, ⟨5, 36, ptrH, _⟩] a w := hst
  have hst := St.wkL (A' := QGA 1052801 (kV m h g)) hst 4 rfl (gk (by decide) (by decide))
  refine thn_normal ?_
  refine wp_seq ?_
  refine gl (sts := [none, none, none, none, none]) (news := [⟨6, 36, ptrH, some 3, _, some (4, _)⟩]) (sp := [.val 33 _, .val 34 _, .val 35 _, .alc 5, .sto 5]) [] hst (oc (ob_v rfl rfl (r_load (lz0 3 rfl) ty_36)) (oc (ob_v rfl rfl (r_load (lz0 4 rfl) ty_36)) (oc (ob_v rfl rfl (r_call (xs := [.tmp 33, .tmp 34]) (argPlus_q (c := 1052801) (d := 1052801) (z := bV m h g) (u := kV m h g) (by decide)) (.cons (vq 0 rfl) (.cons (vq 1 rfl) .nil)))) (oc (ob_alc rfl rfl rfl (Str.zero str_gauss)) (oc (ob_sto rfl rfl rfl (vq 2 rfl) ty_36 (Eq.trans (b := 8) rfl rfl)) o0))))) (fun a w hst => ?_)
  have hst : St B w0 49 [] [⟨1, 70, ptrH, _⟩, ⟨2, 36, ptrH, _⟩, ⟨3, 36, ptrH, _⟩, ⟨4, 36, ptrH, _⟩, ⟨5, 36, ptrH, _⟩, ⟨6, 36, ptrH, _⟩] a w := hst
  refine thn_normal ?_
  refine wp_seq ?_
  refine go_draw (anc := [[], [], [0, 1], [], [0, 1, 2, 3], [], [5], [], [7], [0, 1, 2, 3, 4, 5, 6, 7, 8], [0, 1, 2, 3, 4, 5, 6, 7, 8, 9], [], [0, 1, 2, 3, 4, 5, 6, 7, 8, 9, 10, 11], [0, 1, 2, 3, 4, 5, 6, 7, 8, 9, 10, 11, 12], [0, 1, 2, 3, 4, 5, 6, 7, 8, 9, 10, 11, 12, 13]]) (sts := [none, some (13, _), some (14, _), none, none, none]) (news := []) (sp := [.val 36 _, .val 37 _, .val 38 _, .val 39 _, .val 40 _, .adr 41 1 (.some 16) True, .val 42 _, .adr 43 1 (.some 16) True, .val 44 _, .val 45 _, .val 46 _, .val 47 _, .val 48 _, .sto 1, .sto 2]) [] follows_mixed hst (oc (ob_v rfl rfl (r_load (lz0 3 rfl) ty_36)) (oc (ob_v rfl rfl (r_load (lz0 4 rfl) ty_36)) (oc (ob_v rfl rfl (r_call (xs := [.tmp 36, .tmp 37]) (argMinus_q (c := 1052801) (d := 1052801) (z := bV m h g) (u := kV m h g) (by decide)) (.cons (vq 0 rfl) (.cons (vq 1 rfl) .nil)))) (oc (ob_v rfl rfl (r_load (lz0 5 rfl) ty_36)) (oc (ob_v rfl rfl (r_call (xs := [.tmp 38, .tmp 39]) (argOver_q (c := 2105603) (d := 2105603) (z := subG (bV m h g) (kV m h g)) (u := sV m h g) (by decide) hn) (.cons (vq 2 rfl) (.cons (vq 3 rfl) .nil)))) (oc (ob_a rfl rfl (a_fld (lz0 0 rfl) fld_70_1)) (oc (ob_v rfl rfl (r_loadf 5 rfl (by kernel_rfl) trivial (lz0 0 rfl) (Sub.part 1 rfl rfl) ty_26)) (oc (ob_a rfl rfl (a_fld (lz0 0 rfl) fld_70_1)) (oc (ob_v rfl rfl (r_loadf 7 rfl (by kernel_rfl) trivial (lz0 0 rfl) (Sub.part 1 rfl rfl) ty_26)) (oc (ob_v rfl rfl (r_call (xs := [.tmp 42, .tmp 44]) (plus_q (by decide)) (.cons (vq 6 rfl) (.cons (vq 8 rfl) .nil)))) (oc (ob_v rfl rfl (r_call (xs := [.tmp 45]) (real_q (c := 4097) (by decide)) (.cons (vq 9 rfl) .nil))) (oc (ob_v rfl rfl (r_load (lz0 5 rfl) ty_36)) (oc (ob_v rfl rfl (r_call (xs := [.tmp 46, .tmp 47]) (argOver_q (c := 4099) (d := 2105603) (z := ⟨h + h, 0⟩) (u := sV m h g) (by decide) hn) (.cons (vq 10 rfl) (.cons (vq 11 rfl) .nil)))) (oc (ob_sto rfl rfl rfl (vq 4 rfl) ty_36 (Eq.trans (b := 8) rfl rfl)) (oc (ob_sto rfl rfl rfl (vq 12 rfl) ty_36 (Eq.trans (b := 8) rfl rfl)) o0))))))))))))))) (by kernel_rfl) (by kernel_rfl) (by kernel_rfl) (by kernel_rfl) (fun a w hst => ?_)
  have hst : St B w0 49 [] [⟨1, 70, ptrH, _⟩, ⟨2, 36, ptrH, _⟩, ⟨3, 36, ptrH, _⟩, ⟨4, 36, ptrH, _⟩, ⟨5, 36, ptrH, _⟩, ⟨6, 36, ptrH, _⟩] a w := hst
  refine thn_normal ?_
  refine wp_ret ?_
  refine ret_wk ?_ (ret_many (rs := [.cell 2 36, .cell 3 36]) rfl hst (.cell (List.mem_of_getElem? (i := 1) rfl) ty_36 (.cell (List.mem_of_getElem? (i := 2) rfl) ty_36 .nil)) (by decide))
  exact tu2w (qg_mono2 (by decide)).va (qg_mono2 (by decide)).va

/-! what is thrown back -/
def rV (m : MQ) (h g : Rat) : Rat := normG (subG (bV m h g) (kV m h g)) / normG (sV m h g)
def dtp (m : MQ) : Rat := m.a * m.d + m.b * m.c
theorem dtp_phi (m : MQ) : detM (phi m) = dtp m := by unfold detM phi dtp; grind
theorem dtp_then (m n : MQ) : dtp (thenQ m n) = dtp m * dtp n := by rw [← dtp_phi, phi_then, det_mul, dtp_phi, dtp_phi]
theorem unit_1 {A B' N : Rat} (h : N ≠ 0) (e : A * A + B' * B' = N * N) : A / N * (A / N) + B' / N * (B' / N) = 1 := by grind
theorem unit_n (t : Rat) : (unitG t).re * (unitG t).re + (unitG t).im * (unitG t).im = 1 := by
  obtain ⟨u1, u2⟩ := unit_e t
  rw [u1, u2]
  have hN : (((t.den : Int) * (t.den : Int) + t.num * t.num : Int) : Rat) ≠ 0 := fun e => norm_z t (by
    unfold normG zG
    simp only
    rw [Rat.intCast_add, Rat.intCast_mul, Rat.intCast_mul] at e
    exact e)
  refine unit_1 hN ?_
  simp only [Rat.intCast_add, Rat.intCast_sub, Rat.intCast_mul]
  grind
theorem sh_det {n t : Rat} (h0 : n ≠ 0) : dtp (shQ n t) = 1 := by
  have h := unit_n t
  unfold dtp shQ
  simp only
  generalize (unitG t).re = x at *
  generalize (unitG t).im = y at *
  have e : y / n * (y * n) = y * y := by grind
  rw [e]
  exact h
theorem film_det {xs : List RR} (h : xs.all okH = true) : dtp (filmQ xs) = 1 := by
  have key : ∀ j, j ≤ xs.length → dtp (filmQ (xs.take j)) = 1 := by
    intro j
    induction j with
    | zero => intro _; show (1 : Rat) * 1 + 0 * 0 = 1; grind
    | succ j ih =>
      intro hj
      have ho := List.all_eq_true.1 h _ (List.getElem_mem (show j < xs.length by omega))
      have e : dtp (shM xs[j]) = 1 := sh_det (Rat.ne_of_gt (okH_q ho).2)
      rw [film_nx (by omega), dtp_then, ih (by omega), e]
      exact Rat.one_mul 1
  have := key xs.length (Nat.le_refl _)
  rwa [List.take_length] at this
theorem sum_norm {m : MQ} {h g : Rat} (hd : dtp m = 1) : normG (sV m h g) = normG (subG (bV m h g) (kV m h g)) + 4 * (h * g) := by
  unfold dtp at hd
  unfold sV normG addG subG bV kV
  simp only
  have e : 4 * (h * g) = 4 * (h * g) * (m.a * m.d + m.b * m.c) := by rw [hd, Rat.mul_one]
  rw [e]
  grind
theorem norm_nn (z : GQ) : 0 ≤ normG z := Rat.add_nonneg (sq_nn z.re) (sq_nn z.im)
theorem sum_pos {m : MQ} {h g : Rat} (hd : dtp m = 1) (hh : 0 < h) (hg : 0 < g) : 0 < normG (sV m h g) := by
  have h1 := norm_nn (subG (bV m h g) (kV m h g))
  have h2 := Rat.mul_pos hh hg
  rw [sum_norm hd]
  grind
theorem over_norm {x y a b : Rat} (h : a * a + b * b ≠ 0) : (x * a - y * (-b)) * (1 / (a * a + b * b)) * ((x * a - y * (-b)) * (1 / (a * a + b * b))) + (x * (-b) + y * a) * (1 / (a * a + b * b)) * ((x * (-b) + y * a) * (1 / (a * a + b * b))) = (x * x + y * y) / (a * a + b * b) := by grind
theorem norm_over {z u : GQ} (h : normG u ≠ 0) : normG (overG z u) = normG z / normG u := over_norm h
theorem r_val {m : MQ} {h g : Rat} (hn : normG (sV m h g) ≠ 0) : normG (backV m h g) = rV m h g := norm_over hn
theorem t_val {m : MQ} {h g : Rat} (hd : dtp m = 1) (hn : normG (sV m h g) ≠ 0) : 1 - rV m h g = 4 * (h * g) / normG (sV m h g) := by
  have e := sum_norm (h := h) (g := g) hd
  unfold rV
  generalize normG (sV m h g) = N at *
  generalize normG (subG (bV m h g) (kV m h g)) = M at *
  grind
theorem r_nn (m : MQ) (h g : Rat) : 0 ≤ rV m h g := by
  unfold rV
  rw [Rat.div_def]
  by_cases h0 : normG (sV m h g) = 0
  · rw [h0]
    have e : (0 : Rat)⁻¹ = 0 := by grind
    rw [e, Rat.mul_zero]
    exact Rat.le_refl
  · exact Rat.mul_nonneg (norm_nn _) (Rat.le_of_lt (Rat.inv_pos.2 (Rat.lt_iff_le_and_ne.2 ⟨norm_nn _, fun e => h0 e.symm⟩)))
theorem t_pos {m : MQ} {h g : Rat} (hd : dtp m = 1) (hh : 0 < h) (hg : 0 < g) : 0 < 1 - rV m h g := by
  have hp := sum_pos hd hh hg
  rw [t_val hd (Rat.ne_of_gt hp), Rat.div_def]
  exact Rat.mul_pos (Rat.mul_pos (by decide) (Rat.mul_pos hh hg)) (Rat.inv_pos.2 hp)

end Go.Proofs.YtaplgnjnhfljnaaGreat
