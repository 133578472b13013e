/- gauss.Mul, gauss.Add; matrices of four complex numbers held against one another; a row behind a row of one. -/
import Derived.Test.YtaplgnjnhfljnaaGreatFilF
import Derived.Test.YtaplgnjnhfljnaaGreatFilI
import Derived.Test.YtaplgnjnhfljnaaGreatRayE
import Derived.Test.YtaplgnjnhfljnaaGreatBenF
import Derived.ArgAppend
import Derived.Laws.AppendOwn
import Derived.Laws.OwnMore
namespace Go.Proofs.YtaplgnjnhfljnaaGreat
open Go Go.RowKit
namespace FilH
theorem fld_38_0 : Fld Tryz.prog 38 0 0 8 := ⟨_, _, Tryz.underlying38, rfl, rfl, by kernel_rfl, by decide⟩
theorem fld_38_1 : Fld Tryz.prog 38 1 8 8 := ⟨_, _, Tryz.underlying38, rfl, rfl, by kernel_rfl, by decide⟩
theorem fld_38_2 : Fld Tryz.prog 38 2 16 8 := ⟨_, _, Tryz.underlying38, rfl, rfl, by kernel_rfl, by decide⟩
theorem fld_38_3 : Fld Tryz.prog 38 3 24 8 := ⟨_, _, Tryz.underlying38, rfl, rfl, by kernel_rfl, by decide⟩
theorem sl_127 : Sl Tryz.prog 127 36 8 := ⟨by kernel_rfl, by kernel_rfl⟩
theorem ty_36 : Ty Tryz.prog 36 8 true := ⟨by kernel_rfl, by kernel_rfl⟩
end FilH
open FilH
set_option linter.unusedVariables false
abbrev FnGG (e : Nat) (op : GQ → GQ → GQ) : VA := FnV Tryz.prog [26, U32] (fun i : GQ × GQ => [(QGA 2048 i.1).va, (QGA 2048 i.2).va]) (fun i => (QGA e (op i.1 i.2)).va)
def okGG (x : RG) : Bool := [x.re, x.im].all okX
def bthF (op : GQ → GQ → GQ) (x y : RG) : RG × Int := if okGG x && okGG y then ansG (op (toG x) (toG y)) else (rg0, 1)
theorem bt_no {op : GQ → GQ → GQ} {x y : RG} (h : ((![x.re, x.im].all okX) || (![y.re, y.im].all okX)) = true) : bthF op x y = (rg0, 1) := by
  unfold bthF okGG
  rw [← Bool.not_and, Bool.not_eq_true'] at h
  rw [h]; rfl
theorem bt_ok {op : GQ → GQ → GQ} {x y : RG} (h : ((![x.re, x.im].all okX) || (![y.re, y.im].all okX)) = false) : ([x.re, x.im].all okX = true ∧ [y.re, y.im].all okX = true) ∧ bthF op x y = ansG (op (toG x) (toG y)) := by
  unfold bthF okGG
  rw [← Bool.not_and, Bool.not_eq_false'] at h
  rw [h]
  rw [Bool.and_eq_true] at h
  exact ⟨h, rfl⟩
theorem rq_eq {a b : RQ4} : (((decide (a.a = b.a) && decide (a.b = b.b)) && decide (a.c = b.c)) && decide (a.d = b.d)) = decide (a = b) := by
  cases a; cases b; rw [Bool.eq_iff_iff]; simp [and_assoc]
section
variable {P : Program} {R : Rg} {Q : Exit → Act → World → Prop} {B i : Nat} {w0 : Bs}
/-- a row behind a new row that is full. -/
theorem r_appX {x y : Operand} {S E : TypeId} {D : List TypeId} {lx l : List As} {m bytes : Nat} {it : TypeInfo} {z : Value} (hx : Has R B w0 i x (NewR w0.w.heap.size E lx)) (hy : Has R B w0 i y (SlA E D l).va)
    (hS : P.underlying S = some (.slice E)) (hi : P.info? E = some it) (hz : it.zero = some z) (hsz : it.size = m) (hby : it.bytes = bytes) (hzs : z.cells.size = m) (hm0 : 0 < m) (hl : lx.length + l.length ≤ 9000000000000000) (hb6 : (lx.length + l.length) * bytes ≤ 140737488355328) (hDx : ∀ A ∈ lx, ∀ T ∈ A.deps, T ∈ D) (hlx : ∀ A ∈ lx, A.n = m) (hlm : ∀ A ∈ l, A.n = m) (h0 : 0 < lx.length) :
    Wv P Q R B w0 i (.call ⟨.builtin .append, #[x, y], #[S, S]⟩) (SlA E D (lx ++ l)).va :=
  wv_run fun d T ps af gd a w av => by
    obtain ⟨g, dx, hv, hge, hgh, hcx⟩ := hx a w av
    obtain ⟨cs, ⟨hD, Ad, c, ds1, rfl, q1, q2, h5, h6⟩, hu'⟩ := hy a w av
    have hu2 : a.eval y = .slice Ad l.length c := hu'
    have lnx : dx.length = lx.length * m := by rw [(cat lx).len _ _ _ hcx, cat_len hlx]
    have lnl : ds1.length = l.length * m := by rw [(cat l).len _ _ _ h5, cat_len hlm]
    have hold : ∀ j u, dx[j]? = some u → w.cell? ((⟨g, 0, none⟩ : Addr).add j) = some u := fun j u hj => by
      rw [add_k, cell_of_row w g (0 + j) _ _ _ hgh]
      simpa using hj
    have hDD : ∀ A ∈ lx ++ l, ∀ T ∈ A.deps, T ∈ D := fun A hA => by
      rcases List.mem_append.1 hA with hA | hA
      · exact hDx A hA
      · exact hD A hA
    have hone : ∀ u ∈ ds1, u.oneCell' = true := (cat l).one _ _ _ h5
    by_cases hpos : 0 < l.length
    · obtain ⟨g1, o1, rfl, _, _, h8⟩ := h6 hpos
      obtain ⟨v', w', hr, r1, r2⟩ := run_append_arg_grows (P := P) w S T E it z m bytes hS hi hz hsz hby hzs hm0 ⟨g, 0, none⟩ lx.length lx.length dx lnx hold ⟨g1, o1, none⟩ l.length c ds1 lnl (fun j u hj => by rw [add_k]; exact h8 j u hj) (by omega) (by unfold maxLen; omega)
        hb6
      have hg : Grow w w' := ⟨r2.os, r2.tape, r2.output, r2.size, fun k hk => r2.block k hk (by simp)⟩
      refine ⟨v', w', by simp [execOp, resolve, invoke, builtin, hv, hu2, hr, Result.andThen], hg, ?_⟩
      have hc2 : (cat (lx ++ l)).p B (dx ++ ds1) w' := cat_app ((cat lx).grow _ _ _ _ hg hcx) ((cat l).grow _ _ _ _ hg h5)
      have : (OwnR w.heap.size E m D (lx ++ l)).p B v' w' := ⟨fun A hA => by
        rcases List.mem_append.1 hA with hA | hA
        · exact hlx A hA
        · exact hlm A hA, hDD, dx ++ ds1, hc2, by rw [List.length_append]; exact r1⟩
      exact own_sl _ _ _ this
    · have hl0 : l = [] := List.eq_nil_of_length_eq_zero (by omega)
      subst hl0
      have hrow : w.ownsRow w0.w.heap.size E m (.slice (some ⟨g, 0, none⟩) lx.length lx.length) lx.length dx := ⟨lnx, .inr ⟨g, lx.length, dx.toArray, rfl, hge, hgh, Nat.le_refl _, by unfold maxLen; omega, by simpa using lnx, by rw [← lnx]; simp⟩⟩
      have hown : (OwnR w0.w.heap.size E m D lx).p B (.slice (some ⟨g, 0, none⟩) lx.length lx.length) w := ⟨hlx, hDx, dx, hcx, hrow⟩
      cases Ad with
      | none =>
        refine ⟨.slice (some ⟨g, 0, none⟩) lx.length lx.length, w, ?_, Grow.refl w, by rw [List.append_nil]; exact own_sl _ _ _ hown⟩
        have hr := run_app_zero (P := P) (w := w) w0.w.heap.size S T E it m hS hi (.slice (some ⟨g, 0, none⟩) lx.length lx.length) lx.length c dx hrow 
        simp [execOp, resolve, invoke, builtin, hv, hu2, hr, Result.andThen]
      | some ad =>
        have hr := run_append_room (P := P) w S T E it hS hi g lx.length lx.length _ hgh ad 0 c [] (by simp) (fun j u hj => by simp at hj) (fun u hu => by cases hu) (by omega) (by simp [hsz, lnx])
        have e : (w.setRow g ((dx.toArray.toList.take (lx.length * it.size) ++ [] ++ dx.toArray.toList.drop (lx.length * it.size + ([] : List Value).length)).toArray)) = w.setRow g dx.toArray := by simp
        rw [e] at hr
        have hWr := Wr.setRow w g dx.toArray
        have hh := setRow_heap w g _ dx.toArray _ _ hgh
        have hg : Grow w (w.setRow g dx.toArray) := ⟨hWr.os, hWr.tape, hWr.output, by rw [hWr.size]; exact Nat.le_refl _, fun k hk => by
          by_cases hkg : k = g
          · subst hkg; rw [hh, hgh]
          · exact hWr.block k hkg⟩
        refine ⟨.slice (some ⟨g, 0, none⟩) (lx.length + 0) lx.length, w.setRow g dx.toArray, by simp [execOp, resolve, invoke, builtin, hv, hu2, hr, Result.andThen], hg, ?_⟩
        rw [List.append_nil]
        exact own_sl _ _ _ ((OwnR w0.w.heap.size E m D lx).grow _ _ _ _ hg hown)
end

theorem app_shJ : ∃ it z, Tryz.prog.info? 28 = some it ∧ it.zero = some z ∧ it.size = 8 ∧ it.bytes = 128 ∧ z.cells.size = 8 := by
  have h : ((Tryz.prog.info? 28).bind fun it => it.zero.map fun z => (it.size, it.bytes, z.cells.size)) = some (8, 128, 8) := by kernel_rfl
  cases hi : Tryz.prog.info? 28 with
  | none => rw [hi] at h; simp at h
  | some it =>
    rw [hi] at h
    cases hz : it.zero with
    | none => simp [hz] at h
    | some z =>
      simp [hz] at h
      exact ⟨it, z, rfl, hz, h.1, h.2.1, h.2.2⟩
def prF (x1 x2 x3 x4 : RG) : RG := (bthF addG (bthF mulG x1 x2).1 (bthF mulG x3 x4).1).1

set_option maxRecDepth 100000 in
theorem gAnswered_q {c : Nat} {z : GQ} : Cn Tryz.prog 92 [(QGA c z).va] (GR (ansG z)) := by
  refine Cn.intro Tryz.func92 rfl (by kernel_rfl) nq (fun B w0 a hst => ?_)
  have hst : St B w0 13 [(0, (QGA c z).va)] [] a w0.w := hst
  refine wp_seq ?_
  refine gl (sts := []) (news := [⟨1, 36, ptrH, some 0, _, none⟩, ⟨2, 36, ptrH, some 1, _, none⟩]) (sp := [.alc 0, .alc 1, .val 3 _]) [.o 2] hst (oc (ob_box rfl rfl rfl (gq 0 rfl)) (oc (ob_alc rfl rfl rfl (Str.zero str_gauss)) (oc (ob_v rfl rfl (r_assign has_num)) o0))) (fun a w hst => ?_)
  have hst : St B w0 13 [(3, _)] [⟨1, 36, ptrH, _⟩, ⟨2, 36, ptrH, _⟩] a w := hst
  refine thn_normal ?_
  refine wp_seq ?_
  refine wp_seq ?_
  refine gl (sts := [none, none]) (news := []) (sp := [.val 5 _, .val 6 _, .val 7 _, .val 4 _]) [.g 0, .o 3] hst (oc (ob_v rfl rfl (r_load (lz0 0 rfl) ty_36)) (oc (ob_v rfl rfl (r_slice (D := [U32]) (l := [_]) (xs := [.tmp 5]) (nd_ok (by kernel_rfl)) sl_127 (by kernel_rfl) (n_ok (by kernel_rfl)) nq nq nq (.cons (vq 0 rfl) .nil) rfl rfl)) (oc (ob_v rfl rfl (r_call (xs := [.tmp 6]) (argAnswer_q [z] (.cons ⟨_, rfl⟩ .nil) nq) (.cons (vq 1 rfl) .nil))) (oc (ob_v rfl rfl (r_assign (vq 2 rfl))) o0)))) (fun a w hst => ?_)
  have hst : St B w0 13 [(3, _), (4, _)] [⟨1, 36, ptrH, _⟩, ⟨2, 36, ptrH, _⟩] a w := hst
  refine thn_normal ?_
  refine wp_seq ?_
  refine gl (sts := [none, none]) (news := []) (sp := [.val 8 _, .val 9 _]) [.g 0, .g 1, .o 1] hst (oc (ob_v rfl rfl (r_move (gq 1 rfl))) (oc (ob_v rfl rfl (r_neq (vq 0 rfl) has_num)) o0)) (fun a w hst => ?_)
  have hst : St B w0 13 [(3, _), (4, _), (9, _)] [⟨1, 36, ptrH, _⟩, ⟨2, 36, ptrH, _⟩] a w := hst
  refine thn_normal ?_
  refine cond_of hst (List.mem_of_getElem? (i := 2) rfl) (fun hb0 => ?_) (fun hb0 => ?_)
  · rw [one_longG] at hb0
    have hl := ne_any hb0
    refine wp_seq ?_
    refine gl (sts := [none, some (2, _)]) (news := []) (sp := [.val 10 _, .val 11 _, .sto 1, .val 3 _]) [.o 3] hst (oc (ob_v rfl rfl (r_build (xs := []) (qs := []) str_gauss .nil)) (oc (ob_v rfl rfl (r_move (gq 1 rfl))) (oc (ob_sto rfl rfl rfl (vq 0 rfl) ty_36 (Eq.trans (b := 8) rfl rfl)) (oc (ob_v rfl rfl (r_assign (vq 1 rfl))) o0)))) (fun a w hst => ?_)
    have hst : St B w0 13 [(3, _)] [⟨1, 36, ptrH, _⟩, ⟨2, 36, ptrH, _⟩] a w := hst
    refine thn_normal ?_
    refine wp_ret ?_
    refine thn_ret ?_
    refine ret_wk ?_ (ret_many (rs := [.cell 2 36, .tmp 3]) rfl hst (.cell (List.mem_of_getElem? (i := 1) rfl) ty_36 (.tmp (List.mem_of_getElem? (i := 0) rfl) .nil)) (by decide))
    rw [ansG, if_pos hl]; exact tu2w wk_id (wk_eq (by rw [one_longG, hl]; rfl))
  · rw [one_longG] at hb0
    have hl := ne_none hb0
    refine wp_skip ?_
    refine thn_normal ?_
    refine wp_seq ?_
    refine gl (sts := [none, some (1, _)]) (news := []) (sp := [.val 12 _, .sto 1, .val 3 _]) [.o 2] hst (oc (ob_v rfl rfl (r_load (lz0 0 rfl) ty_36)) (oc (ob_sto rfl rfl rfl (vq 0 rfl) ty_36 (Eq.trans (b := 8) rfl rfl)) (oc (ob_v rfl rfl (r_assign has_num)) o0))) (fun a w hst => ?_)
    have hst : St B w0 13 [(3, _)] [⟨1, 36, ptrH, _⟩, ⟨2, 36, ptrH, _⟩] a w := hst
    refine thn_normal ?_
    refine wp_ret ?_
    refine ret_wk ?_ (ret_many (rs := [.cell 2 36, .tmp 3]) rfl hst (.cell (List.mem_of_getElem? (i := 1) rfl) ty_36 (.tmp (List.mem_of_getElem? (i := 0) rfl) .nil)) (by decide))
    rw [ansG, if_neg (by rw [hl]; decide)]; exact tu2w (qgA (x := z)).va wk_id

set_option maxRecDepth 100000 in
theorem both_c (e : Nat) (op : GQ → GQ → GQ) (x y : RG) : Cn Tryz.prog 79 [(RGA x).va, (RGA y).va, FnGG e op] (GR (bthF op x y)) := by
  refine Cn.intro Tryz.func79 rfl (by kernel_rfl) nq (fun B w0 a hst => ?_)
  have hst : St B w0 24 [(0, (RGA x).va), (1, (RGA y).va), (2, FnGG e op)] [] a w0.w := hst
  refine wp_seq ?_
  refine gl (sts := []) (news := [⟨3, 36, ptrH, some 0, _, none⟩, ⟨4, 36, ptrH, some 1, _, none⟩, ⟨6, 36, ptrH, some 2, _, none⟩]) (sp := [.alc 0, .alc 1, .alc 2, .val 7 _]) [.g 2, .o 3] hst (oc (ob_box rfl rfl rfl (gq 0 rfl)) (oc (ob_box rfl rfl rfl (gq 1 rfl)) (oc (ob_alc rfl rfl rfl (Str.zero str_gauss)) (oc (ob_v rfl rfl (r_assign has_num)) o0)))) (fun a w hst => ?_)
  have hst : St B w0 24 [(2, _), (7, _)] [⟨3, 36, ptrH, _⟩, ⟨4, 36, ptrH, _⟩, ⟨6, 36, ptrH, _⟩] a w := hst
  refine thn_normal ?_
  refine wp_seq ?_
  refine wp_seq ?_
  refine gl (sts := [none, none, none]) (news := []) (sp := [.val 8 _, .val 9 _, .val 10 _, .val 11 _, .val 12 (Wh (_ = false) _), .val 13 (Wh (_ = false) _), .val 14 (Wh (_ = false) _), .val 15 _]) [.g 0, .g 1, .o 7] hst (oc (ob_v rfl rfl (r_load (lz0 0 rfl) ty_36)) (oc (ob_v rfl rfl (r_call (xs := [.tmp 8]) (argMay_c x) (.cons (vq 0 rfl) .nil))) (oc (ob_v rfl rfl (r_not (vq 1 rfl))) (oc (ob_v rfl rfl (r_move (vq 2 rfl))) (oc (ob_gd rfl rfl rfl (vq 3 rfl) nq (fun hg => r_load (lz0 1 rfl) ty_36)) (oc (ob_gd rfl rfl rfl (vq 3 rfl) nq (fun hg => r_call (xs := [.tmp 12]) (argMay_c y) (.cons (has_wh (vq 4 rfl) hg) .nil))) (oc (ob_gd rfl rfl rfl (vq 3 rfl) nq (fun hg => r_not (has_wh (vq 5 rfl) hg))) (oc (ob_v rfl rfl (r_or (vq 3 rfl) (vq 6 rfl))) o0)))))))) (fun a w hst => ?_)
  have hst : St B w0 24 [(2, _), (7, _), (15, _)] [⟨3, 36, ptrH, _⟩, ⟨4, 36, ptrH, _⟩, ⟨6, 36, ptrH, _⟩] a w := hst
  refine thn_normal ?_
  refine cond_of hst (List.mem_of_getElem? (i := 2) rfl) (fun hb0 => ?_) (fun hb0 => ?_)
  · refine wp_seq ?_
    refine gl (sts := [none, none, some (1, _)]) (news := []) (sp := [.val 16 _, .sto 2, .val 7 _]) [.g 0, .o 2] hst (oc (ob_v rfl rfl (r_build (xs := []) (qs := []) str_gauss .nil)) (oc (ob_sto rfl rfl rfl (vq 0 rfl) ty_36 (Eq.trans (b := 8) rfl rfl)) (oc (ob_v rfl rfl (r_assign has_num)) o0))) (fun a w hst => ?_)
    have hst : St B w0 24 [(2, _), (7, _)] [⟨3, 36, ptrH, _⟩, ⟨4, 36, ptrH, _⟩, ⟨6, 36, ptrH, _⟩] a w := hst
    refine thn_normal ?_
    refine wp_ret ?_
    refine thn_ret ?_
    refine ret_wk ?_ (ret_many (rs := [.cell 6 36, .tmp 7]) rfl hst (.cell (List.mem_of_getElem? (i := 2) rfl) ty_36 (.tmp (List.mem_of_getElem? (i := 1) rfl) .nil)) (by decide))
    rw [bt_no hb0]; exact wk_id
  · obtain ⟨hx, hop⟩ := bt_ok hb0
    have hst := St.wkL hst 0 rfl (qg_x hx.1)
    have hst := St.wkL hst 1 rfl (qg_x hx.2)
    refine wp_skip ?_
    refine thn_normal ?_
    refine wp_seq ?_
    refine gl (sts := [none, none, some (7, _)]) (news := []) (sp := [.val 17 _, .val 18 _, .val 19 _, .val 20 _, .val 21 _, .val 22 _, .val 23 _, .sto 2, .val 7 _]) [.o 8] hst (oc (ob_v rfl rfl (r_move (gq 0 rfl))) (oc (ob_v rfl rfl (r_load (lz0 0 rfl) ty_36)) (oc (ob_v rfl rfl (r_load (lz0 1 rfl) ty_36)) (oc (ob_v rfl rfl (r_callv (xs := [.tmp 18, .tmp 19]) (toG x, toG y) (vq 0 rfl) (.cons (vq 1 rfl) (.cons (vq 2 rfl) .nil)))) (oc (ob_v rfl rfl (r_call (xs := [.tmp 20]) (gAnswered_q (c := e) (z := op (toG x) (toG y))) (.cons (vq 3 rfl) .nil))) (oc (ob_v rfl rfl (r_ex0 (vq 4 rfl))) (oc (ob_v rfl rfl (r_ex1 (vq 4 rfl))) (oc (ob_sto rfl rfl rfl (vq 5 rfl) ty_36 (Eq.trans (b := 8) rfl rfl)) (oc (ob_v rfl rfl (r_assign (vq 6 rfl))) o0))))))))) (fun a w hst => ?_)
    have hst : St B w0 24 [(7, _)] [⟨3, 36, ptrH, _⟩, ⟨4, 36, ptrH, _⟩, ⟨6, 36, ptrH, _⟩] a w := hst
    refine thn_normal ?_
    refine wp_ret ?_
    refine ret_wk ?_ (ret_many (rs := [.cell 6 36, .tmp 7]) rfl hst (.cell (List.mem_of_getElem? (i := 2) rfl) ty_36 (.tmp (List.mem_of_getElem? (i := 0) rfl) .nil)) (by decide))
    rw [hop]; exact wk_id

set_option maxRecDepth 100000 in
theorem gMul_c (x y : RG) : Cn Tryz.prog 59 [(RGA x).va, (RGA y).va] (GR (bthF mulG x y)) := by
  refine Cn.intro Tryz.func59 rfl (by kernel_rfl) nq (fun B w0 a hst => ?_)
  have hst : St B w0 11 [(0, (RGA x).va), (1, (RGA y).va)] [] a w0.w := hst
  refine wp_seq ?_
  refine gl (sts := []) (news := [⟨2, 36, ptrH, some 0, _, none⟩, ⟨3, 36, ptrH, some 1, _, none⟩, ⟨4, 36, ptrH, some 2, _, none⟩]) (sp := [.alc 0, .alc 1, .alc 2, .val 5 _]) [.o 3] hst (oc (ob_box rfl rfl rfl (gq 0 rfl)) (oc (ob_box rfl rfl rfl (gq 1 rfl)) (oc (ob_alc rfl rfl rfl (Str.zero str_gauss)) (oc (ob_v rfl rfl (r_assign has_num)) o0)))) (fun a w hst => ?_)
  have hst : St B w0 11 [(5, _)] [⟨2, 36, ptrH, _⟩, ⟨3, 36, ptrH, _⟩, ⟨4, 36, ptrH, _⟩] a w := hst
  refine thn_normal ?_
  refine wp_seq ?_
  refine gl (sts := [none, none, some (5, _)]) (news := []) (sp := [.val 6 _, .val 7 _, .val 8 _, .val 9 _, .val 10 _, .sto 2, .val 5 _]) [.o 6] hst (oc (ob_v rfl rfl (r_load (lz0 0 rfl) ty_36)) (oc (ob_v rfl rfl (r_load (lz0 1 rfl) ty_36)) (oc (ob_v rfl rfl (r_call (xs := [.tmp 6, .tmp 7, .func 80]) (both_c 16388 mulG x y) (.cons (vq 0 rfl) (.cons (vq 1 rfl) (.cons (has_func (fun i : GQ × GQ => argTimes_q (c := 2048) (d := 2048) (z := i.1) (u := i.2) (by decide))) .nil))))) (oc (ob_v rfl rfl (r_ex0 (vq 2 rfl))) (oc (ob_v rfl rfl (r_ex1 (vq 2 rfl))) (oc (ob_sto rfl rfl rfl (vq 3 rfl) ty_36 (Eq.trans (b := 8) rfl rfl)) (oc (ob_v rfl rfl (r_assign (vq 4 rfl))) o0))))))) (fun a w hst => ?_)
  have hst : St B w0 11 [(5, _)] [⟨2, 36, ptrH, _⟩, ⟨3, 36, ptrH, _⟩, ⟨4, 36, ptrH, _⟩] a w := hst
  refine thn_normal ?_
  refine wp_ret ?_
  refine ret_wk ?_ (ret_many (rs := [.cell 4 36, .tmp 5]) rfl hst (.cell (List.mem_of_getElem? (i := 2) rfl) ty_36 (.tmp (List.mem_of_getElem? (i := 0) rfl) .nil)) (by decide))
  exact wk_id

set_option maxRecDepth 100000 in
theorem gAdd_c (x y : RG) : Cn Tryz.prog 60 [(RGA x).va, (RGA y).va] (GR (bthF addG x y)) := by
  refine Cn.intro Tryz.func60 rfl (by kernel_rfl) nq (fun B w0 a hst => ?_)
  have hst : St B w0 11 [(0, (RGA x).va), (1, (RGA y).va)] [] a w0.w := hst
  refine wp_seq ?_
  refine gl (sts := []) (news := [⟨2, 36, ptrH, some 0, _, none⟩, ⟨3, 36, ptrH, some 1, _, none⟩, ⟨4, 36, ptrH, some 2, _, none⟩]) (sp := [.alc 0, .alc 1, .alc 2, .val 5 _]) [.o 3] hst (oc (ob_box rfl rfl rfl (gq 0 rfl)) (oc (ob_box rfl rfl rfl (gq 1 rfl)) (oc (ob_alc rfl rfl rfl (Str.zero str_gauss)) (oc (ob_v rfl rfl (r_assign has_num)) o0)))) (fun a w hst => ?_)
  have hst : St B w0 11 [(5, _)] [⟨2, 36, ptrH, _⟩, ⟨3, 36, ptrH, _⟩, ⟨4, 36, ptrH, _⟩] a w := hst
  refine thn_normal ?_
  refine wp_seq ?_
  refine gl (sts := [none, none, some (5, _)]) (news := []) (sp := [.val 6 _, .val 7 _, .val 8 _, .val 9 _, .val 10 _, .sto 2, .val 5 _]) [.o 6] hst (oc (ob_v rfl rfl (r_load (lz0 0 rfl) ty_36)) (oc (ob_v rfl rfl (r_load (lz0 1 rfl) ty_36)) (oc (ob_v rfl rfl (r_call (xs := [.tmp 6, .tmp 7, .func 61]) (both_c 4097 addG x y) (.cons (vq 0 rfl) (.cons (vq 1 rfl) (.cons (has_func (fun i : GQ × GQ => argPlus_q (c := 2048) (d := 2048) (z := i.1) (u := i.2) (by decide))) .nil))))) (oc (ob_v rfl rfl (r_ex0 (vq 2 rfl))) (oc (ob_v rfl rfl (r_ex1 (vq 2 rfl))) (oc (ob_sto rfl rfl rfl (vq 3 rfl) ty_36 (Eq.trans (b := 8) rfl rfl)) (oc (ob_v rfl rfl (r_assign (vq 4 rfl))) o0))))))) (fun a w hst => ?_)
  have hst : St B w0 11 [(5, _)] [⟨2, 36, ptrH, _⟩, ⟨3, 36, ptrH, _⟩, ⟨4, 36, ptrH, _⟩] a w := hst
  refine thn_normal ?_
  refine wp_ret ?_
  refine ret_wk ?_ (ret_many (rs := [.cell 4 36, .tmp 5]) rfl hst (.cell (List.mem_of_getElem? (i := 2) rfl) ty_36 (.tmp (List.mem_of_getElem? (i := 0) rfl) .nil)) (by decide))
  exact wk_id

set_option maxRecDepth 100000 in
theorem sameQuad_c (x y : RQ4) : Cn Tryz.prog 10 [(RQA x).va, (RQA y).va] (Bo (decide (x = y))) := by
  refine Cn.intro Tryz.func10 rfl (by kernel_rfl) nq (fun B w0 a hst => ?_)
  have hst : St B w0 31 [(0, (RQA x).va), (1, (RQA y).va)] [] a w0.w := hst
  refine wp_seq ?_
  refine gl (sts := []) (news := [⟨2, 38, ptrH, some 0, _, none⟩, ⟨3, 38, ptrH, some 1, _, none⟩]) (sp := [.alc 0, .alc 1, .val 4 _]) [.o 2] hst (oc (ob_box rfl rfl rfl (gq 0 rfl)) (oc (ob_box rfl rfl rfl (gq 1 rfl)) (oc (ob_v rfl rfl (r_assign has_bo)) o0))) (fun a w hst => ?_)
  have hst : St B w0 31 [(4, _)] [⟨2, 38, ptrH, _⟩, ⟨3, 38, ptrH, _⟩] a w := hst
  refine thn_normal ?_
  refine wp_seq ?_
  refine gl (sts := [none, none]) (news := []) (sp := ((.adr 5 2 (.some 0) True : Sp) :: (.val 6 _) :: (.adr 7 3 (.some 0) True) :: (.val 8 _) :: (.val 9 _) :: (.val 10 _) :: (.adr 11 2 (.some 8) (_ = true)) :: (.val 12 (Wh (_ = true) _)) :: (.adr 13 3 (.some 8) (_ = true)) :: (.val 14 (Wh (_ = true) _)) :: (.val 15 (Wh (_ = true) _)) :: (.val 16 _) :: (.val 17 _) :: (.adr 18 2 (.some 16) (_ = true)) :: (.val 19 (Wh (_ = true) _)) :: (.adr 20 3 (.some 16) (_ = true)) :: (.val 21 (Wh (_ = true) _)) :: (.val 22 (Wh (_ = true) _)) :: (.val 23 _) :: (.val 24 _) :: (.adr 25 2 (.some 24) (_ = true)) :: (.val 26 (Wh (_ = true) _)) :: (.adr 27 3 (.some 24) (_ = true)) :: (.val 28 (Wh (_ = true) _)) :: (.val 29 (Wh (_ = true) _)) :: (.val 30 _) :: (.val 4 _) :: [])) [.o 26] hst (oc (ob_a rfl rfl (a_fld (lz0 0 rfl) fld_38_0)) (oc (ob_v rfl rfl (r_loadf 0 rfl (by kernel_rfl) trivial (lz0 0 rfl) (Sub.part 0 rfl rfl) ty_36)) (oc (ob_a rfl rfl (a_fld (lz0 1 rfl) fld_38_0)) (oc (ob_v rfl rfl (r_loadf 2 rfl (by kernel_rfl) trivial (lz0 1 rfl) (Sub.part 0 rfl rfl) ty_36)) (oc (ob_v rfl rfl (r_call (xs := [.tmp 6, .tmp 8]) (sameGauss_c _ _) (.cons (vq 1 rfl) (.cons (vq 3 rfl) .nil)))) (oc (ob_v rfl rfl (r_move (vq 4 rfl))) (oc (ob_ag rfl rfl rfl (vq 5 rfl) nq (fun hg => a_fld (lz0 0 rfl) fld_38_1)) (oc (ob_gd rfl rfl rfl (vq 5 rfl) nq (fun hg => r_loadf 6 rfl (by kernel_rfl) hg (lz0 0 rfl) (Sub.part 1 rfl rfl) ty_36)) (oc (ob_ag rfl rfl rfl (vq 5 rfl) nq (fun hg => a_fld (lz0 1 rfl) fld_38_1)) (oc (ob_gd rfl rfl rfl (vq 5 rfl) nq (fun hg => r_loadf 8 rfl (by kernel_rfl) hg (lz0 1 rfl) (Sub.part 1 rfl rfl) ty_36)) (oc (ob_gd rfl rfl rfl (vq 5 rfl) nq (fun hg => r_call (xs := [.tmp 12, .tmp 14]) (sameGauss_c _ _) (.cons (has_wh (vq 7 rfl) hg) (.cons (has_wh (vq 9 rfl) hg) .nil)))) (oc (ob_v rfl rfl (r_and (vq 5 rfl) (vq 10 rfl))) (oc (ob_v rfl rfl (r_move (vq 11 rfl))) (oc (ob_ag rfl rfl rfl (vq 12 rfl) nq (fun hg => a_fld (lz0 0 rfl) fld_38_2)) (oc (ob_gd rfl rfl rfl (vq 12 rfl) nq (fun hg => r_loadf 13 rfl (by kernel_rfl) hg (lz0 0 rfl) (Sub.part 2 rfl rfl) ty_36)) (oc (ob_ag rfl rfl rfl (vq 12 rfl) nq (fun hg => a_fld (lz0 1 rfl) fld_38_2)) (oc (ob_gd rfl rfl rfl (vq 12 rfl) nq (fun hg => r_loadf 15 rfl (by kernel_rfl) hg (lz0 1 rfl) (Sub.part 2 rfl rfl) ty_36)) (oc (ob_gd rfl rfl rfl (vq 12 rfl) nq (fun hg => r_call (xs := [.tmp 19, .tmp 21]) (sameGauss_c _ _) (.cons (has_wh (vq 14 rfl) hg) (.cons (has_wh (vq 16 rfl) hg) .nil)))) (oc (ob_v rfl rfl (r_and (vq 12 rfl) (vq 17 rfl))) (oc (ob_v rfl rfl (r_move (vq 18 rfl))) (oc (ob_ag rfl rfl rfl (vq 19 rfl) nq (fun hg => a_fld (lz0 0 rfl) fld_38_3)) (oc (ob_gd rfl rfl rfl (vq 19 rfl) nq (fun hg => r_loadf 20 rfl (by kernel_rfl) hg (lz0 0 rfl) (Sub.part 3 rfl rfl) ty_36)) (oc (ob_ag rfl rfl rfl (vq 19 rfl) nq (fun hg => a_fld (lz0 1 rfl) fld_38_3)) (oc (ob_gd rfl rfl rfl (vq 19 rfl) nq (fun hg => r_loadf 22 rfl (by kernel_rfl) hg (lz0 1 rfl) (Sub.part 3 rfl rfl) ty_36)) (oc (ob_gd rfl rfl rfl (vq 19 rfl) nq (fun hg => r_call (xs := [.tmp 26, .tmp 28]) (sameGauss_c _ _) (.cons (has_wh (vq 21 rfl) hg) (.cons (has_wh (vq 23 rfl) hg) .nil)))) (oc (ob_v rfl rfl (r_and (vq 19 rfl) (vq 24 rfl))) (oc (ob_v rfl rfl (r_assign (vq 25 rfl))) o0))))))))))))))))))))))))))) (fun a w hst => ?_)
  have hst : St B w0 31 [(4, _)] [⟨2, 38, ptrH, _⟩, ⟨3, 38, ptrH, _⟩] a w := hst
  refine thn_normal ?_
  refine wp_ret ?_
  refine ret_wk ?_ (ret_tmp rfl hst (List.mem_of_getElem? (i := 0) rfl))
  exact wk_eq (congrArg Bo rq_eq)

set_option maxRecDepth 100000 in
theorem pair18_c (x1 x2 x3 x4 : RG) : Cn Tryz.prog 37 [(RGA x1).va, (RGA x2).va, (RGA x3).va, (RGA x4).va] ((RGA (prF x1 x2 x3 x4)).va) := by
  refine Cn.intro Tryz.func37 rfl (by kernel_rfl) nq (fun B w0 a hst => ?_)
  have hst : St B w0 34 [(0, (RGA x1).va), (1, (RGA x2).va), (2, (RGA x3).va), (3, (RGA x4).va)] [] a w0.w := hst
  refine wp_seq ?_
  refine gl (sts := []) (news := [⟨4, 36, ptrH, some 0, _, none⟩, ⟨5, 36, ptrH, some 1, _, none⟩, ⟨6, 36, ptrH, some 2, _, none⟩, ⟨7, 36, ptrH, some 3, _, none⟩, ⟨8, 36, ptrH, some 4, _, none⟩]) (sp := [.alc 0, .alc 1, .alc 2, .alc 3, .alc 4]) [] hst (oc (ob_box rfl rfl rfl (gq 0 rfl)) (oc (ob_box rfl rfl rfl (gq 1 rfl)) (oc (ob_box rfl rfl rfl (gq 2 rfl)) (oc (ob_box rfl rfl rfl (gq 3 rfl)) (oc (ob_alc rfl rfl rfl (Str.zero str_gauss)) o0))))) (fun a w hst => ?_)
  have hst : St B w0 34 [] [⟨4, 36, ptrH, _⟩, ⟨5, 36, ptrH, _⟩, ⟨6, 36, ptrH, _⟩, ⟨7, 36, ptrH, _⟩, ⟨8, 36, ptrH, _⟩] a w := hst
  refine thn_normal ?_
  refine wp_seq ?_
  refine gl (sts := [none, none, none, none, none]) (news := [⟨9, 36, ptrH, some 6, _, some (7, _)⟩]) (sp := [.val 16 _, .val 17 _, .val 18 _, .val 15 _, .val 19 _, .val 20 _, .alc 5, .sto 5, .val 10 _]) [] hst (oc (ob_v rfl rfl (r_load (lz0 0 rfl) ty_36)) (oc (ob_v rfl rfl (r_load (lz0 1 rfl) ty_36)) (oc (ob_v rfl rfl (r_call (xs := [.tmp 16, .tmp 17]) (gMul_c _ _) (.cons (vq 0 rfl) (.cons (vq 1 rfl) .nil)))) (oc (ob_v rfl rfl (r_move (vq 2 rfl))) (oc (ob_v rfl rfl (r_ex0 (vq 3 rfl))) (oc (ob_v rfl rfl (r_ex1 (vq 3 rfl))) (oc (ob_alc rfl rfl rfl (Str.zero str_gauss)) (oc (ob_sto rfl rfl rfl (vq 4 rfl) ty_36 (Eq.trans (b := 8) rfl rfl)) (oc (ob_v rfl rfl (r_assign (vq 5 rfl))) o0))))))))) (fun a w hst => ?_)
  have hst : St B w0 34 [] [⟨4, 36, ptrH, _⟩, ⟨5, 36, ptrH, _⟩, ⟨6, 36, ptrH, _⟩, ⟨7, 36, ptrH, _⟩, ⟨8, 36, ptrH, _⟩, ⟨9, 36, ptrH, _⟩] a w := hst
  refine thn_normal ?_
  refine wp_seq ?_
  refine gl (sts := [none, none, none, none, none, none]) (news := [⟨11, 36, ptrH, some 6, _, some (7, _)⟩]) (sp := [.val 22 _, .val 23 _, .val 24 _, .val 21 _, .val 25 _, .val 26 _, .alc 6, .sto 6, .val 12 _]) [] hst (oc (ob_v rfl rfl (r_load (lz0 2 rfl) ty_36)) (oc (ob_v rfl rfl (r_load (lz0 3 rfl) ty_36)) (oc (ob_v rfl rfl (r_call (xs := [.tmp 22, .tmp 23]) (gMul_c _ _) (.cons (vq 0 rfl) (.cons (vq 1 rfl) .nil)))) (oc (ob_v rfl rfl (r_move (vq 2 rfl))) (oc (ob_v rfl rfl (r_ex0 (vq 3 rfl))) (oc (ob_v rfl rfl (r_ex1 (vq 3 rfl))) (oc (ob_alc rfl rfl rfl (Str.zero str_gauss)) (oc (ob_sto rfl rfl rfl (vq 4 rfl) ty_36 (Eq.trans (b := 8) rfl rfl)) (oc (ob_v rfl rfl (r_assign (vq 5 rfl))) o0))))))))) (fun a w hst => ?_)
  have hst : St B w0 34 [] [⟨4, 36, ptrH, _⟩, ⟨5, 36, ptrH, _⟩, ⟨6, 36, ptrH, _⟩, ⟨7, 36, ptrH, _⟩, ⟨8, 36, ptrH, _⟩, ⟨9, 36, ptrH, _⟩, ⟨11, 36, ptrH, _⟩] a w := hst
  refine thn_normal ?_
  refine wp_seq ?_
  refine gl (sts := [none, none, none, none, none, none, none]) (news := [⟨13, 36, ptrH, some 6, _, some (7, _)⟩]) (sp := [.val 28 _, .val 29 _, .val 30 _, .val 27 _, .val 31 _, .val 32 _, .alc 7, .sto 7, .val 14 _]) [] hst (oc (ob_v rfl rfl (r_load (lz0 5 rfl) ty_36)) (oc (ob_v rfl rfl (r_load (lz0 6 rfl) ty_36)) (oc (ob_v rfl rfl (r_call (xs := [.tmp 28, .tmp 29]) (gAdd_c _ _) (.cons (vq 0 rfl) (.cons (vq 1 rfl) .nil)))) (oc (ob_v rfl rfl (r_move (vq 2 rfl))) (oc (ob_v rfl rfl (r_ex0 (vq 3 rfl))) (oc (ob_v rfl rfl (r_ex1 (vq 3 rfl))) (oc (ob_alc rfl rfl rfl (Str.zero str_gauss)) (oc (ob_sto rfl rfl rfl (vq 4 rfl) ty_36 (Eq.trans (b := 8) rfl rfl)) (oc (ob_v rfl rfl (r_assign (vq 5 rfl))) o0))))))))) (fun a w hst => ?_)
  have hst : St B w0 34 [] [⟨4, 36, ptrH, _⟩, ⟨5, 36, ptrH, _⟩, ⟨6, 36, ptrH, _⟩, ⟨7, 36, ptrH, _⟩, ⟨8, 36, ptrH, _⟩, ⟨9, 36, ptrH, _⟩, ⟨11, 36, ptrH, _⟩, ⟨13, 36, ptrH, _⟩] a w := hst
  refine thn_normal ?_
  refine wp_seq ?_
  refine gl (sts := [none, none, none, none, some (1, _), none, none, none]) (news := []) (sp := [.val 33 _, .sto 4]) [] hst (oc (ob_v rfl rfl (r_load (lz0 7 rfl) ty_36)) (oc (ob_sto rfl rfl rfl (vq 0 rfl) ty_36 (Eq.trans (b := 8) rfl rfl)) o0)) (fun a w hst => ?_)
  have hst : St B w0 34 [] [⟨4, 36, ptrH, _⟩, ⟨5, 36, ptrH, _⟩, ⟨6, 36, ptrH, _⟩, ⟨7, 36, ptrH, _⟩, ⟨8, 36, ptrH, _⟩, ⟨9, 36, ptrH, _⟩, ⟨11, 36, ptrH, _⟩, ⟨13, 36, ptrH, _⟩] a w := hst
  refine thn_normal ?_
  refine wp_ret ?_
  refine ret_wk ?_ (ret_cell rfl hst (List.mem_of_getElem? (i := 4) rfl) ty_36)
  exact wk_id

end Go.Proofs.YtaplgnjnhfljnaaGreat
