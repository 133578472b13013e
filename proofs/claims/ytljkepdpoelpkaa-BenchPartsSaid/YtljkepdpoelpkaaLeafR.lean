import Derived.Test.YtljkepdpoelpkaaLeafQ
namespace Go.Proofs.Ytljkepdpoelpkaa
open Go Go.RowKit
namespace LeafR
theorem sl_80 : Sl Try.prog 80 35 4 := ⟨by kernel_rfl, by kernel_rfl⟩
theorem ty_33 : Ty Try.prog 33 2 true := ⟨by kernel_rfl, by kernel_rfl⟩
theorem ty_35 : Ty Try.prog 35 4 true := ⟨by kernel_rfl, by kernel_rfl⟩
end LeafR
open LeafR
def addF (x y : RF) : RF × Int := doF (fun a b => some (a + b)) x y
def subF (x y : RF) : RF × Int := doF (fun a b => some (a - b)) x y
def mulF (x y : RF) : RF × Int := doF (fun a b => some (a * b)) x y
def quoOp (x y : Rat) : Option Rat := if y = 0 then none else some (x / y)
def quoF (x y : RF) : RF × Int := doF quoOp x y
theorem sgn0 {x : Rat} : (x.num.sign == 0) = decide (x = 0) := by
  by_cases h : x = 0
  · subst h; rfl
  · have : x.num ≠ 0 := fun e => h (Rat.num_eq_zero.1 e)
    have : x.num.sign ≠ 0 := fun e => this (Int.sign_eq_zero_iff_zero.1 e)
    simp [h, this]
/-- the sign; comparing; whether it may be. -/
def sgF (x : RF) : Int := if okX x then (toQ x).num.sign else 0
def cmF (x y : RF) : Int := if okX x && okX y then cmQ (toQ x) (toQ y) else 0
theorem one_ok {x : RF} : [x].all okX = okX x := by simp

theorem ex_checkI : ∃ fn, Try.prog.funcs[82]? = some fn ∧ (fn.name == "runtime.NumGoroutine") = false ∧ fn.body.isNone = false := ⟨_, Try.func82, by kernel_rfl, by kernel_rfl⟩
theorem check_z {c : Nat} {p : Int} (hc : c ≤ 2048) : Cn Try.prog 82 [Zs c p] (In 0) := zs1 ex_checkI fun h => (check_c (riOf p)).post (by rw [okRI_ri, decide_eq_true (by omega : lz p ≤ 2048)]; rfl)
theorem lz_i64 {p : Int} (h0 : -9223372036854775808 ≤ p) (h1 : p < 9223372036854775808) : lz p ≤ 2 := lz_le (by omega)
theorem ansF_ok {q : Rat} (h : lz q.num ≤ 2048 ∧ lz (q.den : Int) ≤ 2048) : ansF q = (rfOf q, 0) := by rw [ansF, longQ_false.2 h]; rfl
theorem ansF_low {p q : Int} (hq : q ≠ 0) (hp : lz p ≤ 2) (h2 : lz q ≤ 2) : ansF (Rat.divInt p q) = (rfOf (Rat.divInt p q), 0) := by
  have := lz_low2 (p := p) hq
  exact ansF_ok (by omega)

set_option maxRecDepth 100000 in
theorem make_q {p q : Int} (hq : q ≠ 0) : Cn Try.prog 65 [Zs 2 p, Zs 2 q] (FrR (ansF (Rat.divInt p q))) := by
  refine Cn.intro Try.func65 rfl (by kernel_rfl) nq (fun B w0 a hst => ?_)
  have hst : St B w0 25 [(0, Zs 2 p), (1, Zs 2 q)] [] a w0.w := hst
  refine wp_seq ?_
  refine gl (sts := []) (news := [⟨2, 33, ptrH, some 0, _, none⟩, ⟨3, 33, ptrH, some 1, _, none⟩, ⟨4, 35, ptrH, some 2, _, none⟩]) (sp := [.alc 0, .alc 1, .alc 2, .val 5 _]) [.o 3] hst (oc (ob_box rfl rfl rfl (gq 0 rfl)) (oc (ob_box rfl rfl rfl (gq 1 rfl)) (oc (ob_alc rfl rfl rfl (Str.zero str_frac)) (oc (ob_v rfl rfl (r_assign has_num)) o0)))) (fun a w hst => ?_)
  have hst : St B w0 25 [(5, _)] [⟨2, 33, ptrH, _⟩, ⟨3, 33, ptrH, _⟩, ⟨4, 35, ptrH, _⟩] a w := hst
  refine thn_normal ?_
  refine wp_seq ?_
  refine wp_seq ?_
  refine gl (sts := [none, none, none]) (news := []) (sp := [.val 6 _, .val 7 _, .val 8 _, .val 9 _, .val 10 (Wh (_ = false) _), .val 11 (Wh (_ = false) _), .val 12 (Wh (_ = false) _), .val 13 _]) [.g 0, .o 7] hst (oc (ob_v rfl rfl (r_load (lz0 0 rfl) ty_33)) (oc (ob_v rfl rfl (r_call (xs := [.tmp 6]) (check_z (by decide)) (.cons (vq 0 rfl) .nil))) (oc (ob_v rfl rfl (r_neq (vq 1 rfl) has_num)) (oc (ob_v rfl rfl (r_move (vq 2 rfl))) (oc (ob_gd rfl rfl rfl (vq 3 rfl) nq (fun hg => r_load (lz0 1 rfl) ty_33)) (oc (ob_gd rfl rfl rfl (vq 3 rfl) nq (fun hg => r_call (xs := [.tmp 10]) (check_z (by decide)) (.cons (has_wh (vq 4 rfl) hg) .nil))) (oc (ob_gd rfl rfl rfl (vq 3 rfl) nq (fun hg => r_neq (has_wh (vq 5 rfl) hg) has_num)) (oc (ob_v rfl rfl (r_or (vq 3 rfl) (vq 6 rfl))) o0)))))))) (fun a w hst => ?_)
  have hst : St B w0 25 [(5, _), (13, _)] [⟨2, 33, ptrH, _⟩, ⟨3, 33, ptrH, _⟩, ⟨4, 35, ptrH, _⟩] a w := hst
  refine thn_normal ?_
  refine cond_of hst (List.mem_of_getElem? (i := 1) rfl) (fun hb0 => ?_) (fun hb0 => ?_)
  · exact absurd hb0 (by decide)
  · refine wp_skip ?_
    refine thn_normal ?_
    refine wp_seq ?_
    refine wp_seq ?_
    refine gl (sts := [none, none, none]) (news := []) (sp := [.val 15 _, .val 16 _, .val 17 _]) [.g 0, .o 2] hst (oc (ob_v rfl rfl (r_load (lz0 1 rfl) ty_33)) (oc (ob_v rfl rfl (r_call (xs := [.tmp 15]) sign_z (.cons (vq 0 rfl) .nil))) (oc (ob_v rfl rfl (r_eql (vq 1 rfl) has_num)) o0))) (fun a w hst => ?_)
    have hst : St B w0 25 [(5, _), (17, _)] [⟨2, 33, ptrH, _⟩, ⟨3, 33, ptrH, _⟩, ⟨4, 35, ptrH, _⟩] a w := hst
    refine thn_normal ?_
    refine cond_of hst (List.mem_of_getElem? (i := 1) rfl) (fun hb1 => ?_) (fun hb1 => ?_)
    · exact absurd hb1 (by simpa using hq)
    · refine wp_skip ?_
      refine thn_normal ?_
      refine wp_seq ?_
      refine gl (sts := [none, none, some (6, _)]) (news := []) (sp := [.val 19 _, .val 20 _, .val 21 _, .val 22 _, .val 23 _, .val 24 _, .sto 2, .val 5 _]) [.o 7] hst (oc (ob_v rfl rfl (r_load (lz0 0 rfl) ty_33)) (oc (ob_v rfl rfl (r_load (lz0 1 rfl) ty_33)) (oc (ob_v rfl rfl (r_call (xs := [.tmp 19, .tmp 20]) (lowest_q (by decide) (by decide) hq) (.cons (vq 0 rfl) (.cons (vq 1 rfl) .nil)))) (oc (ob_v rfl rfl (r_call (xs := [.tmp 21]) (answered_q (by decide)) (.cons (vq 2 rfl) .nil))) (oc (ob_v rfl rfl (r_ex0 (vq 3 rfl))) (oc (ob_v rfl rfl (r_ex1 (vq 3 rfl))) (oc (ob_sto rfl rfl rfl (vq 4 rfl) ty_35 (Eq.trans (b := 4) rfl rfl)) (oc (ob_v rfl rfl (r_assign (vq 5 rfl))) o0)))))))) (fun a w hst => ?_)
      have hst : St B w0 25 [(5, _)] [⟨2, 33, ptrH, _⟩, ⟨3, 33, ptrH, _⟩, ⟨4, 35, ptrH, _⟩] a w := hst
      refine thn_normal ?_
      refine wp_ret ?_
      refine ret_wk ?_ (ret_many (rs := [.cell 4 35, .tmp 5]) rfl hst (.cell (List.mem_of_getElem? (i := 2) rfl) ty_35 (.tmp (List.mem_of_getElem? (i := 0) rfl) .nil)) (by decide))
      exact wk_id

set_option maxRecDepth 100000 in
theorem ofQ_c {p q : Int} (hp : -9223372036854775808 ≤ p) (hp1 : p < 9223372036854775808) (hq0 : -9223372036854775808 ≤ q) (hq1 : q < 9223372036854775808) (hq : q ≠ 0) : Cn Try.prog 41 [In p, In q] (FrR (rfOf (Rat.divInt p q), 0)) := by
  refine Cn.intro Try.func41 rfl (by kernel_rfl) nq (fun B w0 a hst => ?_)
  have hst : St B w0 13 [(0, In p), (1, In q)] [] a w0.w := hst
  refine wp_seq ?_
  refine gl (sts := []) (news := [⟨4, 35, ptrH, some 0, _, none⟩]) (sp := [.alc 0, .val 5 _]) [.g 0, .g 1, .o 1] hst (oc (ob_alc rfl rfl rfl (Str.zero str_frac)) (oc (ob_v rfl rfl (r_assign has_num)) o0)) (fun a w hst => ?_)
  have hst : St B w0 13 [(0, _), (1, _), (5, _)] [⟨4, 35, ptrH, _⟩] a w := hst
  refine thn_normal ?_
  refine wp_seq ?_
  refine gl (sts := [some (7, _)]) (news := []) (sp := [.val 6 _, .val 7 _, .val 8 _, .val 9 _, .val 10 _, .val 11 _, .val 12 _, .sto 0, .val 5 _]) [.o 8] hst (oc (ob_v rfl rfl (r_move (gq 0 rfl))) (oc (ob_v rfl rfl (r_call (xs := [.tmp 6]) (of_z hp hp1) (.cons (vq 0 rfl) .nil))) (oc (ob_v rfl rfl (r_move (gq 1 rfl))) (oc (ob_v rfl rfl (r_call (xs := [.tmp 8]) (of_z hq0 hq1) (.cons (vq 2 rfl) .nil))) (oc (ob_v rfl rfl (r_call (xs := [.tmp 7, .tmp 9]) (make_q hq) (.cons (vq 1 rfl) (.cons (vq 3 rfl) .nil)))) (oc (ob_v rfl rfl (r_ex0 (vq 4 rfl))) (oc (ob_v rfl rfl (r_ex1 (vq 4 rfl))) (oc (ob_sto rfl rfl rfl (vq 5 rfl) ty_35 (Eq.trans (b := 4) rfl rfl)) (oc (ob_v rfl rfl (r_assign (vq 6 rfl))) o0))))))))) (fun a w hst => ?_)
  have hst : St B w0 13 [(5, _)] [⟨4, 35, ptrH, _⟩] a w := hst
  refine thn_normal ?_
  refine wp_ret ?_
  refine ret_wk ?_ (ret_many (rs := [.cell 4 35, .tmp 5]) rfl hst (.cell (List.mem_of_getElem? (i := 0) rfl) ty_35 (.tmp (List.mem_of_getElem? (i := 0) rfl) .nil)) (by decide))
  rw [← ansF_low hq (lz_i64 hp hp1) (lz_i64 hq0 hq1)]; exact wk_id

set_option maxRecDepth 100000 in
theorem fracSign_c (x : RF) : Cn Try.prog 25 [(RFA x).va] (In (sgF x)) := by
  refine Cn.intro Try.func25 rfl (by kernel_rfl) nq (fun B w0 a hst => ?_)
  have hst : St B w0 9 [(0, (RFA x).va)] [] a w0.w := hst
  refine wp_seq ?_
  refine gl (sts := []) (news := [⟨1, 35, ptrH, some 0, _, none⟩]) (sp := [.alc 0, .val 2 _]) [.o 1] hst (oc (ob_box rfl rfl rfl (gq 0 rfl)) (oc (ob_v rfl rfl (r_assign has_num)) o0)) (fun a w hst => ?_)
  have hst : St B w0 9 [(2, _)] [⟨1, 35, ptrH, _⟩] a w := hst
  refine thn_normal ?_
  refine wp_seq ?_
  refine wp_seq ?_
  refine gl (sts := [none]) (news := []) (sp := [.val 3 _, .val 4 _, .val 5 _, .val 6 _]) [.g 0, .o 3] hst (oc (ob_v rfl rfl (r_load (lz0 0 rfl) ty_35)) (oc (ob_v rfl rfl (r_slice (D := [U32]) (l := [_]) (xs := [.tmp 3]) (nd_ok (by kernel_rfl)) sl_80 (by kernel_rfl) (n_ok (by kernel_rfl)) nq nq nq (.cons (vq 0 rfl) .nil) rfl rfl)) (oc (ob_v rfl rfl (r_call (xs := [.tmp 4]) (checks_c [x] nq) (.cons (vq 1 rfl) .nil))) (oc (ob_v rfl rfl (r_not (vq 2 rfl))) o0)))) (fun a w hst => ?_)
  have hst : St B w0 9 [(2, _), (6, _)] [⟨1, 35, ptrH, _⟩] a w := hst
  refine thn_normal ?_
  refine cond_of hst (List.mem_of_getElem? (i := 1) rfl) (fun hb0 => ?_) (fun hb0 => ?_)
  · rw [one_ok] at hb0
    refine wp_seq ?_
    refine gl (sts := [none]) (news := []) (sp := [.val 2 _]) [.o 0] hst (oc (ob_v rfl rfl (r_assign has_num)) o0) (fun a w hst => ?_)
    have hst : St B w0 9 [(2, _)] [⟨1, 35, ptrH, _⟩] a w := hst
    refine thn_normal ?_
    refine wp_ret ?_
    refine thn_ret ?_
    refine ret_wk ?_ (ret_tmp rfl hst (List.mem_of_getElem? (i := 0) rfl))
    exact wk_eq (by rw [sgF, if_neg (by simpa using hb0)])
  · rw [one_ok, Bool.not_eq_false'] at hb0
    have hx := okX_q hb0
    refine wp_skip ?_
    refine thn_normal ?_
    refine wp_seq ?_
    refine gl (sts := [none]) (news := []) (sp := [.val 7 _, .val 8 _, .val 2 _]) [.o 2] hst (oc (ob_v rfl rfl (r_load (lz0 0 rfl) ty_35)) (oc (ob_v rfl rfl (r_call (xs := [.tmp 7]) (sign_q.wk (.cons (wk_trans (wk_eq (congrArg (fun y => (RFA y).va) hx.1)) (qa_of hx.2.1 hx.2.2).va) .nil)) (.cons (vq 0 rfl) .nil))) (oc (ob_v rfl rfl (r_assign (vq 1 rfl))) o0))) (fun a w hst => ?_)
    have hst : St B w0 9 [(2, _)] [⟨1, 35, ptrH, _⟩] a w := hst
    refine thn_normal ?_
    refine wp_ret ?_
    refine ret_wk ?_ (ret_tmp rfl hst (List.mem_of_getElem? (i := 0) rfl))
    exact wk_eq (by rw [sgF, if_pos hb0])

end Go.Proofs.Ytljkepdpoelpkaa
