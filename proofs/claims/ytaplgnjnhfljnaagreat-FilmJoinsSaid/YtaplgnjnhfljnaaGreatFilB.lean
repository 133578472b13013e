/- Contracts of package film: sheets, their product, what is thrown back. -/
import Derived.Test.YtaplgnjnhfljnaaGreatFilA
namespace Go.Proofs.YtaplgnjnhfljnaaGreat
open Go Go.RowKit
namespace FilB
theorem fld_26_0 : Fld Tryz.prog 26 0 0 2 := ⟨_, _, Tryz.underlying26, rfl, rfl, by kernel_rfl, by decide⟩
theorem fld_26_1 : Fld Tryz.prog 26 1 2 2 := ⟨_, _, Tryz.underlying26, rfl, rfl, by kernel_rfl, by decide⟩
theorem fld_28_0 : Fld Tryz.prog 28 0 0 4 := ⟨_, _, Tryz.underlying28, rfl, rfl, by kernel_rfl, by decide⟩
theorem fld_28_1 : Fld Tryz.prog 28 1 4 4 := ⟨_, _, Tryz.underlying28, rfl, rfl, by kernel_rfl, by decide⟩
theorem fld_36_0 : Fld Tryz.prog 36 0 0 4 := ⟨_, _, Tryz.underlying36, rfl, rfl, by kernel_rfl, by decide⟩
theorem fld_36_1 : Fld Tryz.prog 36 1 4 4 := ⟨_, _, Tryz.underlying36, rfl, rfl, by kernel_rfl, by decide⟩
theorem fld_59_0 : Fld Tryz.prog 59 0 0 4 := ⟨_, _, Tryz.underlying59, rfl, rfl, by kernel_rfl, by decide⟩
theorem fld_59_1 : Fld Tryz.prog 59 1 4 4 := ⟨_, _, Tryz.underlying59, rfl, rfl, by kernel_rfl, by decide⟩
theorem fld_59_2 : Fld Tryz.prog 59 2 8 4 := ⟨_, _, Tryz.underlying59, rfl, rfl, by kernel_rfl, by decide⟩
theorem fld_59_3 : Fld Tryz.prog 59 3 12 4 := ⟨_, _, Tryz.underlying59, rfl, rfl, by kernel_rfl, by decide⟩
theorem ty_24 : Ty Tryz.prog 24 2 true := ⟨by kernel_rfl, by kernel_rfl⟩
theorem ty_26 : Ty Tryz.prog 26 4 true := ⟨by kernel_rfl, by kernel_rfl⟩
theorem ty_36 : Ty Tryz.prog 36 8 true := ⟨by kernel_rfl, by kernel_rfl⟩
theorem ty_59 : Ty Tryz.prog 59 16 true := ⟨by kernel_rfl, by kernel_rfl⟩
end FilB
open FilB
/-! entries over one denominator -/
def RepM (b : Nat) (m : MQ) : Prop := ∃ n1 n2 n3 n4 D : Int, D ≠ 0 ∧ m.a = (n1 : Rat) / (D : Rat) ∧ m.b = (n2 : Rat) / (D : Rat) ∧ m.c = (n3 : Rat) / (D : Rat) ∧ m.d = (n4 : Rat) / (D : Rat) ∧ lz n1 ≤ b ∧ lz n2 ≤ b ∧ lz n3 ≤ b ∧ lz n4 ≤ b ∧ lz D ≤ b
theorem rep_bQ {b : Nat} {m : MQ} (h : RepM b m) : bQ b m.a ∧ bQ b m.b ∧ bQ b m.c ∧ bQ b m.d := by
  obtain ⟨n1, n2, n3, n4, D, hD, e1, e2, e3, e4, h1, h2, h3, h4, h5⟩ := h
  rw [e1, e2, e3, e4, ← Rat.divInt_eq_div, ← Rat.divInt_eq_div, ← Rat.divInt_eq_div, ← Rat.divInt_eq_div]
  obtain ⟨a1, a2⟩ := lz_low2 (p := n1) hD
  obtain ⟨b1, b2⟩ := lz_low2 (p := n2) hD
  obtain ⟨c1, c2⟩ := lz_low2 (p := n3) hD
  obtain ⟨d1, d2⟩ := lz_low2 (p := n4) hD
  exact ⟨⟨by omega, by omega⟩, ⟨by omega, by omega⟩, ⟨by omega, by omega⟩, ⟨by omega, by omega⟩⟩
theorem mul_div {a b c d D E : Rat} (hD : D ≠ 0) (hE : E ≠ 0) : a / D * (c / E) + b / D * (d / E) = (a * c + b * d) / (D * E) := by grind
theorem lz_two {c d : Nat} {a b x y : Int} (ha : lz a ≤ c) (hb : lz b ≤ c) (hx : lz x ≤ d) (hy : lz y ≤ d) : lz (a * x + b * y) ≤ c + d + 1 := by
  have h1 := lz_add (a * x) (b * y)
  have h2 := lz_mul a x
  have h3 := lz_mul b y
  omega
theorem rep_mul {c d : Nat} {m q : MQ} (hm : RepM c m) (hq : RepM d q) : RepM (c + d + 1) (mulQ m q) := by
  obtain ⟨n1, n2, n3, n4, D, hD, e1, e2, e3, e4, h1, h2, h3, h4, h5⟩ := hm
  obtain ⟨k1, k2, k3, k4, E, hE, f1, f2, f3, f4, g1, g2, g3, g4, g5⟩ := hq
  have hDr : (D : Rat) ≠ 0 := fun e => hD (by exact_mod_cast e)
  have hEr : (E : Rat) ≠ 0 := fun e => hE (by exact_mod_cast e)
  refine ⟨n1 * k1 + n2 * k3, n1 * k2 + n2 * k4, n3 * k1 + n4 * k3, n3 * k2 + n4 * k4, D * E, Int.mul_ne_zero hD hE, ?_, ?_, ?_, ?_, lz_two h1 h2 g1 g3, lz_two h1 h2 g2 g4, lz_two h3 h4 g1 g3, lz_two h3 h4 g2 g4, ?_⟩
  · simp only [mulQ, e1, e2, f1, f3, Rat.intCast_add, Rat.intCast_mul]
    exact mul_div hDr hEr
  · simp only [mulQ, e1, e2, f2, f4, Rat.intCast_add, Rat.intCast_mul]
    exact mul_div hDr hEr
  · simp only [mulQ, e3, e4, f1, f3, Rat.intCast_add, Rat.intCast_mul]
    exact mul_div hDr hEr
  · simp only [mulQ, e3, e4, f2, f4, Rat.intCast_add, Rat.intCast_mul]
    exact mul_div hDr hEr
  · have := lz_mul D E
    omega
theorem rep_of {b : Nat} {m : MQ} (n1 n2 n3 n4 D : Int) (hD : D ≠ 0) (e1 : m.a * (D : Rat) = (n1 : Rat)) (e2 : m.b * (D : Rat) = (n2 : Rat)) (e3 : m.c * (D : Rat) = (n3 : Rat)) (e4 : m.d * (D : Rat) = (n4 : Rat)) (h1 : lz n1 ≤ b) (h2 : lz n2 ≤ b) (h3 : lz n3 ≤ b) (h4 : lz n4 ≤ b) (h5 : lz D ≤ b) : RepM b m := by
  have hDr : (D : Rat) ≠ 0 := fun e => hD (by exact_mod_cast e)
  have key : ∀ {x : Rat} {n : Int}, x * (D : Rat) = (n : Rat) → x = (n : Rat) / (D : Rat) := fun h => by rw [← h]; exact (Rat.mul_div_cancel hDr).symm
  exact ⟨n1, n2, n3, n4, D, hD, key e1, key e2, key e3, key e4, h1, h2, h3, h4, h5⟩
theorem den_mul (x : Rat) : x * ((x.den : Int) : Rat) = (x.num : Rat) := by
  have := nd_eq x
  have hd := den_ne x
  generalize ((x.den : Int) : Rat) = d at *
  generalize (x.num : Rat) = n at *
  grind
theorem lz_0 : lz 0 = 0 := by kernel_rfl
theorem lz_one1 : lz 1 ≤ 1 := Nat.le_of_ble_eq_true (by kernel_rfl)
/-- a matrix with one free entry. -/
theorem rep_b {k : Nat} {x : Rat} (h : bQ k x) : RepM k ⟨1, x, 0, 1⟩ := rep_of (x.den : Int) x.num 0 (x.den : Int) (x.den : Int) (by have := x.den_pos; omega) (Rat.one_mul _) (den_mul x) (Rat.zero_mul _) (Rat.one_mul _) h.2 h.1 (by rw [lz_0]; omega) h.2 h.2
theorem rep_c {k : Nat} {x : Rat} (h : bQ k x) : RepM k ⟨1, 0, x, 1⟩ := rep_of (x.den : Int) 0 x.num (x.den : Int) (x.den : Int) (by have := x.den_pos; omega) (Rat.one_mul _) (Rat.zero_mul _) (den_mul x) (Rat.one_mul _) h.2 (by rw [lz_0]; omega) h.1 h.2 h.2
theorem rep_1 : RepM 1 ⟨1, 0, 0, 1⟩ := rep_of 1 0 0 1 1 (by decide) (by grind) (by grind) (by grind) (by grind) lz_one1 (by rw [lz_0]; omega) (by rw [lz_0]; omega) lz_one1 lz_one1
theorem rep_f : RepM 1 ⟨0 - 1, 0 - 0, 0 - 0, 0 - 1⟩ := rep_of (-1) 0 0 (-1) 1 (by decide) (by grind) (by grind) (by grind) (by grind) nq (by rw [lz_0]; omega) (by rw [lz_0]; omega) nq lz_one1
theorem rep_mono {b c : Nat} {m : MQ} (h : RepM b m) (hc : b ≤ c) : RepM c m := by
  obtain ⟨n1, n2, n3, n4, D, hD, e1, e2, e3, e4, h1, h2, h3, h4, h5⟩ := h
  exact ⟨n1, n2, n3, n4, D, hD, e1, e2, e3, e4, by omega, by omega, by omega, by omega, by omega⟩
theorem bQ_min {k : Nat} {x : Rat} (h : bQ k x) : bQ k (0 - x) := by
  have e : 0 - x = -x := by grind
  rw [e]
  exact ⟨by rw [Rat.neg_num, lz_neg]; exact h.1, by rw [Rat.neg_den]; exact h.2⟩
theorem bQ_div {c d : Nat} {x y : Rat} (hx : bQ c x) (hy : bQ d y) (h0 : y ≠ 0) : bQ (c + d) (x / y) := by
  rw [← rat_div]
  obtain ⟨h1, h2⟩ := lz_low2 (p := x.num * (y.den : Int)) (num_nz x h0)
  have h3 := lz_mul x.num (y.den : Int)
  have h4 := lz_mul (x.den : Int) y.num
  obtain ⟨x1, x2⟩ := hx
  obtain ⟨y1, y2⟩ := hy
  exact ⟨by omega, by omega⟩
theorem okX_bQ {x : RF} (h : okX x = true) : bQ 2048 (toQ x) := (okX_q h).2

/-- the bound of a worth, made sharper. -/
theorem qa_bQ {k k' : Nat} {x : Rat} (h : bQ k' x) : WkA (QA k x) (QA k' x) := qaA.trans (qa_of h.1 h.2)
theorem qm_rep {k k' : Nat} {m : MQ} (h : RepM k' m) : WkA (QMA k m) (QMA k' m) := by
  obtain ⟨h1, h2, h3, h4⟩ := rep_bQ h
  exact cat_wk (.cons (qa_bQ h1) (.cons (qa_bQ h2) (.cons (qa_bQ h3) (.cons (qa_bQ h4) .nil))))

section
variable {P : Program} {R : Rg} {Q : Exit → Act → World → Prop} {B i : Nat} {w0 : Bs}
/-- a field that is itself a struct, of a struct that is a value. -/
theorem r_field {x : Operand} {T k f : Nat} {A A' : As} {fs : Array Field} {fd : Field} (hx : Has R B w0 i x A.va) (hA : A.ag = true) (hA' : A'.ag = true) (hS : P.underlying T = some (.struct fs)) (hfd : fs[f]? = some fd) (hk : fd.offset = k) (ht : Ty P fd.type A'.n A'.ag) (hs : Sub A k A') :
    Wv P Q R B w0 i (.field T x f) A'.va :=
  wv_run fun d T' ps af gd a w av => by
    obtain ⟨cs, h1, hv⟩ := hx a w av
    obtain ⟨p1, l1⟩ := hs _ _ _ h1
    have hv' : a.eval x = .agg cs.toArray := by rw [hv]; unfold shape; rw [hA]; rfl
    have ha : (isAgg fd.type).run P w = .ok true w := by
      have := ht.2
      rw [hA'] at this
      cases hu : P.underlying fd.type with
      | none => rw [hu] at this; simp at this
      | some u =>
        rw [hu] at this
        unfold isAgg
        simp only [Sem.run_bind, run_underlying hu, Result.andThen_ok]
        cases u <;> simp_all
    have hz : (sizeOf fd.type).run P w = .ok A'.n w := by
      have := ht.1
      cases hi : P.info? fd.type with
      | none => rw [hi] at this; simp at this
      | some it => rw [hi] at this; simp [sizeOf, typeInfo, hi]; simpa using this
    refine ⟨.agg (cs.toArray.extract k (k + A'.n)), w, ?_, Grow.refl w, _, p1, ?_⟩
    · simp [execOp, hv', Instr.field, run_underlying hS, hfd, asAgg, part, ha, hz, hk]
    · unfold shape
      rw [hA', if_pos rfl]
      congr 1
      apply Array.ext'
      simp
end
structure RQ4 where
  a : RG
  b : RG
  c : RG
  d : RG
  deriving DecidableEq
def RQA (x : RQ4) : As := cat [RGA x.a, RGA x.b, RGA x.c, RGA x.d]
theorem rg0_p (B : Nat) (w : World) : (RGA rg0).p B [.bool false, .slice none 0 0, .bool false, .slice none 0 0, .bool false, .slice none 0 0, .bool false, .slice none 0 0] w := ⟨[[.bool false, .slice none 0 0, .bool false, .slice none 0 0], [.bool false, .slice none 0 0, .bool false, .slice none 0 0]], rfl, .cons (rf0_p B w) (.cons (rf0_p B w) .nil)⟩
theorem rm0_p (B : Nat) (w : World) : (RMA rm0).p B [.bool false, .slice none 0 0, .bool false, .slice none 0 0, .bool false, .slice none 0 0, .bool false, .slice none 0 0, .bool false, .slice none 0 0, .bool false, .slice none 0 0, .bool false, .slice none 0 0, .bool false, .slice none 0 0] w := ⟨[[.bool false, .slice none 0 0, .bool false, .slice none 0 0], [.bool false, .slice none 0 0, .bool false, .slice none 0 0], [.bool false, .slice none 0 0, .bool false, .slice none 0 0], [.bool false, .slice none 0 0, .bool false, .slice none 0 0]], rfl, .cons (rf0_p B w) (.cons (rf0_p B w) (.cons (rf0_p B w) (.cons (rf0_p B w) .nil)))⟩
abbrev rq0 : RQ4 := ⟨rg0, rg0, rg0, rg0⟩
def LtA (x : RM × RF × RF) : As := cat [RMA x.1, RFA x.2.1, RFA x.2.2]
def QLtA (c d e : Nat) (m : MQ) (h g : Rat) : As := cat [QMA c m, QA d h, QA e g]
abbrev lt0 : RM × RF × RF := (rm0, rf0, rf0)

theorem str_sheet : Str Tryz.prog 28 [RFA rf0, RFA rf0] :=
  Str.of (z := .agg #[.bool false, .slice none 0 0, .bool false, .slice none 0 0, .bool false, .slice none 0 0, .bool false, .slice none 0 0]) (by kernel_rfl) Tryz.underlying28 (by kernel_rfl) fun B w => ⟨[[.bool false, .slice none 0 0, .bool false, .slice none 0 0], [.bool false, .slice none 0 0, .bool false, .slice none 0 0]], rfl, (.cons (rf0_p B w) (.cons (rf0_p B w) .nil))⟩

theorem str_layers : Str Tryz.prog 59 [RFA rf0, RFA rf0, RFA rf0, RFA rf0] :=
  Str.of (z := .agg #[.bool false, .slice none 0 0, .bool false, .slice none 0 0, .bool false, .slice none 0 0, .bool false, .slice none 0 0, .bool false, .slice none 0 0, .bool false, .slice none 0 0, .bool false, .slice none 0 0, .bool false, .slice none 0 0]) (by kernel_rfl) Tryz.underlying59 (by kernel_rfl) fun B w => ⟨[[.bool false, .slice none 0 0, .bool false, .slice none 0 0], [.bool false, .slice none 0 0, .bool false, .slice none 0 0], [.bool false, .slice none 0 0, .bool false, .slice none 0 0], [.bool false, .slice none 0 0, .bool false, .slice none 0 0]], rfl, (.cons (rf0_p B w) (.cons (rf0_p B w) (.cons (rf0_p B w) (.cons (rf0_p B w) .nil))))⟩

theorem str_quad : Str Tryz.prog 38 [RGA rg0, RGA rg0, RGA rg0, RGA rg0] :=
  Str.of (z := .agg #[.bool false, .slice none 0 0, .bool false, .slice none 0 0, .bool false, .slice none 0 0, .bool false, .slice none 0 0, .bool false, .slice none 0 0, .bool false, .slice none 0 0, .bool false, .slice none 0 0, .bool false, .slice none 0 0, .bool false, .slice none 0 0, .bool false, .slice none 0 0, .bool false, .slice none 0 0, .bool false, .slice none 0 0, .bool false, .slice none 0 0, .bool false, .slice none 0 0, .bool false, .slice none 0 0, .bool false, .slice none 0 0]) (by kernel_rfl) Tryz.underlying38 (by kernel_rfl) fun B w => ⟨[[.bool false, .slice none 0 0, .bool false, .slice none 0 0, .bool false, .slice none 0 0, .bool false, .slice none 0 0], [.bool false, .slice none 0 0, .bool false, .slice none 0 0, .bool false, .slice none 0 0, .bool false, .slice none 0 0], [.bool false, .slice none 0 0, .bool false, .slice none 0 0, .bool false, .slice none 0 0, .bool false, .slice none 0 0], [.bool false, .slice none 0 0, .bool false, .slice none 0 0, .bool false, .slice none 0 0, .bool false, .slice none 0 0]], rfl, (.cons (rg0_p B w) (.cons (rg0_p B w) (.cons (rg0_p B w) (.cons (rg0_p B w) .nil))))⟩

theorem str_light : Str Tryz.prog 70 [RMA rm0, RFA rf0, RFA rf0] :=
  Str.of (z := .agg #[.bool false, .slice none 0 0, .bool false, .slice none 0 0, .bool false, .slice none 0 0, .bool false, .slice none 0 0, .bool false, .slice none 0 0, .bool false, .slice none 0 0, .bool false, .slice none 0 0, .bool false, .slice none 0 0, .bool false, .slice none 0 0, .bool false, .slice none 0 0, .bool false, .slice none 0 0, .bool false, .slice none 0 0]) (by kernel_rfl) Tryz.underlying70 (by kernel_rfl) fun B w => ⟨[[.bool false, .slice none 0 0, .bool false, .slice none 0 0, .bool false, .slice none 0 0, .bool false, .slice none 0 0, .bool false, .slice none 0 0, .bool false, .slice none 0 0, .bool false, .slice none 0 0, .bool false, .slice none 0 0], [.bool false, .slice none 0 0, .bool false, .slice none 0 0], [.bool false, .slice none 0 0, .bool false, .slice none 0 0]], rfl, (.cons (rm0_p B w) (.cons (rf0_p B w) (.cons (rf0_p B w) .nil)))⟩

/-! sheets -/
def okH (x : RR) : Bool := !((![x.y, x.u].all okX) || decide ((toQ x.y).num.sign ≤ 0))
def mayS (xs : List RR) : Int := if xs.length > 64 then 4 else if xs.all okH then 0 else 1
def zG (t : Rat) : GQ := ⟨((t.den : Int) : Rat), (t.num : Rat)⟩
def unitG (t : Rat) : GQ := sclG (mulG (zG t) (zG t)) (1 / normG (zG t))
def shQ (n t : Rat) : MQ := ⟨(unitG t).re, (unitG t).im / n, (unitG t).im * n, (unitG t).re⟩
def thenQ (m n : MQ) : MQ := ⟨m.a * n.a - m.b * n.c, m.a * n.b + m.b * n.d, m.c * n.a + m.d * n.c, m.d * n.d - m.c * n.b⟩
def shM (x : RR) : MQ := shQ (toQ x.y) (toQ x.u)
def filmQ (xs : List RR) : MQ := xs.foldl (fun m x => thenQ m (shM x)) ⟨1, 0, 0, 1⟩
theorem norm_z (t : Rat) : normG (zG t) ≠ 0 := fun e => by
  obtain ⟨h1, _⟩ := sum_sq (x := (zG t).re) (y := (zG t).im) e
  exact den_ne t h1
theorem okH_no {x : RR} (h : ((![x.y, x.u].all okX) || decide ((toQ x.y).num.sign ≤ 0)) = true) : okH x = false := by rw [okH, h]; rfl
theorem okH_yes {x : RR} (h : ((![x.y, x.u].all okX) || decide ((toQ x.y).num.sign ≤ 0)) = false) : okH x = true := by rw [okH, h]; rfl
theorem okH_q {x : RR} (h : okH x = true) : [x.y, x.u].all okX = true ∧ 0 < toQ x.y := by
  unfold okH at h
  rw [Bool.not_eq_true', Bool.or_eq_false_iff, Bool.not_eq_false'] at h
  exact ⟨h.1, Decidable.byContradiction fun h2 => (of_decide_eq_false h.2) (sgn_le.2 h2)⟩
theorem sgn_y {x : RR} (h : (![x.y, x.u].all okX) = false) : Cn Tryz.prog 33 [(RFA x.y).va] (In (toQ x.y).num.sign) := by
  rw [Bool.not_eq_false'] at h
  simp only [List.all_cons, List.all_nil, Bool.and_true, Bool.and_eq_true] at h
  exact sign_q.wk (.cons (qa_x h.1 (Nat.le_refl 2048)).va .nil)
theorem num_wk {t : Rat} : WkA (cat [ZA 2048 t.num, ZA 2 (1 : Rat).num]) (QA 2048 (t.num : Rat)) := cat_wk (.cons (wkA_eq (by rw [Rat.num_intCast])) (.cons ((za_mono (k' := 2048) (by decide)).trans (wkA_eq (by rw [Rat.den_intCast]; rfl))) .nil))
theorem den_wk {t : Rat} : WkA (cat [ZA 2048 (t.den : Int), ZA 2 (1 : Rat).num]) (QA 2048 ((t.den : Int) : Rat)) := cat_wk (.cons (wkA_eq (by rw [Rat.num_intCast])) (.cons ((za_mono (k' := 2048) (by decide)).trans (wkA_eq (by rw [Rat.den_intCast]; rfl))) .nil))

set_option maxRecDepth 100000 in
theorem unit_q {t : Rat} : Cn Tryz.prog 75 [Qs 2048 t] ((QGA 24583 (unitG t)).va) := by
  refine Cn.intro Tryz.func75 rfl (by kernel_rfl) nq (fun B w0 a hst => ?_)
  have hst : St B w0 27 [(0, Qs 2048 t)] [] a w0.w := hst
  refine wp_seq ?_
  refine gl (sts := []) (news := [⟨1, 26, ptrH, some 0, _, none⟩, ⟨2, 36, ptrH, some 1, _, none⟩]) (sp := [.alc 0, .alc 1]) [] hst (oc (ob_box rfl rfl rfl (gq 0 rfl)) (oc (ob_alc rfl rfl rfl (Str.zero str_gauss)) o0)) (fun a w hst => ?_)
  have hst : St B w0 27 [] [⟨1, 26, ptrH, _⟩, ⟨2, 36, ptrH, _⟩] a w := hst
  refine thn_normal ?_
  refine wp_seq ?_
  refine go_draw (anc := [[], [0], [], [2], [0, 1, 2, 3], [], [5], [2], [2, 7], [2, 5, 6, 7, 8], [], [], [0, 1, 2, 3, 4, 7, 10, 11], [0, 1, 2, 3, 4, 5, 6, 7, 8, 9, 10, 11, 12]]) (sts := [none, none]) (news := [⟨3, 26, ptrH, some 10, _, some (12, _)⟩, ⟨4, 26, ptrH, some 11, _, some (13, _)⟩]) (sp := [.adr 6 1 (.some 0) True, .val 7 _, .val 8 _, .val 9 _, .val 10 _, .adr 11 1 (.some 2) True, .val 12 _, .val 13 _, .val 14 _, .val 15 _, .alc 2, .alc 3, .sto 2, .sto 3]) [] follows_mixed hst (oc (ob_a rfl rfl (a_fld (lz0 0 rfl) fld_26_0)) (oc (ob_v rfl rfl (r_loadf 0 rfl (by kernel_rfl) trivial (lz0 0 rfl) (Sub.part 0 rfl rfl) ty_24)) (oc (ob_v rfl rfl (r_call (xs := []) one_q .nil)) (oc (ob_v rfl rfl (r_field (vq 2 rfl) rfl rfl Tryz.underlying26 rfl rfl ⟨by kernel_rfl, by kernel_rfl⟩ (Sub.part 0 rfl rfl))) (oc (ob_v rfl rfl (r_build (xs := [(0, .tmp 7), (1, .tmp 9)]) (qs := [(0, _), (1, _)]) str_frac (.cons ⟨rfl, (vq 1 rfl), rfl⟩ (.cons ⟨rfl, (vq 3 rfl), rfl⟩ .nil)))) (oc (ob_a rfl rfl (a_fld (lz0 0 rfl) fld_26_1)) (oc (ob_v rfl rfl (r_loadf 5 rfl (by kernel_rfl) trivial (lz0 0 rfl) (Sub.part 1 rfl rfl) ty_24)) (oc (ob_v rfl rfl (r_call (xs := []) one_q .nil)) (oc (ob_v rfl rfl (r_field (vq 7 rfl) rfl rfl Tryz.underlying26 rfl rfl ⟨by kernel_rfl, by kernel_rfl⟩ (Sub.part 0 rfl rfl))) (oc (ob_v rfl rfl (r_build (xs := [(0, .tmp 12), (1, .tmp 14)]) (qs := [(0, _), (1, _)]) str_frac (.cons ⟨rfl, (vq 6 rfl), rfl⟩ (.cons ⟨rfl, (vq 8 rfl), rfl⟩ .nil)))) (oc (ob_alc rfl rfl rfl (Str.zero str_frac)) (oc (ob_alc rfl rfl rfl (Str.zero str_frac)) (oc (ob_sto rfl rfl rfl (vq 4 rfl) ty_26 (Eq.trans (b := 4) rfl rfl)) (oc (ob_sto rfl rfl rfl (vq 9 rfl) ty_26 (Eq.trans (b := 4) rfl rfl)) o0)))))))))))))) (by kernel_rfl) (by kernel_rfl) (by kernel_rfl) (by kernel_rfl) (fun a w hst => ?_)
  have hst : St B w0 27 [] [⟨1, 26, ptrH, _⟩, ⟨2, 36, ptrH, _⟩, ⟨3, 26, ptrH, _⟩, ⟨4, 26, ptrH, _⟩] a w := hst
  have hst := St.wkL hst 2 rfl num_wk
  have hst := St.wkL hst 3 rfl den_wk
  refine thn_normal ?_
  refine wp_seq ?_
  refine gl (sts := [none, none, none, none]) (news := [⟨5, 36, ptrH, some 3, _, some (4, _)⟩]) (sp := [.val 16 _, .val 17 _, .val 18 _, .alc 4, .sto 4]) [] hst (oc (ob_v rfl rfl (r_load (lz0 3 rfl) ty_26)) (oc (ob_v rfl rfl (r_load (lz0 2 rfl) ty_26)) (oc (ob_v rfl rfl (r_build (xs := [(0, .tmp 16), (1, .tmp 17)]) (qs := [(0, _), (1, _)]) str_gauss (.cons ⟨rfl, (vq 0 rfl), rfl⟩ (.cons ⟨rfl, (vq 1 rfl), rfl⟩ .nil)))) (oc (ob_alc rfl rfl rfl (Str.zero str_gauss)) (oc (ob_sto rfl rfl rfl (vq 2 rfl) ty_36 (Eq.trans (b := 8) rfl rfl)) o0))))) (fun a w hst => ?_)
  have hst : St B w0 27 [] [⟨1, 26, ptrH, _⟩, ⟨2, 36, ptrH, _⟩, ⟨3, 26, ptrH, _⟩, ⟨4, 26, ptrH, _⟩, ⟨5, 36, ptrH, _⟩] a w := hst
  refine thn_normal ?_
  refine wp_seq ?_
  refine go_draw (anc := [[], [], [0, 1], [0, 1, 2], [], [0, 1, 2, 3, 4], [0, 1, 2, 3, 4, 5], [0, 1, 2, 3, 4, 5, 6], [0, 1, 2, 3, 4, 5, 6, 7]]) (sts := [none, some (8, _), none, none, none]) (news := []) (sp := [.val 19 _, .val 20 _, .val 21 _, .val 22 _, .val 23 _, .val 24 _, .val 25 _, .val 26 _, .sto 1]) [] follows_mixed hst (oc (ob_v rfl rfl (r_load (lz0 4 rfl) ty_36)) (oc (ob_v rfl rfl (r_load (lz0 4 rfl) ty_36)) (oc (ob_v rfl rfl (r_call (xs := [.tmp 19, .tmp 20]) (argTimes_q (c := 2048) (d := 2048) (z := zG t) (u := zG t) (by decide)) (.cons (vq 0 rfl) (.cons (vq 1 rfl) .nil)))) (oc (ob_v rfl rfl (r_call (xs := []) one_q .nil)) (oc (ob_v rfl rfl (r_load (lz0 4 rfl) ty_36)) (oc (ob_v rfl rfl (r_call (xs := [.tmp 23]) (norm_q (c := 2048) (z := zG t) (by decide)) (.cons (vq 4 rfl) .nil))) (oc (ob_v rfl rfl (r_call (xs := [.tmp 22, .tmp 24]) (over_q (by decide) (norm_z t)) (.cons (vq 3 rfl) (.cons (vq 5 rfl) .nil)))) (oc (ob_v rfl rfl (r_call (xs := [.tmp 21, .tmp 25]) (scaled_q (z := mulG (zG t) (zG t)) (by decide)) (.cons (vq 2 rfl) (.cons (vq 6 rfl) .nil)))) (oc (ob_sto rfl rfl rfl (vq 7 rfl) ty_36 (Eq.trans (b := 8) rfl rfl)) o0))))))))) (by kernel_rfl) (by kernel_rfl) (by kernel_rfl) (by kernel_rfl) (fun a w hst => ?_)
  have hst : St B w0 27 [] [⟨1, 26, ptrH, _⟩, ⟨2, 36, ptrH, _⟩, ⟨3, 26, ptrH, _⟩, ⟨4, 26, ptrH, _⟩, ⟨5, 36, ptrH, _⟩] a w := hst
  refine thn_normal ?_
  refine wp_ret ?_
  refine ret_wk ?_ (ret_cell rfl hst (List.mem_of_getElem? (i := 1) rfl) ty_36)
  exact wk_id

set_option maxRecDepth 100000 in
theorem sheet_q {n t : Rat} (h0 : n ≠ 0) : Cn Tryz.prog 53 [(QRA 2048 ⟨n, t⟩).va] ((QMA 26631 (shQ n t)).va) := by
  refine Cn.intro Tryz.func53 rfl (by kernel_rfl) nq (fun B w0 a hst => ?_)
  have hst : St B w0 23 [(0, (QRA 2048 ⟨n, t⟩).va)] [] a w0.w := hst
  refine wp_seq ?_
  refine gl (sts := []) (news := [⟨1, 28, ptrH, some 0, _, none⟩, ⟨2, 59, ptrH, some 1, _, none⟩]) (sp := [.alc 0, .alc 1]) [] hst (oc (ob_box rfl rfl rfl (gq 0 rfl)) (oc (ob_alc rfl rfl rfl (Str.zero str_layers)) o0)) (fun a w hst => ?_)
  have hst : St B w0 23 [] [⟨1, 28, ptrH, _⟩, ⟨2, 59, ptrH, _⟩] a w := hst
  refine thn_normal ?_
  refine wp_seq ?_
  refine gl (sts := [none, none]) (news := [⟨3, 36, ptrH, some 3, _, some (4, _)⟩]) (sp := [.adr 4 1 (.some 4) True, .val 5 _, .val 6 _, .alc 2, .sto 2]) [] hst (oc (ob_a rfl rfl (a_fld (lz0 0 rfl) fld_28_1)) (oc (ob_v rfl rfl (r_loadf 0 rfl (by kernel_rfl) trivial (lz0 0 rfl) (Sub.part 1 rfl rfl) ty_26)) (oc (ob_v rfl rfl (r_call (xs := [.tmp 5]) unit_q (.cons (vq 1 rfl) .nil))) (oc (ob_alc rfl rfl rfl (Str.zero str_gauss)) (oc (ob_sto rfl rfl rfl (vq 2 rfl) ty_36 (Eq.trans (b := 8) rfl rfl)) o0))))) (fun a w hst => ?_)
  have hst : St B w0 23 [] [⟨1, 28, ptrH, _⟩, ⟨2, 59, ptrH, _⟩, ⟨3, 36, ptrH, _⟩] a w := hst
  refine thn_normal ?_
  refine wp_seq ?_
  refine go_draw (anc := [[], [0], [], [2], [], [4], [2, 3, 4, 5], [], [7], [], [9], [2, 3, 4, 5, 6, 7, 8, 9, 10], [], [12], [2, 3, 4, 5, 6, 7, 8, 9, 10, 11, 12, 13], [0, 1, 2, 3, 4, 5, 6, 7, 8, 9, 10, 11, 12, 13, 14], [0, 1, 2, 3, 4, 5, 6, 7, 8, 9, 10, 11, 12, 13, 14, 15]]) (sts := [none, some (16, _), none]) (news := []) (sp := [.adr 7 3 (.some 0) True, .val 8 _, .adr 9 3 (.some 4) True, .val 10 _, .adr 11 1 (.some 0) True, .val 12 _, .val 13 _, .adr 14 3 (.some 4) True, .val 15 _, .adr 16 1 (.some 0) True, .val 17 _, .val 18 _, .adr 19 3 (.some 0) True, .val 20 _, .val 21 _, .val 22 _, .sto 1]) [] follows_mixed hst (oc (ob_a rfl rfl (a_fld (lz0 2 rfl) fld_36_0)) (oc (ob_v rfl rfl (r_loadf 0 rfl (by kernel_rfl) trivial (lz0 2 rfl) (Sub.part 0 rfl rfl) ty_26)) (oc (ob_a rfl rfl (a_fld (lz0 2 rfl) fld_36_1)) (oc (ob_v rfl rfl (r_loadf 2 rfl (by kernel_rfl) trivial (lz0 2 rfl) (Sub.part 1 rfl rfl) ty_26)) (oc (ob_a rfl rfl (a_fld (lz0 0 rfl) fld_28_0)) (oc (ob_v rfl rfl (r_loadf 4 rfl (by kernel_rfl) trivial (lz0 0 rfl) (Sub.part 0 rfl rfl) ty_26)) (oc (ob_v rfl rfl (r_call (xs := [.tmp 10, .tmp 12]) (over_q (by decide) h0) (.cons (vq 3 rfl) (.cons (vq 5 rfl) .nil)))) (oc (ob_a rfl rfl (a_fld (lz0 2 rfl) fld_36_1)) (oc (ob_v rfl rfl (r_loadf 7 rfl (by kernel_rfl) trivial (lz0 2 rfl) (Sub.part 1 rfl rfl) ty_26)) (oc (ob_a rfl rfl (a_fld (lz0 0 rfl) fld_28_0)) (oc (ob_v rfl rfl (r_loadf 9 rfl (by kernel_rfl) trivial (lz0 0 rfl) (Sub.part 0 rfl rfl) ty_26)) (oc (ob_v rfl rfl (r_call (xs := [.tmp 15, .tmp 17]) (times_q (by omega)) (.cons (vq 8 rfl) (.cons (vq 10 rfl) .nil)))) (oc (ob_a rfl rfl (a_fld (lz0 2 rfl) fld_36_0)) (oc (ob_v rfl rfl (r_loadf 12 rfl (by kernel_rfl) trivial (lz0 2 rfl) (Sub.part 0 rfl rfl) ty_26)) (oc (ob_v rfl rfl (r_call (xs := [.tmp 20]) (copy_q (by omega)) (.cons (vq 13 rfl) .nil))) (oc (ob_v rfl rfl (r_build (xs := [(0, .tmp 8), (1, .tmp 13), (2, .tmp 18), (3, .tmp 21)]) (qs := [(0, _), (1, _), (2, _), (3, _)]) str_layers (.cons ⟨rfl, (vq 1 rfl), rfl⟩ (.cons ⟨rfl, (vq 6 rfl), rfl⟩ (.cons ⟨rfl, (vq 11 rfl), rfl⟩ (.cons ⟨rfl, (vq 14 rfl), rfl⟩ .nil)))))) (oc (ob_sto rfl rfl rfl (vq 15 rfl) ty_59 (Eq.trans (b := 16) rfl rfl)) o0))))))))))))))))) (by kernel_rfl) (by kernel_rfl) (by kernel_rfl) (by kernel_rfl) (fun a w hst => ?_)
  have hst : St B w0 23 [] [⟨1, 28, ptrH, _⟩, ⟨2, 59, ptrH, _⟩, ⟨3, 36, ptrH, _⟩] a w := hst
  refine thn_normal ?_
  refine wp_ret ?_
  refine ret_wk ?_ (ret_cell rfl hst (List.mem_of_getElem? (i := 1) rfl) ty_59)
  exact (cat_wk (.cons (qa_mono (by decide)) (.cons (qa_mono (by decide)) (.cons (qa_mono (by decide)) (.cons (qa_mono (by decide)) .nil))))).va

set_option maxRecDepth 100000 in
theorem filPlus_q {c d e f : Nat} {x y z u : Rat} (hk : c + d + e + f ≤ 137438953472) : Cn Tryz.prog 74 [Qs c x, Qs d y, Qs e z, Qs f u] (Qs (c + d + (e + f) + 1) (x * y + z * u)) := by
  refine Cn.intro Tryz.func74 rfl (by kernel_rfl) nq (fun B w0 a hst => ?_)
  have hst : St B w0 16 [(0, Qs c x), (1, Qs d y), (2, Qs e z), (3, Qs f u)] [] a w0.w := hst
  refine wp_seq ?_
  refine gl (sts := []) (news := [⟨4, 26, ptrH, some 0, _, none⟩, ⟨5, 26, ptrH, some 1, _, none⟩, ⟨6, 26, ptrH, some 2, _, none⟩, ⟨7, 26, ptrH, some 3, _, none⟩, ⟨8, 26, ptrH, some 4, _, none⟩]) (sp := [.alc 0, .alc 1, .alc 2, .alc 3, .alc 4]) [] hst (oc (ob_box rfl rfl rfl (gq 0 rfl)) (oc (ob_box rfl rfl rfl (gq 1 rfl)) (oc (ob_box rfl rfl rfl (gq 2 rfl)) (oc (ob_box rfl rfl rfl (gq 3 rfl)) (oc (ob_alc rfl rfl rfl (Str.zero str_frac)) o0))))) (fun a w hst => ?_)
  have hst : St B w0 16 [] [⟨4, 26, ptrH, _⟩, ⟨5, 26, ptrH, _⟩, ⟨6, 26, ptrH, _⟩, ⟨7, 26, ptrH, _⟩, ⟨8, 26, ptrH, _⟩] a w := hst
  refine thn_normal ?_
  refine wp_seq ?_
  refine go_draw (anc := [[], [], [0, 1], [], [], [0, 1, 2, 3, 4], [0, 1, 2, 3, 4, 5], [0, 1, 2, 3, 4, 5, 6]]) (sts := [none, none, none, none, some (7, _)]) (news := []) (sp := [.val 9 _, .val 10 _, .val 11 _, .val 12 _, .val 13 _, .val 14 _, .val 15 _, .sto 4]) [] follows_mixed hst (oc (ob_v rfl rfl (r_load (lz0 0 rfl) ty_26)) (oc (ob_v rfl rfl (r_load (lz0 1 rfl) ty_26)) (oc (ob_v rfl rfl (r_call (xs := [.tmp 9, .tmp 10]) (times_q (by omega)) (.cons (vq 0 rfl) (.cons (vq 1 rfl) .nil)))) (oc (ob_v rfl rfl (r_load (lz0 2 rfl) ty_26)) (oc (ob_v rfl rfl (r_load (lz0 3 rfl) ty_26)) (oc (ob_v rfl rfl (r_call (xs := [.tmp 12, .tmp 13]) (times_q (by omega)) (.cons (vq 3 rfl) (.cons (vq 4 rfl) .nil)))) (oc (ob_v rfl rfl (r_call (xs := [.tmp 11, .tmp 14]) (plus_q (by omega)) (.cons (vq 2 rfl) (.cons (vq 5 rfl) .nil)))) (oc (ob_sto rfl rfl rfl (vq 6 rfl) ty_26 (Eq.trans (b := 4) rfl rfl)) o0)))))))) (by kernel_rfl) (by kernel_rfl) (by kernel_rfl) (by kernel_rfl) (fun a w hst => ?_)
  have hst : St B w0 16 [] [⟨4, 26, ptrH, _⟩, ⟨5, 26, ptrH, _⟩, ⟨6, 26, ptrH, _⟩, ⟨7, 26, ptrH, _⟩, ⟨8, 26, ptrH, _⟩] a w := hst
  refine thn_normal ?_
  refine wp_ret ?_
  refine ret_wk ?_ (ret_cell rfl hst (List.mem_of_getElem? (i := 4) rfl) ty_26)
  exact wk_id

set_option maxRecDepth 100000 in
theorem filLess_q {c d e f : Nat} {x y z u : Rat} (hk : c + d + e + f ≤ 137438953472) : Cn Tryz.prog 73 [Qs c x, Qs d y, Qs e z, Qs f u] (Qs (c + d + (e + f) + 1) (x * y - z * u)) := by
  refine Cn.intro Tryz.func73 rfl (by kernel_rfl) nq (fun B w0 a hst => ?_)
  have hst : St B w0 16 [(0, Qs c x), (1, Qs d y), (2, Qs e z), (3, Qs f u)] [] a w0.w := hst
  refine wp_seq ?_
  refine gl (sts := []) (news := [⟨4, 26, ptrH, some 0, _, none⟩, ⟨5, 26, ptrH, some 1, _, none⟩, ⟨6, 26, ptrH, some 2, _, none⟩, ⟨7, 26, ptrH, some 3, _, none⟩, ⟨8, 26, ptrH, some 4, _, none⟩]) (sp := [.alc 0, .alc 1, .alc 2, .alc 3, .alc 4]) [] hst (oc (ob_box rfl rfl rfl (gq 0 rfl)) (oc (ob_box rfl rfl rfl (gq 1 rfl)) (oc (ob_box rfl rfl rfl (gq 2 rfl)) (oc (ob_box rfl rfl rfl (gq 3 rfl)) (oc (ob_alc rfl rfl rfl (Str.zero str_frac)) o0))))) (fun a w hst => ?_)
  have hst : St B w0 16 [] [⟨4, 26, ptrH, _⟩, ⟨5, 26, ptrH, _⟩, ⟨6, 26, ptrH, _⟩, ⟨7, 26, ptrH, _⟩, ⟨8, 26, ptrH, _⟩] a w := hst
  refine thn_normal ?_
  refine wp_seq ?_
  refine go_draw (anc := [[], [], [0, 1], [], [], [0, 1, 2, 3, 4], [0, 1, 2, 3, 4, 5], [0, 1, 2, 3, 4, 5, 6]]) (sts := [none, none, none, none, some (7, _)]) (news := []) (sp := [.val 9 _, .val 10 _, .val 11 _, .val 12 _, .val 13 _, .val 14 _, .val 15 _, .sto 4]) [] follows_mixed hst (oc (ob_v rfl rfl (r_load (lz0 0 rfl) ty_26)) (oc (ob_v rfl rfl (r_load (lz0 1 rfl) ty_26)) (oc (ob_v rfl rfl (r_call (xs := [.tmp 9, .tmp 10]) (times_q (by omega)) (.cons (vq 0 rfl) (.cons (vq 1 rfl) .nil)))) (oc (ob_v rfl rfl (r_load (lz0 2 rfl) ty_26)) (oc (ob_v rfl rfl (r_load (lz0 3 rfl) ty_26)) (oc (ob_v rfl rfl (r_call (xs := [.tmp 12, .tmp 13]) (times_q (by omega)) (.cons (vq 3 rfl) (.cons (vq 4 rfl) .nil)))) (oc (ob_v rfl rfl (r_call (xs := [.tmp 11, .tmp 14]) (minus_q (by omega)) (.cons (vq 2 rfl) (.cons (vq 5 rfl) .nil)))) (oc (ob_sto rfl rfl rfl (vq 6 rfl) ty_26 (Eq.trans (b := 4) rfl rfl)) o0)))))))) (by kernel_rfl) (by kernel_rfl) (by kernel_rfl) (by kernel_rfl) (fun a w hst => ?_)
  have hst : St B w0 16 [] [⟨4, 26, ptrH, _⟩, ⟨5, 26, ptrH, _⟩, ⟨6, 26, ptrH, _⟩, ⟨7, 26, ptrH, _⟩, ⟨8, 26, ptrH, _⟩] a w := hst
  refine thn_normal ?_
  refine wp_ret ?_
  refine ret_wk ?_ (ret_cell rfl hst (List.mem_of_getElem? (i := 4) rfl) ty_26)
  exact wk_id

set_option maxRecDepth 100000 in
theorem then_q {c d : Nat} {m n : MQ} (hk : c + d ≤ 68719476736) : Cn Tryz.prog 52 [(QMA c m).va, (QMA d n).va] ((QMA (c + d + (c + d) + 1) (thenQ m n)).va) := by
  refine Cn.intro Tryz.func52 rfl (by kernel_rfl) nq (fun B w0 a hst => ?_)
  have hst : St B w0 42 [(0, (QMA c m).va), (1, (QMA d n).va)] [] a w0.w := hst
  refine wp_seq ?_
  refine gl (sts := []) (news := [⟨2, 59, ptrH, some 0, _, none⟩, ⟨3, 59, ptrH, some 1, _, none⟩, ⟨4, 59, ptrH, some 2, _, none⟩]) (sp := [.alc 0, .alc 1, .alc 2]) [] hst (oc (ob_box rfl rfl rfl (gq 0 rfl)) (oc (ob_box rfl rfl rfl (gq 1 rfl)) (oc (ob_alc rfl rfl rfl (Str.zero str_layers)) o0))) (fun a w hst => ?_)
  have hst : St B w0 42 [] [⟨2, 59, ptrH, _⟩, ⟨3, 59, ptrH, _⟩, ⟨4, 59, ptrH, _⟩] a w := hst
  refine thn_normal ?_
  refine wp_seq ?_
  refine go_draw (anc := [[], [0], [], [2], [], [4], [], [6], [0, 1, 2, 3, 4, 5, 6, 7], [], [9], [], [11], [], [13], [], [15], [0, 1, 2, 3, 4, 5, 6, 7, 8, 9, 10, 11, 12, 13, 14, 15, 16], [], [18], [], [20], [], [22], [], [24], [0, 1, 2, 3, 4, 5, 6, 7, 8, 9, 10, 11, 12, 13, 14, 15, 16, 17, 18, 19, 20, 21, 22, 23, 24, 25], [], [27], [], [29], [], [31], [], [33], [0, 1, 2, 3, 4, 5, 6, 7, 8, 9, 10, 11, 12, 13, 14, 15, 16, 17, 18, 19, 20, 21, 22, 23, 24, 25, 26, 27, 28, 29, 30, 31, 32, 33, 34], [0, 1, 2, 3, 4, 5, 6, 7, 8, 9, 10, 11, 12, 13, 14, 15, 16, 17, 18, 19, 20, 21, 22, 23, 24, 25, 26, 27, 28, 29, 30, 31, 32, 33, 34, 35], [0, 1, 2, 3, 4, 5, 6, 7, 8, 9, 10, 11, 12, 13, 14, 15, 16, 17, 18, 19, 20, 21, 22, 23, 24, 25, 26, 27, 28, 29, 30, 31, 32, 33, 34, 35, 36]]) (sts := [none, none, some (37, _)]) (news := []) (sp := ((.adr 5 2 (.some 0) True : Sp) :: (.val 6 _) :: (.adr 7 3 (.some 0) True) :: (.val 8 _) :: (.adr 9 2 (.some 4) True) :: (.val 10 _) :: (.adr 11 3 (.some 8) True) :: (.val 12 _) :: (.val 13 _) :: (.adr 14 2 (.some 0) True) :: (.val 15 _) :: (.adr 16 3 (.some 4) True) :: (.val 17 _) :: (.adr 18 2 (.some 4) True) :: (.val 19 _) :: (.adr 20 3 (.some 12) True) :: (.val 21 _) :: (.val 22 _) :: (.adr 23 2 (.some 8) True) :: (.val 24 _) :: (.adr 25 3 (.some 0) True) :: (.val 26 _) :: (.adr 27 2 (.some 12) True) :: (.val 28 _) :: (.adr 29 3 (.some 8) True) :: (.val 30 _) :: (.val 31 _) :: (.adr 32 2 (.some 12) True) :: (.val 33 _) :: (.adr 34 3 (.some 12) True) :: (.val 35 _) :: (.adr 36 2 (.some 8) True) :: (.val 37 _) :: (.adr 38 3 (.some 4) True) :: (.val 39 _) :: (.val 40 _) :: (.val 41 _) :: (.sto 2) :: [])) [] follows_mixed hst (oc (ob_a rfl rfl (a_fld (lz0 0 rfl) fld_59_0)) (oc (ob_v rfl rfl (r_loadf 0 rfl (by kernel_rfl) trivial (lz0 0 rfl) (Sub.part 0 rfl rfl) ty_26)) (oc (ob_a rfl rfl (a_fld (lz0 1 rfl) fld_59_0)) (oc (ob_v rfl rfl (r_loadf 2 rfl (by kernel_rfl) trivial (lz0 1 rfl) (Sub.part 0 rfl rfl) ty_26)) (oc (ob_a rfl rfl (a_fld (lz0 0 rfl) fld_59_1)) (oc (ob_v rfl rfl (r_loadf 4 rfl (by kernel_rfl) trivial (lz0 0 rfl) (Sub.part 1 rfl rfl) ty_26)) (oc (ob_a rfl rfl (a_fld (lz0 1 rfl) fld_59_2)) (oc (ob_v rfl rfl (r_loadf 6 rfl (by kernel_rfl) trivial (lz0 1 rfl) (Sub.part 2 rfl rfl) ty_26)) (oc (ob_v rfl rfl (r_call (xs := [.tmp 6, .tmp 8, .tmp 10, .tmp 12]) (filLess_q (by omega)) (.cons (vq 1 rfl) (.cons (vq 3 rfl) (.cons (vq 5 rfl) (.cons (vq 7 rfl) .nil)))))) (oc (ob_a rfl rfl (a_fld (lz0 0 rfl) fld_59_0)) (oc (ob_v rfl rfl (r_loadf 9 rfl (by kernel_rfl) trivial (lz0 0 rfl) (Sub.part 0 rfl rfl) ty_26)) (oc (ob_a rfl rfl (a_fld (lz0 1 rfl) fld_59_1)) (oc (ob_v rfl rfl (r_loadf 11 rfl (by kernel_rfl) trivial (lz0 1 rfl) (Sub.part 1 rfl rfl) ty_26)) (oc (ob_a rfl rfl (a_fld (lz0 0 rfl) fld_59_1)) (oc (ob_v rfl rfl (r_loadf 13 rfl (by kernel_rfl) trivial (lz0 0 rfl) (Sub.part 1 rfl rfl) ty_26)) (oc (ob_a rfl rfl (a_fld (lz0 1 rfl) fld_59_3)) (oc (ob_v rfl rfl (r_loadf 15 rfl (by kernel_rfl) trivial (lz0 1 rfl) (Sub.part 3 rfl rfl) ty_26)) (oc (ob_v rfl rfl (r_call (xs := [.tmp 15, .tmp 17, .tmp 19, .tmp 21]) (filPlus_q (by omega)) (.cons (vq 10 rfl) (.cons (vq 12 rfl) (.cons (vq 14 rfl) (.cons (vq 16 rfl) .nil)))))) (oc (ob_a rfl rfl (a_fld (lz0 0 rfl) fld_59_2)) (oc (ob_v rfl rfl (r_loadf 18 rfl (by kernel_rfl) trivial (lz0 0 rfl) (Sub.part 2 rfl rfl) ty_26)) (oc (ob_a rfl rfl (a_fld (lz0 1 rfl) fld_59_0)) (oc (ob_v rfl rfl (r_loadf 20 rfl (by kernel_rfl) trivial (lz0 1 rfl) (Sub.part 0 rfl rfl) ty_26)) (oc (ob_a rfl rfl (a_fld (lz0 0 rfl) fld_59_3)) (oc (ob_v rfl rfl (r_loadf 22 rfl (by kernel_rfl) trivial (lz0 0 rfl) (Sub.part 3 rfl rfl) ty_26)) (oc (ob_a rfl rfl (a_fld (lz0 1 rfl) fld_59_2)) (oc (ob_v rfl rfl (r_loadf 24 rfl (by kernel_rfl) trivial (lz0 1 rfl) (Sub.part 2 rfl rfl) ty_26)) (oc (ob_v rfl rfl (r_call (xs := [.tmp 24, .tmp 26, .tmp 28, .tmp 30]) (filPlus_q (by omega)) (.cons (vq 19 rfl) (.cons (vq 21 rfl) (.cons (vq 23 rfl) (.cons (vq 25 rfl) .nil)))))) (oc (ob_a rfl rfl (a_fld (lz0 0 rfl) fld_59_3)) (oc (ob_v rfl rfl (r_loadf 27 rfl (by kernel_rfl) trivial (lz0 0 rfl) (Sub.part 3 rfl rfl) ty_26)) (oc (ob_a rfl rfl (a_fld (lz0 1 rfl) fld_59_3)) (oc (ob_v rfl rfl (r_loadf 29 rfl (by kernel_rfl) trivial (lz0 1 rfl) (Sub.part 3 rfl rfl) ty_26)) (oc (ob_a rfl rfl (a_fld (lz0 0 rfl) fld_59_2)) (oc (ob_v rfl rfl (r_loadf 31 rfl (by kernel_rfl) trivial (lz0 0 rfl) (Sub.part 2 rfl rfl) ty_26)) (oc (ob_a rfl rfl (a_fld (lz0 1 rfl) fld_59_1)) (oc (ob_v rfl rfl (r_loadf 33 rfl (by kernel_rfl) trivial (lz0 1 rfl) (Sub.part 1 rfl rfl) ty_26)) (oc (ob_v rfl rfl (r_call (xs := [.tmp 33, .tmp 35, .tmp 37, .tmp 39]) (filLess_q (by omega)) (.cons (vq 28 rfl) (.cons (vq 30 rfl) (.cons (vq 32 rfl) (.cons (vq 34 rfl) .nil)))))) (oc (ob_v rfl rfl (r_build (xs := [(0, .tmp 13), (1, .tmp 22), (2, .tmp 31), (3, .tmp 40)]) (qs := [(0, _), (1, _), (2, _), (3, _)]) str_layers (.cons ⟨rfl, (vq 8 rfl), rfl⟩ (.cons ⟨rfl, (vq 17 rfl), rfl⟩ (.cons ⟨rfl, (vq 26 rfl), rfl⟩ (.cons ⟨rfl, (vq 35 rfl), rfl⟩ .nil)))))) (oc (ob_sto rfl rfl rfl (vq 36 rfl) ty_59 (Eq.trans (b := 16) rfl rfl)) o0)))))))))))))))))))))))))))))))))))))) (by kernel_rfl) (by kernel_rfl) (by kernel_rfl) (by kernel_rfl) (fun a w hst => ?_)
  have hst : St B w0 42 [] [⟨2, 59, ptrH, _⟩, ⟨3, 59, ptrH, _⟩, ⟨4, 59, ptrH, _⟩] a w := hst
  refine thn_normal ?_
  refine wp_ret ?_
  refine ret_wk ?_ (ret_cell rfl hst (List.mem_of_getElem? (i := 2) rfl) ty_59)
  exact (cat_wk (.cons (qa_mono (by omega)) (.cons (qa_mono (by omega)) (.cons (qa_mono (by omega)) (.cons (qa_mono (by omega)) .nil))))).va

/-! the size of a product of sheets -/
def phi (m : MQ) : MQ := ⟨m.a, m.b, -m.c, m.d⟩
theorem phi_then (m n : MQ) : phi (thenQ m n) = mulQ (phi m) (phi n) := by
  unfold phi thenQ mulQ
  simp only [MQ.mk.injEq]
  exact ⟨by grind, by grind, by grind, by grind⟩
theorem phi_phi (m : MQ) : phi (phi m) = m := by
  unfold phi
  cases m
  simp only [MQ.mk.injEq]
  exact ⟨trivial, trivial, by grind, trivial⟩
theorem rep_phi {b : Nat} {m : MQ} (h : RepM b m) : RepM b (phi m) := by
  obtain ⟨n1, n2, n3, n4, D, hD, e1, e2, e3, e4, h1, h2, h3, h4, h5⟩ := h
  refine ⟨n1, n2, -n3, n4, D, hD, e1, e2, ?_, e4, h1, h2, by rw [lz_neg]; exact h3, h4, h5⟩
  unfold phi
  simp only
  rw [e3, Rat.intCast_neg]
  grind
theorem rep_then {c d : Nat} {m n : MQ} (hm : RepM c m) (hn : RepM d n) : RepM (c + d + 1) (thenQ m n) := by
  have h := rep_phi (rep_mul (rep_phi hm) (rep_phi hn))
  rwa [← phi_then, phi_phi] at h
def szS (n t : Rat) : Nat := szQ n + szQ t
theorem unit_e (t : Rat) : (unitG t).re = ((t.den : Int) * (t.den : Int) - t.num * t.num : Int) / (((t.den : Int) * (t.den : Int) + t.num * t.num : Int) : Rat) ∧ (unitG t).im = ((t.den : Int) * t.num + t.num * (t.den : Int) : Int) / (((t.den : Int) * (t.den : Int) + t.num * t.num : Int) : Rat) := by
  unfold unitG sclG mulG normG zG
  simp only [Rat.intCast_add, Rat.intCast_sub, Rat.intCast_mul, Rat.div_def, Rat.one_mul]
  exact ⟨trivial, trivial⟩
theorem lz_mono1 {a : Int} {k k' : Nat} (h : lz a ≤ k) (hk : k ≤ k') : lz a ≤ k' := Nat.le_trans h hk
theorem cd1 {A N x y : Rat} (h : N ≠ 0) : A / N * (N * (x * y)) = A * (x * y) := by grind
theorem cd2 {B N a b : Rat} (h : N ≠ 0) (ha : a ≠ 0) (hb : b ≠ 0) : B / N / (a / b) * (N * (a * b)) = B * (b * b) := by grind
theorem cd3 {B N a b : Rat} (h : N ≠ 0) (hb : b ≠ 0) : B / N * (a / b) * (N * (a * b)) = B * (a * a) := by grind
theorem sh_rep {n t : Rat} (h0 : n ≠ 0) : RepM (2 * szS n t + 1) (shQ n t) := by
  have hd := den_ne t
  have hN : (((t.den : Int) * (t.den : Int) + t.num * t.num : Int) : Rat) ≠ 0 := fun e => norm_z t (by
    unfold normG zG
    simp only
    rw [Rat.intCast_add, Rat.intCast_mul, Rat.intCast_mul] at e
    exact e)
  have hN' : ((t.den : Int) * (t.den : Int) + t.num * t.num : Int) ≠ 0 := fun e => hN (by rw [e]; rfl)
  have hnn : n.num ≠ 0 := fun e => h0 (Rat.num_eq_zero.1 e)
  have hnd : (n.den : Int) ≠ 0 := by have := n.den_pos; omega
  have en := nd_eq n
  have hnr : (n.num : Rat) ≠ 0 := fun e => hnn (by exact_mod_cast e)
  have hdr := den_ne n
  obtain ⟨u1, u2⟩ := unit_e t
  have l1 := lz_mul (t.den : Int) (t.den : Int)
  have l2 := lz_mul t.num t.num
  have l3 := lz_mul (t.den : Int) t.num
  have l3' := lz_mul t.num (t.den : Int)
  have l4 := lz_mul n.num (n.den : Int)
  have l5 := lz_mul (n.den : Int) (n.den : Int)
  have l6 := lz_mul n.num n.num
  have s1 := lz_add ((t.den : Int) * (t.den : Int)) (t.num * t.num)
  have s2 : lz ((t.den : Int) * (t.den : Int) - t.num * t.num) ≤ 2 * szQ t + 1 := by
    have := lz_add ((t.den : Int) * (t.den : Int)) (-(t.num * t.num))
    rw [lz_neg] at this
    rw [Int.sub_eq_add_neg]
    unfold szQ
    omega
  have s3 := lz_add ((t.den : Int) * t.num) (t.num * (t.den : Int))
  generalize hA : ((t.den : Int) * (t.den : Int) - t.num * t.num : Int) = A at *
  generalize hB : ((t.den : Int) * t.num + t.num * (t.den : Int) : Int) = Bq at *
  generalize hNN : ((t.den : Int) * (t.den : Int) + t.num * t.num : Int) = NN at *
  have m1 := lz_mul NN (n.num * (n.den : Int))
  have m2 := lz_mul A (n.num * (n.den : Int))
  have m3 := lz_mul Bq ((n.den : Int) * (n.den : Int))
  have m4 := lz_mul Bq (n.num * n.num)
  refine rep_of (A * (n.num * (n.den : Int))) (Bq * ((n.den : Int) * (n.den : Int))) (Bq * (n.num * n.num)) (A * (n.num * (n.den : Int))) (NN * (n.num * (n.den : Int))) (Int.mul_ne_zero hN' (Int.mul_ne_zero hnn hnd)) ?_ ?_ ?_ ?_ ?_ ?_ ?_ ?_ ?_
  · show (unitG t).re * _ = _
    rw [u1]
    simp only [Rat.intCast_mul]
    exact cd1 hN
  · show (unitG t).im / n * _ = _
    rw [u2]
    conv => lhs; lhs; rhs; rw [en]
    simp only [Rat.intCast_mul]
    exact cd2 hN hnr hdr
  · show (unitG t).im * n * _ = _
    rw [u2]
    conv => lhs; lhs; rhs; rw [en]
    simp only [Rat.intCast_mul]
    exact cd3 hN hdr
  · show (unitG t).re * _ = _
    rw [u1]
    simp only [Rat.intCast_mul]
    exact cd1 hN
  · unfold szS szQ at *; omega
  · unfold szS szQ at *; omega
  · unfold szS szQ at *; omega
  · unfold szS szQ at *; omega
  · unfold szS szQ at *; omega

end Go.Proofs.YtaplgnjnhfljnaaGreat
