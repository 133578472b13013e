/- Plain laws of the matrices t, -1, 1, 0 on whole numbers. No program in sight. -/
import Derived.Test.YtiflajpmipejnaaOrbK
namespace Go.Proofs.Ytiflajpmipejnaa
open Go Go.RowKit
namespace OrbL

end OrbL
open OrbL
theorem di_one (t : Int) : Rat.divInt t 1 = (t : Rat) := by
  rw [Rat.divInt_eq_div]
  have e : ((1 : Int) : Rat) = 1 := rfl
  rw [e]
  grind
def wm (t : Int) : RM := ⟨rfOf (Rat.divInt t 1), rfOf (Rat.divInt (-1) 1), rfOf (Rat.divInt 1 1), rfOf (Rat.divInt 0 1)⟩
def wr (y u : Int) : RR := ⟨rfOf (Rat.divInt y 1), rfOf (Rat.divInt u 1)⟩
def wQ (t : Int) : MQ := ⟨(t : Rat), -1, 1, 0⟩
def yQ (y u : Int) : YQ := ⟨(y : Rat), (u : Rat)⟩
theorem w_m (t : Int) : toM (wm t) = wQ t := by
  unfold toM wm wQ
  simp only [toQ_of, di_one]
  rfl
theorem w_r (y u : Int) : toY (wr y u) = yQ y u := by
  unfold toY wr yQ
  simp only [toQ_of, di_one]
theorem int_long {t : Int} (h : t.natAbs < 4294967296) : longQ (t : Rat) = false := small_long ⟨by rw [Rat.num_intCast]; exact h, by rw [Rat.den_intCast]; decide⟩
theorem w_det (t : Int) : detM (wQ t) = 1 := by
  unfold detM wQ
  grind
theorem w_ok {t y u : Int} (ht : t.natAbs < 4294967296) (hy : y.natAbs < 4294967296) (hu : u.natAbs < 4294967296) : fiO (wm t) (wr y u) = true := by
  unfold fiO okM
  rw [w_m, w_det]
  have h1 : okX (wm t).a = true := by show okX (rfOf (Rat.divInt t 1)) = true; rw [okX_of, di_one, int_long ht]; rfl
  have h5 : okX (wr y u).y = true := by show okX (rfOf (Rat.divInt y 1)) = true; rw [okX_of, di_one, int_long hy]; rfl
  have h6 : okX (wr y u).u = true := by show okX (rfOf (Rat.divInt u 1)) = true; rw [okX_of, di_one, int_long hu]; rfl
  have h2 : okX (wm t).b = true := by show okX (rfOf (Rat.divInt (-1) 1)) = true; kernel_rfl
  have h3 : okX (wm t).c = true := by show okX (rfOf (Rat.divInt 1 1)) = true; kernel_rfl
  have h4 : okX (wm t).d = true := by show okX (rfOf (Rat.divInt 0 1)) = true; kernel_rfl
  simp [h1, h2, h3, h4, h5, h6]
theorem w_go (t y u : Int) : goQ (wQ t) (yQ y u) = yQ (t * y - u) y := by
  unfold goQ wQ yQ
  simp only [YQ.mk.injEq, Rat.intCast_sub, Rat.intCast_mul]
  exact ⟨by grind, by grind⟩
theorem w_pow (t y u : Int) : ∀ k, goQ (powQ (wQ t) k) (yQ y u) = yQ (zp t (y, u) k).1 (zp t (y, u) k).2
  | 0 => go_one _
  | k + 1 => by
    rw [go_next, w_pow t y u k, w_go]
    rfl
theorem ab_i (y : Int) : abQ (y : Rat) = (((y.natAbs : Nat) : Int) : Rat) := by
  have e := abI_q (z := y) (d := 1) (y := (y : Rat)) (by decide) (by have e : ((1 : Int) : Rat) = 1 := rfl; rw [e]; grind)
  have e1 : ((1 : Int) : Rat) = 1 := rfl
  rw [e, e1]
  grind
theorem far_i {l : Nat} {y u : Int} : farQ (((l : Nat) : Int) : Rat) (yQ y u) = (decide (l < y.natAbs) || decide (l < u.natAbs)) := by
  unfold farQ yQ
  simp only [ab_i, Rat.intCast_lt_intCast, Int.ofNat_lt]
def shI (t : Int) : Int := 4 - t * t
def foI (t y u : Int) : Int := y * y - u * (t * y - u)
theorem w_sh (t : Int) : shQ' (wQ t) = ((shI t : Int) : Rat) := by
  unfold shQ' shI wQ
  simp only [Rat.intCast_sub, Rat.intCast_mul]
  have e : ((4 : Int) : Rat) = 4 := rfl
  rw [e]
  grind
theorem w_fo (t y u : Int) : foQ (wQ t) (yQ y u) = ((foI t y u : Int) : Rat) := by
  unfold foQ
  rw [w_go]
  unfold foI yQ
  simp only [Rat.intCast_sub, Rat.intCast_mul]
theorem w_sg (z : Int) : ((z : Int) : Rat).num.sign = z.sign := by rw [Rat.num_intCast]

/-- whether it stays. -/
theorem ws_pos {t y u : Int} (h : t.natAbs ≤ 1) : staQ (wQ t) (yQ y u) = true := by
  have h1 : decide ((shQ' (wQ t)).num.sign > 0) = true := by
    rw [w_sh, w_sg]
    have : t = -1 ∨ t = 0 ∨ t = 1 := by omega
    rcases this with rfl | rfl | rfl <;> rfl
  unfold staQ
  rw [h1]
  rfl
theorem ws_edge {t y u : Int} (h : t.natAbs = 2) : staQ (wQ t) (yQ y u) = decide (foI t y u = 0) := by
  have h1 : (shQ' (wQ t)).num.sign = 0 := by
    rw [w_sh, w_sg]
    have : t = -2 ∨ t = 2 := by omega
    rcases this with rfl | rfl <;> rfl
  unfold staQ
  rw [h1, w_fo, w_sg]
  by_cases h2 : foI t y u = 0
  · rw [h2]; rfl
  · have h3 : (foI t y u).sign ≠ 0 := fun e => h2 (Int.sign_eq_zero_iff_zero.1 e)
    have h4 : ((foI t y u).sign == 0) = false := by simpa using h3
    rw [decide_eq_false h2, h4]
    rfl
theorem ws_wild {t y u : Int} (h : 3 ≤ t.natAbs) (hF : foI t y u ≠ 0) : staQ (wQ t) (yQ y u) = false := by
  have h1 : (shQ' (wQ t)).num.sign = -1 := by
    rw [w_sh, w_sg]
    apply Int.sign_eq_neg_one_of_neg
    have h2 := Nat.mul_le_mul h h
    have h3 : ((t.natAbs * t.natAbs : Nat) : Int) = t * t := Int.natAbs_mul_self
    unfold shI
    omega
  have h3 : (foI t y u).sign ≠ 0 := fun e => hF (Int.sign_eq_zero_iff_zero.1 e)
  have h4 : ((foI t y u).sign != 0) = true := by simpa using h3
  unfold staQ
  rw [h1, w_fo, w_sg, h4]
  simp
theorem ws_zero (t : Int) : staQ (wQ t) (yQ 0 0) = true := by
  have h0 : (yQ 0 0).y = 0 ∧ (yQ 0 0).u = 0 := ⟨rfl, rfl⟩
  have hF : foI t 0 0 = 0 := by unfold foI; grind
  have e0 : ((yQ 0 0).y * (yQ 0 0).y) = 0 := by rw [h0.1]; exact Rat.zero_mul 0
  have e1 : ((yQ 0 0).u * (yQ 0 0).u) = 0 := by rw [h0.2]; exact Rat.zero_mul 0
  unfold staQ
  rw [go_nought _ h0, w_fo, hF, e0, e1]
  have hz : (((0 : Int) : Rat).num.sign) = 0 := rfl
  rw [hz]
  split
  · rfl
  · rename_i h
    split
    · rename_i h2
      have h3 : ((shQ' (wQ t)).num.sign == 0) = true := by simpa using h2
      rw [h3] at h
      simp at h
    · have hc : cmQ 0 0 ≤ 0 := cm_le.2 Rat.le_refl
      simp [hc]

/-! no square lies between two neighbours, times a square -/
theorem no_sq {N m : Int} (h1 : m * m < N) (h2 : N < (m + 1) * (m + 1)) (hm : 0 ≤ m) : ∀ (j n : Nat) (v : Int), n ≤ j → v * v = N * ((n : Int) * (n : Int)) → n = 0
  | 0, n, _, h, _ => by omega
  | j + 1, n, v, h, e => by
    apply Decidable.byContradiction
    intro hn
    have hn0 : 0 < (n : Int) := by omega
    have hw : ∃ w : Int, 0 ≤ w ∧ w * w = N * ((n : Int) * (n : Int)) := ⟨(v.natAbs : Int), by omega, by rw [← e]; exact_mod_cast Int.natAbs_mul_self⟩
    obtain ⟨w, hw0, hw⟩ := hw
    have hnn : 0 < (n : Int) * (n : Int) := Int.mul_pos hn0 hn0
    have a1 : m * (n : Int) < w := by
      apply Decidable.byContradiction
      intro hc
      have hc' : w ≤ m * (n : Int) := by omega
      have h3 := Int.mul_le_mul hc' hc' hw0 (Int.mul_nonneg hm (by omega))
      have h4 := Int.mul_lt_mul_of_pos_right h1 hnn
      have h5 : m * (n : Int) * (m * (n : Int)) = m * m * ((n : Int) * (n : Int)) := by grind
      omega
    have a2 : w < (m + 1) * (n : Int) := by
      apply Decidable.byContradiction
      intro hc
      have hc' : (m + 1) * (n : Int) ≤ w := by omega
      have h3 := Int.mul_le_mul hc' hc' (Int.mul_nonneg (by omega) (by omega)) hw0
      have h4 := Int.mul_lt_mul_of_pos_right h2 hnn
      have h5 : (m + 1) * (n : Int) * ((m + 1) * (n : Int)) = (m + 1) * (m + 1) * ((n : Int) * (n : Int)) := by grind
      omega
    have a3 : (m + 1) * (n : Int) = m * (n : Int) + n := by grind
    have hq : (((w - m * (n : Int)).toNat : Nat) : Int) = w - m * (n : Int) := Int.toNat_of_nonneg (by omega)
    have := no_sq h1 h2 hm j (w - m * (n : Int)).toNat (N * (n : Int) - m * w) (by omega) (by rw [hq]; grind)
    omega
theorem fo_nz {t y u : Int} (ht : 3 ≤ t.natAbs) (h : foI t y u = 0) : y = 0 ∧ u = 0 := by
  have e : (2 * y - t * u) * (2 * y - t * u) = (t * t - 4) * ((u.natAbs : Int) * (u.natAbs : Int)) := by
    have : ((u.natAbs : Int) * (u.natAbs : Int)) = u * u := by exact_mod_cast Int.natAbs_mul_self
    rw [this]
    unfold foI at h
    grind
  have e2 : t * t = (t.natAbs : Int) * (t.natAbs : Int) := by exact_mod_cast Int.natAbs_mul_self.symm
  rw [e2] at e
  generalize hT : (t.natAbs : Int) = T at *
  have hT3 : 3 ≤ T := by omega
  have hm : (T - 1) * (T - 1) < T * T - 4 := by
    have : (T - 1) * (T - 1) = T * T - 2 * T + 1 := by grind
    omega
  have hm2 : T * T - 4 < (T - 1 + 1) * (T - 1 + 1) := by
    have : (T - 1 + 1) * (T - 1 + 1) = T * T := by grind
    omega
  have hu := no_sq hm hm2 (by omega) u.natAbs u.natAbs _ (Nat.le_refl _) e
  have hu0 : u = 0 := by omega
  subst hu0
  unfold foI at h
  have h2 : y * y = 0 := by grind
  exact ⟨(Int.mul_eq_zero.1 h2).elim id id, rfl⟩

/-! when it leaves -/
theorem wl_ok {l : Nat} (h : l < 4294967296) : okX (rfOf (Rat.divInt (l : Int) 1)) = true := by rw [okX_of, di_one, int_long (by omega)]; rfl
theorem wl_q (l : Nat) : toQ (rfOf (Rat.divInt (l : Int) 1)) = (((l : Nat) : Int) : Rat) := by rw [toQ_of, di_one]
/-- what is asked of small ones. -/
structure WdOk (t y u : Int) (l : Nat) : Prop where
  t : -128 ≤ t ∧ t < 128
  y : -128 ≤ y ∧ y < 128
  u : -128 ≤ u ∧ u < 128
  l : l < 256
section
variable {t y u : Int} {l : Nat}
theorem WdOk.ok (h : WdOk t y u l) : fiO (wm t) (wr y u) = true ∧ okX (rfOf (Rat.divInt (l : Int) 1)) = true :=
  ⟨w_ok (by have := h.t; omega) (by have := h.y; omega) (by have := h.u; omega), wl_ok (by have := h.l; omega)⟩
theorem WdOk.st (h : WdOk t y u l) : stO (wm t) (wr y u) = (staQ (wQ t) (yQ y u), 0) := by rw [stO, if_pos h.ok.1, w_m, w_r]
theorem WdOk.at (h : WdOk t y u l) {k : Nat} (hk : k ≤ 4096) (hf : l < (zp t (y, u) k).1.natAbs) : ∃ n : Nat, n ≤ k ∧ leO (wm t) (wr y u) (rfOf (Rat.divInt (l : Int) 1)) = ((n : Int), 0) := by
  obtain ⟨n, h1, h2, _⟩ := le_at h.ok hk (by rw [wl_q, w_m, w_r, w_pow, far_i, decide_eq_true hf]; rfl)
  exact ⟨n, h1, h2⟩
theorem WdOk.lt (h : WdOk t y u l) : l < 256 := h.l
theorem WdOk.wild (h : WdOk t y u l) (ht : 3 ≤ t.natAbs) (h0 : ¬ (y = 0 ∧ u = 0)) : staQ (wQ t) (yQ y u) = false ∧ ∃ n : Nat, n ≤ 16 ∧ leO (wm t) (wr y u) (rfOf (Rat.divInt (l : Int) 1)) = ((n : Int), 0) := by
  refine ⟨ws_wild ht fun e => h0 (fo_nz ht e), ?_⟩
  obtain ⟨k, q1, q2⟩ := zp_leave3 ht 7 8 (x := (y, u)) (by have := h.u; show u.natAbs ≤ 128; omega) (by show y ≠ 0 ∨ u ≠ 0; omega)
  obtain ⟨n, h1, h2⟩ := h.at (k := k) (by omega) (by have := h.l; have e : (2 : Nat) ^ 8 = 256 := rfl; omega)
  exact ⟨n, by omega, h2⟩
theorem WdOk.far (h : WdOk t y u l) (ht : (t = 2 ∧ y ≠ u) ∨ (t = -2 ∧ y ≠ -u)) : ∃ n : Nat, n ≤ 600 ∧ leO (wm t) (wr y u) (rfOf (Rat.divInt (l : Int) 1)) = ((n : Int), 0) := by
  have q := zp_leave2 (x := (y, u)) ht 600
  have hy := h.y
  have hl := h.l
  exact h.at (k := 600) (by decide) (by have e : ((y, u) : Int × Int).1 = y := rfl; rw [e] at q; omega)
theorem WdOk.lv (h : WdOk t y u l) : leO (wm t) (wr y u) (rfOf (Rat.divInt (l : Int) 1)) = (0, 7) ∨ ∃ n : Nat, leO (wm t) (wr y u) (rfOf (Rat.divInt (l : Int) 1)) = ((n : Int), 0) := by
  rcases le_07 h.ok with e | ⟨n, e, _⟩
  · exact .inl e
  · exact .inr ⟨n, e⟩
theorem WdOk.zero (h : WdOk t 0 0 l) : leO (wm t) (wr 0 0) (rfOf (Rat.divInt (l : Int) 1)) = (0, 7) := le_never h.ok fun i => by
  rw [wl_q, w_m, w_r, go_nought _ ⟨rfl, rfl⟩, far_i]
  simp
theorem zp_round (t : Int) (h : t.natAbs ≤ 1) (x : Int × Int) : ∃ p, 0 < p ∧ p ≤ 6 ∧ zp t x p = x ∧ zp t x 12 = x := by
  have h3 : t = -1 ∨ t = 0 ∨ t = 1 := by omega
  obtain ⟨a, b⟩ := x
  rcases h3 with rfl | rfl | rfl
  · refine ⟨3, by decide, by decide, ?_, ?_⟩ <;> (simp only [zp, Prod.mk.injEq]; omega)
  · refine ⟨4, by decide, by decide, ?_, ?_⟩ <;> (simp only [zp, Prod.mk.injEq]; omega)
  · refine ⟨6, by decide, by decide, ?_, ?_⟩ <;> (simp only [zp, Prod.mk.injEq]; omega)
theorem WdOk.round (h : WdOk t y u l) (ht : t.natAbs ≤ 1) : afO (wm t) (wr y u) 12 = (wr y u, 0) ∧ (leO (wm t) (wr y u) (rfOf (Rat.divInt (l : Int) 1)) = (0, 7) ∨ ∃ n : Nat, n ≤ 6 ∧ leO (wm t) (wr y u) (rfOf (Rat.divInt (l : Int) 1)) = ((n : Int), 0)) := by
  obtain ⟨p, p0, p6, e1, e2⟩ := zp_round t ht (y, u)
  constructor
  · have e : goQ (powQ (toM (wm t)) 12) (toY (wr y u)) = yQ y u := by rw [w_m, w_r, w_pow, e2]
    rcases af_at (k := 12) h.ok.1 (by decide) with h1 | ⟨h1, _⟩
    · exfalso
      have h2 : afO (wm t) (wr y u) ((12 : Nat) : Int) = (rrOf (yQ y u), 0) := by
        rw [afO, if_pos h.ok.1, if_pos (by decide), Int.toNat_natCast, e, af_ok]
        have := h.y
        have := h.u
        simp [yQ, int_long (t := y) (by omega), int_long (t := u) (by omega)]
      rw [h2] at h1
      exact absurd (show (0 : Int) = 4 from h1) (by decide)
    · rw [e] at h1
      refine h1.trans ?_
      unfold rrOf wr yQ
      rw [di_one, di_one]
  · rcases le_07 h.ok with e | ⟨n, e, f1, f2⟩
    · exact .inl e
    · refine .inr ⟨n, ?_, e⟩
      apply Decidable.byContradiction
      intro hn
      have f3 := f2 (n - p) (by omega)
      rw [w_m, w_r, w_pow] at f1 f3
      have e3 : zp t (y, u) n = zp t (y, u) (n - p) := by
        have := zp_add t (y, u) p (n - p)
        rw [e1, show p + (n - p) = n by omega] at this
        exact this
      rw [e3, f3] at f1
      cases f1
end

end Go.Proofs.Ytiflajpmipejnaa
