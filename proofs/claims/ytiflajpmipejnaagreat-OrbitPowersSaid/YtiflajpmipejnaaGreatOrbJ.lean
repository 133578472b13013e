/- Plain laws of rays that go round: the form stays, the bound holds. No program in sight. -/
import Derived.Test.YtiflajpmipejnaaGreatOrbI
namespace Go.Proofs.YtiflajpmipejnaaGreat
open Go Go.RowKit
namespace OrbJ

end OrbJ
open OrbJ
theorem go_mul (p m : MQ) (r : YQ) : goQ (mulQ p m) r = goQ p (goQ m r) := by
  unfold goQ mulQ
  simp only [YQ.mk.injEq]
  exact ⟨by grind, by grind⟩
theorem go_one (r : YQ) : goQ ⟨1, 0, 0, 1⟩ r = r := by
  cases r
  unfold goQ
  simp only [YQ.mk.injEq]
  exact ⟨by grind, by grind⟩
theorem fo_go {m : MQ} (h : detM m = 1) (r : YQ) : foQ m (goQ m r) = foQ m r := by
  unfold detM at h
  unfold foQ goQ
  grind
theorem fo_pow {m : MQ} (h : detM m = 1) : ∀ (k : Nat) (r : YQ), foQ m (goQ (powQ m k) r) = foQ m r
  | 0, r => by
    show foQ m (goQ ⟨1, 0, 0, 1⟩ r) = _
    rw [go_one]
  | k + 1, r => by
    show foQ m (goQ (mulQ (powQ m k) m) r) = _
    rw [go_mul, fo_pow h k, fo_go h]
/-- what the bound rests on. -/
theorem fo_sq {m : MQ} (h : detM m = 1) (r : YQ) : -4 * (m.b * foQ m r) = (2 * m.b * r.u - (m.d - m.a) * r.y) * (2 * m.b * r.u - (m.d - m.a) * r.y) + shQ' m * (r.y * r.y) := by
  unfold detM at h
  unfold foQ goQ shQ'
  grind
theorem sq_nn2 (x : Rat) : 0 ≤ x * x := by
  rcases Rat.le_total (a := 0) (b := x) with h | h
  · exact Rat.mul_nonneg h h
  · have h2 : 0 ≤ -x := by grind
    have := Rat.mul_nonneg h2 h2
    have e : -x * -x = x * x := by grind
    rwa [e] at this
theorem bound_ge {m : MQ} (h : detM m = 1) (hs : 0 < shQ' m) (r : YQ) : r.y * r.y ≤ -4 * (m.b * foQ m r) / shQ' m := by
  have hne : shQ' m ≠ 0 := fun e => by rw [e] at hs; exact absurd hs (by decide)
  have e := fo_sq h r
  have h1 := sq_nn2 (2 * m.b * r.u - (m.d - m.a) * r.y)
  have h2 : -4 * (m.b * foQ m r) / shQ' m * shQ' m = -4 * (m.b * foQ m r) := Rat.div_mul_cancel hne
  apply Decidable.byContradiction
  intro hn
  have h3 := Rat.mul_lt_mul_of_pos_right (Rat.not_le.1 hn) hs
  rw [h2, e] at h3
  have h4 : shQ' m * (r.y * r.y) = r.y * r.y * shQ' m := Rat.mul_comm _ _
  rw [h4] at h3
  grind

/-! rays whose form is nought -/
theorem eig {m : MQ} {r : YQ} (hQ : foQ m r = 0) (h0 : ¬ (r.y = 0 ∧ r.u = 0)) : ∃ t : Rat, goQ m r = ⟨t * r.y, t * r.u⟩ := by
  obtain ⟨p, q, hp, hq⟩ : ∃ p q, (goQ m r).y = p ∧ (goQ m r).u = q := ⟨_, _, rfl, rfl⟩
  have e : goQ m r = ⟨p, q⟩ := by rw [← hp, ← hq]
  have hQ' : r.y * q - r.u * p = 0 := by rw [← hp, ← hq]; exact hQ
  rw [e]
  by_cases hy : r.y = 0
  · have hu : r.u ≠ 0 := fun h => h0 ⟨hy, h⟩
    refine ⟨q / r.u, ?_⟩
    simp only [YQ.mk.injEq]
    refine ⟨?_, (Rat.div_mul_cancel hu).symm⟩
    rw [hy] at hQ' ⊢
    have : r.u * p = 0 := by grind
    rcases Rat.mul_eq_zero.1 this with h | h
    · exact absurd h hu
    · rw [h]; grind
  · refine ⟨p / r.y, ?_⟩
    simp only [YQ.mk.injEq]
    refine ⟨(Rat.div_mul_cancel hy).symm, ?_⟩
    have h1 : p / r.y * r.y = p := Rat.div_mul_cancel hy
    generalize p / r.y = t at *
    have h2 : r.y * (q - t * r.u) = 0 := by grind
    rcases Rat.mul_eq_zero.1 h2 with h | h
    · exact absurd h hy
    · grind
theorem eig_nz {m : MQ} {r : YQ} {t : Rat} (hd : detM m = 1) (h0 : ¬ (r.y = 0 ∧ r.u = 0)) (h : goQ m r = ⟨t * r.y, t * r.u⟩) : t ≠ 0 := by
  rintro rfl
  apply h0
  unfold detM at hd
  unfold goQ at h
  simp only [YQ.mk.injEq] at h
  obtain ⟨h1, h2⟩ := h
  exact ⟨by grind, by grind⟩
theorem go_scale (m : MQ) (r : YQ) (s : Rat) : goQ m ⟨s * r.y, s * r.u⟩ = ⟨s * (goQ m r).y, s * (goQ m r).u⟩ := by
  unfold goQ
  simp only [YQ.mk.injEq]
  exact ⟨by grind, by grind⟩
theorem eig_pow {m : MQ} {r : YQ} {t : Rat} (ht : t ≠ 0) (h : goQ m r = ⟨t * r.y, t * r.u⟩) : ∀ k, ∃ s : Rat, s ≠ 0 ∧ goQ (powQ m k) r = ⟨s * r.y, s * r.u⟩ ∧ (t * t ≤ 1 → s * s ≤ 1)
  | 0 => ⟨1, by decide, by show goQ ⟨1, 0, 0, 1⟩ r = _; rw [go_one]; cases r; simp, fun _ => by grind⟩
  | k + 1 => by
    obtain ⟨s, h1, h2, h3⟩ := eig_pow ht h k
    refine ⟨s * t, fun e => (Rat.mul_eq_zero.1 e).elim h1 ht, ?_, fun h4 => ?_⟩
    · show goQ (mulQ (powQ m k) m) r = _
      rw [go_mul, h, go_scale, h2]
      simp only [YQ.mk.injEq]
      exact ⟨by grind, by grind⟩
    · have h5 := h3 h4
      have h6 : s * t * (s * t) = s * s * (t * t) := by grind
      rw [h6]
      have h7 := Rat.mul_le_mul_of_nonneg_left h4 (sq_nn2 s)
      grind

theorem go_nought (m : MQ) {r : YQ} (h : r.y = 0 ∧ r.u = 0) : goQ m r = r := by
  obtain ⟨y, u⟩ := r
  obtain ⟨h1, h2⟩ := h
  simp only at h1 h2
  subst h1 h2
  unfold goQ
  simp only [YQ.mk.injEq]
  exact ⟨by grind, by grind⟩
theorem sc_le {s x y : Rat} (hs : s ≠ 0) : s * x * (s * x) ≤ s * y * (s * y) ↔ x * x ≤ y * y := by
  have h0 : 0 < s * s := Rat.lt_iff_le_and_ne.2 ⟨sq_nn2 s, fun e => (Rat.mul_eq_zero.1 e.symm).elim hs hs⟩
  have e1 : s * x * (s * x) = x * x * (s * s) := by grind
  have e2 : s * y * (s * y) = y * y * (s * s) := by grind
  rw [e1, e2]
  constructor
  · intro h
    apply Decidable.byContradiction
    intro hn
    have h3 := Rat.mul_lt_mul_of_pos_right (Rat.not_le.1 hn) h0
    exact (Rat.not_le.2 h3) h
  · intro h
    exact Rat.mul_le_mul_of_nonneg_right h (sq_nn2 s)

theorem cm_le {x y : Rat} : cmQ x y ≤ 0 ↔ x ≤ y := by
  unfold cmQ
  by_cases h : x < y
  · rw [if_pos h]; exact ⟨fun _ => Rat.le_of_lt h, fun _ => by decide⟩
  · rw [if_neg h]
    by_cases h2 : y < x
    · rw [if_pos h2]; exact ⟨fun h3 => absurd h3 (by decide), fun h3 => absurd h3 (Rat.not_le.2 h2)⟩
    · rw [if_neg h2]; exact ⟨fun _ => Rat.not_lt.1 h2, fun _ => by decide⟩

theorem sg_eq0 {x : Rat} (h : ¬ (x.num.sign != 0) = true) : x = 0 := by
  have h1 : x.num.sign = 0 := by simpa using h
  exact Rat.num_eq_zero.1 (Int.sign_eq_zero_iff_zero.1 h1)
theorem sta_pow {m : MQ} (hd : detM m = 1) (k : Nat) (r : YQ) : staQ m (goQ (powQ m k) r) = staQ m r := by
  have hQ := fo_pow hd k r
  unfold staQ
  rw [hQ]
  split
  · rfl
  · split
    · rfl
    · rename_i h1 h2
      rw [Bool.or_eq_true, not_or] at h2
      have h3 : foQ m r = 0 := sg_eq0 h2.2
      by_cases h0 : r.y = 0 ∧ r.u = 0
      · rw [go_nought _ h0]
      · obtain ⟨t, ht⟩ := eig h3 h0
        have hn := eig_nz hd h0 ht
        obtain ⟨s, s1, s2, _⟩ := eig_pow hn ht k
        rw [s2, go_scale, ht]
        have e : ∀ {a b c d : Rat}, (a ≤ b ↔ c ≤ d) → decide (cmQ a b ≤ 0) = decide (cmQ c d ≤ 0) := fun h => decide_eq_decide.2 (by rw [cm_le, cm_le]; exact h)
        rw [e (sc_le s1), e (sc_le s1)]

theorem eig_char {m : MQ} {r : YQ} {t : Rat} (hd : detM m = 1) (h0 : ¬ (r.y = 0 ∧ r.u = 0)) (h : goQ m r = ⟨t * r.y, t * r.u⟩) : t * t - (m.a + m.d) * t + 1 = 0 := by
  unfold detM at hd
  unfold goQ at h
  simp only [YQ.mk.injEq] at h
  obtain ⟨h1, h2⟩ := h
  have k1 : (t * t - (m.a + m.d) * t + 1) * r.y = 0 := by grind
  have k2 : (t * t - (m.a + m.d) * t + 1) * r.u = 0 := by grind
  rcases Rat.mul_eq_zero.1 k1 with h | h
  · exact h
  · rcases Rat.mul_eq_zero.1 k2 with h' | h'
    · exact h'
    · exact absurd ⟨h, h'⟩ h0
theorem edge_one {t z : Rat} (h : t * t - z * t + 1 = 0) (h2 : 4 - z * z = 0) : t * t = 1 := by
  have h3 : (2 * t - z) * (2 * t - z) = 0 := by grind
  have h4 : 2 * t - z = 0 := (Rat.mul_eq_zero.1 h3).elim id id
  grind
theorem le_one {t x : Rat} (hx : x ≠ 0) (h : t * x * (t * x) ≤ x * x) : t * t ≤ 1 := by
  have h0 : 0 < x * x := Rat.lt_iff_le_and_ne.2 ⟨sq_nn2 x, fun e => (Rat.mul_eq_zero.1 e.symm).elim hx hx⟩
  apply Decidable.byContradiction
  intro hn
  have h3 := Rat.mul_lt_mul_of_pos_right (Rat.not_le.1 hn) h0
  have e : t * t * (x * x) = t * x * (t * x) := by grind
  rw [e] at h3
  grind
theorem sc_one {s y : Rat} (h : s * s ≤ 1) : s * y * (s * y) ≤ y * y := by
  have h7 := Rat.mul_le_mul_of_nonneg_right h (sq_nn2 y)
  have e : s * s * (y * y) = s * y * (s * y) := by grind
  rw [e] at h7
  grind

theorem sg_sign {x : Rat} : (x.num.sign == 0) = true ↔ x = 0 := by
  rw [beq_iff_eq]
  exact ⟨fun h => Rat.num_eq_zero.1 (Int.sign_eq_zero_iff_zero.1 h), fun h => by rw [h]; rfl⟩
/-- where it stays and the trace is not below 2: never farther than at first. -/
theorem sta_le {m : MQ} {r : YQ} (hd : detM m = 1) (hs : (shQ' m).num.sign ≤ 0) (h : staQ m r = true) (k : Nat) : (goQ (powQ m k) r).y * (goQ (powQ m k) r).y ≤ r.y * r.y := by
  by_cases h0 : r.y = 0 ∧ r.u = 0
  · rw [go_nought _ h0]
    exact Rat.le_refl
  have hng : decide ((shQ' m).num.sign > 0) = false := decide_eq_false (by omega)
  obtain ⟨hQ, ht⟩ : foQ m r = 0 ∧ ∀ t, goQ m r = ⟨t * r.y, t * r.u⟩ → t * t ≤ 1 := by
    unfold staQ at h
    rw [hng, Bool.false_or] at h
    split at h
    · rename_i h1
      rw [Bool.and_eq_true] at h1
      refine ⟨sg_sign.1 h1.1, fun t e => ?_⟩
      have h2 := sg_sign.1 h1.2
      unfold shQ' at h2
      rw [edge_one (eig_char hd h0 e) h2]
      exact Rat.le_refl
    · split at h
      · cases h
      · rename_i h1 h2
        rw [Bool.or_eq_true, not_or] at h2
        refine ⟨sg_eq0 h2.2, fun t e => ?_⟩
        rw [e, Bool.and_eq_true, decide_eq_true_eq, decide_eq_true_eq, cm_le, cm_le] at h
        by_cases hy : r.y = 0
        · exact le_one (fun hu => h0 ⟨hy, hu⟩) h.2
        · exact le_one hy h.1
  obtain ⟨t, e⟩ := eig hQ h0
  obtain ⟨s, _, s2, s3⟩ := eig_pow (eig_nz hd h0 e) e k
  rw [s2]
  exact sc_one (s3 (ht t e))

end Go.Proofs.YtiflajpmipejnaaGreat
