/- Plain laws of rays that go round: the whole numbers that walk hands out are the ray over a common denominator; how fast a ray leaves. No program in sight. -/
import Derived.Test.YtiflajpmipejnaaGreatOrbJ
import Derived.Test.YtiflajpmipejnaaGreatOrbH
namespace Go.Proofs.YtiflajpmipejnaaGreat
open Go Go.RowKit
namespace OrbK

end OrbK
open OrbK
theorem lq_step {q d : Int} (hd : 0 < d) : ∃ c, 0 < c ∧ Int.tdiv d ((Int.gcd q d : Nat) : Int) = c ∧ d ∣ q * c := by
  obtain ⟨c, hc⟩ : ((Int.gcd q d : Nat) : Int) ∣ d := Int.gcd_dvd_right ..
  obtain ⟨e, he⟩ : ((Int.gcd q d : Nat) : Int) ∣ q := Int.gcd_dvd_left ..
  have hg0 : (0 : Int) ≤ ((Int.gcd q d : Nat) : Int) := Int.natCast_nonneg _
  generalize ((Int.gcd q d : Nat) : Int) = g at *
  have hg : g ≠ 0 := by
    rintro rfl
    rw [Int.zero_mul] at hc
    omega
  refine ⟨c, ?_, Int.tdiv_eq_of_eq_mul_right hg hc, ⟨e, ?_⟩⟩
  · rcases Int.lt_or_le 0 c with h | h
    · exact h
    · have h2 : g * c ≤ g * 0 := Int.mul_le_mul_of_nonneg_left h hg0
      rw [← hc, Int.mul_zero] at h2
      omega
  · subst hc he
    grind
theorem lq_pos (xs : List Rat) : ∀ j, 0 < lqS xs j
  | 0 => by show (0 : Int) < 1; decide
  | j + 1 => by
    obtain ⟨c, h1, h2, _⟩ := lq_step (q := lqS xs j) (d := ((xs.getD j 0).den : Int)) (by have := (xs.getD j 0).den_nz; omega)
    show 0 < lqS xs j * Int.tdiv ((xs.getD j 0).den : Int) ((Int.gcd (lqS xs j) ((xs.getD j 0).den : Int) : Nat) : Int)
    rw [h2]
    exact Int.mul_pos (lq_pos xs j) h1
theorem lq_dvd (xs : List Rat) : ∀ j i, i < j → ((xs.getD i 0).den : Int) ∣ lqS xs j
  | 0, _, h => absurd h (Nat.not_lt_zero _)
  | j + 1, i, h => by
    obtain ⟨c, _, h2, h3⟩ := lq_step (q := lqS xs j) (d := ((xs.getD j 0).den : Int)) (by have := (xs.getD j 0).den_nz; omega)
    show _ ∣ lqS xs j * Int.tdiv ((xs.getD j 0).den : Int) ((Int.gcd (lqS xs j) ((xs.getD j 0).den : Int) : Nat) : Int)
    rw [h2]
    by_cases e : i = j
    · subst e; exact h3
    · exact Int.dvd_trans (lq_dvd xs j i (by omega)) (Int.dvd_mul_right _ _)
theorem ov_q {Q : Int} {x : Rat} (h : (x.den : Int) ∣ Q) : ((x.num * Int.tdiv Q (x.den : Int) : Int) : Rat) = (Q : Rat) * x := by
  obtain ⟨c, hc⟩ := h
  have hd : (x.den : Int) ≠ 0 := den_nzI x
  rw [Int.tdiv_eq_of_eq_mul_right hd hc, hc, Rat.intCast_mul, Rat.intCast_mul, ← den_mul x]
  grind
theorem go_next (m : MQ) (r : YQ) (k : Nat) : goQ (powQ m (k + 1)) r = goQ m (goQ (powQ m k) r) := by
  rw [← go_mul]
  have h := pow_add m 1 k
  have e : powQ m 1 = m := one_mul' m
  rw [e, Nat.add_comm 1 k] at h
  rw [h]
theorem tie_step {M : I4} {q d : Int} {p : Int × Int} {m : MQ} {x : YQ} (ha : (M.1 : Rat) = (q : Rat) * m.a) (hb : (M.2.1 : Rat) = (q : Rat) * m.b) (hc : (M.2.2.1 : Rat) = (q : Rat) * m.c) (hd : (M.2.2.2 : Rat) = (q : Rat) * m.d)
    (h1 : (p.1 : Rat) = (d : Rat) * x.y) (h2 : (p.2 : Rat) = (d : Rat) * x.u) : (((stepI M p).1 : Int) : Rat) = ((d * q : Int) : Rat) * (goQ m x).y ∧ (((stepI M p).2 : Int) : Rat) = ((d * q : Int) : Rat) * (goQ m x).u := by
  unfold stepI goQ
  simp only [Rat.intCast_add, Rat.intCast_mul]
  rw [ha, hb, hc, hd, h1, h2]
  exact ⟨by grind, by grind⟩
theorem wk_tie (m : MQ) (r : YQ) : ∀ k, 0 < wkD (mq m) (rq r) k ∧ (((wkL (mI m) (rI r) k).1 : Int) : Rat) = ((wkD (mq m) (rq r) k : Int) : Rat) * (goQ (powQ m k) r).y ∧ (((wkL (mI m) (rI r) k).2 : Int) : Rat) = ((wkD (mq m) (rq r) k : Int) : Rat) * (goQ (powQ m k) r).u
  | 0 => by
    have e : goQ (powQ m 0) r = r := go_one r
    rw [e]
    exact ⟨lq_pos [r.y, r.u] 2, ov_q (lq_dvd [r.y, r.u] 2 0 (by decide)), ov_q (lq_dvd [r.y, r.u] 2 1 (by decide))⟩
  | k + 1 => by
    obtain ⟨h0, h1, h2⟩ := wk_tie m r k
    rw [go_next]
    have h := tie_step (M := mI m) (q := mq m) (ov_q (lq_dvd [m.a, m.b, m.c, m.d] 4 0 (by decide))) (ov_q (lq_dvd [m.a, m.b, m.c, m.d] 4 1 (by decide))) (ov_q (lq_dvd [m.a, m.b, m.c, m.d] 4 2 (by decide))) (ov_q (lq_dvd [m.a, m.b, m.c, m.d] 4 3 (by decide))) h1 h2
    exact ⟨Int.mul_pos h0 (lq_pos _ 4), h.1, h.2⟩

/-! what is farther -/
def abQ (y : Rat) : Rat := if y < 0 then -y else y
def farQ (l : Rat) (x : YQ) : Bool := decide (l < abQ x.y) || decide (l < abQ x.u)
theorem ab_lt {l y : Rat} : l < abQ y ↔ (l < y ∨ l < -y) := by
  unfold abQ
  split <;> constructor <;> intro h <;> grind
theorem abI_q {z d : Int} {y : Rat} (hd : 0 < d) (h : (z : Rat) = (d : Rat) * y) : (((z.natAbs : Nat) : Int) : Rat) = (d : Rat) * abQ y := by
  have hd' : (0 : Rat) < (d : Rat) := Rat.intCast_pos.2 hd
  unfold abQ
  rcases Int.lt_or_le z 0 with hz | hz
  · have h1 : (d : Rat) * y < 0 := by rw [← h]; exact Rat.intCast_neg_iff.2 hz
    have h2 := (Rat.mul_neg_iff_of_pos_left hd').1 h1
    rw [if_pos h2]
    have e : ((z.natAbs : Nat) : Int) = -z := by omega
    rw [e, Rat.intCast_neg, h]
    grind
  · have h2 : ¬ y < 0 := fun h2 => by
      have h1 := (Rat.mul_neg_iff_of_pos_left hd').2 h2
      rw [← h] at h1
      have := Rat.intCast_neg_iff.1 h1
      omega
    rw [if_neg h2]
    have e : ((z.natAbs : Nat) : Int) = z := by omega
    rw [e, h]
theorem sg3_gt {p q : Int} : sg3 p q > 0 ↔ q < p := by
  unfold sg3
  split
  · constructor <;> intro h <;> omega
  · split <;> constructor <;> intro h <;> omega
theorem far1_q {l y : Rat} {z d : Int} (hd : 0 < d) (h : (z : Rat) = (d : Rat) * y) : far1 l z d = decide (l < abQ y) := by
  unfold far1
  refine decide_eq_decide.2 (sg3_gt.trans ?_)
  have hd' : (0 : Rat) < (d : Rat) := Rat.intCast_pos.2 hd
  have hn : (0 : Rat) < ((l.den : Int) : Rat) := Rat.intCast_pos.2 (by have := l.den_nz; omega)
  have e1 : ((l.num * d : Int) : Rat) = l * (((l.den : Int) : Rat) * (d : Rat)) := by
    rw [Rat.intCast_mul, ← den_mul l, Rat.mul_assoc]
  have e2 : ((((z.natAbs : Nat) : Int) * (l.den : Int) : Int) : Rat) = abQ y * (((l.den : Int) : Rat) * (d : Rat)) := by
    rw [Rat.intCast_mul, abI_q hd h]
    grind
  rw [← Rat.intCast_lt_intCast, e1, e2]
  exact Rat.mul_lt_mul_right (Rat.mul_pos hn hd')
theorem farK_q (m : RM) (r : RR) (lm : RF) (k : Nat) : farK m r lm k = farQ (toQ lm) (goQ (powQ (toM m) k) (toY r)) := by
  obtain ⟨h0, h1, h2⟩ := wk_tie (toM m) (toY r) k
  unfold farK farO farQ
  rw [far1_q h0 h1, far1_q h0 h2]
theorem cm_gt {x y : Rat} : cmQ x y > 0 ↔ y < x := by
  unfold cmQ
  by_cases h : x < y
  · rw [if_pos h]; exact ⟨fun h2 => absurd h2 (by decide), fun h2 => absurd h2 (by grind)⟩
  · rw [if_neg h]
    by_cases h2 : y < x
    · rw [if_pos h2]; exact ⟨fun _ => h2, fun _ => by decide⟩
    · rw [if_neg h2]; exact ⟨fun h3 => absurd h3 (by decide), fun h3 => absurd h3 h2⟩
theorem long_neg' {q : Rat} (h : longQ q = false) : longQ (-q) = false := by
  rw [longQ_false] at h ⊢
  rw [Rat.neg_num, Rat.neg_den, lz_neg]
  exact h
theorem sub0_q {q : Rat} (h : longQ q = false) : subF (rfOf (Rat.divInt 0 1)) (rfOf q) = (rfOf (-q), 0) := by
  have h0 : longQ (Rat.divInt 0 1) = false := small_long (by decide)
  have e : subF (rfOf (Rat.divInt 0 1)) (rfOf q) = ansF (Rat.divInt 0 1 - q) := by
    unfold subF doF
    rw [okX_of, okX_of, h, h0, toQ_of, toQ_of]
    rfl
  have e0 : Rat.divInt 0 1 - q = -q := by
    have : Rat.divInt 0 1 = 0 := by kernel_rfl
    rw [this]
    grind
  rw [e, e0, ansF_ok (longQ_false.1 (long_neg' h))]
theorem fr_q {X : YQ} {lm : RF} (h : longQ X.y = false ∧ longQ X.u = false) (hl : okX lm = true) : frO (rrOf X) lm = farQ (toQ lm) X := by
  obtain ⟨l, rfl, hl2⟩ := ok_rf hl
  have ey : (rrOf X).y = rfOf X.y := rfl
  have eu : (rrOf X).u = rfOf X.u := rfl
  unfold frO farQ
  rw [ey, eu, sub0_q h.1, sub0_q h.2, cmF_of h.1 hl2, cmF_of h.2 hl2]
  show (((0 : Int) == 0) && ((0 : Int) == 0) && (decide (cmQ X.y l > 0) || decide (cmQ X.u l > 0) || decide (cmF (rfOf (-X.y)) (rfOf l) > 0) || decide (cmF (rfOf (-X.u)) (rfOf l) > 0))) = _
  rw [cmF_of (long_neg' h.1) hl2, cmF_of (long_neg' h.2) hl2, toQ_of, Bool.eq_iff_iff]
  simp only [Bool.and_eq_true, Bool.or_eq_true, decide_eq_true_eq, cm_gt, ab_lt, beq_self_eq_true, true_and]
  grind
theorem le_at {m : RM} {r : RR} {lm : RF} {k : Nat} (h : fiO m r = true ∧ okX lm = true) (hk : k ≤ 4096) (hf : farQ (toQ lm) (goQ (powQ (toM m) k) (toY r)) = true) : ∃ n : Nat, n ≤ k ∧ leO m r lm = ((n : Int), 0) ∧ farQ (toQ lm) (goQ (powQ (toM m) n) (toY r)) = true ∧ ∀ i, i < n → farQ (toQ lm) (goQ (powQ (toM m) i) (toY r)) = false := by
  simp only [← farK_q] at hf ⊢
  cases hn : (List.range 4097).find? (farK m r lm) with
  | none =>
    have := List.find?_eq_none.1 hn k (by simp; omega)
    exact absurd hf this
  | some n =>
    obtain ⟨h1, h2, h3⟩ := List.find?_range_eq_some.1 hn
    refine ⟨n, ?_, ?_, h1, fun i hi => ?_⟩
    · apply Decidable.byContradiction
      intro hc
      have := h3 k (by omega)
      rw [hf] at this
      cases this
    · rw [leO, h.1, h.2, hn]; rfl
    · have := h3 i hi
      simpa using this
theorem le_never {m : RM} {r : RR} {lm : RF} (h : fiO m r = true ∧ okX lm = true) (hf : ∀ i, farQ (toQ lm) (goQ (powQ (toM m) i) (toY r)) = false) : leO m r lm = (0, 7) := le_none h fun i _ => by rw [farK_q]; exact hf i
theorem le_07 {m : RM} {r : RR} {lm : RF} (h : fiO m r = true ∧ okX lm = true) : leO m r lm = (0, 7) ∨ ∃ n : Nat, leO m r lm = ((n : Int), 0) ∧ farQ (toQ lm) (goQ (powQ (toM m) n) (toY r)) = true ∧ ∀ i, i < n → farQ (toQ lm) (goQ (powQ (toM m) i) (toY r)) = false := by
  simp only [← farK_q]
  cases hn : (List.range 4097).find? (farK m r lm) with
  | none => exact .inl (by rw [leO, h.1, h.2, hn]; rfl)
  | some n =>
    obtain ⟨h1, _, h3⟩ := List.find?_range_eq_some.1 hn
    exact .inr ⟨n, by rw [leO, h.1, h.2, hn]; rfl, h1, fun i hi => by simpa using h3 i hi⟩

theorem af_at {m : RM} {r : RR} {k : Nat} (hf : fiO m r = true) (hk : k ≤ 4096) : (afO m r (k : Int)).2 = 4 ∨ (afO m r (k : Int) = (rrOf (goQ (powQ (toM m) k) (toY r)), 0) ∧ longQ (goQ (powQ (toM m) k) (toY r)).y = false ∧ longQ (goQ (powQ (toM m) k) (toY r)).u = false) := by
  have h0 : maO (k : Int) = 0 := by rw [maO, if_neg (by omega), if_neg (by omega)]
  rw [afO, if_pos hf, if_pos h0, Int.toNat_natCast, asY, if_pos rfl]
  split
  · exact .inl rfl
  · rename_i h
    exact .inr ⟨rfl, by simpa using h⟩

/-! how fast whole numbers grow -/
def zp (t : Int) (x : Int × Int) : Nat → Int × Int
  | 0 => x
  | k + 1 => (t * (zp t x k).1 - (zp t x k).2, (zp t x k).1)
theorem zp_add (t : Int) (x : Int × Int) (j : Nat) : ∀ k, zp t x (j + k) = zp t (zp t x j) k
  | 0 => rfl
  | k + 1 => by
    show (t * (zp t x (j + k)).1 - (zp t x (j + k)).2, (zp t x (j + k)).1) = _
    rw [zp_add t x j k]
    rfl
theorem tp_ge {t p : Int} (h : 3 ≤ t.natAbs) : 3 * p.natAbs ≤ (t * p).natAbs := by
  rw [Int.natAbs_mul]
  exact Nat.mul_le_mul_right _ h
theorem zp_grow {t : Int} (h : 3 ≤ t.natAbs) {x : Int × Int} (h1 : x.2.natAbs ≤ x.1.natAbs) (h0 : 1 ≤ x.1.natAbs) : ∀ i, 2 ^ i ≤ (zp t x i).1.natAbs ∧ (zp t x i).2.natAbs ≤ (zp t x i).1.natAbs
  | 0 => ⟨h0, h1⟩
  | i + 1 => by
    obtain ⟨a, b⟩ := zp_grow h h1 h0 i
    have c := tp_ge (p := (zp t x i).1) h
    show 2 ^ (i + 1) ≤ (t * (zp t x i).1 - (zp t x i).2).natAbs ∧ (zp t x i).1.natAbs ≤ (t * (zp t x i).1 - (zp t x i).2).natAbs
    generalize t * (zp t x i).1 = s at *
    rw [Nat.pow_succ]
    omega
theorem zp_desc {t : Int} (h : 3 ≤ t.natAbs) : ∀ (j : Nat) (x : Int × Int), x.2.natAbs ≤ 2 ^ j → (x.1 ≠ 0 ∨ x.2 ≠ 0) → ∃ k, k ≤ j + 1 ∧ (zp t x k).2.natAbs ≤ (zp t x k).1.natAbs ∧ 1 ≤ (zp t x k).1.natAbs
  | 0, x, h1, h2 => by
    by_cases h3 : x.2.natAbs ≤ x.1.natAbs
    · exact ⟨0, by omega, h3, by show 1 ≤ x.1.natAbs; omega⟩
    · have h4 : x.2.natAbs ≤ 1 := h1
      have e : x.1 = 0 := by omega
      refine ⟨1, by omega, ?_, ?_⟩
      · show x.1.natAbs ≤ (t * x.1 - x.2).natAbs
        rw [e]; simp
      · show 1 ≤ (t * x.1 - x.2).natAbs
        rw [e, Int.mul_zero]; omega
  | j + 1, x, h1, h2 => by
    by_cases h3 : x.2.natAbs ≤ x.1.natAbs
    · exact ⟨0, by omega, h3, by show 1 ≤ x.1.natAbs; omega⟩
    · have c := tp_ge (p := x.1) h
      by_cases h4 : x.1.natAbs ≤ (t * x.1 - x.2).natAbs
      · refine ⟨1, by omega, h4, ?_⟩
        show 1 ≤ (t * x.1 - x.2).natAbs
        by_cases h5 : x.1 = 0
        · rw [h5, Int.mul_zero]; omega
        · generalize t * x.1 = s at *
          omega
      · obtain ⟨k, q1, q2, q3⟩ := zp_desc h j (t * x.1 - x.2, x.1) (by
          show x.1.natAbs ≤ 2 ^ j
          rw [Nat.pow_succ] at h1
          generalize t * x.1 = s at *
          omega) (by
          generalize t * x.1 = s at *
          show s - x.2 ≠ 0 ∨ x.1 ≠ 0
          omega)
        have e : zp t x (k + 1) = zp t (t * x.1 - x.2, x.1) k := by rw [Nat.add_comm k 1, zp_add]; rfl
        exact ⟨k + 1, by omega, by rw [e]; exact q2, by rw [e]; exact q3⟩
theorem zp_leave3 {t : Int} (h : 3 ≤ t.natAbs) (j i : Nat) {x : Int × Int} (h1 : x.2.natAbs ≤ 2 ^ j) (h2 : x.1 ≠ 0 ∨ x.2 ≠ 0) : ∃ k, k ≤ j + 1 + i ∧ 2 ^ i ≤ (zp t x k).1.natAbs := by
  obtain ⟨k, q1, q2, q3⟩ := zp_desc h j x h1 h2
  refine ⟨k + i, by omega, ?_⟩
  rw [zp_add]
  exact (zp_grow h q2 q3 i).1
theorem zp_two (x : Int × Int) : ∀ k : Nat, zp 2 x k = (x.1 + (k : Int) * (x.1 - x.2), x.2 + (k : Int) * (x.1 - x.2))
  | 0 => by show x = _; cases x; simp
  | k + 1 => by
    show (2 * (zp 2 x k).1 - (zp 2 x k).2, (zp 2 x k).1) = _
    rw [zp_two x k, Int.natCast_add]
    simp only [Prod.mk.injEq]
    exact ⟨by grind, by grind⟩
theorem zp_mtwo (x : Int × Int) : ∀ k : Nat, zp (-2) x k = (x.1 + (k : Int) * (x.1 + x.2), x.2 - (k : Int) * (x.1 + x.2)) ∨ zp (-2) x k = (-(x.1 + (k : Int) * (x.1 + x.2)), -(x.2 - (k : Int) * (x.1 + x.2)))
  | 0 => .inl (by show x = _; cases x; simp)
  | k + 1 => by
    rcases zp_mtwo x k with h | h
    · right
      show (-2 * (zp (-2) x k).1 - (zp (-2) x k).2, (zp (-2) x k).1) = _
      rw [h, Int.natCast_add]
      simp only [Prod.mk.injEq]
      exact ⟨by grind, by grind⟩
    · left
      show (-2 * (zp (-2) x k).1 - (zp (-2) x k).2, (zp (-2) x k).1) = _
      rw [h, Int.natCast_add]
      simp only [Prod.mk.injEq]
      exact ⟨by grind, by grind⟩
theorem k_le {k : Nat} {s : Int} (h : s ≠ 0) : k ≤ ((k : Int) * s).natAbs := by
  rw [Int.natAbs_mul, Int.natAbs_natCast]
  exact Nat.le_mul_of_pos_right k (by omega)
theorem zp_leave2 {t : Int} {x : Int × Int} (h : (t = 2 ∧ x.1 ≠ x.2) ∨ (t = -2 ∧ x.1 ≠ -x.2)) (k : Nat) : k ≤ (zp t x k).1.natAbs + x.1.natAbs := by
  rcases h with ⟨rfl, h⟩ | ⟨rfl, h⟩
  · have h2 := k_le (k := k) (s := x.1 - x.2) (by omega)
    rw [zp_two]
    show k ≤ (x.1 + (k : Int) * (x.1 - x.2)).natAbs + x.1.natAbs
    generalize (k : Int) * (x.1 - x.2) = s at *
    omega
  · have h2 := k_le (k := k) (s := x.1 + x.2) (by omega)
    rcases zp_mtwo x k with e | e
    · rw [e]
      show k ≤ (x.1 + (k : Int) * (x.1 + x.2)).natAbs + x.1.natAbs
      generalize (k : Int) * (x.1 + x.2) = s at *
      omega
    · rw [e]
      show k ≤ (-(x.1 + (k : Int) * (x.1 + x.2))).natAbs + x.1.natAbs
      generalize (k : Int) * (x.1 + x.2) = s at *
      omega
theorem far_z {l : Rat} {X : YQ} {z : Int} {n : Nat} (hy : X.y = (z : Rat)) (h : l < ((n : Int) : Rat)) (h2 : n ≤ z.natAbs) : farQ l X = true := by
  have e := abI_q (z := z) (d := 1) (y := X.y) (by decide) (by rw [hy]; grind)
  have h3 : ((n : Int) : Rat) ≤ (((z.natAbs : Nat) : Int) : Rat) := Rat.intCast_le_intCast.2 (by omega)
  have e1 : ((1 : Int) : Rat) = 1 := rfl
  rw [e, e1] at h3
  unfold farQ
  rw [Bool.or_eq_true, decide_eq_true_eq]
  left
  grind
/-- heights of integers: as the trace has it. -/
theorem go_two {m : MQ} (h : detM m = 1) (x : YQ) : (goQ m (goQ m x)).y = (m.a + m.d) * (goQ m x).y - x.y := by
  unfold detM at h
  unfold goQ
  grind
theorem go_zp {m : MQ} (hd : detM m = 1) {r : YQ} {t p q : Int} (ht : m.a + m.d = (t : Rat)) (hq : r.y = (q : Rat)) (hp : (goQ m r).y = (p : Rat)) : ∀ k, (goQ (powQ m k) r).y = (((zp t (p, q) k).2 : Int) : Rat) ∧ (goQ m (goQ (powQ m k) r)).y = (((zp t (p, q) k).1 : Int) : Rat)
  | 0 => by
    have e : goQ (powQ m 0) r = r := go_one r
    rw [e]
    exact ⟨hq, hp⟩
  | k + 1 => by
    obtain ⟨h1, h2⟩ := go_zp hd ht hq hp k
    rw [go_next]
    refine ⟨h2, ?_⟩
    rw [go_two hd, h1, h2, ht]
    show _ = ((t * (zp t (p, q) k).1 - (zp t (p, q) k).2 : Int) : Rat)
    rw [Rat.intCast_sub, Rat.intCast_mul]

end Go.Proofs.YtiflajpmipejnaaGreat
