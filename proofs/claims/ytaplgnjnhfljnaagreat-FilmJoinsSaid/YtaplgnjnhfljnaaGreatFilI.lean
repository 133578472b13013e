/- Plain laws of sheets: two of one index are one, T 0 changes nothing, the first one taken off. -/
import Derived.Test.YtaplgnjnhfljnaaGreatFilC
namespace Go.Proofs.YtaplgnjnhfljnaaGreat
open Go Go.RowKit
namespace FilI

end FilI
open FilI
set_option linter.unusedVariables false
theorem sq1_ne (t : Rat) : 1 + t * t ≠ 0 := by
  have h : 0 ≤ t * t := by
    rcases Rat.le_total (a := 0) (b := t) with h | h
    · exact Rat.mul_nonneg h h
    · have h2 : 0 ≤ -t := by grind
      have h3 := Rat.mul_nonneg h2 h2
      grind
  grind
theorem unit_r (t : Rat) : (unitG t).re = (1 - t * t) / (1 + t * t) ∧ (unitG t).im = (t + t) / (1 + t * t) := by
  obtain ⟨e1, e2⟩ := unit_e t
  have hd := den_ne t
  have hn : t * ((t.den : Int) : Rat) = (t.num : Rat) := by
    have h0 := nd_eq t
    calc t * ((t.den : Int) : Rat) = ((t.num : Rat) / ((t.den : Int) : Rat)) * ((t.den : Int) : Rat) := by rw [← h0]
      _ = (t.num : Rat) := Rat.div_mul_cancel hd
  have hs := sq1_ne t
  rw [e1, e2]
  simp only [Rat.intCast_sub, Rat.intCast_add, Rat.intCast_mul]
  generalize ((t.den : Int) : Rat) = d at *
  generalize (t.num : Rat) = p at *
  subst hn
  have hx : d * d + t * d * (t * d) = (1 + t * t) * (d * d) := by grind
  have hdd : d * d ≠ 0 := by grind
  rw [hx]
  constructor
  · rw [show d * d - t * d * (t * d) = (1 - t * t) * (d * d) from by grind]
    grind
  · rw [show d * (t * d) + t * d * d = (t + t) * (d * d) from by grind]
    grind
theorem sh_0 (n : Rat) : shQ n 0 = ⟨1, 0, 0, 1⟩ := by
  obtain ⟨e1, e2⟩ := unit_r 0
  unfold shQ
  rw [e1, e2]
  simp only [MQ.mk.injEq]
  exact ⟨by grind, by grind, by grind, by grind⟩
theorem then_1J (m : MQ) : thenQ m ⟨1, 0, 0, 1⟩ = m := by
  unfold thenQ
  cases m
  simp only [MQ.mk.injEq]
  exact ⟨by grind, by grind, by grind, by grind⟩
theorem one_thenJ (m : MQ) : thenQ ⟨1, 0, 0, 1⟩ m = m := by
  unfold thenQ
  cases m
  simp only [MQ.mk.injEq]
  exact ⟨by grind, by grind, by grind, by grind⟩
theorem then_asJ (m n k : MQ) : thenQ (thenQ m n) k = thenQ m (thenQ n k) := by
  unfold thenQ
  simp only [MQ.mk.injEq]
  exact ⟨by grind, by grind, by grind, by grind⟩
theorem film_fr (m : MQ) : ∀ (xs : List RR), xs.foldl (fun m x => thenQ m (shM x)) m = thenQ m (filmQ xs)
  | [] => (then_1J m).symm
  | x :: xs => by
    rw [List.foldl_cons, film_fr _ xs]
    have e : filmQ (x :: xs) = thenQ (shM x) (filmQ xs) := by
      show List.foldl _ _ _ = _
      rw [List.foldl_cons, film_fr _ xs, one_thenJ]
    rw [e, then_asJ]
/-- the first one taken off. -/
theorem film_cn (x : RR) (xs : List RR) : filmQ (x :: xs) = thenQ (shM x) (filmQ xs) := by
  show List.foldl _ _ _ = _
  rw [List.foldl_cons, film_fr, one_thenJ]
theorem film_on1 (x : RR) : filmQ [x] = shM x := by
  rw [film_cn]
  exact then_1J _
theorem dv_ext {x y k : Rat} (hy : y ≠ 0) (hk : k ≠ 0) : x / y = (x * k) / (y * k) := by grind
theorem fr_sub {p q x y D E : Rat} (hD : D ≠ 0) (hE : E ≠ 0) : p / D * (x / E) - q / D * (y / E) = (p * x - q * y) / (D * E) := by grind
theorem fr_add {p q x y D E : Rat} (hD : D ≠ 0) (hE : E ≠ 0) : p / D * (y / E) + q / D * (x / E) = (p * y + q * x) / (D * E) := by grind
theorem tan_add {s t : Rat} (h : 1 - s * t ≠ 0) : ((1 - s * s) / (1 + s * s)) * ((1 - t * t) / (1 + t * t)) - ((s + s) / (1 + s * s)) * ((t + t) / (1 + t * t)) = (1 - (s + t) / (1 - s * t) * ((s + t) / (1 - s * t))) / (1 + (s + t) / (1 - s * t) * ((s + t) / (1 - s * t))) ∧ ((1 - s * s) / (1 + s * s)) * ((t + t) / (1 + t * t)) + ((s + s) / (1 + s * s)) * ((1 - t * t) / (1 + t * t)) = ((s + t) / (1 - s * t) + (s + t) / (1 - s * t)) / (1 + (s + t) / (1 - s * t) * ((s + t) / (1 - s * t))) := by
  have hs := sq1_ne s
  have ht := sq1_ne t
  have hu := sq1_ne ((s + t) / (1 - s * t))
  obtain ⟨u, hu1⟩ : ∃ u, u = (s + t) / (1 - s * t) := ⟨_, rfl⟩
  rw [← hu1] at hu ⊢
  have hm : u * (1 - s * t) = s + t := by rw [hu1]; exact Rat.div_mul_cancel h
  have key : (1 + u * u) * ((1 - s * t) * (1 - s * t)) = (1 + s * s) * (1 + t * t) := by grind
  constructor
  · have e : (1 - u * u) * ((1 - s * t) * (1 - s * t)) = (1 - s * s) * (1 - t * t) - (s + s) * (t + t) := by grind
    have hq : (1 - s * t) * (1 - s * t) ≠ 0 := by grind
    rw [dv_ext (x := 1 - u * u) hu hq, key, e]
    exact fr_sub hs ht
  · have e : (u + u) * ((1 - s * t) * (1 - s * t)) = (1 - s * s) * (t + t) + (s + s) * (1 - t * t) := by grind
    have hq : (1 - s * t) * (1 - s * t) ≠ 0 := by grind
    rw [dv_ext (x := u + u) hu hq, key, e]
    exact fr_add hs ht
/-- two sheets of one index are one. -/
theorem sh_add {n s t : Rat} (hn : n ≠ 0) (h : 1 - s * t ≠ 0) : thenQ (shQ n s) (shQ n t) = shQ n ((s + t) / (1 - s * t)) := by
  obtain ⟨a1, a2⟩ := unit_r s
  obtain ⟨b1, b2⟩ := unit_r t
  obtain ⟨c1, c2⟩ := unit_r ((s + t) / (1 - s * t))
  obtain ⟨k1, k2⟩ := tan_add h
  unfold shQ thenQ
  rw [a1, a2, b1, b2, c1, c2, ← k1, ← k2]
  generalize (1 - s * s) / (1 + s * s) = p
  generalize (s + s) / (1 + s * s) = q
  generalize (1 - t * t) / (1 + t * t) = x
  generalize (t + t) / (1 + t * t) = y
  simp only [MQ.mk.injEq]
  exact ⟨by grind, by grind, by grind, by grind⟩
/-- the pairs of complex numbers are the layers' pairs. -/
def prG (a x b y : GQ) : GQ := addG (mulG a x) (mulG b y)
theorem cut_q (m n : MQ) : prG ⟨m.a, 0⟩ ⟨n.a, 0⟩ ⟨0, m.b⟩ ⟨0, n.c⟩ = ⟨(thenQ m n).a, 0⟩ ∧ prG ⟨m.a, 0⟩ ⟨0, n.b⟩ ⟨0, m.b⟩ ⟨n.d, 0⟩ = ⟨0, (thenQ m n).b⟩ ∧ prG ⟨0, m.c⟩ ⟨n.a, 0⟩ ⟨m.d, 0⟩ ⟨0, n.c⟩ = ⟨0, (thenQ m n).c⟩ ∧ prG ⟨0, m.c⟩ ⟨0, n.b⟩ ⟨m.d, 0⟩ ⟨n.d, 0⟩ = ⟨(thenQ m n).d, 0⟩ := by
  unfold prG addG mulG thenQ
  simp only [GQ.mk.injEq]
  exact ⟨⟨by grind, by grind⟩, ⟨by grind, by grind⟩, ⟨by grind, by grind⟩, ⟨by grind, by grind⟩⟩

end Go.Proofs.YtaplgnjnhfljnaaGreat
