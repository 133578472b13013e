/- How long the entries of a product of three small matrices are: rows over a common denominator. -/
import Derived.Test.YtgjolcbehcjhcaaGreatRayI
namespace Go.Proofs.YtgjolcbehcjhcaaGreat
open Go Go.RowKit
namespace RayJ

end RayJ
open RayJ
/-- two numbers over one denominator. -/
def rep2 (k : Nat) (x y : Rat) : Prop := ∃ p q D : Int, D ≠ 0 ∧ x = (p : Rat) / (D : Rat) ∧ y = (q : Rat) / (D : Rat) ∧ lz p ≤ k ∧ lz q ≤ k ∧ lz D ≤ k
theorem nd_eq (x : Rat) : x = (x.num : Rat) / ((x.den : Int) : Rat) := by rw [← Rat.divInt_eq_div]; exact (Rat.num_divInt_den x).symm
theorem den_ne (x : Rat) : ((x.den : Int) : Rat) ≠ 0 := by
  have := x.den_nz
  intro h
  exact this (by exact_mod_cast h)
theorem rep2_two (x y : Rat) : rep2 (szQ x + szQ y) x y := by
  have hx := nd_eq x
  have hy := nd_eq y
  have dx := den_ne x
  have dy := den_ne y
  refine ⟨x.num * y.den, y.num * x.den, (x.den : Int) * y.den, Int.mul_ne_zero (by have := x.den_nz; omega) (by have := y.den_nz; omega), ?_, ?_, ?_, ?_, ?_⟩
  · rw [Rat.intCast_mul, Rat.intCast_mul]
    generalize ((x.den : Int) : Rat) = d at *
    generalize ((y.den : Int) : Rat) = e at *
    generalize (x.num : Rat) = p at *
    grind
  · rw [Rat.intCast_mul, Rat.intCast_mul]
    generalize ((x.den : Int) : Rat) = d at *
    generalize ((y.den : Int) : Rat) = e at *
    generalize (y.num : Rat) = p at *
    grind
  · have := lz_mul x.num y.den; unfold szQ; omega
  · have := lz_mul y.num x.den; unfold szQ; omega
  · have := lz_mul x.den y.den; unfold szQ; omega
theorem rep2_bQ {k : Nat} {x y : Rat} (h : rep2 k x y) : bQ k x ∧ bQ k y := by
  obtain ⟨p, q, D, hD, rfl, rfl, h1, h2, h3⟩ := h
  rw [← Rat.divInt_eq_div, ← Rat.divInt_eq_div]
  obtain ⟨a1, a2⟩ := lz_low2 (p := p) hD
  obtain ⟨b1, b2⟩ := lz_low2 (p := q) hD
  exact ⟨⟨by omega, by omega⟩, ⟨by omega, by omega⟩⟩
theorem lz_mul4 (a b c d e : Int) : lz (a * b * c * d * e) ≤ lz a + lz b + lz c + lz d + lz e := by
  have h1 := lz_mul (a * b * c * d) e
  have h2 := lz_mul (a * b * c) d
  have h3 := lz_mul (a * b) c
  have h4 := lz_mul a b
  omega
theorem rep2_mul {k : Nat} {x y u v s t : Rat} (h : rep2 k x y) : rep2 (k + (szQ u + szQ v + szQ s + szQ t) + 1) (x * u + y * v) (x * s + y * t) := by
  obtain ⟨p, q, D, hD, hx, hy, h1, h2, h3⟩ := h
  have nz : ∀ r : Rat, (r.den : Int) ≠ 0 := fun r => by have := r.den_nz; omega
  have hDr : (D : Rat) ≠ 0 := fun e => hD (by exact_mod_cast e)
  have eu := nd_eq u
  have ev := nd_eq v
  have es := nd_eq s
  have et := nd_eq t
  have du := den_ne u
  have dv := den_ne v
  have ds := den_ne s
  have dt := den_ne t
  refine ⟨p * u.num * v.den * s.den * t.den + q * v.num * u.den * s.den * t.den, p * s.num * u.den * v.den * t.den + q * t.num * u.den * v.den * s.den, D * u.den * v.den * s.den * t.den,
    Int.mul_ne_zero (Int.mul_ne_zero (Int.mul_ne_zero (Int.mul_ne_zero hD (nz u)) (nz v)) (nz s)) (nz t), ?_, ?_, ?_, ?_, ?_⟩
  · rw [hx, hy]
    simp only [Rat.intCast_add, Rat.intCast_mul]
    generalize ((u.den : Int) : Rat) = d1 at *
    generalize ((v.den : Int) : Rat) = d2 at *
    generalize ((s.den : Int) : Rat) = d3 at *
    generalize ((t.den : Int) : Rat) = d4 at *
    generalize (u.num : Rat) = n1 at *
    generalize (v.num : Rat) = n2 at *
    clear es et
    subst eu ev
    grind
  · rw [hx, hy]
    simp only [Rat.intCast_add, Rat.intCast_mul]
    generalize ((u.den : Int) : Rat) = d1 at *
    generalize ((v.den : Int) : Rat) = d2 at *
    generalize ((s.den : Int) : Rat) = d3 at *
    generalize ((t.den : Int) : Rat) = d4 at *
    generalize (s.num : Rat) = n1 at *
    generalize (t.num : Rat) = n2 at *
    clear eu ev
    subst es et
    grind
  · have e1 := lz_add (p * u.num * v.den * s.den * t.den) (q * v.num * u.den * s.den * t.den)
    have e2 := lz_mul4 p u.num v.den s.den t.den
    have e3 := lz_mul4 q v.num u.den s.den t.den
    unfold szQ
    omega
  · have e1 := lz_add (p * s.num * u.den * v.den * t.den) (q * t.num * u.den * v.den * s.den)
    have e2 := lz_mul4 p s.num u.den v.den t.den
    have e3 := lz_mul4 q t.num u.den v.den s.den
    unfold szQ
    omega
  · have e2 := lz_mul4 D u.den v.den s.den t.den
    unfold szQ
    omega
theorem mul3_long {m n o : MQ} (h : szM m + szM n + szM o ≤ 1800) : longQ (mulQ (mulQ m n) o).a = false ∧ longQ (mulQ (mulQ m n) o).b = false ∧ longQ (mulQ (mulQ m n) o).c = false ∧ longQ (mulQ (mulQ m n) o).d = false := by
  unfold szM at h
  have r1 := rep2_bQ (rep2_mul (u := o.a) (v := o.c) (s := o.b) (t := o.d) (rep2_mul (u := n.a) (v := n.c) (s := n.b) (t := n.d) (rep2_two m.a m.b)))
  have r2 := rep2_bQ (rep2_mul (u := o.a) (v := o.c) (s := o.b) (t := o.d) (rep2_mul (u := n.a) (v := n.c) (s := n.b) (t := n.d) (rep2_two m.c m.d)))
  unfold mulQ
  exact ⟨bQ_long r1.1 (by omega), bQ_long r1.2 (by omega), bQ_long r2.1 (by omega), bQ_long r2.2 (by omega)⟩
theorem mul_assoc3 (m n o : MQ) : mulQ m (mulQ n o) = mulQ (mulQ m n) o := by
  unfold mulQ
  simp only [MQ.mk.injEq]
  refine ⟨by grind, by grind, by grind, by grind⟩

end Go.Proofs.YtgjolcbehcjhcaaGreat
