/- Sizes: how long products, sums and traces of small matrices are; chapter 9: two small matrices, one behind the other. -/
import Derived.Test.YtgjolcbehcjhcaaGreatRayH
namespace Go.Proofs.YtgjolcbehcjhcaaGreat
open Go Go.RowKit
namespace RayI

end RayI
open RayI
def bQ (k : Nat) (r : Rat) : Prop := lz r.num ≤ k ∧ lz (r.den : Int) ≤ k
theorem bQ_add {c d : Nat} {x y : Rat} (hx : bQ c x) (hy : bQ d y) : bQ (c + d + 1) (x + y) := by
  obtain ⟨x1, x2⟩ := hx
  obtain ⟨y1, y2⟩ := hy
  rw [← rat_add]
  obtain ⟨h1, h2⟩ := lz_low2 (p := x.num * (y.den : Int) + y.num * (x.den : Int)) (q := (x.den : Int) * (y.den : Int)) (den_nz x y)
  have h3 := lz_add (x.num * (y.den : Int)) (y.num * (x.den : Int))
  have h4 := lz_mul x.num y.den
  have h5 := lz_mul y.num x.den
  have h6 := lz_mul x.den y.den
  exact ⟨by omega, by omega⟩
theorem bQ_mul {c d : Nat} {x y : Rat} (hx : bQ c x) (hy : bQ d y) : bQ (c + d) (x * y) := by
  obtain ⟨x1, x2⟩ := hx
  obtain ⟨y1, y2⟩ := hy
  rw [← rat_mul]
  obtain ⟨h1, h2⟩ := lz_low2 (p := x.num * y.num) (q := (x.den : Int) * (y.den : Int)) (den_nz x y)
  have h4 := lz_mul x.num y.num
  have h6 := lz_mul x.den y.den
  exact ⟨by omega, by omega⟩
theorem bQ_long {k : Nat} {r : Rat} (h : bQ k r) (hk : k ≤ 2048) : longQ r = false := longQ_of h hk
def szQ (r : Rat) : Nat := lz r.num + lz (r.den : Int)
theorem bQ_sz (r : Rat) : bQ (szQ r) r := ⟨by unfold szQ; omega, by unfold szQ; omega⟩
def szM (m : MQ) : Nat := szQ m.a + szQ m.b + szQ m.c + szQ m.d
theorem frac_sz {r : Rat} (h : longQ r = false) : fracSizeF (rfOf r) = ((szQ r + 2 : Nat) : Int) := by
  obtain ⟨h1, h2⟩ := longQ_false.1 h
  unfold fracSizeF intSizeF szQ
  show IntKind.i64.wrap (IntKind.i64.wrap (1 + ((lz r.num : Nat) : Int)) + IntKind.i64.wrap (1 + ((lz (r.den : Int) : Nat) : Int))) = _
  rw [wi64 (x := 1 + ((lz r.num : Nat) : Int)) (by omega) (by omega), wi64 (x := 1 + ((lz (r.den : Int) : Nat) : Int)) (by omega) (by omega), wi64 (by omega) (by omega)]
  omega
theorem sz_le {r : Rat} (h : longQ r = false) : szQ r ≤ 4096 := by
  obtain ⟨h1, h2⟩ := longQ_false.1 h
  unfold szQ
  omega
theorem okM_longs {m : RM} (h : okM m = true) : longQ (toM m).a = false ∧ longQ (toM m).b = false ∧ longQ (toM m).c = false ∧ longQ (toM m).d = false := by
  have h3 := (okM_q h).1
  simp only [List.all_cons, List.all_nil, Bool.and_true, Bool.and_eq_true] at h3
  exact ⟨longQ_false.2 (okX_q h3.1).2, longQ_false.2 (okX_q h3.2.1).2, longQ_false.2 (okX_q h3.2.2.1).2, longQ_false.2 (okX_q h3.2.2.2).2⟩
theorem mat_sz {m : RM} (h : okM m = true) : matSizeF m = ((szM (toM m) + 8 : Nat) : Int) := by
  obtain ⟨l1, l2, l3, l4⟩ := okM_longs h
  have s1 := sz_le l1
  have s2 := sz_le l2
  have s3 := sz_le l3
  have s4 := sz_le l4
  have e : matSizeF m = matSizeF (rmOf (toM m)) := congrArg matSizeF (okM_rm h)
  rw [e]
  unfold matSizeF szM
  show IntKind.i64.wrap (IntKind.i64.wrap (IntKind.i64.wrap (fracSizeF (rfOf (toM m).a) + fracSizeF (rfOf (toM m).b)) + fracSizeF (rfOf (toM m).c)) + fracSizeF (rfOf (toM m).d)) = _
  rw [frac_sz l1, frac_sz l2, frac_sz l3, frac_sz l4]
  rw [wi64 (x := ((szQ (toM m).a + 2 : Nat) : Int) + ((szQ (toM m).b + 2 : Nat) : Int)) (by omega) (by omega)]
  rw [wi64 (x := ((szQ (toM m).a + 2 : Nat) : Int) + ((szQ (toM m).b + 2 : Nat) : Int) + ((szQ (toM m).c + 2 : Nat) : Int)) (by omega) (by omega)]
  rw [wi64 (by omega) (by omega)]
  omega
theorem may_sz {m : RM} (h : mayF m = true) : okM m = true ∧ szM (toM m) ≤ 592 := by
  unfold mayF at h
  rw [Bool.not_eq_true', Bool.or_eq_false_iff, decide_eq_false_iff_not] at h
  obtain ⟨h1, h2⟩ := h
  have hm : okM m = true := by
    cases hm : okM m with
    | true => rfl
    | false => rw [hm] at h2; simp at h2
  rw [mat_sz hm] at h1
  exact ⟨hm, by omega⟩
theorem mul_long {m q : MQ} (h : szM m + szM q ≤ 1200) : longQ (mulQ m q).a = false ∧ longQ (mulQ m q).b = false ∧ longQ (mulQ m q).c = false ∧ longQ (mulQ m q).d = false := by
  unfold szM at h
  unfold mulQ
  exact ⟨bQ_long (bQ_add (bQ_mul (bQ_sz m.a) (bQ_sz q.a)) (bQ_mul (bQ_sz m.b) (bQ_sz q.c))) (by omega), bQ_long (bQ_add (bQ_mul (bQ_sz m.a) (bQ_sz q.b)) (bQ_mul (bQ_sz m.b) (bQ_sz q.d))) (by omega),
    bQ_long (bQ_add (bQ_mul (bQ_sz m.c) (bQ_sz q.a)) (bQ_mul (bQ_sz m.d) (bQ_sz q.c))) (by omega), bQ_long (bQ_add (bQ_mul (bQ_sz m.c) (bQ_sz q.b)) (bQ_mul (bQ_sz m.d) (bQ_sz q.d))) (by omega)⟩
theorem mul_eval {m q : RM} (hm : okM m = true) (hq : okM q = true) (hl : longQ (mulQ (toM m) (toM q)).a = false ∧ longQ (mulQ (toM m) (toM q)).b = false ∧ longQ (mulQ (toM m) (toM q)).c = false ∧ longQ (mulQ (toM m) (toM q)).d = false) : mulM m q = (rmOf (mulQ (toM m) (toM q)), 0) := by
  have hk : kM (kM 0 m) q = 0 := by unfold kM; rw [hm, hq]; rfl
  unfold mulM asM
  rw [if_pos hk]
  simp [hl.1, hl.2.1, hl.2.2.1, hl.2.2.2]
theorem beh_eval {m q : RM} (hm : okM m = true) (hq : okM q = true) (hl : longQ (mulQ (toM m) (toM q)).a = false ∧ longQ (mulQ (toM m) (toM q)).b = false ∧ longQ (mulQ (toM m) (toM q)).c = false ∧ longQ (mulQ (toM m) (toM q)).d = false) : bhF true m q = true ∧ (mulM m q).1 = rmOf (mulQ (toM m) (toM q)) ∧ okM (rmOf (mulQ (toM m) (toM q))) = true := by
  have e := mul_eval hm hq hl
  have h2 : (mulM m q).2 = 0 := congrArg Prod.snd e
  have h1 : (mulM m q).1 = rmOf (mulQ (toM m) (toM q)) := congrArg Prod.fst e
  have h3 := mul_okM h2
  refine ⟨?_, h1, h1 ▸ h3⟩
  unfold bhF
  rw [h2, h3]
  rfl

end Go.Proofs.YtgjolcbehcjhcaaGreat
