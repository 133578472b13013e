import Derived.Test.YtaplgnjnhfljnaaGreatLeafV
namespace Go.Proofs.YtaplgnjnhfljnaaGreat
open Go Go.RowKit
namespace LeafW

end LeafW
open LeafW
/-! small numbers; beams that may be -/
theorem small_long {r : Rat} (h : r.num.natAbs < 4294967296 ∧ r.den < 4294967296) : longQ r = false :=
  longQ_of (k := 1) ⟨lz_le (by omega), lz_le (by omega)⟩ (by decide)
theorem sgn_le {x : Rat} : x.num.sign ≤ 0 ↔ ¬ 0 < x := by
  constructor
  · intro h hx
    have : 0 < x.num := by
      rcases Rat.lt_iff_le_and_ne.1 hx with ⟨h1, h2⟩
      have h3 := Rat.num_nonneg.2 h1
      have h4 : x.num ≠ 0 := fun e => h2 (Rat.num_eq_zero.1 e).symm
      omega
    have := Int.sign_pos_iff.2 this
    omega
  · intro h
    have : x.num ≤ 0 := by
      apply Decidable.byContradiction
      intro hn
      have h1 : 0 ≤ x := Rat.num_nonneg.1 (by omega)
      exact h (Rat.lt_iff_le_and_ne.2 ⟨h1, fun e => by rw [← e] at hn; exact hn (by decide)⟩)
    by_cases h0 : x.num = 0
    · rw [h0]; decide
    · rw [Int.sign_eq_neg_one_of_neg (by omega)]; decide
/-- a beam that may be, as numbers. -/
structure OkG (p : GQ) : Prop where
  re : longQ p.re = false
  im : longQ p.im = false
  pos : 0 < p.im
theorem toG_of (p : GQ) : toG (rgOf p) = p := by show (⟨toQ (rfOf p.re), toQ (rfOf p.im)⟩ : GQ) = p; rw [toQ_of, toQ_of]
theorem okX2_of (p : GQ) : [(rgOf p).re, (rgOf p).im].all okX = (!longQ p.re && !longQ p.im) := by
  show [rfOf p.re, rfOf p.im].all okX = _
  rw [two_ok, okX_of, okX_of]
theorem okB_of_ok {p : GQ} (h : OkG p) : okB (rgOf p) = true := by
  have e : bmC (rgOf p) = 0 := by
    unfold bmC
    rw [okX2_of, h.re, h.im]
    show (if (toQ (rfOf p.im)).num.sign ≤ 0 then (8 : Int) else 0) = 0
    rw [toQ_of, if_neg (fun hh => sgn_le.1 hh h.pos)]
  rw [okB, e]; rfl
theorem okB_ex {x : RG} (h : okB x = true) : ∃ p, x = rgOf p ∧ OkG p := by
  obtain ⟨h1, h2⟩ := okB_q h
  rw [two_ok, Bool.and_eq_true] at h1
  have a := okX_q h1.1
  have b := okX_q h1.2
  obtain ⟨xr, xi⟩ := x
  exact ⟨toG ⟨xr, xi⟩, congr (congrArg RG.mk a.1) b.1, longQ_false.2 a.2, longQ_false.2 b.2, h2⟩
theorem rgOf_inj {p q : GQ} (h : rgOf p = rgOf q) : p = q := by rw [← toG_of p, h, toG_of]
theorem ovF_ok {p q : GQ} (hp : OkG p) (hq : OkG q) : ovF (rgOf p) (rgOf q) = ansF (alkQ p q) := by
  rw [ovF, okB_of_ok hp, okB_of_ok hq, toG_of, toG_of]; rfl
theorem ovF_no {x y : RG} (h : (okB x && okB y) = false) : ovF x y = (rf0, 1) := by rw [ovF, h]; rfl
theorem ansF_2 (q : Rat) : ((ansF q).2 == 1 || (ansF q).2 == 4) = true ∨ ((ansF q).2 = 0 ∧ (ansF q).1 = rfOf q ∧ longQ q = false) := by
  unfold ansF
  cases h : longQ q with
  | true => exact .inl rfl
  | false => exact .inr ⟨rfl, rfl, rfl⟩
theorem alk_symm (p q : GQ) : alkQ p q = alkQ q p := by
  have e : sqQ (p.re - q.re) (p.im + q.im) = sqQ (q.re - p.re) (q.im + p.im) := by unfold sqQ; grind
  unfold alkQ
  rw [e, Rat.mul_comm p.im]
theorem ov_symm (x y : RG) : ovF y x = ovF x y := by unfold ovF; rw [Bool.and_comm, alk_symm]
theorem cmF_of {a b : Rat} (ha : longQ a = false) (hb : longQ b = false) : cmF (rfOf a) (rfOf b) = cmQ a b := by
  rw [cmF, okX_of, okX_of, ha, hb, toQ_of, toQ_of]; rfl
theorem sgF_of {a : Rat} (ha : longQ a = false) : sgF (rfOf a) = a.num.sign := by rw [sgF, okX_of, ha, toQ_of]; rfl
theorem one_f : rfOf (Rat.divInt 1 1) = rfOf 1 := rfl
theorem long_one : longQ 1 = false := small_long (by decide)
theorem rf_dec {a b : Rat} : decide (rfOf a = rfOf b) = decide (a = b) := decide_eq_decide.2 ⟨rfOf_inj, fun h => by rw [h]⟩
theorem rg_dec {a b : GQ} : decide (rgOf a = rgOf b) = decide (a = b) := decide_eq_decide.2 ⟨rgOf_inj, fun h => by rw [h]⟩

end Go.Proofs.YtaplgnjnhfljnaaGreat
