import Derived.Test.YtaplgnjnhfljnaaGreatLeafS
namespace Go.Proofs.YtaplgnjnhfljnaaGreat
open Go Go.RowKit
namespace LeafT

end LeafT
open LeafT
def bmC (x : RG) : Int := if [x.re, x.im].all okX then (if (toQ x.im).num.sign ≤ 0 then 8 else 0) else 1
def okB (x : RG) : Bool := !(bmC x != 0)
theorem okB_q {x : RG} (h : okB x = true) : [x.re, x.im].all okX = true ∧ 0 < (toG x).im := by
  unfold okB bmC at h
  cases h1 : [x.re, x.im].all okX with
  | false => rw [h1] at h; simp at h
  | true =>
    rw [h1, if_pos rfl] at h
    refine ⟨rfl, ?_⟩
    by_cases h2 : (toQ x.im).num.sign ≤ 0
    · rw [if_pos h2] at h; exact absurd h (by decide)
    · have h3 : 0 < (toQ x.im).num := Int.sign_pos_iff.1 (by omega)
      show 0 < toQ x.im
      rw [Rat.lt_iff_le_and_ne]
      refine ⟨Rat.num_nonneg.1 (by omega), fun e => ?_⟩
      rw [← e] at h3
      exact absurd h3 (by decide)
def lineQ (a b : Rat) (z : GQ) : GQ := ⟨a * z.re + b, a * z.im⟩
def normQ (z : GQ) : Rat := z.re * z.re + z.im * z.im
def behQ (m : MQ) (q : GQ) : GQ := ⟨((lineQ m.a m.b q).re * (lineQ m.c m.d q).re + (lineQ m.a m.b q).im * (lineQ m.c m.d q).im) / normQ (lineQ m.c m.d q), q.im / normQ (lineQ m.c m.d q)⟩
theorem sq_nn (x : Rat) : 0 ≤ x * x := by
  rcases Rat.le_total (a := 0) (b := x) with h | h
  · exact Rat.mul_nonneg h h
  · have : 0 ≤ (-x) * (-x) := Rat.mul_nonneg (by grind) (by grind)
    grind
theorem sum_sq {x y : Rat} (h : x * x + y * y = 0) : x = 0 ∧ y = 0 := by
  have h1 := sq_nn x
  have h2 := sq_nn y
  have h3 : x * x = 0 := Rat.le_antisymm (by grind) h1
  have h4 : y * y = 0 := by grind
  exact ⟨(Rat.mul_eq_zero.1 h3).elim id id, (Rat.mul_eq_zero.1 h4).elim id id⟩
theorem ne_of_pos {x : Rat} (h : 0 < x) : x ≠ 0 := Rat.ne_of_gt h
theorem norm_pos {z : GQ} (h : z.re ≠ 0 ∨ z.im ≠ 0) : normQ z ≠ 0 := fun e => by
  obtain ⟨h1, h2⟩ := sum_sq e
  rcases h with h | h
  · exact h h1
  · exact h h2
theorem norm_line {m : MQ} {q : GQ} (hd : detM m = 1) (hq : 0 < q.im) : normQ (lineQ m.c m.d q) ≠ 0 := by
  apply norm_pos
  by_cases hc : m.c = 0
  · left
    show m.c * q.re + m.d ≠ 0
    intro e
    unfold detM at hd
    rw [hc] at e hd
    have : m.d = 0 := by grind
    rw [this] at hd
    grind
  · right
    show m.c * q.im ≠ 0
    intro e
    rcases Rat.mul_eq_zero.1 e with h | h
    · exact hc h
    · exact ne_of_pos hq h
def ansG (z : GQ) : RG × Int := if longG z then (rg0, 4) else (rgOf z, 0)
abbrev GR (r : RG × Int) : VA := Tu [(RGA r.1).va, In r.2]
theorem one_longG {z : GQ} : [z].any longG = longG z := by simp

theorem okB_of {x : RG} (h : (bmC x != 0) = false) : okB x = true := by rw [okB, h]; rfl
theorem okM_q {m : RM} (h : okM m = true) : [m.a, m.b, m.c, m.d].all okX = true ∧ detM (toM m) = 1 := by
  unfold okM at h
  rw [Bool.and_eq_true, decide_eq_true_eq] at h
  exact h

theorem all_some {α : Type} {p : α → Bool} {l : List α} {j : Nat} (h : j < l.length) (h2 : p l[j] = false) : false = l.all p := (List.all_eq_false.2 ⟨_, List.getElem_mem h, by simp [h2]⟩).symm
theorem all_no {α : Type} {p : α → Bool} {l : List α} {j : Nat} (h : j < l.length) (h1 : (l.take j).all p = true) (h2 : p l[j] = true) : (l.take (j + 1)).all p = true := by
  rw [List.take_succ_eq_append_getElem h, List.all_append, h1]
  simp [h2]
theorem okB_no {x : RG} (h : (bmC x != 0) = true) : okB x = false := by rw [okB, h]; rfl
theorem upA_rg (x : RG) : UpA (RGA x) (RGA x) := cat_up (.cons (upA_rf _) (.cons (upA_rf _) .nil))
def sqQ (x y : Rat) : Rat := x * x + y * y
def alkQ (p q : GQ) : Rat := 4 * (p.im * q.im) / sqQ (p.re - q.re) (p.im + q.im)
def fdF (x : Rat) : RF × Bool × Int := if longQ x then (rf0, false, 4) else (rfOf x, true, 0)
abbrev R3 (r : RF × Bool × Int) : VA := Tu [(RFA r.1).va, Bo r.2.1, In r.2.2]
theorem tu3w {a b c d e f : VA} (h : Wk a d) (h' : Wk b e) (h'' : Wk c f) : Wk (Tu [a, b, c]) (Tu [d, e, f]) := tu_wk (.cons h (.cons h' (.cons h'' .nil)))
theorem sq_ne {x y : Rat} (h : 0 < y) : sqQ x y ≠ 0 := fun e => ne_of_pos h (sum_sq e).2
theorem two_B {x y : RG} : [x, y].all okB = (okB x && okB y) := by simp
theorem add_pos {x y : Rat} (h : 0 < x) (h' : 0 < y) : 0 < x + y := by grind
def ovF (x y : RG) : RF × Int := if okB x && okB y then ansF (alkQ (toG x) (toG y)) else (rf0, 1)
def lnF (x y : RG) : RF × Bool × Int := if okB x && okB y then (if (toG x).im / sqQ (toG x).re (toG x).im = (toG y).im / sqQ (toG y).re (toG y).im then fdF ((toG x).re / sqQ (toG x).re (toG x).im - (toG y).re / sqQ (toG y).re (toG y).im) else (rf0, false, 0)) else (rf0, false, 1)
def spF (x y : RG) : RF × Bool × Int := if okB x && okB y then (if (toG x).im = (toG y).im ∧ ¬ ((toG y).re - (toG x).re).num.sign < 0 then fdF ((toG y).re - (toG x).re) else (rf0, false, 0)) else (rf0, false, 1)
theorem fd_ans (x : Rat) : ((fdF x).1, (fdF x).2.2) = ansF x := by unfold fdF ansF; split <;> rfl
theorem sp_yes {x y : GQ} (h : ((cmQ x.im y.im != 0) || decide ((y.re - x.re).num.sign < 0)) = true) : ¬ (x.im = y.im ∧ ¬ (y.re - x.re).num.sign < 0) := by
  rw [cm_ne] at h
  rintro ⟨h1, h2⟩
  rw [decide_eq_true h1, decide_eq_false h2] at h
  exact absurd h (by decide)
theorem sp_no {x y : GQ} (h : ((cmQ x.im y.im != 0) || decide ((y.re - x.re).num.sign < 0)) = false) : x.im = y.im ∧ ¬ (y.re - x.re).num.sign < 0 := by
  rw [cm_ne, Bool.or_eq_false_iff] at h
  exact ⟨by simpa using h.1, of_decide_eq_false h.2⟩

end Go.Proofs.YtaplgnjnhfljnaaGreat
