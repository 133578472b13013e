import Derived.Test.YtljkepdpoelpkaaLeafS
namespace Go.Proofs.Ytljkepdpoelpkaa
open Go Go.RowKit
namespace LeafT

end LeafT
open LeafT
theorem sq_nn (x : Rat) : 0 ≤ x * x := by
  rcases Rat.le_total (a := 0) (b := x) with h | h
  · exact Rat.mul_nonneg h h
  · have : 0 ≤ (-x) * (-x) := Rat.mul_nonneg (by grind) (by grind)
    grind
theorem sum_sq {x y : Rat} (h : x * x + y * y = 0) : x = 0 ∧ y = 0 := by
  have h1 := sq_nn x
  have h2 := sq_nn y
  have h3 : x * x = 0 := Rat.le_antisymm (by grind) h1
  have h4 : y * y = 0 := by grind
  exact ⟨(Rat.mul_eq_zero.1 h3).elim id id, (Rat.mul_eq_zero.1 h4).elim id id⟩
theorem ne_of_pos {x : Rat} (h : 0 < x) : x ≠ 0 := Rat.ne_of_gt h

theorem okM_q {m : RM} (h : okM m = true) : [m.a, m.b, m.c, m.d].all okX = true ∧ detM (toM m) = 1 := by
  unfold okM at h
  rw [Bool.and_eq_true, decide_eq_true_eq] at h
  exact h

theorem all_some {α : Type} {p : α → Bool} {l : List α} {j : Nat} (h : j < l.length) (h2 : p l[j] = false) : false = l.all p := (List.all_eq_false.2 ⟨_, List.getElem_mem h, by simp [h2]⟩).symm
theorem all_no {α : Type} {p : α → Bool} {l : List α} {j : Nat} (h : j < l.length) (h1 : (l.take j).all p = true) (h2 : p l[j] = true) : (l.take (j + 1)).all p = true := by
  rw [List.take_succ_eq_append_getElem h, List.all_append, h1]
  simp [h2]
def sqQ (x y : Rat) : Rat := x * x + y * y
def fdF (x : Rat) : RF × Bool × Int := if longQ x then (rf0, false, 4) else (rfOf x, true, 0)
abbrev R3 (r : RF × Bool × Int) : VA := Tu [(RFA r.1).va, Bo r.2.1, In r.2.2]
theorem tu3w {a b c d e f : VA} (h : Wk a d) (h' : Wk b e) (h'' : Wk c f) : Wk (Tu [a, b, c]) (Tu [d, e, f]) := tu_wk (.cons h (.cons h' (.cons h'' .nil)))
theorem sq_ne {x y : Rat} (h : 0 < y) : sqQ x y ≠ 0 := fun e => ne_of_pos h (sum_sq e).2
theorem add_pos {x y : Rat} (h : 0 < x) (h' : 0 < y) : 0 < x + y := by grind
theorem fd_ans (x : Rat) : ((fdF x).1, (fdF x).2.2) = ansF x := by unfold fdF ansF; split <;> rfl

end Go.Proofs.Ytljkepdpoelpkaa
