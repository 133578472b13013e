/- Reading elements; joins of benches. -/
import Derived.Test.YtljkepdpoelpkaaBenD
import Derived.Test.YtljkepdpoelpkaaMatC
import Derived.ProofKit
import Derived.OpenShut
import Derived.ChangeOld
import Derived.Below
namespace Go.Proofs.Ytljkepdpoelpkaa
open Go Go.RowKit
namespace BenE

end BenE
open BenE
open Go.ChangeShapes Go.WideShapes Go.ChangeAt
theorem nd_self {A : As} {D : List TypeId} (h : (A.deps.all fun T => D.contains T) = true) : ∀ T ∈ A.deps, T ∈ D := fun T hT => by
  have := List.all_eq_true.1 h T hT
  simpa using this
theorem cat_three {B : Nat} {cs : List Value} {w : World} {A0 A1 A2 : As} (h0 : A0.p B ((cs.drop 0).take A0.n) w) (h1 : A1.p B ((cs.drop A0.n).take A1.n) w) (h2 : A2.p B ((cs.drop (A0.n + A1.n)).take A2.n) w) (hl : cs.length = A0.n + (A1.n + A2.n)) : (cat [A0, A1, A2]).p B cs w :=
  cat_of (by simpa using hl) fun k A hk => by
    match k, hk with
    | 0, hk => simp at hk; subst hk; exact h0
    | 1, hk => simp at hk; subst hk; simpa [offs] using h1
    | 2, hk => simp at hk; subst hk; simpa [offs] using h2
section
variable {H : Type} {enc : TypeId × Value → H} {w : World} {base : Nat} {spare : Nat → Bool} {held : Bool} {fuel : Nat} {cs : List Value} {x : DataW H × List MemPlace}
theorem rd_re (h : DataW.trod enc Try.prog w base spare held fuel 49 cs = some x) : ∃ y, (REA y).p w.heap.size cs w := by
  obtain ⟨xs, n, _, _, hl, hlen, hf⟩ := DataW.trod_struct Try.underlying49 h
  have hl' : cs.length = 9 := hl.trans (by kernel_rfl)
  have c0 : Try.prog.cellsOf 35 = 4 := by kernel_rfl
  have c1 : Try.prog.cellsOf 46 = 1 := by kernel_rfl
  match xs, hlen with
  | [y0, y1, y2], _ =>
    have h0 : DataW.trod enc Try.prog w base spare held n 46 ((cs.drop 0).take (Try.prog.cellsOf 46)) = some y0 := hf 0 _ rfl
    have h1 : DataW.trod enc Try.prog w base spare held n 35 ((cs.drop 1).take (Try.prog.cellsOf 35)) = some y1 := hf 1 _ rfl
    have h2 : DataW.trod enc Try.prog w base spare held n 35 ((cs.drop 5).take (Try.prog.cellsOf 35)) = some y2 := hf 2 _ rfl
    rw [c1] at h0
    rw [c0] at h1 h2
    obtain ⟨a, ha, _⟩ := DataW.trod_int Try.underlying46 h0
    obtain ⟨b, hb⟩ := rd_rf h1
    obtain ⟨c, hc⟩ := rd_rf h2
    exact ⟨⟨a, b, c⟩, cat_three (A0 := NumA .u8 a) ha hb hc hl'⟩
end

end Go.Proofs.Ytljkepdpoelpkaa
