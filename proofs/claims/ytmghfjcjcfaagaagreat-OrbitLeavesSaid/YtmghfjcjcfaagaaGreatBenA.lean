/- Function values in an array, each writing a variable of its maker; the matrix of one element (row.Of). -/
import Derived.Test.YtmghfjcjcfaagaaGreatCavA
namespace Go.Proofs.YtmghfjcjcfaagaaGreat
open Go Go.RowKit
namespace BenA
end BenA
open BenA
/-- one cell, that is this value. -/
def EqA (v : Value) : As where
  n := 1
  ag := false
  p _ cs _ := cs = [v] ∧ v.oneCell' = true
  deps := []
  len := by rintro B cs w ⟨rfl, _⟩; rfl
  one := by rintro B cs w ⟨rfl, h⟩ c hc; simp at hc; subst hc; exact h
  ag1 := fun _ => rfl
  cg := fun _ _ _ _ _ h => h
  wr := fun _ _ _ _ _ _ _ _ _ _ _ _ h => h
theorem va_eqA {v : Value} (h : v.oneCell' = true) {B : Nat} {w : World} : (EqA v).va.p B v w := ⟨[v], ⟨rfl, h⟩, rfl⟩
theorem eqA_va {v u : Value} {B : Nat} {w : World} (h : (EqA v).va.p B u w) : u = v := by
  obtain ⟨cs, ⟨rfl, _⟩, h2⟩ := h
  exact h2
theorem St.nm {B N : Nat} {w0 : Bs} {Γ : List (Nat × VA)} {Λ : List Lc} {a : Act} {w : World} (h : St B w0 N Γ Λ a w) {s T : Nat} {A : As} (k : Nat) (hm : Λ[k]? = some ⟨s, T, ptrH, A⟩) : ∃ g, St B w0 N ((s, EqV (ptr g)) :: Γ) Λ a w := by
  obtain ⟨g, cs, e, _⟩ := h.locs _ (List.mem_of_getElem? hm)
  refine ⟨g, h.lo, h.defers, h.size, h.base, fun x hx => ?_, h.locs, h.dis⟩
  rcases List.mem_cons.1 hx with rfl | hx
  · exact e
  · exact h.vals x hx
section
variable {P : Program} {R : Rg} {Q : Exit → Act → World → Prop} {B i : Nat} {w0 : Bs}
theorem eqs_all {xs : List Operand} {vs : List Value} (hx : HasL R B w0 i xs (vs.map EqV)) {a : Act} {w : World} (av : R.Av B w0 i a w) : xs.map a.eval = vs := by
  induction vs generalizing xs with
  | nil => cases hx; rfl
  | cons v vs ih =>
    cases hx with
    | cons h1 h2 =>
      rw [List.map_cons, ih h2]
      have : _ = v := h1 a w av
      rw [this]
theorem r_mkE {f : FuncId} {xs : List Operand} {vs : List Value} (hx : HasL R B w0 i xs (vs.map EqV)) : Wv P Q R B w0 i (.makeFunc (.func f) #[] xs.toArray) (EqA (.func (.func f) #[] vs.toArray)).va :=
  wv_run fun _ _ _ _ _ a w av => by
    have e := eqs_all hx av
    refine ⟨.func (.func f) #[] vs.toArray, w, ?_, Grow.refl w, va_eqA rfl⟩
    simp [execOp, Instr.makeFunc, e]
theorem has_fnE {f : FuncId} : Has R B w0 i (.func f) (EqA (.func (.func f) #[] #[])).va := fun _ _ _ => va_eqA rfl
end
structure RE where
  k : Int
  p : RF
  q : RF
  deriving DecidableEq
end Go.Proofs.YtmghfjcjcfaagaaGreat
