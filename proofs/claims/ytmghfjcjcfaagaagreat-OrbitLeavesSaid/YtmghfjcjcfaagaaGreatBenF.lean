/- Rows that a call makes for itself and reads, whatever else it writes; parts of a slice; appending to an empty row; calls of known function values. -/
import Derived.Test.YtmghfjcjcfaagaaGreatBenB
import Derived.ArgAppend
import Derived.Laws.AppendOwn
import Derived.Great.BuildSlice
namespace Go.Proofs.YtmghfjcjcfaagaaGreat
open Go Go.RowKit
namespace BenF

end BenF
open BenF
section
variable {P : Program} {R : Rg} {Q : Exit → Act → World → Prop} {B i : Nat} {w0 : Bs}
theorem r_callE {x : Operand} {f : FuncId} {xs : List Operand} {As' : List VA} {A : VA} {at_ : Array TypeId} (hc : Cn P f As' A) (hv : Has R B w0 i x (EqA (.func (.func f) #[] #[])).va) (hx : HasL R B w0 i xs As') : Wv P Q R B w0 i (.call ⟨.value x, xs.toArray, at_⟩) A := by
  intro d T ps af gd a w av K hK
  obtain ⟨⟨fn, hf, hn, hb⟩, hcall⟩ := hc
  have ev : a.eval x = .func (.func f) #[] #[] := eqA_va (hv a w av)
  have hrun : (execOp a.eval ⟨some d, .call ⟨.value x, xs.toArray, at_⟩, T, ps, af, gd⟩).run P w = .ok (.enter f (xs.map a.eval).toArray) w := by
    simp only [execOp, resolve, ev, Deferred.ofValue, Sem.run_bind, Sem.run_pure, Result.andThen_ok, invoke, run_callFunc hf hn hb]
    simp
  unfold Oper.wp
  rw [hrun]
  exact (hcall B w _ (Av.bw av) (hx.all av)).mono fun e w' ⟨v, he, hv, hg⟩ => by subst he; exact hK v w' hg hv
end

end Go.Proofs.YtmghfjcjcfaagaaGreat
