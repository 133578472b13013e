/- Rows that a call makes for itself and reads, whatever else it writes; parts of a slice; appending to an empty row; calls of known function values. -/
import Derived.Test.YtmghfjcjcfaagaaGreatBenB
import Derived.ArgAppend
import Derived.Laws.AppendOwn
import Derived.Great.BuildSlice
namespace Go.Proofs.YtmghfjcjcfaagaaGreat
open Go Go.RowKit
namespace BenF

end BenF
open BenF
theorem cat_split {l : List As} {m B : Nat} {ds : List Value} {w : World} (hm : ∀ A ∈ l, A.n = m) (h : (cat l).p B ds w) : ∀ k, (cat (l.take k)).p B (ds.take (k * m)) w ∧ (cat (l.drop k)).p B (ds.drop (k * m)) w := by
  obtain ⟨ps, rfl, h⟩ := h
  induction h with
  | nil => intro k; simp only [List.take_nil, List.drop_nil, List.flatten_nil]; exact ⟨⟨[], rfl, .nil⟩, ⟨[], rfl, .nil⟩⟩
  | @cons A c ls bs h1 h2 ih =>
    intro k
    cases k with
    | zero =>
      simp only [List.take_zero, Nat.zero_mul, List.drop_zero]
      exact ⟨⟨[], rfl, .nil⟩, ⟨c :: bs, rfl, .cons h1 h2⟩⟩
    | succ k =>
      obtain ⟨i1, i2⟩ := ih (fun A' hA => hm A' (List.mem_cons_of_mem _ hA)) k
      have hl : c.length = m := (A.len _ _ _ h1).trans (hm A (by simp))
      have e1 : (c :: bs).flatten.take ((k + 1) * m) = c ++ bs.flatten.take (k * m) := by
        rw [List.flatten_cons, List.take_append, List.take_of_length_le (by rw [hl, Nat.add_mul]; omega), hl]
        congr 2
        rw [Nat.add_mul]
        omega
      have e2 : (c :: bs).flatten.drop ((k + 1) * m) = bs.flatten.drop (k * m) := by
        rw [List.flatten_cons, List.drop_append, List.drop_of_length_le (by rw [hl, Nat.add_mul]; omega), List.nil_append, hl]
        congr 1
        rw [Nat.add_mul]
        omega
      rw [e1, e2, List.take_succ_cons, List.drop_succ_cons]
      refine ⟨?_, i2⟩
      obtain ⟨qs, e, hq⟩ := i1
      exact ⟨c :: qs, by rw [List.flatten_cons, ← e], .cons h1 hq⟩
section
variable {P : Program} {R : Rg} {Q : Exit → Act → World → Prop} {B i : Nat} {w0 : Bs}
theorem r_callE {x : Operand} {f : FuncId} {xs : List Operand} {As' : List VA} {A : VA} {at_ : Array TypeId} (hc : Cn P f As' A) (hv : Has R B w0 i x (EqA (.func (.func f) #[] #[])).va) (hx : HasL R B w0 i xs As') : Wv P Q R B w0 i (.call ⟨.value x, xs.toArray, at_⟩) A := by
  intro d T ps af gd a w av K hK
  obtain ⟨⟨fn, hf, hn, hb⟩, hcall⟩ := hc
  have ev : a.eval x = .func (.func f) #[] #[] := eqA_va (hv a w av)
  have hrun : (execOp a.eval ⟨some d, .call ⟨.value x, xs.toArray, at_⟩, T, ps, af, gd⟩).run P w = .ok (.enter f (xs.map a.eval).toArray) w := by
    simp only [execOp, resolve, ev, Deferred.ofValue, Sem.run_bind, Sem.run_pure, Result.andThen_ok, invoke, run_callFunc hf hn hb]
    simp
  unfold Oper.wp
  rw [hrun]
  exact (hcall B w _ (Av.bw av) (hx.all av)).mono fun e w' ⟨v, he, hv, hg⟩ => by subst he; exact hK v w' hg hv
end

end Go.Proofs.YtmghfjcjcfaagaaGreat
