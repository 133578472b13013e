/- Iterators over what they have captured: what a function makes that hands one back; what a call of it leaves. -/
import Derived.Test.YtljkepdpoelpkaaRngD
import Derived.Test.YtljkepdpoelpkaaBenA
namespace Go.Proofs.Ytljkepdpoelpkaa
open Go Go.RowKit
namespace RngE

end RngE
open RngE
/-- a new function value of function f, with one new variable of type T that holds v. -/
def NewIt (f : FuncId) (T : TypeId) (v : Value) : VA where
  p B u w := ∃ g, u = .func (.func f) #[] #[ptr g] ∧ B ≤ g ∧ w.heap[g]? = some (.cells #[v] T (0, 0))
  deps := [T]
  cg := fun B u w w' hg ⟨g, e, h1, h2⟩ => ⟨g, e, h1, hg.heap h2⟩
  wr := by
    rintro B u w w' g c T' fz hc hT hB hW ⟨g', e, h1, h2⟩
    refine ⟨g', e, h1, ?_⟩
    rw [hW.block g' (fun e => by subst e; rw [hc] at h2; injection h2 with h2; injection h2 with _ h2 _; exact hT (by simp [h2]))]
    exact h2
theorem free_newIt {f : FuncId} {T : TypeId} {v : Value} : ∀ {B B' : Nat} {u : Value} {w : World}, B ≤ B' → (NewIt f T v).p B' u w → (NewIt f T v).p B u w := fun hB ⟨g, e, h1, h2⟩ => ⟨g, e, Nat.le_trans hB h1, h2⟩
/-- an iterator; where its variables lie none of these blocks is. -/
def ItN (f : FuncId) (caps : List (TypeId × As)) (ns : List Nat) : VA where
  p B v w := ∃ gs, (ItV f caps gs).p B v w ∧ ∀ n ∈ ns, n ∉ gs
  deps := caps.map Prod.fst ++ caps.flatMap (·.2.deps)
  cg := fun B v w w' hg ⟨gs, h1, h2⟩ => ⟨gs, (ItV f caps gs).cg B v w w' hg h1, h2⟩
  wr := fun B v w w' g c T fz h1 hT h3 h4 ⟨gs, h5, h6⟩ => ⟨gs, (ItV f caps gs).wr B v w w' g c T fz h1 hT h3 h4 h5, h6⟩
/-- the names of some variables. -/
def Nmd (Γ : List (Nat × VA)) : List (Nat × Nat) → List Nat → Prop
  | [], [] => True
  | p :: ps, k :: ks => Γ[k]? = some (p.1, EqV (ptr p.2)) ∧ Nmd Γ ps ks
  | _, _ => False
theorem St.itn {B N : Nat} {w0 : Bs} {Γ : List (Nat × VA)} {Λ : List Lc} {a : Act} {w : World} {s : Nat} {f : FuncId} {caps : List (TypeId × As)} {ps : List (Nat × Nat)} (k : Nat) (ks : List Nat) (h : St B w0 N Γ Λ a w) (hm : Γ[k]? = some (s, ItN f caps (ps.map Prod.snd))) (hn : Nmd Γ ps ks) :
    ∃ gb, St B w0 N (Γ.set k (s, ItV f caps gb)) Λ a w ∧ ∀ t ∈ ps.map Prod.fst, ∀ g, blk (a.eval (.tmp t)) = some g → g ∉ gb := by
  obtain ⟨gb, h1, h2⟩ := h.vals _ (List.mem_of_getElem? hm)
  refine ⟨gb, ⟨h.lo, h.defers, h.size, h.base, fun x hx => ?_, h.locs, h.dis⟩, fun t ht g hg => ?_⟩
  · rcases List.mem_or_eq_of_mem_set hx with hx | rfl
    · exact h.vals x hx
    · exact h1
  · have key : ∀ (ps : List (Nat × Nat)) (ks : List Nat), Nmd Γ ps ks → ∀ p ∈ ps, a.eval (.tmp p.1) = ptr p.2 := by
      intro ps
      induction ps with
      | nil => intro _ _ p hp; cases hp
      | cons q ps ih =>
        intro ks hk p hp
        cases ks with
        | nil => exact hk.elim
        | cons k ks =>
          obtain ⟨e1, e2⟩ := hk
          rcases List.mem_cons.1 hp with rfl | hp
          · exact h.vals _ (List.mem_of_getElem? e1)
          · exact ih ks e2 p hp
    obtain ⟨p, hp, rfl⟩ := List.mem_map.1 ht
    rw [key ps ks hn p hp] at hg
    have : p.2 = g := by injection hg
    rw [← this]
    exact h2 p.2 (List.mem_map.2 ⟨p, hp, rfl⟩)
section
variable {P : Program} {R : Rg} {Q : Exit → Act → World → Prop} {B i : Nat} {w0 : Bs}
/-- the names of some variables, at an operation. -/
inductive Nmo (R : Rg) (B : Nat) (w0 : Bs) (i : Nat) : List (Nat × Nat) → Prop
  | nil : Nmo R B w0 i []
  | cons {s g T : Nat} {A : As} {l : List (Nat × Nat)} : Has R B w0 i (.tmp s) (EqV (ptr g)) → Loc R i s T A → Nmo R B w0 i l → Nmo R B w0 i ((s, g) :: l)
theorem Nmo.lt {l : List (Nat × Nat)} (h : Nmo R B w0 i l) {a : Act} {w : World} (av : R.Av B w0 i a w) : ∀ p ∈ l, p.2 < w.heap.size := by
  induction h with
  | nil => intro p hp; cases hp
  | cons h1 h2 _ ih =>
    intro p hp
    rcases List.mem_cons.1 hp with rfl | hp
    · obtain ⟨g, cs, e1, _, e3, _⟩ := h2.ok av
      have e2 := h1 a w av
      have e2' : a.eval (.tmp _) = ptr _ := e2
      rw [e2'] at e1
      have : ptr _ = ptr g := e1
      injection this with this
      injection this with this
      injection this with this
      rw [this]
      exact (Array.getElem?_eq_some_iff.1 e3).1
    · exact ih p hp
theorem has_eqA {x : Operand} {v : Value} (h : v.oneCell' = true) (h1 : Has R B w0 i x (EqV v)) : Has R B w0 i x (EqA v).va := fun a w av => by
  have e : a.eval x = v := h1 a w av
  rw [e]
  exact va_eqA h
theorem r_mkIt {f : FuncId} {T : TypeId} {v : Value} {s : Nat} (h1 : Loc R i s T (EqA v)) : Wv P Q R B w0 i (.makeFunc (.func f) #[] #[.tmp s]) (NewIt f T v) :=
  wv_run fun _ _ _ _ _ a w av => by
    obtain ⟨g, c, e1, m1, h3, h4⟩ := h1.ok av
    obtain rfl := h4.1
    have e1' : a.eval (.tmp s) = ptr g := e1
    exact ⟨.func (.func f) #[] (#[Operand.tmp s].map a.eval), w, by simp [execOp, Instr.makeFunc], Grow.refl w, g, by simp [e1'], av.lo _ m1, h3⟩
/-- a call that hands back an iterator over what it was handed. -/
theorem r_callIt {f f' : FuncId} {T : TypeId} {x : Operand} {A : As} {at_ : Array TypeId} (ns : List (Nat × Nat)) (hA : A.ag = false) (hc : ∀ v, v.oneCell' = true → Cn P f' [EqV v] (NewIt f T v)) (hx : Has R B w0 i x A.va) (hns : Nmo R B w0 i ns) :
    Wv P Q R B w0 i (.call ⟨.value (.func f'), #[x], at_⟩) (ItN f [(T, A)] (ns.map Prod.snd)) := by
  intro d T' ps af gd a w av K hK
  have hone : (a.eval x).oneCell' = true := by
    obtain ⟨cs, hp, hv⟩ := hx a w av
    have hl := A.len _ _ _ hp
    rw [A.ag1 hA] at hl
    match cs, hl, hp, hv with
    | [c], _, hp, hv =>
      have : a.eval x = c := by rw [hv]; simp [shape, hA]
      rw [this]
      exact A.one _ _ _ hp c (by simp)
  obtain ⟨⟨fn, hf, hn, hb⟩, hcall⟩ := hc (a.eval x) hone
  have hrun : (execOp a.eval ⟨some d, .call ⟨.value (.func f'), #[x], at_⟩, T', ps, af, gd⟩).run P w = .ok (.enter f' #[a.eval x]) w := by
    have e1 : a.eval (.func f') = .func (.func f') #[] #[] := rfl
    simp only [execOp, resolve, e1, Deferred.ofValue, Sem.run_bind, Sem.run_pure, Result.andThen_ok, invoke, run_callFunc hf hn hb]
    simp
  unfold Oper.wp
  rw [hrun]
  refine (hcall w.heap.size w [a.eval x] (Nat.le_refl _) (.cons rfl .nil)).mono fun e w' ⟨v, he, ⟨g, h1, h2, h3⟩, hg⟩ => ?_
  subst he
  obtain ⟨cs, hp, hv⟩ := hx a w av
  have hcs : cs = [a.eval x] := by
    have hl := A.len _ _ _ hp
    rw [A.ag1 hA] at hl
    match cs, hl with
    | [c], _ =>
      rw [hv]
      simp [shape, hA]
  refine hK v w' hg ⟨[g], ⟨h1, by simp, .cons ⟨Nat.le_trans (Av.bw av) h2, _, h3, ?_⟩ .nil⟩, fun n hn' hm => ?_⟩
  · rw [← hcs]
    exact A.grow _ _ _ _ hg hp
  · obtain rfl := List.mem_singleton.1 hm
    obtain ⟨p, hp', rfl⟩ := List.mem_map.1 hn'
    have := hns.lt av p hp'
    omega
end

end Go.Proofs.Ytljkepdpoelpkaa
