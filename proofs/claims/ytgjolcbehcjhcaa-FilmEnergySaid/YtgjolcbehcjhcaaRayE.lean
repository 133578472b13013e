/- A region that draws its order and ends with an append to a row of its own: one rule for it. -/
import Derived.Test.YtgjolcbehcjhcaaRayD
import Derived.Laws.AppendOwn
import Derived.Orders
namespace Go.Proofs.Ytgjolcbehcjhcaa
open Go Go.RowKit
namespace RayE

end RayE
open RayE
def VT : VA := ⟨fun _ _ _ => True, [], fun _ _ _ _ _ _ => trivial, fun _ _ _ _ _ _ _ _ _ _ _ _ _ => trivial⟩
theorem St.wkG {B N : Nat} {w0 : Bs} {Γ : List (Nat × VA)} {Λ : List Lc} {a : Act} {w : World} (h : St B w0 N Γ Λ a w) {s : Nat} {A A' : VA} (k : Nat) (hm : Γ[k]? = some (s, A)) (hw : Wk A A') : St B w0 N (Γ.set k (s, A')) Λ a w :=
  ⟨h.lo, h.defers, h.size, h.base, fun x hx => by
    rcases List.mem_or_eq_of_mem_set hx with hx | rfl
    · exact h.vals x hx
    · exact hw _ _ _ (h.vals _ (List.mem_of_getElem? hm)), h.locs, h.dis⟩
def lesN (Λ : List Lc) : List Le := Λ.map fun l => ⟨l.s, l.T, l.H, none, l.A, none⟩
section
variable {P : Program} {Q : Exit → Act → World → Prop} {B N : Nat} {w0 : Bs} {Γ : List (Nat × VA)} {Λ : List Lc} {a : Act} {w : World}
open Rg in
theorem go_app {id : Nat} {ops : Array Oper} {sp : List Sp} (anc : List (List Nat)) (n : Nat) (src : List Nat) (i1 i2 : Nat) {S E T1 T2 : TypeId} {s u d e m bytes : Nat} {ps1 ps2 : String} {af1 af2 : Array Edge} {D D' : List TypeId} {l : List As} {x : As} {it : TypeInfo} {z : Value}
    (hm : P.follows .mixedOrders = true) (h : St B w0 N Γ Λ a w)
    (hob : Obs P Q ⟨ops, N, Γ, lesN Λ, sp, fun i => anc.getD i []⟩ B w0 0 n) (hn2 : ops.size = n + 2)
    (hanc : Rg.ancOk ⟨ops, N, Γ, lesN Λ, sp, fun i => anc.getD i []⟩ = true) (hk : Rg.chk ⟨ops, N, Γ, lesN Λ, sp, fun i => anc.getD i []⟩ = true)
    (ha1 : (List.range n).all (fun j => (anc.getD n []).contains j) = true) (ha2 : (anc.getD (n + 1) []).contains n = true)
    (ho1 : ops[n]? = some ⟨some d, .call ⟨.builtin .append, #[.tmp s, .tmp u], #[S, S]⟩, T1, ps1, af1, none⟩) (ho2 : ops[n + 1]? = some ⟨some e, .assign (.tmp d), T2, ps2, af2, none⟩)
    (hi1 : i1 < n) (h1 : sp[i1]? = some (.val s (OwnR w0.w.heap.size E m D l))) (hi2 : i2 < n) (h2 : sp[i2]? = some (.val u (SlA E D' [x]).va))
    (hS : P.underlying S = some (.slice E)) (hi : P.info? E = some it) (hz : it.zero = some z) (hsz : it.size = m) (hby : it.bytes = bytes) (hzs : z.cells.size = m) (hm0 : 0 < m) (hl : l.length ≤ 1000) (hb6 : bytes ≤ 1000)
    (hD' : ∀ T ∈ D', T ∈ D) (hED : E ∉ D) (hxm : x.n = m) (hde : (d != e) = true) (hd : d < N) (he : e < N)
    (hsrc : src.all (fun k => match Γ[k]? with | some y => !y.2.deps.contains E && Rg.outG ⟨ops, N, Γ, lesN Λ, sp, fun i => anc.getD i []⟩ y.1 | none => false) = true)
    (hΛ : Λ.all (fun l => l.T != E && !l.A.deps.contains E && l.s != d && l.s != e) = true)
    (hQ : ∀ a w, St B w0 N ((e, OwnR w0.w.heap.size E m D (l ++ [x])) :: src.filterMap (fun k => Γ[k]?)) Λ a w → Q .normal a w) : (Code.region id ops true).wp P Q a w := by
  have hles0 : ∀ y ∈ lesN Λ, y.cr = none ∧ y.st = none ∧ (⟨y.s, y.T, y.H, y.A0⟩ : Lc) ∈ Λ := fun y hy => by
    obtain ⟨l', hl', rfl⟩ := List.mem_map.1 hy
    exact ⟨rfl, rfl, hl'⟩
  refine Rg.draw2 (R := ⟨ops, N, Γ, lesN Λ, sp, fun i => anc.getD i []⟩) hn2 hm hanc hk h (fun y hy _ => (hles0 y hy).2.2) (fun i hi => hob.all i (by omega) (by omega)) (fun j hj => List.all_eq_true.1 ha1 j (by simpa using hj)) ha2 fun a1 w1 hinv K hK => ?_
  have hcl : ∀ deps, Rg.clash ⟨ops, N, Γ, lesN Λ, sp, fun i => anc.getD i []⟩ (fun k => decide (k < n)) deps = false := fun deps => by
    unfold Rg.clash
    rw [List.any_eq_false]
    intro y hy
    rw [(hles0 y hy).2.1]
    simp
  have hv := hinv.v i1 _ s _ h1 rfl (decide_eq_true hi1) (hcl _)
  have hu := hinv.v i2 _ u _ h2 rfl (decide_eq_true hi2) (hcl _)
  have hB : B ≤ w0.w.heap.size := hinv.lo _ (.inl (Nat.le_refl _))
  obtain ⟨v', w', hr, r1, r2, r3⟩ := run_own (T1 := T1) hS hi hz hsz hby hzs hm0 hl hb6 hv hu hD' hED hxm hinv.base.size hB
  have hdsz : d < a1.tmps.size := by rw [hinv.size]; exact hd
  have hesz : e < (a1.put (some d) v').tmps.size := by rw [size_put, hinv.size]; exact he
  have hne : d ≠ e := by simpa using hde
  refine wpOp_of (R := ⟨ops, N, Γ, lesN Λ, sp, fun i => anc.getD i []⟩) ho1 rfl (wp_value (w' := w') (v := v') (by simp [execOp, resolve, invoke, builtin, hr, Result.andThen]) (hK _ _ fun K' hK' => ?_))
  refine wpOp_of (R := ⟨ops, N, Γ, lesN Λ, sp, fun i => anc.getD i []⟩) ho2 rfl (wp_value (w' := w') (v := v') ?_ (hK' _ _ (hQ _ _ ?_)))
  · have := eval_put_same a1 d v' hdsz
    simp [execOp, this]
  · have hother : ∀ t, t ≠ d → t ≠ e → ((a1.put (some d) v').put (some e) v').eval (.tmp t) = a1.eval (.tmp t) := fun t h3 h4 => by
      rw [eval_put_other _ _ _ _ h4, eval_put_other _ _ _ _ h3]
    have hlc : ∀ l' ∈ Λ, l'.T ≠ E ∧ E ∉ l'.A.deps ∧ l'.s ≠ d ∧ l'.s ≠ e := fun l' hl' => by
      have := List.all_eq_true.1 hΛ l' hl'
      simp only [Bool.and_eq_true, bne_iff_ne, Bool.not_eq_true', List.contains_eq_mem, decide_eq_false_iff_not] at this
      exact ⟨this.1.1.1, this.1.1.2, this.1.2, this.2⟩
    have hcur : ∀ l' ∈ Λ, (⟨l'.s, l'.T, l'.H, none, l'.A, none⟩ : Le) ∈ lesN Λ := fun l' hl' => List.mem_map.2 ⟨l', hl', rfl⟩
    refine ⟨hinv.lo, hinv.defers, by rw [size_put, size_put]; exact hinv.size, ?_, ?_, ?_, ?_⟩
    · exact ⟨r2.os.trans hinv.base.os, r2.tape.trans hinv.base.tape, r2.output.trans hinv.base.output, Nat.le_trans hinv.base.size r2.size, fun k hk hf =>
        (r2.block k (Nat.lt_of_lt_of_le hk hinv.base.size) (fun e => by have := (r3 k e.symm).1; omega)).trans (hinv.base.block k hk hf)⟩
    · intro y hy
      rcases List.mem_cons.1 hy with rfl | hy
      · show (OwnR w0.w.heap.size E m D (l ++ [x])).p B (((a1.put (some d) v').put (some e) v').eval (.tmp e)) w'
        rw [eval_put_same _ _ _ hesz]
        exact r1
      · obtain ⟨k, hk1, hk2⟩ := List.mem_filterMap.1 hy
        have hs := List.all_eq_true.1 hsrc k hk1
        simp only [hk2, Bool.and_eq_true, Bool.not_eq_true', List.contains_eq_mem, decide_eq_false_iff_not] at hs
        have hout : ∀ q, q < ops.size → Rg.dst ⟨ops, N, Γ, lesN Λ, sp, fun i => anc.getD i []⟩ q ≠ some y.1 := fun q hq => by
          have := List.all_eq_true.1 hs.2 q (by simpa using hq)
          simpa using this
        have g1 : y.1 ≠ d := fun e1 => hout n (by omega) (by unfold Rg.dst; rw [ho1, e1]; rfl)
        have g2 : y.1 ≠ e := fun e1 => hout (n + 1) (by omega) (by unfold Rg.dst; rw [ho2, e1]; rfl)
        rw [hother _ g1 g2]
        exact VA.grown (hinv.g y (List.mem_of_getElem? hk2) (fun q hq hdq => absurd hdq (hout q hq)) (hcl _)) r2 r3 hB hs.1
    · intro l' hl'
      obtain ⟨g1, g2, g3, g4⟩ := hlc l' hl'
      obtain ⟨g, cs, e1, e2, e3, e4⟩ := hinv.c _ (hcur l' hl') l'.A rfl
      refine ⟨g, cs, by rw [hother _ g3 g4]; exact e1, e2, ?_, As.grown e4 r2 r3 hB g2⟩
      rw [r2.block g (Array.getElem?_eq_some_iff.1 e3).1 (fun e5 => by
        obtain ⟨_, c, fz, e6⟩ := r3 g e5.symm
        rw [e3] at e6
        injection e6 with e6
        injection e6 with _ e6 _
        exact g1 e6)]
      exact e3
    · intro l1 hl1 l2 hl2 hne'
      obtain ⟨_, _, g3, g4⟩ := hlc l1 hl1
      obtain ⟨_, _, g5, g6⟩ := hlc l2 hl2
      rw [hother _ g3 g4, hother _ g5 g6]
      exact hinv.x _ (hcur l1 hl1) _ (hcur l2 hl2) hne' rfl rfl
end

end Go.Proofs.Ytgjolcbehcjhcaa
