/- A variable that holds a row of its own: an append to it, its result stored, at the end of a region. -/
import Derived.Test.YtgjolcbehcjhcaaGreatRngC
import Derived.Laws.AppendOwn
import Derived.Laws.OwnMore
import Derived.Orders
namespace Go.Proofs.YtgjolcbehcjhcaaGreat
open Go Go.RowKit
namespace RngD

end RngD
open RngD
/-- a variable that holds a row of the call's own, of element type E. -/
def OwnC (E : TypeId) (m : Nat) (D : List TypeId) (l : List As) : As where
  n := 1
  ag := false
  p B cs w := ∃ v, cs = [v] ∧ (OwnR B E m D l).p B v w
  deps := E :: D
  len := by rintro B cs w ⟨v, rfl, _⟩; rfl
  one := by
    rintro B cs w ⟨v, rfl, _, _, ds, _, _, h⟩ c hc
    obtain rfl := List.mem_singleton.1 hc
    rcases h with ⟨rfl, _⟩ | ⟨g, cap, cur, rfl, _⟩ <;> rfl
  ag1 := fun _ => rfl
  cg := by
    rintro B cs w w' hg ⟨v, rfl, h⟩
    exact ⟨v, rfl, (OwnR B E m D l).cg _ _ _ _ hg h⟩
  wr := by
    rintro B cs w w' g c T fz h1 h2 h3 h4 ⟨v, rfl, h⟩
    exact ⟨v, rfl, (OwnR B E m D l).wr _ _ _ _ _ _ _ _ h1 h2 h3 h4 h⟩
theorem ownC_v {E : TypeId} {m : Nat} {D : List TypeId} {l : List As} {B : Nat} {v : Value} {w : World} (h : (OwnC E m D l).va.p B v w) : (OwnR B E m D l).p B v w := by
  obtain ⟨cs, ⟨u, rfl, h⟩, hv⟩ := h
  have : v = u := hv
  subst this
  exact h
theorem ownC_sl {E : TypeId} {m : Nat} {D : List TypeId} {l : List As} : Wk (OwnC E m D l).va (SlA E D l).va := fun B v w h => own_sl B v w (ownC_v h)
/-- one cell, whatever it holds. -/
def OneC : As where
  n := 1
  ag := false
  p _ cs _ := ∃ v, cs = [v] ∧ v.oneCell' = true
  deps := []
  len := by rintro B cs w ⟨v, rfl, _⟩; rfl
  one := by
    rintro B cs w ⟨v, rfl, h⟩ c hc
    obtain rfl := List.mem_singleton.1 hc
    exact h
  ag1 := fun _ => rfl
  cg := fun _ _ _ _ _ h => h
  wr := fun _ _ _ _ _ _ _ _ _ _ _ _ h => h
theorem zero_own {P : Program} {T E : TypeId} {m : Nat} {D : List TypeId} (h : (P.info? T).bind (·.zero) = some (.slice none 0 0)) : Zero P T (OwnC E m D []) := Zero.of h fun B w => ⟨_, rfl, own_nil B _ w rfl⟩
theorem St.castΓ {B N : Nat} {w0 : Bs} {Γ Γ' : List (Nat × VA)} {Λ : List Lc} {a : Act} {w : World} (e : Γ = Γ') (h : St B w0 N Γ Λ a w) : St B w0 N Γ' Λ a w := e ▸ h
theorem St.castΛ {B N : Nat} {w0 : Bs} {Γ : List (Nat × VA)} {Λ Λ' : List Lc} {a : Act} {w : World} (e : Λ = Λ') (h : St B w0 N Γ Λ a w) : St B w0 N Γ Λ' a w := e ▸ h
/-- rows of type E, from B on, may be written on this ground. -/
def RowMay (w0 : Bs) (B : Nat) (E : TypeId) : Prop := ∀ (w : World) (g : Nat) (c : Array Value) (fz : Nat × Nat), Kept w0 w → B ≤ g → w.heap[g]? = some (.cells c E fz) → w0.may g
theorem rowMay_w {w0 : Bs} {B : Nat} {E : TypeId} (h : B = w0.w.heap.size) : RowMay w0 B E := fun _ g _ _ _ hg _ => .inl (by omega)
theorem rowMay_r {B : Nat} {E : TypeId} {D Tc : List TypeId} {gs : List Nat} {Ws W2 W3 : World} {l : Nat} (hk : Kept (rndB B D gs Ws Ws) W2) (hb : Bg l W2 W3) (hc : CellsT Tc gs Ws) (hE : D.contains E = true) (hT : Tc.contains E = false) : RowMay (rndB B D gs Ws W3) B E := fun w g c fz hw hg hcell => by
  obtain ⟨r, r', hr, rfl⟩ := hb
  have hEm : E ∈ D := by simpa using hE
  by_cases hF : (rndB B D gs Ws (W2.putObj l (.loop r'))).F g
  · exact .inr hF
  · by_cases hlt : g < W2.heap.size
    · have h1 : (W2.putObj l (.loop r')).heap[g]? = some (.cells c E fz) := (hw.block g (by show g < (W2.putObj l (.loop r')).heap.size; rw [World.putObj_size]; exact hlt) hF).symm.trans hcell
      have hne : g ≠ l := fun e => by
        subst e
        rw [World.putObj_heap_same hlt] at h1
        cases h1
      rw [World.putObj_heap_other hne] at h1
      by_cases hlt2 : g < Ws.heap.size
      · have h2 : Ws.heap[g]? = some (.cells c E fz) := (hk.block g hlt2 hF).symm.trans h1
        by_cases hgs : g ∈ gs
        · obtain ⟨c', T', fz', h3, h4⟩ := hc g hgs
          rw [h2] at h3
          injection h3 with h3
          injection h3 with _ h3 _
          subst h3
          have : Tc.contains E = true := by simpa using h4
          rw [hT] at this
          cases this
        · exact .inr ⟨hg, .inr ⟨hgs, _, _, _, h2, hEm⟩⟩
      · exact .inr ⟨hg, .inl (by omega)⟩
    · exact .inl (by show (W2.putObj l (.loop r')).heap.size ≤ g; simp; omega)
section
open Rg
variable {P : Program} {Q : Exit → Act → World → Prop} {B N : Nat} {w0 : Bs} {Γ : List (Nat × VA)} {Λ : List Lc} {a : Act} {w : World}
/-- a store into a variable, one operation. -/
theorem op_store {ops : Array Oper} {i kd e sx d : Nat} {T ty T' : TypeId} {A0 A : As} {ps : String} {af : Array Edge} (src : List Nat) (ho : ops[i]? = some ⟨none, .store ty (.tmp sx) (.tmp d), T', ps, af, none⟩) (h : St B w0 N Γ Λ a w) (hd : Γ[kd]? = some (d, A.va)) (hl : Λ[e]? = some ⟨sx, T, ptrH, A0⟩) (ht : Ty P ty A.n A.ag) (hn : A0.n = A.n) (hT : A.deps.contains T = false)
    (hsrc : src.all (fun k => match Γ[k]? with | some y => !y.2.deps.contains T | none => false) = true) (hΛ : Λ.zipIdx.all (fun x => x.2 == e || (x.1.s != sx && !x.1.A.deps.contains T)) = true) (K : Act → World → Prop)
    (hK : ∀ w', St B w0 N (src.filterMap fun k => Γ[k]?) (Λ.set e ⟨sx, T, ptrH, A⟩) a w' → K a w') : wpOp P ops Q i K a w := by
  obtain ⟨g, cs, f1, f2, f3, f4⟩ := h.locs _ (List.mem_of_getElem? hl)
  obtain ⟨cs', hp, hv⟩ := h.vals _ (List.mem_of_getElem? hd)
  have f1' : a.eval (.tmp sx) = .pointer (some ⟨g, 0, none⟩) := f1
  have hv' : a.eval (.tmp d) = shape A.ag cs' := hv
  have l0 := A0.len _ _ _ f4
  have l1 := A.len _ _ _ hp
  have hB : B ≤ g := h.lo g f2
  have hTn : T ∉ A.deps := by simpa using hT
  have hrun := run_storeVar ht w g 0 T cs.toArray _ cs' (A.cells_shape hp) l1 (by simp; omega) (A.one _ _ _ hp) f3
  rw [List.drop_of_length_le (by simp; omega)] at hrun
  simp only [List.take_zero, List.nil_append, List.append_nil] at hrun
  have hW := Wr.setRow w g cs'.toArray
  have hnew : (w.setRow g cs'.toArray).heap[g]? = some (.cells cs'.toArray T (0, 0)) := setRow_heap w g _ _ _ _ f3
  have hst : ∀ a', a' = a → K a' (w.setRow g cs'.toArray) := fun a' ha => by
    subst ha
    refine hK _ ⟨h.lo, h.defers.keep rfl fun D hD => (hW.block D (fun e => by subst e; rw [f3] at hD; cases hD)).trans hD, h.size, h.base.wr hW f2, fun x hx => ?_, fun m hm => ?_, fun m hm m' hm' hne => ?_⟩
    · obtain ⟨k, hk1, hk2⟩ := List.mem_filterMap.1 hx
      have := List.all_eq_true.1 hsrc k hk1
      simp only [hk2, Bool.not_eq_true', List.contains_eq_mem, decide_eq_false_iff_not] at this
      exact x.2.wr _ _ _ _ _ _ _ _ f3 this hB hW (h.vals x (List.mem_of_getElem? hk2))
    · obtain ⟨j, hj⟩ := List.getElem?_of_mem hm
      by_cases e1 : j = e
      · subst e1
        have : m = ⟨sx, T, ptrH, A⟩ := by
          rw [List.getElem?_set_self (List.getElem?_eq_some_iff.1 hl).1] at hj
          injection hj with hj
          exact hj.symm
        subst this
        exact ⟨g, cs', f1, f2, hnew, A.wr _ _ _ _ _ _ _ _ f3 hTn hB hW hp⟩
      · rw [List.getElem?_set_ne (fun e2 => e1 e2.symm)] at hj
        have hc := List.all_eq_true.1 hΛ (m, j) (List.mem_zipIdx_iff_getElem?.2 hj)
        simp only [Bool.or_eq_true, beq_iff_eq, Bool.and_eq_true, bne_iff_ne, Bool.not_eq_true', List.contains_eq_mem, decide_eq_false_iff_not] at hc
        have hc' := hc.resolve_left e1
        obtain ⟨g', cs2, q1, q2, q3, q4⟩ := h.locs m (List.mem_of_getElem? hj)
        have hne : g' ≠ g := fun hh => h.dis m (List.mem_of_getElem? hj) _ (List.mem_of_getElem? hl) hc'.1 (by rw [q1, f1, hh, m.H.ok, Hd.ok])
        exact ⟨g', cs2, q1, q2, (hW.block g' hne).trans q3, m.A.wr _ _ _ _ _ _ _ _ f3 hc'.2 hB hW q4⟩
    · have hs : ∀ m ∈ Λ.set e ⟨sx, T, ptrH, A⟩, ∃ m0 ∈ Λ, m0.s = m.s := fun m hm => by
        rcases List.mem_or_eq_of_mem_set hm with hm | rfl
        · exact ⟨m, hm, rfl⟩
        · exact ⟨_, List.mem_of_getElem? hl, rfl⟩
      obtain ⟨m0, q1, q2⟩ := hs m hm
      obtain ⟨m1, q3, q4⟩ := hs m' hm'
      rw [← q2, ← q4]
      exact h.dis m0 q1 m1 q3 (by rw [q2, q4]; exact hne)
  unfold wpOp
  rw [ho]
  have hwant : Region.wanted (⟨none, .store ty (.tmp sx) (.tmp d), T', ps, af, none⟩ : Oper) (yielded ops a.tmps) = true := rfl
  simp only [hwant, if_true]
  refine .inl (wp_skip' (w' := w.setRow g cs'.toArray) ?_ (hst _ rfl))
  simp [execOp, f1', hv', Instr.storeAt, Instr.sureAddr, hrun]
/-- the variables of a region of which operation j stores into number e. -/
def lesS (Λ : List Lc) (e j : Nat) (A : As) : List Le := Λ.zipIdx.map fun x => ⟨x.1.s, x.1.T, x.1.H, none, x.1.A, if x.2 = e then some (j, A) else none⟩
theorem lesS_of {Λ : List Lc} {e j : Nat} {A : As} : ∀ y ∈ lesS Λ e j A, y.cr = none ∧ (⟨y.s, y.T, y.H, y.A0⟩ : Lc) ∈ Λ ∧ ∀ i B, y.st = some (i, B) → i = j := fun y hy => by
  obtain ⟨x, hx, rfl⟩ := List.mem_map.1 hy
  refine ⟨rfl, List.mem_of_getElem? (List.mem_zipIdx_iff_getElem?.1 hx), fun i B h => ?_⟩
  simp only at h
  split at h
  · injection h with h
    injection h with h _
    exact h.symm
  · cases h
theorem lesS_in {Λ : List Lc} {e j : Nat} {A : As} : ∀ l ∈ Λ, ∃ y ∈ lesS Λ e j A, y.s = l.s ∧ y.T = l.T ∧ y.H = l.H ∧ y.A0 = l.A := fun l hl => by
  obtain ⟨i, hi⟩ := List.getElem?_of_mem hl
  exact ⟨_, List.mem_map.2 ⟨(l, i), List.mem_zipIdx_iff_getElem?.2 hi, rfl⟩, rfl, rfl, rfl, rfl⟩
/-- an append to the row that a variable holds, one operation, of what a region's first operations have made. -/
theorem op_append {R : Rg} {Λ' : List Lc} {e' : Nat} {n m : Nat} {S E T1 T : TypeId} {s u d sx e q bytes i1 i2 : Nat} {ps1 : String} {af1 : Array Edge} {D D' : List TypeId} {l xs : List As} {A2 : VA} {it : TypeInfo} {z : Value} (src : List Nat)
    {A1 : As} (hsz : R.ops.size = n + m) (hm : 0 < m) (hles : R.les = lesS Λ e (n + 1) A1)
    (ho1 : R.ops[n]? = some ⟨some d, .call ⟨.builtin .append, #[.tmp s, .tmp u], #[S, S]⟩, T1, ps1, af1, none⟩)
    (hi1 : i1 < n) (h1 : R.sp[i1]? = some (.val s (OwnC E q D l).va)) (hi2 : i2 < n) (h2 : R.sp[i2]? = some (.val u A2)) (hA2 : ∀ w u, A2.p B u w → Kept w0 w → (SlA E D' xs).va.p B u w)
    (hsub : ∀ l ∈ Λ', l ∈ Λ) (hl : Λ'[e']? = some ⟨sx, T, ptrH, OwnC E q D l⟩) (hTE : (T != E) = true) (hrm : RowMay w0 B E)
    (hS : P.underlying S = some (.slice E)) (hi : P.info? E = some it) (hz : it.zero = some z) (hsz1 : it.size = q) (hby : it.bytes = bytes) (hzs : z.cells.size = q) (hm0 : 0 < q) (hll : l.length + xs.length ≤ 100000000000) (hb6 : bytes ≤ 1000)
    (hD' : ∀ T ∈ D', T ∈ D) (hED : E ∉ D) (hxm : ∀ x ∈ xs, x.n = q) (hd : d < R.N)
    (hsrc : src.all (fun k => match R.Γ[k]? with | some y => !y.2.deps.contains E && Rg.outG R y.1 | none => false) = true)
    (hΛ : Λ'.zipIdx.all (fun x => x.1.s != d && (x.2 == e' || (x.1.T != E && !x.1.A.deps.contains E))) = true)
    {a1 : Act} {w1 : World} (hinv : R.Inv B w0 (fun k => decide (k < n)) a1 w1) (K : Act → World → Prop)
    (hK : ∀ a' w', St B w0 R.N ((d, (OwnC E q D (l ++ xs)).va) :: src.filterMap (fun k => R.Γ[k]?)) (Λ'.set e' ⟨sx, T, ptrH, OneC⟩) a' w' → K a' w') : wpOp P R.ops Q n K a1 w1 := by
  have hcl : ∀ deps, Rg.clash R (fun k => decide (k < n)) deps = false := fun deps => by
    unfold Rg.clash
    rw [List.any_eq_false]
    intro y hy
    rw [hles] at hy
    have h3 := (lesS_of y hy).2.2
    cases hst : y.st with
    | none => simp
    | some x =>
      obtain ⟨i, B'⟩ := x
      have := h3 i B' hst
      subst this
      have hno : ¬ n + 1 < n := by omega
      simp [hno]
  have hcurE : ∀ y ∈ R.les, Rg.cur (fun k => decide (k < n)) y = some y.A0 := fun y hy => by
    rw [hles] at hy
    obtain ⟨h0, _, h3⟩ := lesS_of y hy
    unfold Rg.cur
    rw [h0]
    simp only [Rg.crOk, if_true]
    cases hst : y.st with
    | none => rfl
    | some x =>
      obtain ⟨i, B'⟩ := x
      have := h3 i B' hst
      subst this
      have hno : ¬ n + 1 < n := by omega
      simp [hno]
  have hv0 := hinv.v i1 _ s _ h1 rfl (decide_eq_true hi1) (hcl _)
  have hv := ownC_v hv0
  have hu := hA2 _ _ (hinv.v i2 _ u _ h2 rfl (decide_eq_true hi2) (hcl _)) hinv.base
  have hBw : B ≤ w1.heap.size := Nat.le_trans (hinv.lo _ (.inl (Nat.le_refl _))) hinv.base.size
  obtain ⟨v', w', hr, r1, r2, r3⟩ := run_ownM (T1 := T1) hS hi hz hsz1 hby hzs hm0 hll hb6 hv hu hD' hED hxm hBw (Nat.le_refl B)
  have hdsz : d < a1.tmps.size := by rw [hinv.size]; exact hd
  have hcur : ∀ l' ∈ Λ, LcOk B w0.may l'.s l'.T l'.H l'.A a1 w1 := fun l' hl' => by
    obtain ⟨y, hy, e1, e2, e3, e4⟩ := lesS_in (e := e) (j := n + 1) (A := A1) l' hl'
    have := hinv.c y (by rw [hles]; exact hy) y.A0 (hcurE y (by rw [hles]; exact hy))
    rw [e1, e2, e3, e4] at this
    exact this
  have hTE' : T ≠ E := by simpa using hTE
  have hlc : ∀ (j : Nat) l', Λ'[j]? = some l' → l'.s ≠ d ∧ (j = e' ∨ (l'.T ≠ E ∧ E ∉ l'.A.deps)) := fun j l' hj => by
    have := List.all_eq_true.1 hΛ (l', j) (List.mem_zipIdx_iff_getElem?.2 hj)
    simpa using this
  have hrow : ∀ {g : Nat} {c : Array Value} {T' : TypeId} {fz : Nat × Nat}, w1.heap[g]? = some (.cells c T' fz) → T' ≠ E → w'.heap[g]? = some (.cells c T' fz) := fun {g c T' fz} hg hne =>
    (r2.block g (Array.getElem?_eq_some_iff.1 hg).1 (fun e5 => by
      obtain ⟨_, c', fz', e6⟩ := r3 g e5.symm
      rw [hg] at e6
      injection e6 with e6
      injection e6 with _ e6 _
      exact hne e6)).trans hg
  have hoth : ∀ t, t ≠ d → (a1.put (some d) v').eval (.tmp t) = a1.eval (.tmp t) := fun t ht => eval_put_other _ _ _ _ ht
  have hst : St B w0 R.N ((d, (OwnC E q D (l ++ xs)).va) :: src.filterMap (fun k => R.Γ[k]?)) (Λ'.set e' ⟨sx, T, ptrH, OneC⟩) (a1.put (some d) v') w' := by
    refine ⟨hinv.lo, hinv.defers.grown r2 r3 rfl, by rw [size_put]; exact hinv.size, ?_, fun y hy => ?_, fun m' hm' => ?_, fun m1 hm1 m2 hm2 hne => ?_⟩
    · refine ⟨r2.os.trans hinv.base.os, r2.tape.trans hinv.base.tape, r2.output.trans hinv.base.output, Nat.le_trans hinv.base.size r2.size, fun k hk hf => ?_⟩
      refine (r2.block k (Nat.lt_of_lt_of_le hk hinv.base.size) (fun e => ?_)).trans (hinv.base.block k hk hf)
      obtain ⟨q1, c, fz, q2⟩ := r3 k e.symm
      rcases hrm w1 k c fz hinv.base q1 q2 with q3 | q3
      · omega
      · exact hf q3
    · rcases List.mem_cons.1 hy with rfl | hy
      · show (OwnC E q D (l ++ xs)).va.p B ((a1.put (some d) v').eval (.tmp d)) w'
        rw [eval_put_same _ _ _ hdsz]
        exact ⟨[v'], ⟨v', rfl, r1⟩, rfl⟩
      · obtain ⟨k, hk1, hk2⟩ := List.mem_filterMap.1 hy
        have hs := List.all_eq_true.1 hsrc k hk1
        simp only [hk2, Bool.and_eq_true, Bool.not_eq_true', List.contains_eq_mem, decide_eq_false_iff_not] at hs
        have hout : ∀ q, q < R.ops.size → R.dst q ≠ some y.1 := fun q hq => by
          have := List.all_eq_true.1 hs.2 q (by simpa using hq)
          simpa using this
        have g1 : y.1 ≠ d := fun e1 => hout n (by omega) (by unfold Rg.dst; rw [ho1, e1]; rfl)
        rw [hoth _ g1]
        exact VA.grown (hinv.g y (List.mem_of_getElem? hk2) (fun q hq hdq => absurd hdq (hout q hq)) (hcl _)) r2 r3 (Nat.le_refl B) hs.1
    · obtain ⟨j, hj⟩ := List.getElem?_of_mem hm'
      by_cases e1 : j = e'
      · subst e1
        have : m' = ⟨sx, T, ptrH, OneC⟩ := by
          rw [List.getElem?_set_self (List.getElem?_eq_some_iff.1 hl).1] at hj
          injection hj with hj
          exact hj.symm
        subst this
        obtain ⟨g, cs, q1, q2, q3, q4⟩ := hcur _ (hsub _ (List.mem_of_getElem? hl))
        have q5 := (OwnC E q D l).one _ _ _ q4
        obtain ⟨v0, rfl, _⟩ := q4
        exact ⟨g, [v0], by rw [hoth _ (hlc j _ hl).1]; exact q1, q2, hrow q3 hTE', v0, rfl, q5 v0 (by simp)⟩
      · rw [List.getElem?_set_ne (fun e2 => e1 e2.symm)] at hj
        obtain ⟨c1, c2⟩ := hlc j _ hj
        obtain ⟨c3, c4⟩ := c2.resolve_left e1
        obtain ⟨g, cs, q1, q2, q3, q4⟩ := hcur _ (hsub _ (List.mem_of_getElem? hj))
        exact ⟨g, cs, by rw [hoth _ c1]; exact q1, q2, hrow q3 c3, As.grown q4 r2 r3 (Nat.le_refl B) c4⟩
    · have hs : ∀ m ∈ Λ'.set e' ⟨sx, T, ptrH, OneC⟩, ∃ m0 ∈ Λ', m0.s = m.s := fun m hm => by
        rcases List.mem_or_eq_of_mem_set hm with hm | rfl
        · exact ⟨m, hm, rfl⟩
        · exact ⟨_, List.mem_of_getElem? hl, rfl⟩
      have hsd : ∀ m0 ∈ Λ', m0.s ≠ d := fun m0 hm0 => by
        obtain ⟨j, hj⟩ := List.getElem?_of_mem hm0
        exact (hlc j _ hj).1
      obtain ⟨p1, q1, q2⟩ := hs m1 hm1
      obtain ⟨p2, q3, q4⟩ := hs m2 hm2
      rw [← q2, ← q4, hoth _ (hsd _ q1), hoth _ (hsd _ q3)]
      obtain ⟨y1, hy1, z1, _⟩ := lesS_in (e := e) (j := n + 1) (A := A1) p1 (hsub _ q1)
      obtain ⟨y2, hy2, z2, _⟩ := lesS_in (e := e) (j := n + 1) (A := A1) p2 (hsub _ q3)
      rw [← z1, ← z2]
      exact hinv.x y1 (by rw [hles]; exact hy1) y2 (by rw [hles]; exact hy2) (by rw [z1, z2, q2, q4]; exact hne) (by rw [hcurE y1 (by rw [hles]; exact hy1)]; rfl) (by rw [hcurE y2 (by rw [hles]; exact hy2)]; rfl)
  exact wpOp_of (R := R) ho1 rfl (wp_value (w' := w') (v := v') (by simp [execOp, resolve, invoke, builtin, hr, Result.andThen]) (hK _ _ hst))

theorem shift_self {α : Type} (y : α) : ∀ (G : List α), ((List.range G.length).map (· + 1)).filterMap (fun k => (y :: G)[k]?) = G := by
  intro G
  rw [List.filterMap_map]
  have h2 : ((fun k => (y :: G)[k]?) ∘ fun x => x + 1) = fun k => G[k]? := by
    funext k
    simp
  rw [h2]
  have key : ∀ (G H : List α), (List.range' H.length G.length).filterMap (fun k => (H ++ G)[k]?) = G := by
    intro G
    induction G with
    | nil => intro H; rfl
    | cons x G ih =>
      intro H
      have h3 := ih (H ++ [x])
      rw [List.length_append, List.length_singleton, List.append_assoc, List.singleton_append] at h3
      rw [List.length_cons, List.range'_succ, List.filterMap_cons, h3]
      simp
  have := key G []
  rw [List.range_eq_range']
  exact this
theorem go_appC {id : Nat} {ops : Array Oper} {sp : List Sp} (n : Nat) (src : List Nat) (i1 i2 e : Nat) (kl : List Nat) (e' : Nat) {S E T1 T T2 T3 : TypeId} {s u d sx q bytes : Nat} {ps1 ps2 : String} {af1 af2 : Array Edge} {D D' : List TypeId} {l xs : List As} {A2 : VA} {it : TypeInfo} {z : Value}
    (h : St B w0 N Γ Λ a w) (hob : Obs P Q ⟨ops, N, Γ, lesS Λ e (n + 1) (OwnC E q D (l ++ xs)), sp, fun i => List.range i⟩ B w0 0 n) (hsz : ops.size = n + 2) (hk : Rg.chk ⟨ops, N, Γ, lesS Λ e (n + 1) (OwnC E q D (l ++ xs)), sp, fun i => List.range i⟩ = true)
    (ho1 : ops[n]? = some ⟨some d, .call ⟨.builtin .append, #[.tmp s, .tmp u], #[S, S]⟩, T1, ps1, af1, none⟩) (ho2 : ops[n + 1]? = some ⟨none, .store T2 (.tmp sx) (.tmp d), T3, ps2, af2, none⟩)
    (hi1 : i1 < n) (h1 : sp[i1]? = some (.val s (OwnC E q D l).va)) (hi2 : i2 < n) (h2 : sp[i2]? = some (.val u A2)) (hA2 : ∀ w u, A2.p B u w → Kept w0 w → (SlA E D' xs).va.p B u w)
    (hl : (kl.filterMap fun k => Λ[k]?)[e']? = some ⟨sx, T, ptrH, OwnC E q D l⟩) (hTE : (T != E) = true) (hTD : (E :: D).contains T = false) (hrm : RowMay w0 B E) (hty : Ty P T2 1 false)
    (hS : P.underlying S = some (.slice E)) (hi : P.info? E = some it) (hz : it.zero = some z) (hsz1 : it.size = q) (hby : it.bytes = bytes) (hzs : z.cells.size = q) (hm0 : 0 < q) (hll : l.length + xs.length ≤ 100000000000) (hb6 : bytes ≤ 1000)
    (hD' : ∀ T ∈ D', T ∈ D) (hED : E ∉ D) (hxm : ∀ x ∈ xs, x.n = q) (hd : d < N)
    (hsrc : src.all (fun k => match Γ[k]? with | some y => !y.2.deps.contains E && !y.2.deps.contains T && Rg.outG ⟨ops, N, Γ, lesS Λ e (n + 1) (OwnC E q D (l ++ xs)), sp, fun i => List.range i⟩ y.1 | none => false) = true)
    (hΛ : (kl.filterMap fun k => Λ[k]?).zipIdx.all (fun x => x.1.s != d && (x.2 == e' || (x.1.s != sx && !x.1.A.deps.contains T && (x.1.T != E && !x.1.A.deps.contains E)))) = true)
    (hQ : ∀ a w, St B w0 N (src.filterMap (fun k => Γ[k]?)) ((kl.filterMap fun k => Λ[k]?).set e' ⟨sx, T, ptrH, OwnC E q D (l ++ xs)⟩) a w → Q .normal a w) :
    (Code.region id ops false).wp P Q a w := by
  refine Rg.linK (R := ⟨ops, N, Γ, lesS Λ e (n + 1) (OwnC E q D (l ++ xs)), sp, fun i => List.range i⟩) (m := 2) hsz rfl hk h (fun y hy _ => (lesS_of y hy).2.1) (fun i hi => hob.all i (by omega) (by omega)) fun a1 w1 hinv => ?_
  rw [show List.range' n 2 = [n, n + 1] from rfl, wpOps_cons]
  refine (op_append (R := ⟨ops, N, Γ, lesS Λ e (n + 1) (OwnC E q D (l ++ xs)), sp, fun i => List.range i⟩) (m := 2) (e := e) (e' := e') (Λ' := kl.filterMap fun k => Λ[k]?) src hsz (by decide) rfl ho1 hi1 h1 hi2 h2 hA2 (fun l hl => by obtain ⟨k, _, hk⟩ := List.mem_filterMap.1 hl; exact List.mem_of_getElem? hk) hl hTE hrm hS hi hz hsz1 hby hzs hm0 hll hb6 hD' hED hxm hd (List.all_eq_true.2 fun k hk => ?_) (List.all_eq_true.2 fun x hx => ?_) hinv _ fun a2 w2 hst => ?_)
  · have := List.all_eq_true.1 hsrc k hk
    cases hg : Γ[k]? with
    | none => rw [hg] at this; cases this
    | some y =>
      rw [hg] at this
      simp only [Bool.and_eq_true] at this ⊢
      exact ⟨this.1.1, this.2⟩
  · have := List.all_eq_true.1 hΛ x hx
    simp only [Bool.and_eq_true, Bool.or_eq_true] at this ⊢
    exact ⟨this.1, this.2.imp (fun h => h) fun h => h.2⟩
  · rw [wpOps_cons]
    have hlen := (List.getElem?_eq_some_iff.1 hl).1
    refine (op_store (kd := 0) (e := e') (sx := sx) (d := d) (T := T) (A0 := OneC) (A := OwnC E q D (l ++ xs)) ((List.range (src.filterMap fun k => Γ[k]?).length).map (· + 1)) ho2 hst rfl (List.getElem?_set_self hlen) hty rfl hTD (List.all_eq_true.2 fun k hk => ?_) (List.all_eq_true.2 fun x hx => ?_) _ fun w3 hst => ?_)
    · obtain ⟨j, hj, rfl⟩ := List.mem_map.1 hk
      have hj' : j < (src.filterMap fun k => Γ[k]?).length := by simpa using hj
      rw [List.getElem?_cons_succ, List.getElem?_eq_getElem hj']
      obtain ⟨k, hk1, hk2⟩ := List.mem_filterMap.1 (List.getElem_mem hj')
      have := List.all_eq_true.1 hsrc k hk1
      rw [hk2] at this
      simp only [Bool.and_eq_true] at this
      exact this.1.2
    · obtain ⟨m, j⟩ := x
      have hj := List.mem_zipIdx_iff_getElem?.1 hx
      by_cases e1 : j = e'
      · simp [e1]
      · simp only at hj
        rw [List.getElem?_set_ne (fun e2 => e1 e2.symm)] at hj
        have := List.all_eq_true.1 hΛ (m, j) (List.mem_zipIdx_iff_getElem?.2 hj)
        simp only [Bool.and_eq_true, Bool.or_eq_true] at this ⊢
        exact this.2.imp (fun h => h) fun h => h.1
    · refine hQ _ _ ?_
      exact St.castΓ (shift_self (d, (OwnC E q D (l ++ xs)).va) (src.filterMap fun k => Γ[k]?)) (St.castΛ (List.set_set ..) hst)
theorem go_appCD {id : Nat} {ops : Array Oper} {sp : List Sp} (anc : List (List Nat)) (n : Nat) (src : List Nat) (i1 i2 e : Nat) (kl : List Nat) (e' : Nat) {S E T1 T T2 T3 : TypeId} {s u d sx q bytes : Nat} {ps1 ps2 : String} {af1 af2 : Array Edge} {D D' : List TypeId} {l xs : List As} {A2 : VA} {it : TypeInfo} {z : Value}
    (hmx : P.follows .mixedOrders = true) (h : St B w0 N Γ Λ a w) (hob : Obs P Q ⟨ops, N, Γ, lesS Λ e (n + 1) (OwnC E q D (l ++ xs)), sp, fun i => anc.getD i []⟩ B w0 0 n) (hsz : ops.size = n + 2) (hanc : Rg.ancOk ⟨ops, N, Γ, lesS Λ e (n + 1) (OwnC E q D (l ++ xs)), sp, fun i => anc.getD i []⟩ = true) (hall : ∀ i, n ≤ i → i < n + 2 → ∀ j, j < i → (anc.getD i []).contains j = true) (hk : Rg.chk ⟨ops, N, Γ, lesS Λ e (n + 1) (OwnC E q D (l ++ xs)), sp, fun i => anc.getD i []⟩ = true)
    (ho1 : ops[n]? = some ⟨some d, .call ⟨.builtin .append, #[.tmp s, .tmp u], #[S, S]⟩, T1, ps1, af1, none⟩) (ho2 : ops[n + 1]? = some ⟨none, .store T2 (.tmp sx) (.tmp d), T3, ps2, af2, none⟩)
    (hi1 : i1 < n) (h1 : sp[i1]? = some (.val s (OwnC E q D l).va)) (hi2 : i2 < n) (h2 : sp[i2]? = some (.val u A2)) (hA2 : ∀ w u, A2.p B u w → Kept w0 w → (SlA E D' xs).va.p B u w)
    (hl : (kl.filterMap fun k => Λ[k]?)[e']? = some ⟨sx, T, ptrH, OwnC E q D l⟩) (hTE : (T != E) = true) (hTD : (E :: D).contains T = false) (hrm : RowMay w0 B E) (hty : Ty P T2 1 false)
    (hS : P.underlying S = some (.slice E)) (hi : P.info? E = some it) (hz : it.zero = some z) (hsz1 : it.size = q) (hby : it.bytes = bytes) (hzs : z.cells.size = q) (hm0 : 0 < q) (hll : l.length + xs.length ≤ 100000000000) (hb6 : bytes ≤ 1000)
    (hD' : ∀ T ∈ D', T ∈ D) (hED : E ∉ D) (hxm : ∀ x ∈ xs, x.n = q) (hd : d < N)
    (hsrc : src.all (fun k => match Γ[k]? with | some y => !y.2.deps.contains E && !y.2.deps.contains T && Rg.outG ⟨ops, N, Γ, lesS Λ e (n + 1) (OwnC E q D (l ++ xs)), sp, fun i => anc.getD i []⟩ y.1 | none => false) = true)
    (hΛ : (kl.filterMap fun k => Λ[k]?).zipIdx.all (fun x => x.1.s != d && (x.2 == e' || (x.1.s != sx && !x.1.A.deps.contains T && (x.1.T != E && !x.1.A.deps.contains E)))) = true)
    (hQ : ∀ a w, St B w0 N (src.filterMap (fun k => Γ[k]?)) ((kl.filterMap fun k => Λ[k]?).set e' ⟨sx, T, ptrH, OwnC E q D (l ++ xs)⟩) a w → Q .normal a w) :
    (Code.region id ops true).wp P Q a w := by
  refine Rg.drawK (R := ⟨ops, N, Γ, lesS Λ e (n + 1) (OwnC E q D (l ++ xs)), sp, fun i => anc.getD i []⟩) (m := 2) hsz (by decide) hmx hanc hk h (fun y hy _ => (lesS_of y hy).2.1) (fun i hi => hob.all i (by omega) (by omega)) (fun i h1 h2 j hj => hall i h1 h2 j hj) fun a1 w1 hinv => ?_
  rw [show List.range' n 2 = [n, n + 1] from rfl, wpOps_cons]
  refine (op_append (R := ⟨ops, N, Γ, lesS Λ e (n + 1) (OwnC E q D (l ++ xs)), sp, fun i => anc.getD i []⟩) (m := 2) (e := e) (e' := e') (Λ' := kl.filterMap fun k => Λ[k]?) src hsz (by decide) rfl ho1 hi1 h1 hi2 h2 hA2 (fun l hl => by obtain ⟨k, _, hk⟩ := List.mem_filterMap.1 hl; exact List.mem_of_getElem? hk) hl hTE hrm hS hi hz hsz1 hby hzs hm0 hll hb6 hD' hED hxm hd (List.all_eq_true.2 fun k hk => ?_) (List.all_eq_true.2 fun x hx => ?_) hinv _ fun a2 w2 hst => ?_)
  · have := List.all_eq_true.1 hsrc k hk
    cases hg : Γ[k]? with
    | none => rw [hg] at this; cases this
    | some y =>
      rw [hg] at this
      simp only [Bool.and_eq_true] at this ⊢
      exact ⟨this.1.1, this.2⟩
  · have := List.all_eq_true.1 hΛ x hx
    simp only [Bool.and_eq_true, Bool.or_eq_true] at this ⊢
    exact ⟨this.1, this.2.imp (fun h => h) fun h => h.2⟩
  · rw [wpOps_cons]
    have hlen := (List.getElem?_eq_some_iff.1 hl).1
    refine (op_store (kd := 0) (e := e') (sx := sx) (d := d) (T := T) (A0 := OneC) (A := OwnC E q D (l ++ xs)) ((List.range (src.filterMap fun k => Γ[k]?).length).map (· + 1)) ho2 hst rfl (List.getElem?_set_self hlen) hty rfl hTD (List.all_eq_true.2 fun k hk => ?_) (List.all_eq_true.2 fun x hx => ?_) _ fun w3 hst => ?_)
    · obtain ⟨j, hj, rfl⟩ := List.mem_map.1 hk
      have hj' : j < (src.filterMap fun k => Γ[k]?).length := by simpa using hj
      rw [List.getElem?_cons_succ, List.getElem?_eq_getElem hj']
      obtain ⟨k, hk1, hk2⟩ := List.mem_filterMap.1 (List.getElem_mem hj')
      have := List.all_eq_true.1 hsrc k hk1
      rw [hk2] at this
      simp only [Bool.and_eq_true] at this
      exact this.1.2
    · obtain ⟨m, j⟩ := x
      have hj := List.mem_zipIdx_iff_getElem?.1 hx
      by_cases e1 : j = e'
      · simp [e1]
      · simp only at hj
        rw [List.getElem?_set_ne (fun e2 => e1 e2.symm)] at hj
        have := List.all_eq_true.1 hΛ (m, j) (List.mem_zipIdx_iff_getElem?.2 hj)
        simp only [Bool.and_eq_true, Bool.or_eq_true] at this ⊢
        exact this.2.imp (fun h => h) fun h => h.1
    · refine hQ _ _ ?_
      exact St.castΓ (shift_self (d, (OwnC E q D (l ++ xs)).va) (src.filterMap fun k => Γ[k]?)) (St.castΛ (List.set_set ..) hst)
theorem go_appCF {id : Nat} {ops : Array Oper} {sp : List Sp} {o : Option Nat} (n : Nat) (src : List Nat) (i1 i2 e : Nat) (kl : List Nat) (e' : Nat) {S E T1 T T2 T3 : TypeId} {s u d sx q bytes : Nat} {ps1 ps2 : String} {af1 af2 : Array Edge} {D D' : List TypeId} {l xs : List As} {A2 : VA} {it : TypeInfo} {z : Value}
    (hnd : noDefer ops = true) (hQ0 : ¬ LetsOut Q) (h : St B w0 N Γ Λ a w) (hob : Obs P Q ⟨ops, N, Γ, lesS Λ e (n + 1) (OwnC E q D (l ++ xs)), sp, fun i => List.range i⟩ B w0 0 n) (hsz : ops.size = n + 2) (hk : Rg.chk ⟨ops, N, Γ, lesS Λ e (n + 1) (OwnC E q D (l ++ xs)), sp, fun i => List.range i⟩ = true)
    (ho1 : ops[n]? = some ⟨some d, .call ⟨.builtin .append, #[.tmp s, .tmp u], #[S, S]⟩, T1, ps1, af1, none⟩) (ho2 : ops[n + 1]? = some ⟨none, .store T2 (.tmp sx) (.tmp d), T3, ps2, af2, none⟩)
    (hi1 : i1 < n) (h1 : sp[i1]? = some (.val s (OwnC E q D l).va)) (hi2 : i2 < n) (h2 : sp[i2]? = some (.val u A2)) (hA2 : ∀ w u, A2.p B u w → Kept w0 w → (SlA E D' xs).va.p B u w)
    (hl : (kl.filterMap fun k => Λ[k]?)[e']? = some ⟨sx, T, ptrH, OwnC E q D l⟩) (hTE : (T != E) = true) (hTD : (E :: D).contains T = false) (hrm : RowMay w0 B E) (hty : Ty P T2 1 false)
    (hS : P.underlying S = some (.slice E)) (hi : P.info? E = some it) (hz : it.zero = some z) (hsz1 : it.size = q) (hby : it.bytes = bytes) (hzs : z.cells.size = q) (hm0 : 0 < q) (hll : l.length + xs.length ≤ 100000000000) (hb6 : bytes ≤ 1000)
    (hD' : ∀ T ∈ D', T ∈ D) (hED : E ∉ D) (hxm : ∀ x ∈ xs, x.n = q) (hd : d < N)
    (hsrc : src.all (fun k => match Γ[k]? with | some y => !y.2.deps.contains E && !y.2.deps.contains T && Rg.outG ⟨ops, N, Γ, lesS Λ e (n + 1) (OwnC E q D (l ++ xs)), sp, fun i => List.range i⟩ y.1 | none => false) = true)
    (hΛ : (kl.filterMap fun k => Λ[k]?).zipIdx.all (fun x => x.1.s != d && (x.2 == e' || (x.1.s != sx && !x.1.A.deps.contains T && (x.1.T != E && !x.1.A.deps.contains E)))) = true)
    (hQ : ∀ a w, St B w0 N (src.filterMap (fun k => Γ[k]?)) ((kl.filterMap fun k => Λ[k]?).set e' ⟨sx, T, ptrH, OwnC E q D (l ++ xs)⟩) a w → Q .normal a w) :
    (Code.region id ops false).wpIn (fw o) 0 P Q a w := by
  refine Rg.linKF (R := ⟨ops, N, Γ, lesS Λ e (n + 1) (OwnC E q D (l ++ xs)), sp, fun i => List.range i⟩) (m := 2) hnd hQ0 hsz rfl hk h (fun y hy _ => (lesS_of y hy).2.1) (fun i hi => hob.all i (by omega) (by omega)) fun a1 w1 hinv => ?_
  rw [show List.range' n 2 = [n, n + 1] from rfl, wpOpsIn_cons]
  refine wpOpIn_of hnd hQ0 (op_append (R := ⟨ops, N, Γ, lesS Λ e (n + 1) (OwnC E q D (l ++ xs)), sp, fun i => List.range i⟩) (m := 2) (e := e) (e' := e') (Λ' := kl.filterMap fun k => Λ[k]?) src hsz (by decide) rfl ho1 hi1 h1 hi2 h2 hA2 (fun l hl => by obtain ⟨k, _, hk⟩ := List.mem_filterMap.1 hl; exact List.mem_of_getElem? hk) hl hTE hrm hS hi hz hsz1 hby hzs hm0 hll hb6 hD' hED hxm hd (List.all_eq_true.2 fun k hk => ?_) (List.all_eq_true.2 fun x hx => ?_) hinv _ fun a2 w2 hst => ?_)
  · have := List.all_eq_true.1 hsrc k hk
    cases hg : Γ[k]? with
    | none => rw [hg] at this; cases this
    | some y =>
      rw [hg] at this
      simp only [Bool.and_eq_true] at this ⊢
      exact ⟨this.1.1, this.2⟩
  · have := List.all_eq_true.1 hΛ x hx
    simp only [Bool.and_eq_true, Bool.or_eq_true] at this ⊢
    exact ⟨this.1, this.2.imp (fun h => h) fun h => h.2⟩
  · rw [wpOpsIn_cons]
    have hlen := (List.getElem?_eq_some_iff.1 hl).1
    refine wpOpIn_of hnd hQ0 (op_store (kd := 0) (e := e') (sx := sx) (d := d) (T := T) (A0 := OneC) (A := OwnC E q D (l ++ xs)) ((List.range (src.filterMap fun k => Γ[k]?).length).map (· + 1)) ho2 hst rfl (List.getElem?_set_self hlen) hty rfl hTD (List.all_eq_true.2 fun k hk => ?_) (List.all_eq_true.2 fun x hx => ?_) _ fun w3 hst => ?_)
    · obtain ⟨j, hj, rfl⟩ := List.mem_map.1 hk
      have hj' : j < (src.filterMap fun k => Γ[k]?).length := by simpa using hj
      rw [List.getElem?_cons_succ, List.getElem?_eq_getElem hj']
      obtain ⟨k, hk1, hk2⟩ := List.mem_filterMap.1 (List.getElem_mem hj')
      have := List.all_eq_true.1 hsrc k hk1
      rw [hk2] at this
      simp only [Bool.and_eq_true] at this
      exact this.1.2
    · obtain ⟨m, j⟩ := x
      have hj := List.mem_zipIdx_iff_getElem?.1 hx
      by_cases e1 : j = e'
      · simp [e1]
      · simp only at hj
        rw [List.getElem?_set_ne (fun e2 => e1 e2.symm)] at hj
        have := List.all_eq_true.1 hΛ (m, j) (List.mem_zipIdx_iff_getElem?.2 hj)
        simp only [Bool.and_eq_true, Bool.or_eq_true] at this ⊢
        exact this.2.imp (fun h => h) fun h => h.1
    · refine hQ _ _ ?_
      exact St.castΓ (shift_self (d, (OwnC E q D (l ++ xs)).va) (src.filterMap fun k => Γ[k]?)) (St.castΛ (List.set_set ..) hst)
theorem go_appCDF {id : Nat} {ops : Array Oper} {sp : List Sp} {o : Option Nat} (anc : List (List Nat)) (n : Nat) (src : List Nat) (i1 i2 e : Nat) (kl : List Nat) (e' : Nat) {S E T1 T T2 T3 : TypeId} {s u d sx q bytes : Nat} {ps1 ps2 : String} {af1 af2 : Array Edge} {D D' : List TypeId} {l xs : List As} {A2 : VA} {it : TypeInfo} {z : Value}
    (hmx : P.follows .mixedOrders = true) (hnd : noDefer ops = true) (hQ0 : ¬ LetsOut Q) (h : St B w0 N Γ Λ a w) (hob : Obs P Q ⟨ops, N, Γ, lesS Λ e (n + 1) (OwnC E q D (l ++ xs)), sp, fun i => anc.getD i []⟩ B w0 0 n) (hsz : ops.size = n + 2) (hanc : Rg.ancOk ⟨ops, N, Γ, lesS Λ e (n + 1) (OwnC E q D (l ++ xs)), sp, fun i => anc.getD i []⟩ = true) (hall : ∀ i, n ≤ i → i < n + 2 → ∀ j, j < i → (anc.getD i []).contains j = true) (hk : Rg.chk ⟨ops, N, Γ, lesS Λ e (n + 1) (OwnC E q D (l ++ xs)), sp, fun i => anc.getD i []⟩ = true)
    (ho1 : ops[n]? = some ⟨some d, .call ⟨.builtin .append, #[.tmp s, .tmp u], #[S, S]⟩, T1, ps1, af1, none⟩) (ho2 : ops[n + 1]? = some ⟨none, .store T2 (.tmp sx) (.tmp d), T3, ps2, af2, none⟩)
    (hi1 : i1 < n) (h1 : sp[i1]? = some (.val s (OwnC E q D l).va)) (hi2 : i2 < n) (h2 : sp[i2]? = some (.val u A2)) (hA2 : ∀ w u, A2.p B u w → Kept w0 w → (SlA E D' xs).va.p B u w)
    (hl : (kl.filterMap fun k => Λ[k]?)[e']? = some ⟨sx, T, ptrH, OwnC E q D l⟩) (hTE : (T != E) = true) (hTD : (E :: D).contains T = false) (hrm : RowMay w0 B E) (hty : Ty P T2 1 false)
    (hS : P.underlying S = some (.slice E)) (hi : P.info? E = some it) (hz : it.zero = some z) (hsz1 : it.size = q) (hby : it.bytes = bytes) (hzs : z.cells.size = q) (hm0 : 0 < q) (hll : l.length + xs.length ≤ 100000000000) (hb6 : bytes ≤ 1000)
    (hD' : ∀ T ∈ D', T ∈ D) (hED : E ∉ D) (hxm : ∀ x ∈ xs, x.n = q) (hd : d < N)
    (hsrc : src.all (fun k => match Γ[k]? with | some y => !y.2.deps.contains E && !y.2.deps.contains T && Rg.outG ⟨ops, N, Γ, lesS Λ e (n + 1) (OwnC E q D (l ++ xs)), sp, fun i => anc.getD i []⟩ y.1 | none => false) = true)
    (hΛ : (kl.filterMap fun k => Λ[k]?).zipIdx.all (fun x => x.1.s != d && (x.2 == e' || (x.1.s != sx && !x.1.A.deps.contains T && (x.1.T != E && !x.1.A.deps.contains E)))) = true)
    (hQ : ∀ a w, St B w0 N (src.filterMap (fun k => Γ[k]?)) ((kl.filterMap fun k => Λ[k]?).set e' ⟨sx, T, ptrH, OwnC E q D (l ++ xs)⟩) a w → Q .normal a w) :
    (Code.region id ops true).wpIn (fw o) 0 P Q a w := by
  refine Rg.drawKF (R := ⟨ops, N, Γ, lesS Λ e (n + 1) (OwnC E q D (l ++ xs)), sp, fun i => anc.getD i []⟩) (m := 2) hnd hQ0 hsz (by decide) hmx hanc hk h (fun y hy _ => (lesS_of y hy).2.1) (fun i hi => hob.all i (by omega) (by omega)) (fun i h1 h2 j hj => hall i h1 h2 j hj) fun a1 w1 hinv => ?_
  rw [show List.range' n 2 = [n, n + 1] from rfl, wpOpsIn_cons]
  refine wpOpIn_of hnd hQ0 (op_append (R := ⟨ops, N, Γ, lesS Λ e (n + 1) (OwnC E q D (l ++ xs)), sp, fun i => anc.getD i []⟩) (m := 2) (e := e) (e' := e') (Λ' := kl.filterMap fun k => Λ[k]?) src hsz (by decide) rfl ho1 hi1 h1 hi2 h2 hA2 (fun l hl => by obtain ⟨k, _, hk⟩ := List.mem_filterMap.1 hl; exact List.mem_of_getElem? hk) hl hTE hrm hS hi hz hsz1 hby hzs hm0 hll hb6 hD' hED hxm hd (List.all_eq_true.2 fun k hk => ?_) (List.all_eq_true.2 fun x hx => ?_) hinv _ fun a2 w2 hst => ?_)
  · have := List.all_eq_true.1 hsrc k hk
    cases hg : Γ[k]? with
    | none => rw [hg] at this; cases this
    | some y =>
      rw [hg] at this
      simp only [Bool.and_eq_true] at this ⊢
      exact ⟨this.1.1, this.2⟩
  · have := List.all_eq_true.1 hΛ x hx
    simp only [Bool.and_eq_true, Bool.or_eq_true] at this ⊢
    exact ⟨this.1, this.2.imp (fun h => h) fun h => h.2⟩
  · rw [wpOpsIn_cons]
    have hlen := (List.getElem?_eq_some_iff.1 hl).1
    refine wpOpIn_of hnd hQ0 (op_store (kd := 0) (e := e') (sx := sx) (d := d) (T := T) (A0 := OneC) (A := OwnC E q D (l ++ xs)) ((List.range (src.filterMap fun k => Γ[k]?).length).map (· + 1)) ho2 hst rfl (List.getElem?_set_self hlen) hty rfl hTD (List.all_eq_true.2 fun k hk => ?_) (List.all_eq_true.2 fun x hx => ?_) _ fun w3 hst => ?_)
    · obtain ⟨j, hj, rfl⟩ := List.mem_map.1 hk
      have hj' : j < (src.filterMap fun k => Γ[k]?).length := by simpa using hj
      rw [List.getElem?_cons_succ, List.getElem?_eq_getElem hj']
      obtain ⟨k, hk1, hk2⟩ := List.mem_filterMap.1 (List.getElem_mem hj')
      have := List.all_eq_true.1 hsrc k hk1
      rw [hk2] at this
      simp only [Bool.and_eq_true] at this
      exact this.1.2
    · obtain ⟨m, j⟩ := x
      have hj := List.mem_zipIdx_iff_getElem?.1 hx
      by_cases e1 : j = e'
      · simp [e1]
      · simp only at hj
        rw [List.getElem?_set_ne (fun e2 => e1 e2.symm)] at hj
        have := List.all_eq_true.1 hΛ (m, j) (List.mem_zipIdx_iff_getElem?.2 hj)
        simp only [Bool.and_eq_true, Bool.or_eq_true] at this ⊢
        exact this.2.imp (fun h => h) fun h => h.1
    · refine hQ _ _ ?_
      exact St.castΓ (shift_self (d, (OwnC E q D (l ++ xs)).va) (src.filterMap fun k => Γ[k]?)) (St.castΛ (List.set_set ..) hst)
end

/-! ends of rounds, of iterators -/
def EqIx (Γ : List (Nat × VA)) (a : Act) : List Lc → List Nat → Prop
  | [], [] => True
  | l :: ls, i :: ix => Γ[i]? = some (l.s, EqV (a.eval (.tmp l.s))) ∧ EqIx Γ a ls ix
  | _, _ => False
theorem rend_of {B N : Nat} {w1 : Bs} {a a' : Act} {Γ : List (Nat × VA)} {Λ : List Lc} {W : World} (ix : List Nat) (h : St B w1 N Γ Λ a' W) (he : EqIx Γ a Λ ix) : REnd B N w1 a Λ a' W := by
  refine ⟨Γ, h, ?_⟩
  have key : ∀ (L : List Lc) (ix : List Nat), EqIx Γ a L ix → ∀ l ∈ L, a'.eval (.tmp l.s) = a.eval (.tmp l.s) := by
    intro L
    induction L with
    | nil => intro _ _ l hl; cases hl
    | cons m L ih =>
      intro ix hx l hl
      cases ix with
      | nil => exact hx.elim
      | cons i ix =>
        obtain ⟨h1, h2⟩ := hx
        rcases List.mem_cons.1 hl with rfl | hl
        · exact h.vals _ (List.mem_of_getElem? h1)
        · exact ih ix h2 l hl
  exact key Λ ix he
theorem ct_of {B N : Nat} {w0 : Bs} {a : Act} {Γ : List (Nat × VA)} {Λ : List Lc} {w : World} {Tc : List TypeId} {gs : List Nat} {ix : List (Nat × Nat)} (h : St B w0 N Γ Λ a w) (hix : CapIx Γ Λ gs 0 Tc ix) (hgl : gs.length = Tc.length) : CellsT Tc gs w := fun g hg => by
  have key : ∀ {i : Nat} {cs : List TypeId} {ix : List (Nat × Nat)}, CapIx Γ Λ gs i cs ix → ∀ j, j < cs.length → a.eval (.tmp (i + j + 1)) = ptr (gs.getD (i + j) 0) ∧ ∃ c A, (⟨i + j + 1, c, ptrH, A⟩ : Lc) ∈ Λ ∧ c ∈ cs := by
    intro i cs ix
    induction cs generalizing i ix with
    | nil => intro _ j hj; cases hj
    | cons c cs ih =>
      intro h1 j hj
      cases ix with
      | nil => exact h1.elim
      | cons p ix'' =>
        obtain ⟨x, y⟩ := p
        obtain ⟨e1, ⟨A, e2⟩, e3⟩ := h1
        cases j with
        | zero => exact ⟨h.vals _ (List.mem_of_getElem? e1), c, A, List.mem_of_getElem? e2, by simp⟩
        | succ j =>
          obtain ⟨q1, c', A', q2, q3⟩ := ih e3 j (by simpa using hj)
          rw [show i + 1 + j = i + (j + 1) by omega] at q1 q2
          exact ⟨q1, c', A', q2, by simp [q3]⟩
  obtain ⟨j, hj⟩ := List.getElem?_of_mem hg
  have hjl := (List.getElem?_eq_some_iff.1 hj).1
  obtain ⟨e1, c', A', e2, e3⟩ := key hix j (by omega)
  obtain ⟨g2, cs, f1, _, f3, _⟩ := h.locs _ e2
  have f1' : a.eval (.tmp (0 + j + 1)) = ptr g2 := f1
  rw [e1] at f1'
  have h0 : gs.getD (0 + j) 0 = g := by simp [List.getD, hj]
  rw [h0] at f1'
  have : g = g2 := by
    injection f1' with f1'
    injection f1' with f1'
    injection f1' with f1'
  subst this
  exact ⟨_, _, _, f3, e3⟩
theorem it_done {P : Program} {fn : Func} {B N l M : Nat} {w0 : Bs} {a : Act} {Γ : List (Nat × VA)} {Λ : List Lc} {w : World} {Db Tc : List TypeId} {gs : List Nat} {ix : List (Nat × Nat)} {Y : Nat → List VA} {inf : Bool} {J : Nat → World → Prop} {Jx : World → Prop} (hr : fn.results = #[]) (h : St B w0 N Γ Λ a w) (hix : CapIx Γ Λ gs 0 Tc ix) (hgl : gs.length = Tc.length)
    (hI : ItH P l B Db Tc gs Y inf M J Jx) (hG : ItG B gs Tc J M w0) : bPost P fn (fun e W' => ∃ v, e = .returned v ∧ (J M W' ∨ Jx W')) .ret a w := by
  refine bPost_of h fun w' h' => ⟨_, results_none hr _ _ _, _, rfl, .inl (hI.st M _ _ hG.j ?_ (ct_of h' hix hgl))⟩
  have := h'.base
  rw [hG.eq] at this
  exact this
theorem it_stop {P : Program} {fn : Func} {B N l M : Nat} {w0 : Bs} {a : Act} {Γ : List (Nat × VA)} {Λ : List Lc} {w : World} {Db Tc : List TypeId} {gs : List Nat} {Y : Nat → List VA} {inf : Bool} {J : Nat → World → Prop} {Jx : World → Prop} (hr : fn.results = #[]) (h : St B w0 N Γ Λ a w) (hw : w0 = itB gs w)
    (hI : ItH P l B Db Tc gs Y inf M J Jx) (hx : Jx w) : bPost P fn (fun e W' => ∃ v, e = .returned v ∧ (J M W' ∨ Jx W')) .ret a w := by
  have hd : a.defers = [] := h.defers.none (by rw [hw]; rfl)
  refine ⟨[], hd, .nil, (fun _ h => by cases h), fun w' hs => ⟨_, results_none hr _ _ _, _, rfl, .inr ?_⟩⟩
  have hb : ∀ k, w'.heap[k]? = w.heap[k]? := fun k => hs.block k (by simp)
  refine hI.stx w w' hx ⟨hs.os, hs.tape, hs.output, by rw [hs.size]; exact Nat.le_refl _, fun k _ _ => hb k⟩ fun g hg => ?_
  obtain ⟨c, T, fz, h1, h2⟩ := hI.ctx w hx g hg
  exact ⟨c, T, fz, (hb g).trans h1, h2⟩

/-! ### new variables, each with what it holds from the start -/
section
open Rg
variable {P : Program} {Q : Exit → Act → World → Prop} {B N : Nat} {w0 : Bs} {Γ : List (Nat × VA)} {Λ : List Lc} {a : Act} {w : World}
theorem op_new {ops : Array Oper} {o : Option Nat} {i d x : Nat} {T ty T1 T2 : TypeId} {A0 A : As} {ps1 ps2 : String} {af1 af2 : Array Edge} {rest : List Nat} (kx : Nat) (src : List Nat)
    (ho1 : ops[i]? = some ⟨some d, .alloc T, T1, ps1, af1, none⟩) (ho2 : ops[i + 1]? = some ⟨none, .store ty (.tmp d) (.tmp x), T2, ps2, af2, none⟩) (hnd : noDefer ops = true) (hQ0 : ¬ LetsOut Q)
    (h : St B w0 N Γ Λ a w) (hz : Zero P T A0) (hx : Γ[kx]? = some (x, A.va)) (ht : Ty P ty A.n A.ag) (hn : A0.n = A.n) (hd : d < N) (hdx : (d != x) = true)
    (hsrc : src.all (fun k => match Γ[k]? with | some y => y.1 != d | none => false) = true) (hΛ : Λ.all (fun l => l.s != d) = true)
    (hK : ∀ a' w', St B w0 N (src.filterMap fun k => Γ[k]?) (Λ ++ [⟨d, T, ptrH, A⟩]) a' w' → wpOpsIn (fw o) 0 P ops Q rest a' w') : wpOpsIn (fw o) 0 P ops Q (i :: (i + 1) :: rest) a w := by
  obtain ⟨it, z, z1, z2, z3⟩ := hz
  obtain ⟨cs, hp, hv⟩ := h.vals _ (List.mem_of_getElem? hx)
  have hv' : a.eval (.tmp x) = shape A.ag cs := hv
  have l1 := A.len _ _ _ hp
  have l0 := A0.len _ _ _ (z3 B w)
  have hds : d < a.tmps.size := by rw [h.size]; exact hd
  have hdx' : x ≠ d := fun e => by subst e; simp at hdx
  have hΛ' : ∀ l ∈ Λ, l.s ≠ d := fun l hl => by
    have := List.all_eq_true.1 hΛ l hl
    simpa using this
  obtain ⟨W1, hW1⟩ : ∃ W1, w.alloc (.cells z.cells T) = W1 := ⟨_, rfl⟩
  have hg1 : Grow w W1 := by rw [← hW1]; exact Grow.alloc _ _
  have hnew : W1.heap[w.heap.size]? = some (.cells z.cells T (0, 0)) := by rw [← hW1]; exact heap_alloc_new w _
  rw [wpOpsIn_cons]
  refine wpOpIn_of hnd hQ0 (wpOp_of (R := ⟨ops, N, Γ, [], [], fun _ => []⟩) ho1 rfl (wp_value (w' := W1) (v := ptr w.heap.size) ?_ ?_))
  · rw [← hW1]; simp [execOp, Instr.alloc, zeroValue, typeInfo, z1, z2, newVar, newRow, ptr]
  obtain ⟨a1, ha1⟩ : ∃ a1, a.put (some d) (ptr w.heap.size) = a1 := ⟨_, rfl⟩
  have ed : a1.eval (.tmp d) = ptr w.heap.size := by rw [← ha1]; exact eval_put_same _ _ _ hds
  have eo : ∀ t, t ≠ d → a1.eval (.tmp t) = a.eval (.tmp t) := fun t ht => by rw [← ha1]; exact eval_put_other _ _ _ _ ht
  have ef : a1.defers = a.defers := by rw [← ha1]; rfl
  have es : a1.tmps.size = N := by rw [← ha1, size_put]; exact h.size
  rw [ha1]
  have l2 : z.cells.size = A0.n := by simpa using l0
  have hrun := run_storeVar ht W1 w.heap.size 0 T z.cells _ cs (A.cells_shape hp) l1 (by omega) (A.one _ _ _ hp) hnew
  rw [List.drop_of_length_le (by simp; omega)] at hrun
  simp only [List.take_zero, List.nil_append, List.append_nil] at hrun
  have hW := Wr.setRow W1 w.heap.size cs.toArray
  have hcell : (W1.setRow w.heap.size cs.toArray).heap[w.heap.size]? = some (.cells cs.toArray T (0, 0)) := setRow_heap W1 _ _ _ _ _ hnew
  have hgr : Grow w (W1.setRow w.heap.size cs.toArray) := Kept.grow0 ((hg1.kept).wr hW (.inl (Nat.le_refl _)))
  rw [wpOpsIn_cons]
  refine wpOpIn_of hnd hQ0 ?_
  have hst : wpOpsIn (fw o) 0 P ops Q rest a1 (W1.setRow w.heap.size cs.toArray) := by
    refine hK _ _ ⟨h.lo, ?_, es, h.base.grow hgr, fun y hy => ?_, fun m hm => ?_, fun m hm m' hm' hne => ?_⟩
    · exact h.defers.grow hgr ef
    · obtain ⟨k, hk1, hk2⟩ := List.mem_filterMap.1 hy
      have := List.all_eq_true.1 hsrc k hk1
      rw [hk2] at this
      rw [eo _ (by simpa using this)]
      exact y.2.grow _ _ _ _ hgr (h.vals y (List.mem_of_getElem? hk2))
    · rcases List.mem_append.1 hm with hm | hm
      · obtain ⟨g, c, q1, q2, q3, q4⟩ := h.locs m hm
        exact ⟨g, c, by rw [eo _ (hΛ' m hm)]; exact q1, q2, hgr.heap q3, m.A.grow _ _ _ _ hgr q4⟩
      · obtain rfl := List.mem_singleton.1 hm
        exact ⟨w.heap.size, cs, ed, .inl h.base.size, hcell, A.grow _ _ _ _ hgr hp⟩
    · have hnm : ∀ m ∈ Λ, ∃ g, blk (a1.eval (.tmp m.s)) = some g ∧ g < w.heap.size := fun m hm => by
        obtain ⟨g, c, q1, q2, q3, q4⟩ := h.locs m hm
        exact ⟨g, by rw [eo _ (hΛ' m hm), q1]; exact m.H.ok g, (Array.getElem?_eq_some_iff.1 q3).1⟩
      have hd0 : blk (a1.eval (.tmp d)) = some w.heap.size := by rw [ed]; rfl
      rcases List.mem_append.1 hm with hm | hm <;> rcases List.mem_append.1 hm' with hm' | hm'
      · rw [eo _ (hΛ' m hm), eo _ (hΛ' m' hm')]
        exact h.dis m hm m' hm' hne
      · obtain rfl := List.mem_singleton.1 hm'
        obtain ⟨g, q1, q2⟩ := hnm m hm
        rw [q1, hd0]
        intro e
        injection e with e
        omega
      · obtain rfl := List.mem_singleton.1 hm
        obtain ⟨g, q1, q2⟩ := hnm m' hm'
        rw [q1, hd0]
        intro e
        injection e with e
        omega
      · obtain rfl := List.mem_singleton.1 hm
        obtain rfl := List.mem_singleton.1 hm'
        exact absurd rfl hne
  unfold wpOp
  rw [ho2]
  have hwant : Region.wanted (⟨none, .store ty (.tmp d) (.tmp x), T2, ps2, af2, none⟩ : Oper) (yielded ops a1.tmps) = true := rfl
  simp only [hwant, if_true]
  refine .inl (wp_skip' (w' := W1.setRow w.heap.size cs.toArray) ?_ hst)
  have e2 : a1.eval (.tmp x) = shape A.ag cs := by rw [eo _ hdx']; exact hv'
  have e1 : a1.eval (.tmp d) = .pointer (some ⟨w.heap.size, 0, none⟩) := ed
  simp [execOp, e1, e2, Instr.storeAt, Instr.sureAddr, hrun]
theorem go_newF1 {id : Nat} {ops : Array Oper} {o : Option Nat} {d x : Nat} {T ty T1 T2 : TypeId} {A0 A : As} {ps1 ps2 : String} {af1 af2 : Array Edge} (kx : Nat) (src : List Nat) (h : St B w0 N Γ Λ a w) (hsz : ops.size = 2)
    (ho1 : ops[0]? = some ⟨some d, .alloc T, T1, ps1, af1, none⟩) (ho2 : ops[0 + 1]? = some ⟨none, .store ty (.tmp d) (.tmp x), T2, ps2, af2, none⟩) (hnd : noDefer ops = true) (hQ0 : ¬ LetsOut Q)
    (hz : Zero P T A0) (hx : Γ[kx]? = some (x, A.va)) (ht : Ty P ty A.n A.ag) (hn : A0.n = A.n) (hd : d < N) (hdx : (d != x) = true)
    (hsrc : src.all (fun k => match Γ[k]? with | some y => y.1 != d | none => false) = true) (hΛ : Λ.all (fun l => l.s != d) = true)
    (hQ : ∀ a' w', St B w0 N (src.filterMap fun k => Γ[k]?) (Λ ++ [⟨d, T, ptrH, A⟩]) a' w' → Q .normal a' w') : (Code.region id ops false).wpIn (fw o) 0 P Q a w := by
  refine wpIn_region ?_
  rw [hsz]
  exact op_new kx src ho1 ho2 hnd hQ0 h hz hx ht hn hd hdx hsrc hΛ fun a' w' hst => hQ _ _ hst
end

end Go.Proofs.YtgjolcbehcjhcaaGreat
