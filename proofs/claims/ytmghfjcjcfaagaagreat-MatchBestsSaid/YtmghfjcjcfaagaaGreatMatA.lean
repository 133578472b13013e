/- A function value with two variables of its own, which it writes: what it is, what a call does to it and to all else. -/
import Derived.Test.YtmghfjcjcfaagaaGreatLeafX
namespace Go.Proofs.YtmghfjcjcfaagaaGreat
open Go Go.RowKit
namespace MatA

end MatA
open MatA
def cutQ (w w' : World) : World := { w' with heap := w'.heap.extract 0 w.heap.size }
theorem cutQ_at {w w' : World} {k : Nat} (hk : k < w.heap.size) : (cutQ w w').heap[k]? = w'.heap[k]? := by
  show (w'.heap.extract 0 w.heap.size)[k]? = _
  rw [Array.getElem?_extract]
  simp
  omega
theorem cutQ_size {w w' : World} (hs : w.heap.size ≤ w'.heap.size) : (cutQ w w').heap.size = w.heap.size := by
  show (w'.heap.extract 0 w.heap.size).size = _
  simp
  omega
section
variable {w w' : World} {g1 g2 : Nat} {c1 c2 c1' : Array Value} {T1 T2 : TypeId}
theorem two_steps (hK : Kept ⟨w, fun k => k = g1 ∨ k = g2, false⟩ w') (h1 : w.heap[g1]? = some (.cells c1 T1 (0, 0))) (h3 : w'.heap[g1]? = some (.cells c1' T1 (0, 0))) :
    Wr g1 w (w.setRow g1 c1') ∧ Wr g2 (w.setRow g1 c1') (cutQ w w') ∧ Grow (cutQ w w') w' := by
  have hs : w.heap.size ≤ w'.heap.size := hK.size
  have hss := (Wr.setRow w g1 c1').size
  refine ⟨Wr.setRow _ _ _, ⟨hK.os, hK.tape, hK.output, by rw [cutQ_size hs, hss], fun k hk => ?_⟩, ⟨rfl, rfl, rfl, by rw [cutQ_size hs]; exact hs, fun k hk => ?_⟩⟩
  · by_cases hlt : k < w.heap.size
    · rw [cutQ_at hlt]
      by_cases e : k = g1
      · subst e
        rw [h3, setRow_heap w k _ _ _ _ h1]
      · rw [(Wr.setRow w g1 c1').block k e]
        exact hK.block k hlt (fun h => h.elim e hk)
    · rw [Array.getElem?_eq_none (by rw [cutQ_size hs]; omega), Array.getElem?_eq_none (by rw [hss]; omega)]
  · rw [cutQ_size hs] at hk
    rw [cutQ_at hk]
theorem VA.kept2 {A : VA} {B : Nat} {v : Value} (hp : A.p B v w) (hK : Kept ⟨w, fun k => k = g1 ∨ k = g2, false⟩ w') (h1 : w.heap[g1]? = some (.cells c1 T1 (0, 0))) (h2 : w.heap[g2]? = some (.cells c2 T2 (0, 0))) (hne : g1 ≠ g2)
    (h3 : w'.heap[g1]? = some (.cells c1' T1 (0, 0))) (hb1 : B ≤ g1) (hb2 : B ≤ g2) (n1 : T1 ∉ A.deps) (n2 : T2 ∉ A.deps) : A.p B v w' := by
  obtain ⟨s1, s2, s3⟩ := two_steps hK h1 h3
  have h2' : (w.setRow g1 c1').heap[g2]? = some (.cells c2 T2 (0, 0)) := by rw [s1.block g2 (fun e => hne e.symm)]; exact h2
  exact A.grow _ _ _ _ s3 (A.wr _ _ _ _ _ _ _ _ h2' n2 hb2 s2 (A.wr _ _ _ _ _ _ _ _ h1 n1 hb1 s1 hp))
theorem As.kept2 {A : As} {B : Nat} {v : List Value} (hp : A.p B v w) (hK : Kept ⟨w, fun k => k = g1 ∨ k = g2, false⟩ w') (h1 : w.heap[g1]? = some (.cells c1 T1 (0, 0))) (h2 : w.heap[g2]? = some (.cells c2 T2 (0, 0))) (hne : g1 ≠ g2)
    (h3 : w'.heap[g1]? = some (.cells c1' T1 (0, 0))) (hb1 : B ≤ g1) (hb2 : B ≤ g2) (n1 : T1 ∉ A.deps) (n2 : T2 ∉ A.deps) : A.p B v w' := by
  obtain ⟨s1, s2, s3⟩ := two_steps hK h1 h3
  have h2' : (w.setRow g1 c1').heap[g2]? = some (.cells c2 T2 (0, 0)) := by rw [s1.block g2 (fun e => hne e.symm)]; exact h2
  exact A.grow _ _ _ _ s3 (A.wr _ _ _ _ _ _ _ _ h2' n2 hb2 s2 (A.wr _ _ _ _ _ _ _ _ h1 n1 hb1 s1 hp))
end
/-- a contract of a function that is handed values, and two variables, which it may write. -/
def CmP (P : Program) (f : FuncId) (T1 T2 : TypeId) (A1 B1 A2 B2 : As) (pre : List VA) (post : VA) : Prop :=
  (∃ fn, P.funcs[f]? = some fn ∧ (fn.name == "runtime.NumGoroutine") = false ∧ fn.body.isNone = false) ∧
  ∀ (B : Nat) (w : World) (g1 g2 : Nat) (c1 c2 : List Value) (args : List Value), B ≤ g1 → B ≤ g2 → g1 ≠ g2 → w.heap[g1]? = some (.cells c1.toArray T1 (0, 0)) → A1.p B c1 w → w.heap[g2]? = some (.cells c2.toArray T2 (0, 0)) → A2.p B c2 w → All2 (fun (A : VA) v => A.p B v w) pre args →
    Calls P f (args ++ [ptr g1, ptr g2]).toArray w fun e w' => ∃ v c1' c2', e = .returned v ∧ post.p B v w' ∧ Kept ⟨w, fun k => k = g1 ∨ k = g2, false⟩ w' ∧ w'.heap[g1]? = some (.cells (List.toArray c1') T1 (0, 0)) ∧ B1.p B c1' w' ∧ w'.heap[g2]? = some (.cells (List.toArray c2') T2 (0, 0)) ∧ B2.p B c2' w'
def RQp2 (B : Nat) (w0 : Bs) (g1 g2 : Nat) (T1 T2 : TypeId) (B1 B2 : As) (post : VA) : Ending → World → Prop := fun e w' => ∃ v c1' c2', e = .returned v ∧ post.p B v w' ∧ Kept w0 w' ∧ w'.heap[g1]? = some (.cells (List.toArray c1') T1 (0, 0)) ∧ B1.p B c1' w' ∧ w'.heap[g2]? = some (.cells (List.toArray c2') T2 (0, 0)) ∧ B2.p B c2' w'
theorem all2_snoc {α β : Type} {R : α → β → Prop} {l : List α} {m : List β} {x1 x2 : α} {y1 y2 : β} (h : All2 R l m) (h1 : R x1 y1) (h2 : R x2 y2) : All2 R (l ++ [x1, x2]) (m ++ [y1, y2]) := by
  induction h with
  | nil => exact .cons h1 (.cons h2 .nil)
  | cons h3 _ ih => exact .cons h3 ih
theorem argG_at {l : List VA} {k : Nat} {A : VA} (h : l[k]? = some A) : (k, A) ∈ argΓ l := by
  unfold argΓ
  exact List.mem_map.2 ⟨(A, k), List.mem_zipIdx_iff_getElem?.2 h, rfl⟩
theorem CmP.intro {P : Program} {f : FuncId} {fn : Func} {c : Code} {T1 T2 : TypeId} {A1 B1 A2 B2 : As} {pre : List VA} {post : VA} (hf : P.funcs[f]? = some fn) (hb : fn.body = some c) (hn : (fn.name == "runtime.NumGoroutine") = false) (hsz : pre.length + 2 ≤ fn.ntmps)
    (h : ∀ (B g1 g2 : Nat) (w0 : Bs) (a : Act), St B w0 fn.ntmps (argΓ (pre ++ [EqV (ptr g1), EqV (ptr g2)])) [⟨pre.length, T1, ptrH, A1⟩, ⟨pre.length + 1, T2, ptrH, A2⟩] a w0.w → c.wp P (bPost P fn (RQp2 B w0 g1 g2 T1 T2 B1 B2 post)) a w0.w) : CmP P f T1 T2 A1 B1 A2 B2 pre post := by
  refine ⟨⟨fn, hf, hn, by rw [hb]; rfl⟩, fun B w g1 g2 c1 c2 args hB1 hB2 hne hg1 hp1 hg2 hp2 ha => (calls_of_b hf hb (h B g1 g2 ⟨w, fun k => k = g1 ∨ k = g2, false⟩ _ ?_)).mono fun _ w' ⟨v, c1', c2', he, hv, hk, h1, h2, h3, h4⟩ => ⟨v, c1', c2', he, hv, hk, h1, h2, h3, h4⟩⟩
  have hl := ha.length
  have hgw := (Array.getElem?_eq_some_iff.1 hg1).1
  have ha' : All2 (fun (A : VA) v => A.p B v w) (pre ++ [EqV (ptr g1), EqV (ptr g2)]) (args ++ [ptr g1, ptr g2]) := all2_snoc ha rfl rfl
  have hargs := All2.args (N := fn.ntmps - (args ++ [ptr g1, ptr g2]).toArray.size) ha'
  have e0 := hargs (pre.length, EqV (ptr g1)) (argG_at (by simp))
  have e1 := hargs (pre.length + 1, EqV (ptr g2)) (argG_at (by rw [List.getElem?_append_right (by omega)]; simp))
  refine ⟨fun k hk => ?_, DefOk.nil rfl, ?_, Kept.refl _, hargs, fun l hl => ?_, fun l hl m hm hne2 => ?_⟩
  · rcases hk with hk | hk | hk
    · exact Nat.le_trans hB1 (Nat.le_trans (Nat.le_of_lt hgw) hk)
    · have : k = g1 := hk
      omega
    · have : k = g2 := hk
      omega
  · simp only [Array.size_append, List.size_toArray, Array.size_replicate, List.length_append, List.length_cons, List.length_nil]
    omega
  · simp at hl
    rcases hl with rfl | rfl
    · exact ⟨g1, c1, e0, .inr (.inl rfl), hg1, hp1⟩
    · exact ⟨g2, c2, e1, .inr (.inr rfl), hg2, hp2⟩
  · simp only [List.mem_cons, List.not_mem_nil, or_false] at hl hm
    rcases hl with rfl | rfl <;> rcases hm with rfl | rfl
    · exact absurd rfl hne2
    · rw [show _ = ptr g1 from e0, show _ = ptr g2 from e1]
      exact fun e => hne (by injection e)
    · rw [show _ = ptr g1 from e0, show _ = ptr g2 from e1]
      exact fun e => hne (by injection e with e; exact e.symm)
    · exact absurd rfl hne2
theorem ret_p2 {P : Program} {fn : Func} {B N g1 g2 p1 p2 : Nat} {w0 : Bs} {Γ : List (Nat × VA)} {Λ : List Lc} {a : Act} {w : World} {T1 T2 : TypeId} {B1 B2 : As} {post : VA} (h : St B w0 N Γ Λ a w) (hm1 : (p1, EqV (ptr g1)) ∈ Γ) (hm2 : (p2, EqV (ptr g2)) ∈ Γ)
    (hl1 : (⟨p1, T1, ptrH, B1⟩ : Lc) ∈ Λ) (hl2 : (⟨p2, T2, ptrH, B2⟩ : Lc) ∈ Λ) (hb : bPost P fn (RQ B w0 post) .ret a w) : bPost P fn (RQp2 B w0 g1 g2 T1 T2 B1 B2 post) .ret a w := by
  refine bPost_map h hb fun v w h ⟨v', e1, e2, e3⟩ => ?_
  obtain ⟨g, cs, f1, _, f3, f4⟩ := h.locs _ hl1
  replace f1 : a.eval (.tmp p1) = ptr g := f1
  have f0 : a.eval (.tmp p1) = ptr g1 := h.vals _ hm1
  have : g = g1 := Rg.Hd.inj (H := ptrH) (H' := ptrH) (show blk (ptr g) = blk (ptr g1) by rw [← show _ = ptr g from f1, ← f0])
  subst this
  obtain ⟨g', ds, q1, _, q3, q4⟩ := h.locs _ hl2
  replace q1 : a.eval (.tmp p2) = ptr g' := q1
  have q0 : a.eval (.tmp p2) = ptr g2 := h.vals _ hm2
  have : g' = g2 := Rg.Hd.inj (H := ptrH) (H' := ptrH) (show blk (ptr g') = blk (ptr g2) by rw [← show _ = ptr g' from q1, ← q0])
  subst this
  exact ⟨v', cs, ds, e1, e2, e3, f3, f4, q3, q4⟩
/-- a function value of function f, with two variables of its own. -/
def ClS (f : FuncId) (T1 T2 : TypeId) (A1 A2 : As) : VA where
  p B v w := ∃ g1 g2 c1 c2, v = .func (.func f) #[] #[ptr g1, ptr g2] ∧ g1 ≠ g2 ∧ B ≤ g1 ∧ B ≤ g2 ∧ w.heap[g1]? = some (.cells (List.toArray c1) T1 (0, 0)) ∧ A1.p B c1 w ∧ w.heap[g2]? = some (.cells (List.toArray c2) T2 (0, 0)) ∧ A2.p B c2 w
  deps := T1 :: T2 :: (A1.deps ++ A2.deps)
  cg := by
    rintro B v w w' hg ⟨g1, g2, c1, c2, e0, h1, h2, h3, h4, h5, h6, h7⟩
    exact ⟨g1, g2, c1, c2, e0, h1, h2, h3, hg.heap h4, A1.cg _ _ _ _ hg h5, hg.heap h6, A2.cg _ _ _ _ hg h7⟩
  wr := by
    rintro B v w w' g c T fz hgc hT hB hW ⟨g1, g2, c1, c2, e0, h1, h2, h3, h4, h5, h6, h7⟩
    simp only [List.mem_cons, List.mem_append, not_or] at hT
    have n1 : g1 ≠ g := by
      rintro rfl
      rw [hgc] at h4
      injection h4 with h4
      injection h4 with _ h4 _
      exact hT.1 h4
    have n2 : g2 ≠ g := by
      rintro rfl
      rw [hgc] at h6
      injection h6 with h6
      injection h6 with _ h6 _
      exact hT.2.1 h6
    exact ⟨g1, g2, c1, c2, e0, h1, h2, h3, by rw [hW.block g1 n1]; exact h4, A1.wr _ _ _ _ _ _ _ _ hgc hT.2.2.1 hB hW h5, by rw [hW.block g2 n2]; exact h6, A2.wr _ _ _ _ _ _ _ _ hgc hT.2.2.2 hB hW h7⟩
theorem free_cls {f : FuncId} {T1 T2 : TypeId} {A1 A2 : As} (h1 : FreeA A1 A1) (h2 : FreeA A2 A2) : Free (ClS f T1 T2 A1 A2) (ClS f T1 T2 A1 A2) := fun _ _ _ _ hB ⟨g1, g2, c1, c2, e0, k1, k2, k3, k4, k5, k6, k7⟩ =>
  ⟨g1, g2, c1, c2, e0, k1, Nat.le_trans hB k2, Nat.le_trans hB k3, k4, h1.2.2 _ _ _ _ hB k5, k6, h2.2.2 _ _ _ _ hB k7⟩
def VT0 : VA := ⟨fun _ _ _ => True, [], fun _ _ _ _ _ _ => trivial, fun _ _ _ _ _ _ _ _ _ _ _ _ _ => trivial⟩
def lesZ (Λ : List Lc) : List Le := Λ.map fun l => ⟨l.s, l.T, l.H, none, l.A, none⟩
section
variable {P : Program} {R : Rg} {Q : Exit → Act → World → Prop} {B i : Nat} {w0 : Bs}
theorem r_mkcls {f : FuncId} {T1 T2 : TypeId} {A1 A2 : As} {s1 s2 : Nat} (h1 : Loc R i s1 T1 A1) (h2 : Loc R i s2 T2 A2) (hT : T1 ≠ T2) : Wv P Q R B w0 i (.makeFunc (.func f) #[] #[.tmp s1, .tmp s2]) (ClS f T1 T2 A1 A2) :=
  wv_run fun _ _ _ _ _ a w av => by
    obtain ⟨g1, c1, e1, m1, h3, h4⟩ := h1.ok av
    obtain ⟨g2, c2, e2, m2, h5, h6⟩ := h2.ok av
    refine ⟨.func (.func f) #[] (#[Operand.tmp s1, .tmp s2].map a.eval), w, by simp [execOp, Instr.makeFunc], Grow.refl w, g1, g2, c1, c2, ?_, ?_, av.lo _ m1, av.lo _ m2, h3, h4, h5, h6⟩
    · have e1' : a.eval (.tmp s1) = ptr g1 := e1
      have e2' : a.eval (.tmp s2) = ptr g2 := e2
      simp [e1', e2']
    · rintro rfl
      rw [h3] at h5
      injection h5 with h5
      injection h5 with _ h5 _
      exact hT h5
end
section
variable {P : Program} {R : Rg} {Q : Exit → Act → World → Prop} {B : Nat} {w0 : Bs} {a : Act} {w : World}
open Rg in
/-- a region whose order is given, its last operation shown apart. -/
theorem Rg.lin1 {id : Nat} {Λ : List Lc} {n : Nat} (hsz : R.ops.size = n + 1) (hanc : R.anc = fun i => List.range i) (hk : R.chk = true) (h : St B w0 R.N R.Γ Λ a w) (hles : ∀ e ∈ R.les, e.cr = none → (⟨e.s, e.T, e.H, e.A0⟩ : Lc) ∈ Λ)
    (hob : ∀ i, i < n → R.Ob P Q B w0 i) (hQ : ∀ a w, R.Inv B w0 (fun k => decide (k < n)) a w → wpOp P R.ops Q n (fun a w => Q .normal a w) a w) : (Code.region id R.ops false).wp P Q a w := by
  refine wp_region ?_
  have key : ∀ m k, k + m = n → ∀ a w, R.Inv B w0 (fun j => decide (j < k)) a w → wpOps P R.ops Q (List.range' k (m + 1)) a w := by
    intro m
    induction m with
    | zero =>
      intro k hkm a w hi
      have : k = n := by omega
      subst this
      rw [List.range'_succ, wpOps_cons]
      exact hQ a w hi
    | succ m ih =>
      intro k hkm a w hi
      rw [List.range'_succ, wpOps_cons]
      refine step hk (hob k (by omega)) hi ?_ (by simp) ?_ _ fun a' w' hi' => ih (k + 1) (by omega) a' w' (hi'.congr fun j => ?_)
      · intro i hi j hj
        rw [hanc] at hj
        simp at hi hj ⊢
        omega
      · intro j hj
        rw [hanc] at hj
        simpa using hj
      · unfold upd
        by_cases h1 : j = k
        · subst h1; simp
        · have h2 : (j == k) = false := by simpa using h1
          rw [h2, Bool.false_or, decide_eq_decide]
          omega
  rw [List.range_eq_range', hsz]
  exact key n 0 (by omega) a w ((start h hles).congr fun j => by simp)
end
open Rg in
theorem go_cls {P : Program} {Q : Exit → Act → World → Prop} {B N : Nat} {w0 : Bs} {Γ : List (Nat × VA)} {Λ : List Lc} {a : Act} {w : World} {id : Nat} {ops : Array Oper} {sp : List Sp} (n : Nat) (src : List Nat) (k0 i1 i2 : Nat)
    {f : FuncId} {T1 T2 : TypeId} {s c u d : Nat} {A1 B1 A2 B2 : As} {X post : VA} {at_ : Array TypeId} {ty : TypeId} {ps : String} {af : Array Edge}
    (h : St B w0 N Γ Λ a w) (hob : Obs P Q ⟨ops, N, Γ, lesZ Λ, sp, fun i => List.range i⟩ B w0 0 n) (hn : ops.size = n + 1) (hk : Rg.chk ⟨ops, N, Γ, lesZ Λ, sp, fun i => List.range i⟩ = true)
    (ho : ops[n]? = some ⟨some d, .call ⟨.value (.tmp c), #[.tmp u], at_⟩, ty, ps, af, none⟩)
    (hk0 : Γ[k0]? = some (s, ClS f T1 T2 A1 A2)) (hi1 : i1 < n) (h1 : sp[i1]? = some (.adr c s .none True)) (hi2 : i2 < n) (h2 : sp[i2]? = some (.val u X))
    (hc : CmP P f T1 T2 A1 B1 A2 B2 [X] post) (hds : d ≠ s) (hd : d < N) (hs : Rg.outG ⟨ops, N, Γ, lesZ Λ, sp, fun i => List.range i⟩ s = true)
    (hsrc : src.all (fun k => match Γ[k]? with | some y => !y.2.deps.contains T1 && !y.2.deps.contains T2 && Rg.outG ⟨ops, N, Γ, lesZ Λ, sp, fun i => List.range i⟩ y.1 | none => false) = true)
    (hΛ : Λ.all (fun l => l.T != T1 && l.T != T2 && !l.A.deps.contains T1 && !l.A.deps.contains T2 && l.s != d) = true) (hB0 : B = w0.w.heap.size)
    (hQ : ∀ a w, St B w0 N ((d, post) :: (s, ClS f T1 T2 B1 B2) :: src.filterMap (fun k => Γ[k]?)) Λ a w → Q .normal a w) : (Code.region id ops false).wp P Q a w := by
  have hles0 : ∀ y ∈ lesZ Λ, y.cr = none ∧ y.st = none ∧ (⟨y.s, y.T, y.H, y.A0⟩ : Lc) ∈ Λ := fun y hy => by
    obtain ⟨l', hl', rfl⟩ := List.mem_map.1 hy
    exact ⟨rfl, rfl, hl'⟩
  refine Rg.lin1 (R := ⟨ops, N, Γ, lesZ Λ, sp, fun i => List.range i⟩) hn rfl hk h (fun y hy _ => (hles0 y hy).2.2) (fun i hi => hob.all i (by omega) (by omega)) fun a1 w1 hinv => ?_
  have hcl : ∀ deps, Rg.clash ⟨ops, N, Γ, lesZ Λ, sp, fun i => List.range i⟩ (fun k => decide (k < n)) deps = false := fun deps => by
    unfold Rg.clash
    rw [List.any_eq_false]
    intro y hy
    rw [(hles0 y hy).2.1]
    simp
  have hout : ∀ t, Rg.outG ⟨ops, N, Γ, lesZ Λ, sp, fun i => List.range i⟩ t = true → ∀ q, q < ops.size → Rg.dst ⟨ops, N, Γ, lesZ Λ, sp, fun i => List.range i⟩ q ≠ some t := fun t ht q hq => by
    have := List.all_eq_true.1 ht q (by simpa using hq)
    simpa using this
  have hx := hinv.v i2 _ u _ h2 rfl (decide_eq_true hi2) (hcl _)
  have hcs : a1.eval (.tmp c) = a1.eval (.tmp s) := by
    have := hinv.d i1 c s .none True h1 (decide_eq_true hi1) trivial
    rw [this]
    cases a1.eval (.tmp s) <;> rfl
  obtain ⟨g1, g2, c1, c2, ev, hne, b1, b2, m1, p1, m2, p2⟩ := hinv.g (s, _) (List.mem_of_getElem? hk0) (fun q hq hdq => absurd hdq (hout s hs q hq)) (hcl _)
  obtain ⟨⟨fn, hf', hn', hb⟩, hcall⟩ := hc
  have hcall := hcall B w1 g1 g2 c1 c2 [a1.eval (.tmp u)] b1 b2 hne m1 p1 m2 p2 (.cons hx .nil)
  have ev' : a1.eval (.tmp c) = .func (.func f) #[] #[ptr g1, ptr g2] := hcs.trans ev
  have hrun : (execOp a1.eval ⟨some d, .call ⟨.value (.tmp c), #[.tmp u], at_⟩, ty, ps, af, none⟩).run P w1 = .ok (.enter f ([a1.eval (.tmp u)] ++ [ptr g1, ptr g2]).toArray) w1 := by
    simp only [execOp, resolve, ev', Deferred.ofValue, Sem.run_bind, Sem.run_pure, Result.andThen_ok, invoke, run_callFunc hf' hn' hb]
    simp
  refine wpOp_of (R := ⟨ops, N, Γ, lesZ Λ, sp, fun i => List.range i⟩) ho rfl ?_
  unfold Oper.wp
  rw [hrun]
  refine hcall.mono fun e w' ⟨v, c1', c2', he, hv, hK, q1, q2, q3, q4⟩ => ?_
  subst he
  refine hQ _ _ ?_
  have hdsz : d < a1.tmps.size := by rw [hinv.size]; exact hd
  have hoth : ∀ t, t ≠ d → (a1.put (some d) v).eval (.tmp t) = a1.eval (.tmp t) := fun t ht => eval_put_other _ _ _ _ ht
  have hlc : ∀ l' ∈ Λ, l'.T ≠ T1 ∧ l'.T ≠ T2 ∧ T1 ∉ l'.A.deps ∧ T2 ∉ l'.A.deps ∧ l'.s ≠ d := fun l' hl' => by
    have := List.all_eq_true.1 hΛ l' hl'
    simp only [Bool.and_eq_true, bne_iff_ne, Bool.not_eq_true', List.contains_eq_mem, decide_eq_false_iff_not] at this
    exact ⟨this.1.1.1.1, this.1.1.1.2, this.1.1.2, this.1.2, this.2⟩
  have hcur : ∀ l' ∈ Λ, (⟨l'.s, l'.T, l'.H, none, l'.A, none⟩ : Le) ∈ lesZ Λ := fun l' hl' => List.mem_map.2 ⟨l', hl', rfl⟩
  refine ⟨hinv.lo, hinv.defers.keep rfl fun D hD => (hK.block D (Array.getElem?_eq_some_iff.1 hD).1 (fun e => by rcases e with e | e <;> (have e' : D = _ := e; subst e'; first | (rw [m1] at hD; cases hD) | (rw [m2] at hD; cases hD)))).trans hD, by rw [size_put]; exact hinv.size, ?_, ?_, ?_, ?_⟩
  · exact ⟨hK.os.trans hinv.base.os, hK.tape.trans hinv.base.tape, hK.output.trans hinv.base.output, Nat.le_trans hinv.base.size hK.size, fun k hk hf =>
      (hK.block k (Nat.lt_of_lt_of_le hk hinv.base.size) (fun e => by rcases e with e | e <;> (have e' : k = _ := e; omega))).trans (hinv.base.block k hk hf)⟩
  · intro y hy
    rcases List.mem_cons.1 hy with rfl | hy
    · show post.p B ((a1.put (some d) v).eval (.tmp d)) w'
      rw [eval_put_same _ _ _ hdsz]
      exact hv
    · rcases List.mem_cons.1 hy with rfl | hy
      · show (ClS f T1 T2 B1 B2).p B ((a1.put (some d) v).eval (.tmp s)) w'
        rw [hoth s (fun e => hds e.symm)]
        exact ⟨g1, g2, c1', c2', ev, hne, b1, b2, q1, q2, q3, q4⟩
      · obtain ⟨k, hk1, hk2⟩ := List.mem_filterMap.1 hy
        have hs := List.all_eq_true.1 hsrc k hk1
        simp only [hk2, Bool.and_eq_true, Bool.not_eq_true', List.contains_eq_mem, decide_eq_false_iff_not] at hs
        have g1' : y.1 ≠ d := fun e1 => hout y.1 hs.2 n (by omega) (by unfold Rg.dst; rw [ho, e1]; rfl)
        rw [hoth _ g1']
        exact VA.kept2 (hinv.g y (List.mem_of_getElem? hk2) (fun q hq hdq => absurd hdq (hout y.1 hs.2 q hq)) (hcl _)) hK m1 m2 hne q1 b1 b2 hs.1.1 hs.1.2
  · intro l' hl'
    obtain ⟨t1, t2, t3, t4, t5⟩ := hlc l' hl'
    obtain ⟨g, cs, e1, e2, e3, e4⟩ := hinv.c _ (hcur l' hl') l'.A rfl
    refine ⟨g, cs, by rw [hoth _ t5]; exact e1, e2, ?_, As.kept2 e4 hK m1 m2 hne q1 b1 b2 t3 t4⟩
    rw [hK.block g (Array.getElem?_eq_some_iff.1 e3).1 (fun e5 => ?_)]
    · exact e3
    · rcases e5 with e5 | e5
      · have e5' : g = g1 := e5
        subst e5'
        rw [e3] at m1
        injection m1 with m1
        injection m1 with _ m1 _
        exact t1 m1
      · have e5' : g = g2 := e5
        subst e5'
        rw [e3] at m2
        injection m2 with m2
        injection m2 with _ m2 _
        exact t2 m2
  · intro l1 hl1 l2 hl2 hne'
    rw [hoth _ (hlc l1 hl1).2.2.2.2, hoth _ (hlc l2 hl2).2.2.2.2]
    exact hinv.x _ (hcur l1 hl1) _ (hcur l2 hl2) hne' rfl rfl

end Go.Proofs.YtmghfjcjcfaagaaGreat
