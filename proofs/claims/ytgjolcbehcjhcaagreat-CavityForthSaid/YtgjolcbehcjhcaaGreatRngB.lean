/- A range over a function: its rounds in the calculus: one rule for the caller, one contract for the iterator. -/
import Derived.Test.YtgjolcbehcjhcaaGreatRngA
namespace Go.Proofs.YtgjolcbehcjhcaaGreat
open Go Go.RowKit
namespace RngB

end RngB
open RngB
/-- into a function that ranges over functions. -/
theorem Cn.introR {P : Program} {f : FuncId} {fn : Func} {c : Code} {pre pre' : List VA} {post post0 : VA} (hf : P.funcs[f]? = some fn) (hb : fn.body = some c) (hn : (fn.name == "runtime.NumGoroutine") = false) (hsz : pre.length ≤ fn.ntmps)
    (hup : All2 Up pre pre') (hfree : Free post0 post)
    (h : ∀ (B : Nat) (w0 : Bs) (a : Act), B = w0.w.heap.size → w0.nd = false → St B w0 fn.ntmps (argΓ pre') [] a w0.w → c.wp P (bPost P fn (RQ B w0 post0)) a w0.w) : Cn P f pre post := by
  refine ⟨⟨fn, hf, hn, by rw [hb]; rfl⟩, fun B w args hB ha => (calls_of_b hf hb (h w.heap.size ⟨w, fun _ => False, false⟩ _ rfl rfl ?_)).mono fun _ _ ⟨v, he, hv, hk⟩ => ⟨v, he, hfree _ _ _ _ hB hv, hk.grow0⟩⟩
  have hl := ha.length
  have hl2 := hup.length
  have ha' : All2 (fun (A : VA) v => A.p w.heap.size v w) pre' args := all_up hup B w hB ha
  refine ⟨fun g hg => hg.resolve_right fun h => h, DefOk.nil rfl, ?_, Kept.refl _, All2.args ha', (fun l hl => by cases hl), (fun l hl => by cases hl)⟩
  simp only [Array.size_append, List.size_toArray, Array.size_replicate]
  omega


/-! what may turn while another one runs -/
theorem VA.many {A : VA} {B : Nat} {v : Value} {w' : World} : ∀ (gs : List Nat) {w : World}, A.p B v w → w'.os = w.os → w'.tape = w.tape → w'.output = w.output → w.heap.size ≤ w'.heap.size → (∀ k c T fz, w.heap[k]? = some (.cells c T fz) → k ∉ gs → w'.heap[k]? = w.heap[k]?) → (∀ g ∈ gs, B ≤ g ∧ ∃ c T fz, w.heap[g]? = some (.cells c T fz) ∧ T ∉ A.deps) → A.p B v w'
  | [], w, hp, h1, h2, h3, h4, h5, _ => A.cg _ _ _ _ ⟨h4, fun g c T fz hg => (h5 g c T fz hg (by simp)).trans hg⟩ hp
  | g :: gs, w, hp, h1, h2, h3, h4, h5, h6 => by
    by_cases hg : g ∈ gs
    · exact VA.many gs hp h1 h2 h3 h4 (fun k c T fz hk hn => h5 k c T fz hk (by simp only [List.mem_cons, not_or]; exact ⟨fun e => hn (by rw [e]; exact hg), hn⟩)) (fun g' hg' => h6 g' (List.mem_cons_of_mem _ hg'))
    · obtain ⟨hB, c, T, fz, hc, hT⟩ := h6 g List.mem_cons_self
      have hlt : g < w.heap.size := (Array.getElem?_eq_some_iff.1 hc).1
      have hx : w'.heap[g]? = some (w'.heap[g]'(by omega)) := Array.getElem?_eq_getElem _
      generalize w'.heap[g]'(by omega) = x at hx
      have hwr : Wr g w { w with heap := w.heap.setIfInBounds g x } := ⟨rfl, rfl, rfl, by simp, fun k hk => by
        show (w.heap.setIfInBounds g x)[k]? = _
        rw [Array.getElem?_setIfInBounds_ne (fun e => hk e.symm)]⟩
      have hsz : (w.heap.setIfInBounds g x).size = w.heap.size := by simp
      refine VA.many gs (w := { w with heap := w.heap.setIfInBounds g x }) (A.wr _ _ _ _ _ _ _ _ hc hT hB hwr hp) h1 h2 h3 (by rw [hsz]; exact h4) (fun k c' T' fz' hk hn => ?_) (fun g' hg' => ?_)
      · show _ = (w.heap.setIfInBounds g x)[k]?
        replace hk : (w.heap.setIfInBounds g x)[k]? = some (.cells c' T' fz') := hk
        by_cases e : k = g
        · subst e
          rw [Array.getElem?_setIfInBounds_self_of_lt hlt]
          exact hx
        · rw [Array.getElem?_setIfInBounds_ne (fun e' => e e'.symm)] at hk ⊢
          exact h5 k c' T' fz' hk (by simp only [List.mem_cons, not_or]; exact ⟨e, hn⟩)
      · obtain ⟨hB', c', T', fz', hc', hT'⟩ := h6 g' (List.mem_cons_of_mem _ hg')
        refine ⟨hB', c', T', fz', ?_, hT'⟩
        show (w.heap.setIfInBounds g x)[g']? = _
        rw [Array.getElem?_setIfInBounds_ne (show g ≠ g' from fun e => hg (by rw [e]; exact hg'))]
        exact hc'
/-- the ground of a round that began in world Ws: the cells of types D may be written, from b on, but for the blocks gs; and whatever is new. -/
def rndB (b : Nat) (D : List TypeId) (gs : List Nat) (Ws W : World) : Bs := ⟨W, fun k => b ≤ k ∧ (Ws.heap.size ≤ k ∨ (k ∉ gs ∧ ∃ c T fz, Ws.heap[k]? = some (.cells c T fz) ∧ T ∈ D)), false⟩
/-- a round has run: cells of types D may have turned, but for the blocks gs. -/
abbrev Stp (b : Nat) (D : List TypeId) (gs : List Nat) (W W' : World) : Prop := Kept (rndB b D gs W W) W'
theorem Stp.noncell {b : Nat} {D : List TypeId} {gs : List Nat} {W W' : World} (h : Stp b D gs W W') {k : Nat} {o : Obj} (hk : W.heap[k]? = some o) (ho : o.isCells = false) : W'.heap[k]? = some o :=
  (h.block k (Array.getElem?_eq_some_iff.1 hk).1 (fun hF => by
    rcases hF.2 with h1 | ⟨_, c, T, fz, hc, _⟩
    · have := (Array.getElem?_eq_some_iff.1 hk).1; omega
    · have hc' : W.heap[k]? = _ := hc
      rw [hc'] at hk
      injection hk with hk
      subst hk
      cases ho)).trans hk
theorem Stp.held {b : Nat} {D : List TypeId} {gs : List Nat} {W W' : World} (h : Stp b D gs W W') {k : Nat} {o : Obj} (hk : W.heap[k]? = some o) (hg : k ∈ gs) : W'.heap[k]? = some o :=
  (h.block k (Array.getElem?_eq_some_iff.1 hk).1 (fun hF => by
    rcases hF.2 with h1 | ⟨h1, _⟩
    · have := (Array.getElem?_eq_some_iff.1 hk).1; omega
    · exact h1 hg)).trans hk
theorem VA.stp {A : VA} {B b : Nat} {v : Value} {D : List TypeId} {W W' : World} {gs : List Nat} (hp : A.p B v W) (h : Stp b D gs W W') (hb : B ≤ b) (hD : ∀ T ∈ D, T ∉ A.deps) : A.p B v W' := by
  refine VA.many ((List.range W.heap.size).filter fun k => match W.heap[k]? with | some (.cells _ T _) => D.contains T && decide (b ≤ k) | _ => false) hp h.os h.tape h.output h.size (fun k c T fz hk hn => ?_) (fun g hg => ?_)
  · refine h.block k (Array.getElem?_eq_some_iff.1 hk).1 fun hF => hn (List.mem_filter.2 ⟨by simpa using (Array.getElem?_eq_some_iff.1 hk).1, ?_⟩)
    rcases hF.2 with h1 | ⟨_, c', T', fz', hc, hD'⟩
    · have := (Array.getElem?_eq_some_iff.1 hk).1; omega
    · have hc' : W.heap[k]? = _ := hc
      rw [hc'] at hk
      injection hk with hk
      injection hk with _ hk _
      subst hk
      rw [hc']
      simp only [Bool.and_eq_true, List.contains_eq_mem, decide_eq_true_eq]
      exact ⟨hD', hF.1⟩
  · obtain ⟨_, h2⟩ := List.mem_filter.1 hg
    split at h2
    · rename_i c T fz hc
      simp only [Bool.and_eq_true, List.contains_eq_mem, decide_eq_true_eq] at h2
      exact ⟨Nat.le_trans hb h2.2, c, T, fz, hc, hD T h2.1⟩
    · cases h2
def As.vaC (A : As) (cs : List Value) : VA where
  p B _ w := A.p B cs w
  deps := A.deps
  cg := fun B _ w w' h hp => A.cg B cs w w' h hp
  wr := fun B _ w w' g c T fz h1 h2 h3 h4 hp => A.wr B cs w w' g c T fz h1 h2 h3 h4 hp
theorem As.stp {A : As} {B b : Nat} {cs : List Value} {D : List TypeId} {gs : List Nat} {W W' : World} (hp : A.p B cs W) (h : Stp b D gs W W') (hb : B ≤ b) (hD : ∀ T ∈ D, T ∉ A.deps) : A.p B cs W' := VA.stp (A := As.vaC A cs) (v := undef) hp h hb hD
def offD (D : List TypeId) (deps : List TypeId) : Bool := deps.all fun T => !D.contains T
theorem offD_ok {D deps : List TypeId} (h : offD D deps = true) : ∀ T ∈ D, T ∉ deps := fun T hT hd => by
  have := List.all_eq_true.1 h T hd
  simp only [Bool.not_eq_true', List.contains_eq_mem, decide_eq_false_iff_not] at this
  exact this hT
/-- the blocks gs hold cells of types Tc. -/
def CellsT (Tc : List TypeId) (gs : List Nat) (W : World) : Prop := ∀ g ∈ gs, ∃ c T fz, W.heap[g]? = some (.cells c T fz) ∧ T ∈ Tc
/-- the iterator has run: of what lay there its own blocks alone may have turned. -/
abbrev StpI (gs : List Nat) (W W' : World) : Prop := Kept ⟨W, fun k => k ∈ gs, true⟩ W'
theorem VA.stpI {A : VA} {B : Nat} {v : Value} {gs : List Nat} {Tc : List TypeId} {W W' : World} (hp : A.p B v W) (h : StpI gs W W') (hc : CellsT Tc gs W) (hb : ∀ g ∈ gs, B ≤ g) (hD : ∀ T ∈ Tc, T ∉ A.deps) : A.p B v W' :=
  VA.many gs hp h.os h.tape h.output h.size (fun k c T fz hk hn => h.block k (Array.getElem?_eq_some_iff.1 hk).1 hn) fun g hg => by
    obtain ⟨c, T, fz, h1, h2⟩ := hc g hg
    exact ⟨hb g hg, c, T, fz, h1, hD T h2⟩
theorem As.stpI {A : As} {B : Nat} {cs : List Value} {gs : List Nat} {Tc : List TypeId} {W W' : World} (hp : A.p B cs W) (h : StpI gs W W') (hc : CellsT Tc gs W) (hb : ∀ g ∈ gs, B ≤ g) (hD : ∀ T ∈ Tc, T ∉ A.deps) : A.p B cs W' := VA.stpI (A := As.vaC A cs) (v := undef) hp h hc hb hD
theorem StpI.noncell {gs : List Nat} {Tc : List TypeId} {W W' : World} (h : StpI gs W W') (hc : CellsT Tc gs W) {k : Nat} {o : Obj} (hk : W.heap[k]? = some o) (ho : o.isCells = false) : W'.heap[k]? = some o :=
  (h.block k (Array.getElem?_eq_some_iff.1 hk).1 (fun hF => by
    obtain ⟨c, T, fz, h1, _⟩ := hc k hF
    rw [h1] at hk
    injection hk with hk
    subst hk
    cases ho)).trans hk
/-- the caller's state, when the iterator has run. -/
theorem St.stpI {B N : Nat} {w0 : Bs} {Γ : List (Nat × VA)} {Λ : List Lc} {a : Act} {W W' : World} {gs : List Nat} {Tc : List TypeId} (h : St B w0 N Γ Λ a W) (hB : B = w0.w.heap.size) (hs : StpI gs W W') (hc : CellsT Tc gs W) (hb : ∀ g ∈ gs, B ≤ g) (hΓ : Γ.all (fun x => offD Tc x.2.deps) = true) (hΛ : Λ.all (fun l => offD Tc l.A.deps) = true)
    (hdis : ∀ l ∈ Λ, ∀ g, blk (a.eval (.tmp l.s)) = some g → g ∉ gs) : St B w0 N Γ Λ a W' := by
  refine ⟨h.lo, h.defers.keep rfl fun Dm hD => hs.noncell hc hD rfl, h.size, ⟨hs.os.trans h.base.os, hs.tape.trans h.base.tape, hs.output.trans h.base.output, Nat.le_trans h.base.size hs.size, fun k hk hf => (hs.block k (Nat.lt_of_lt_of_le hk h.base.size) (fun hF => by have := hb k hF; omega)).trans (h.base.block k hk hf)⟩,
    fun x hx => VA.stpI (h.vals x hx) hs hc hb (offD_ok (List.all_eq_true.1 hΓ x hx)), fun l hl => ?_, h.dis⟩
  obtain ⟨g, cs, e1, e2, e3, e4⟩ := h.locs l hl
  exact ⟨g, cs, e1, e2, (hs.block g (Array.getElem?_eq_some_iff.1 e3).1 (hdis l hl g (by rw [e1]; exact l.H.ok g))).trans e3, As.stpI e4 hs hc hb (offD_ok (List.all_eq_true.1 hΛ l hl))⟩
/-- what is no cells turns. -/
theorem St.put {B N : Nat} {w0 : Bs} {Γ : List (Nat × VA)} {Λ : List Lc} {a : Act} {W : World} {r : Nat} {o o' : Obj} (h : St B w0 N Γ Λ a W) (hr : W.heap[r]? = some o) (ho : o.isCells = false) (hd : o ≠ .deferred (some [])) (hge : w0.w.heap.size ≤ r) : St B w0 N Γ Λ a (W.putObj r o') := by
  have hc : Cg W (W.putObj r o') := ⟨by simp, fun g c T fz hg => (World.putObj_heap_other (fun e => by subst e; rw [hg] at hr; injection hr with hr; subst hr; cases ho)).trans hg⟩
  refine ⟨h.lo, h.defers.keep rfl fun Dm hD => (World.putObj_heap_other (fun e => by subst e; rw [hD] at hr; injection hr with hr; exact hd hr.symm)).trans hD, h.size, ⟨h.base.os, h.base.tape, h.base.output, by simpa using h.base.size, fun k hk hf => (World.putObj_heap_other (by omega)).trans (h.base.block k hk hf)⟩,
    fun x hx => x.2.cg _ _ _ _ hc (h.vals x hx), fun l hl => ?_, h.dis⟩
  obtain ⟨g, cs, e1, e2, e3, e4⟩ := h.locs l hl
  exact ⟨g, cs, e1, e2, hc.heap e3, l.A.cg _ _ _ _ hc e4⟩
/-! ### an iterator -/
/-- the variables of its own that an iterator has. -/
def CapsOk (B : Nat) (w : World) (caps : List (TypeId × As)) (gs : List Nat) : Prop := All2 (fun (c : TypeId × As) (g : Nat) => B ≤ g ∧ ∃ cs, w.heap[g]? = some (.cells (List.toArray cs) c.1 (0, 0)) ∧ c.2.p B cs w) caps gs
/-- what an iterator may lean on: l: the loop; J: so many rounds have been; Jx: yield has said no. -/
structure ItH (P : Program) (l B : Nat) (Db Tc : List TypeId) (gs : List Nat) (Y : Nat → List VA) (inf : Bool) (M : Nat) (J : Nat → World → Prop) (Jx : World → Prop) : Prop where
  inf' : inf = true → ∀ W, ¬ J M W
  st : ∀ k W W', J k W → StpI gs W W' → CellsT Tc gs W' → J k W'
  stx : ∀ W W', Jx W → StpI gs W W' → CellsT Tc gs W' → Jx W'
  ct : ∀ k W, J k W → CellsT Tc gs W
  ctx : ∀ W, Jx W → CellsT Tc gs W
  yd : ∀ k W args, k < M → J k W → All2 (fun (A : VA) v => A.p B v W) (Y k) args → YieldAt Fence.wide 0 P l args.toArray W fun e W' => (e = .returned (.bool true) ∧ J (k + 1) W' ∧ Stp B Db gs W W') ∨
    (e = .returned (.bool false) ∧ Jx W' ∧ W.heap.size ≤ W'.heap.size ∧ ∀ D : Nat, W.heap[D]? = some (.deferred (some [])) → W'.heap[D]? = some (.deferred (some [])))
/-- 'function f, called with yield and the names of such variables, calls yield with what Y says, M times at most, in order, and returns; of the cells ahead of it it writes its own variables alone; what its own facts hang on is of types Dd; inf: it ends when yield says no alone.' -/
def ItC (P : Program) (f : FuncId) (caps : List (TypeId × As)) (Y : Nat → List VA) (inf : Bool) (M : Nat) (Dd : List TypeId) : Prop :=
  (∃ fn, P.funcs[f]? = some fn ∧ (fn.name == "runtime.NumGoroutine") = false ∧ fn.body.isNone = false) ∧
  ∀ (l B : Nat) (w : World) (gs : List Nat) (Db : List TypeId) (J : Nat → World → Prop) (Jx : World → Prop), B ≤ w.heap.size → gs.Nodup → CapsOk B w caps gs → offD Db Dd = true → ItH P l B Db (caps.map Prod.fst) gs Y inf M J Jx → J 0 w →
    Calls P f (.func (.yield l) #[] #[] :: gs.map ptr).toArray w fun e W' => ∃ v, e = .returned v ∧ (J M W' ∨ Jx W')
theorem caps_cells {B : Nat} {w : World} {caps : List (TypeId × As)} {gs : List Nat} (h : CapsOk B w caps gs) : CellsT (caps.map Prod.fst) gs w ∧ ∀ g ∈ gs, B ≤ g := by
  induction h with
  | nil => exact ⟨(fun _ h => by cases h), (fun _ h => by cases h)⟩
  | @cons c g cs gs hh _ ih =>
    obtain ⟨hB, ds, h1, _⟩ := hh
    refine ⟨fun g' hg => ?_, fun g' hg => ?_⟩
    · rcases List.mem_cons.1 hg with rfl | hg
      · exact ⟨_, _, _, h1, by simp⟩
      · obtain ⟨c', T, fz, h2, h3⟩ := ih.1 g' hg
        exact ⟨c', T, fz, h2, by simp only [List.map_cons, List.mem_cons]; exact .inr h3⟩
    · rcases List.mem_cons.1 hg with rfl | hg
      · exact hB
      · exact ih.2 g' hg
/-- a function value that is such an iterator; its variables' blocks. -/
def ItV (f : FuncId) (caps : List (TypeId × As)) (gs : List Nat) : VA where
  p B v w := v = .func (.func f) #[] (gs.map ptr).toArray ∧ gs.Nodup ∧ CapsOk B w caps gs
  deps := caps.map Prod.fst ++ caps.flatMap (·.2.deps)
  cg := by
    rintro B v w w' hg ⟨e, h1, h2⟩
    exact ⟨e, h1, h2.mono fun c g ⟨h3, cs, h4, h5⟩ => ⟨h3, cs, hg.heap h4, c.2.cg _ _ _ _ hg h5⟩⟩
  wr := by
    rintro B v w w' g c T fz h1 hT h3 h4 ⟨e, hn, h⟩
    refine ⟨e, hn, ?_⟩
    clear e hn
    induction h with
    | nil => exact .nil
    | @cons x y xs ys hh _ ih =>
      simp only [List.map_cons, List.flatMap_cons, List.mem_append, List.mem_cons, not_or] at hT
      obtain ⟨hB, cs, h5, h6⟩ := hh
      refine .cons ⟨hB, cs, ?_, x.2.wr _ _ _ _ _ _ _ _ h1 hT.2.1 h3 h4 h6⟩ (ih ?_)
      · rw [h4.block y (fun e => by subst e; rw [h1] at h5; injection h5 with h5; injection h5 with _ h5 _; exact hT.1.1 h5)]
        exact h5
      · simp only [List.mem_append, not_or]
        exact ⟨hT.1.2, hT.2.2⟩
/-! ### the rounds -/
/-- at a round's end: the caller's variables are as Λ says. -/
def REnd (B N : Nat) (w1 : Bs) (a : Act) (Λ : List Lc) (a' : Act) (W : World) : Prop := ∃ Γ, St B w1 N Γ Λ a' W ∧ ∀ l ∈ Λ, a'.eval (.tmp l.s) = a.eval (.tmp l.s)
/-- where a round may end: at its end; by 'return'; by a jump out. -/
def rPost (B N : Nat) (w1 : Bs) (a : Act) (c : Prop) (Λn : List Lc) (Λr : Option (List Lc)) (Λx : Nat → Option (List Lc)) : Exit → Act → World → Prop
  | .normal, a', W => c ∧ REnd B N w1 a Λn a' W
  | .ret, a', W => ∃ Λ, Λr = some Λ ∧ REnd B N w1 a Λ a' W
  | .exit id, a', W => ∃ Λ, Λx id = some Λ ∧ REnd B N w1 a Λ a' W
  | _, _, _ => False
theorem rPost_no {B N : Nat} {w1 : Bs} {a : Act} {c : Prop} {Λn : List Lc} {Λr : Option (List Lc)} {Λx : Nat → Option (List Lc)} : ¬ LetsOut (rPost B N w1 a c Λn Λr Λx) := fun ⟨_, _, h⟩ => h
/-- the world behind 'beginRound'. -/
def Bg (l : Nat) (W W' : World) : Prop := ∃ r r' : Loop, W.heap[l]? = some (.loop r) ∧ W' = W.putObj l (.loop r')
theorem loop_cg {W : World} {l : Nat} {r : Loop} (hr : W.heap[l]? = some (.loop r)) (o : Obj) : Cg W (W.putObj l o) := ⟨by simp, fun g c T fz hg => (World.putObj_heap_other (fun e => by subst e; rw [hg] at hr; cases hr)).trans hg⟩
/-- a round's own ground, anew. -/
theorem St.begin {B N : Nat} {D : List TypeId} {gs : List Nat} {Ws W0 : World} {Γ : List (Nat × VA)} {Λ : List Lc} {a : Act} {W W' : World} {l : Nat} (h : St B (rndB B D gs Ws W0) N Γ Λ a W) (hs : Ws.heap.size ≤ W0.heap.size) (hlo : B ≤ Ws.heap.size) (hb : Bg l W W') : St B (rndB B D gs Ws W') N Γ Λ a W' := by
  obtain ⟨r, r', hr, rfl⟩ := hb
  have hc := loop_cg hr (.loop r')
  have hmay : ∀ g, (rndB B D gs Ws W0).may g → (rndB B D gs Ws (W.putObj l (.loop r'))).may g := fun g hg => by
    rcases hg with hg | hg
    · have hg' : W0.heap.size ≤ g := hg
      exact .inr ⟨by omega, .inl (by omega)⟩
    · exact .inr hg
  refine ⟨fun g hg => ?_, ⟨fun d hd => ?_, h.defers.nodup, fun hn => by cases hn⟩, h.size, Kept.refl _, fun x hx => x.2.cg _ _ _ _ hc (h.vals x hx), fun m hm => ?_, h.dis⟩
  · rcases hg with hg | hg
    · have h1 : W0.heap.size ≤ W.heap.size := h.base.size
      have h2 : (W.putObj l (.loop r')).heap.size ≤ g := hg
      simp only [World.putObj_size] at h2
      omega
    · exact hg.1
  · obtain ⟨Dm, e1, e2, e3⟩ := h.defers.all d hd
    exact ⟨Dm, e1, hmay Dm e2, (World.putObj_heap_other (fun e => by subst e; rw [hr] at e3; cases e3)).trans e3⟩
  · obtain ⟨g, cs, e1, e2, e3, e4⟩ := h.locs m hm
    exact ⟨g, cs, e1, hmay g e2, hc.heap e3, m.A.cg _ _ _ _ hc e4⟩
theorem set_all : ∀ (l : List (Nat × Value)) (t : Array Value), (l.foldl (fun t x => t.setIfInBounds x.1 x.2) t).size = t.size ∧ (∀ s, s ∉ l.map Prod.fst → (l.foldl (fun t x => t.setIfInBounds x.1 x.2) t)[s]? = t[s]?) ∧ ((l.map Prod.fst).Nodup → ∀ x ∈ l, x.1 < t.size → (l.foldl (fun t x => t.setIfInBounds x.1 x.2) t)[x.1]? = some x.2)
  | [], t => ⟨rfl, fun _ _ => rfl, fun _ _ h => by cases h⟩
  | y :: l, t => by
    obtain ⟨h1, h2, h3⟩ := set_all l (t.setIfInBounds y.1 y.2)
    simp only [List.foldl_cons]
    refine ⟨by rw [h1]; simp, fun s hs => ?_, fun nd x hx hlt => ?_⟩
    · simp only [List.map_cons, List.mem_cons, not_or] at hs
      rw [h2 s hs.2, Array.getElem?_setIfInBounds_ne (fun e => hs.1 e.symm)]
    · simp only [List.map_cons, List.nodup_cons] at nd
      rcases List.mem_cons.1 hx with rfl | hx
      · rw [h2 _ nd.1, Array.getElem?_setIfInBounds_self_of_lt hlt]
      · exact h3 nd.2 x hx (by simpa using hlt)
theorem eval_tmp (a : Act) (s : Nat) : a.eval (.tmp s) = (a.tmps[s]?).getD undef := by simp [Act.eval]
section
variable {P : Program} {Q : Exit → Act → World → Prop} {B N : Nat} {w0 : Bs} {Γ : List (Nat × VA)} {a : Act} {w : World}
/-- 'for .. := range g { .. }', ITS ROUNDS ONE BY ONE. -/
theorem go_range {gs k0 : Nat} {ps : List Nat} {assign body : Code} (Λ : Nat → List Lc) (Λr : Option (List Lc)) (Λx : Nat → Option (List Lc)) {f : FuncId} {caps : List (TypeId × As)} {gb : List Nat} {Y : Nat → List VA} {inf : Bool} {M : Nat} {Dd Db : List TypeId}
    (h : St B w0 N Γ (Λ 0) a w) (hB : B = w0.w.heap.size) (hN0 : w0.nd = false) (hk0 : Γ[k0]? = some (gs, ItV f caps gb)) (hit : ItC P f caps Y inf M Dd) (hM : inf = true → 0 < M) (hDd : offD Db Dd = true)
    (ks : List Nat) (hΓ : ks.all (fun k => match Γ[k]? with | some x => offD (caps.map Prod.fst) x.2.deps && offD Db x.2.deps && !ps.contains x.1 | none => false) = true)
    (hΛ : ∀ k, (Λ k).all (fun l => offD (caps.map Prod.fst) l.A.deps && !ps.contains l.s && Db.contains l.T) = true) (sl : List Nat) (hsl : ∀ k, (Λ k).all (fun l => sl.contains l.s) = true) (hdis : ∀ s ∈ sl, ∀ g, blk (a.eval (.tmp s)) = some g → g ∉ gb)
    (hΛr : ∀ L, Λr = some L → L.all (fun l => offD (caps.map Prod.fst) l.A.deps && sl.contains l.s) = true) (hΛx : ∀ id L, Λx id = some L → L.all (fun l => offD (caps.map Prod.fst) l.A.deps && sl.contains l.s) = true)
    (hps : ∀ k, (Y k).length = ps.length) (hnd : ps.Nodup) (hpN : ps.all (fun p => p < N) = true)
    (hround : ∀ l k a1 Ws, k < M → B ≤ Ws.heap.size → CellsT (caps.map Prod.fst) gb Ws → St B (rndB B Db gb Ws Ws) N (ks.filterMap (fun k => Γ[k]?) ++ (ps.zip (Y k) ++ (Λ k).map fun l => (l.s, EqV (a.eval (.tmp l.s))))) (Λ k) a1 Ws →
      assign.wpIn (fw (some l)) 0 P (Exit.then (fun a2 W2 => Kept (rndB B Db gb Ws Ws) W2 ∧ ∀ W3, Bg l W2 W3 → body.wpIn (fw (some l)) 0 P (rPost B N (rndB B Db gb Ws W3) a (inf = true → k + 1 < M) (Λ (k + 1)) Λr Λx) a2 W3) (fun _ _ _ => False)) a1 Ws)
    (hdone : ∀ a' W, St B w0 N (ks.filterMap (fun k => Γ[k]?)) (Λ M) a' W → Q .normal a' W) (hret : ∀ L, Λr = some L → ∀ a' W, St B w0 N (ks.filterMap (fun k => Γ[k]?)) L a' W → Q .ret a' W) (hexit : ∀ id L, Λx id = some L → ∀ a' W, St B w0 N (ks.filterMap (fun k => Γ[k]?)) L a' W → Q (.exit id) a' W) :
    (Code.rangeFunc (.tmp gs) ps.toArray assign body).wp P Q a w := by
  refine (wpIn_wide (n := 0)).1 (wpIn_rangeFunc ?_)
  intro fn hfn
  obtain ⟨⟨ff, hf, hn, hb⟩, hcall⟩ := hit
  obtain ⟨hev, hgn, hcaps⟩ := h.vals _ (List.mem_of_getElem? hk0)
  have hev' : a.eval (.tmp gs) = .func (.func f) #[] (gb.map ptr).toArray := hev
  obtain ⟨hct, hcb⟩ := caps_cells hcaps
  replace h := h.sel ks
  obtain ⟨Γ, hΓe⟩ : ∃ Γ', ks.filterMap (fun k => Γ[k]?) = Γ' := ⟨_, rfl⟩
  rw [hΓe] at h hround hdone hret hexit
  replace hΓ : ∀ x ∈ Γ, (offD (caps.map Prod.fst) x.2.deps && offD Db x.2.deps && !ps.contains x.1) = true := fun x hx => by
    rw [← hΓe] at hx
    obtain ⟨k, hk1, hk2⟩ := List.mem_filterMap.1 hx
    have := List.all_eq_true.1 hΓ k hk1
    rwa [hk2] at this
  clear hΓe
  obtain ⟨rec, hrec⟩ : ∃ rec : LoopState → Option Code → Loop, rec = fun st pe => { state := st, pending := pe, fn, tmps := a.tmps, params := ps.toArray, assign, body, defers := w.heap.size } := ⟨_, rfl⟩
  obtain ⟨W1, hW1⟩ : ∃ W1, (w.alloc (.deferred (some []))).alloc (.loop (rec .ready none)) = W1 := ⟨_, rfl⟩
  have hgr : Grow w W1 := by rw [← hW1]; exact (Grow.alloc _ _).trans (Grow.alloc _ _)
  have hL1 : W1.heap[w.heap.size + 1]? = some (.loop (rec .ready none)) := by
    rw [← hW1]; have := World.alloc_heap_new (w.alloc (.deferred (some []))) (.loop (rec .ready none)); rwa [World.size_alloc] at this
  have hK1 : W1.heap[w.heap.size]? = some (.deferred (some [])) := by
    rw [← hW1]; exact (Below.heap_alloc _ _ _ (by simp)).trans (World.alloc_heap_new w _)
  have hws : w0.w.heap.size ≤ w.heap.size := h.base.size
  have h1 : St B w0 N Γ (Λ 0) a W1 := ⟨h.lo, h.defers.grow hgr rfl, h.size, h.base.grow hgr, fun x hx => x.2.grow _ _ _ _ hgr (h.vals x hx), fun l hl => (h.locs l hl).grow hgr, h.dis⟩
  have hΓ' : ∀ x ∈ Γ, offD (caps.map Prod.fst) x.2.deps = true ∧ offD Db x.2.deps = true ∧ x.1 ∉ ps := fun x hx => by
    have := hΓ x hx
    simp only [Bool.and_eq_true, Bool.not_eq_true', List.contains_eq_mem, decide_eq_false_iff_not] at this
    exact ⟨this.1.1, this.1.2, this.2⟩
  have hΛ' : ∀ k, ∀ l ∈ Λ k, offD (caps.map Prod.fst) l.A.deps = true ∧ l.s ∉ ps ∧ l.T ∈ Db := fun k l hl => by
    have := List.all_eq_true.1 (hΛ k) l hl
    simp only [Bool.and_eq_true, Bool.not_eq_true', List.contains_eq_mem, decide_eq_false_iff_not, decide_eq_true_eq] at this
    exact ⟨this.1.1, this.1.2, this.2⟩
  have stp : ∀ {L : List Lc} {W W' : World}, L.all (fun l => offD (caps.map Prod.fst) l.A.deps && sl.contains l.s) = true → St B w0 N Γ L a W → CellsT (caps.map Prod.fst) gb W → StpI gb W W' → St B w0 N Γ L a W' := fun {L W W'} hL hs hc hk => by
    have hL' : ∀ l ∈ L, offD (caps.map Prod.fst) l.A.deps = true ∧ l.s ∈ sl := fun l hl => by
      have := List.all_eq_true.1 hL l hl
      simpa using this
    exact St.stpI hs hB hk hc hcb (List.all_eq_true.2 fun x hx => (hΓ' x hx).1) (List.all_eq_true.2 fun l hl => (hL' l hl).1) fun l hl g hg => hdis l.s (hL' l hl).2 g hg
  have hΛi : ∀ k, (Λ k).all (fun l => offD (caps.map Prod.fst) l.A.deps && sl.contains l.s) = true := fun k => List.all_eq_true.2 fun l hl => by
    have h1 := (hΛ' k l hl).1
    have h2 := List.all_eq_true.1 (hsl k) l hl
    rw [h1, h2]
    rfl
  -- a state on the ground of the whole call, out of that of a round
  have back : ∀ {L : List Lc} {Ws W3 W : World} {a' : Act} (k : Nat) (r : Loop) (st : LoopState) (pe : Option Code), St B w0 N Γ (Λ k) a Ws → Ws.heap[w.heap.size + 1]? = some (.loop (rec .ready none)) → Ws.heap[w.heap.size]? = some (.deferred (some [])) →
      (∀ j, j < Ws.heap.size → j ≠ w.heap.size + 1 → ¬ (rndB B Db gb Ws W3).F j → W3.heap[j]? = Ws.heap[j]?) → Ws.heap.size ≤ W3.heap.size → W3.os = Ws.os ∧ W3.tape = Ws.tape ∧ W3.output = Ws.output → W3.heap[w.heap.size + 1]? = some (.loop r) → REnd B N (rndB B Db gb Ws W3) a L a' W →
      W.heap[w.heap.size + 1]? = some (.loop r) ∧ St B w0 N Γ L a (W.putObj (w.heap.size + 1) (.loop (rec st pe))) ∧ (W.putObj (w.heap.size + 1) (.loop (rec st pe))).heap[w.heap.size + 1]? = some (.loop (rec st pe)) ∧
        (W.putObj (w.heap.size + 1) (.loop (rec st pe))).heap[w.heap.size]? = some (.deferred (some [])) ∧ (st = .ready → pe = none → Stp B Db gb Ws (W.putObj (w.heap.size + 1) (.loop (rec st pe)))) ∧ (∀ g ∈ gb, g < Ws.heap.size → g ≠ w.heap.size + 1 → (W.putObj (w.heap.size + 1) (.loop (rec st pe))).heap[g]? = Ws.heap[g]?) ∧ Ws.heap.size ≤ (W.putObj (w.heap.size + 1) (.loop (rec st pe))).heap.size ∧ ∀ D : Nat, Ws.heap[D]? = some (.deferred (some [])) → (W.putObj (w.heap.size + 1) (.loop (rec st pe))).heap[D]? = some (.deferred (some [])) := by
    rintro L Ws W3 W a' k r st pe hs hl hd hc0 hsz ho hl3 ⟨Γ3, h3, heq⟩
    have hnF : ∀ {j : Nat} {o : Obj}, Ws.heap[j]? = some o → o.isCells = false → ¬ (rndB B Db gb Ws W3).F j := fun {j o} hj ho hF => by
      rcases hF.2 with h4 | ⟨_, c, T, fz, h4, _⟩
      · have := (Array.getElem?_eq_some_iff.1 hj).1; omega
      · rw [hj] at h4; injection h4 with h4; subst h4; cases ho
    have hlt1 := (Array.getElem?_eq_some_iff.1 hl).1
    have hWl : W.heap[w.heap.size + 1]? = some (.loop r) := (h3.base.block _ (by show _ < W3.heap.size; omega) (hnF hl rfl)).trans hl3
    have hlt2 := (Array.getElem?_eq_some_iff.1 hWl).1
    have hnew := World.putObj_heap_same (w := W) (o := .loop (rec st pe)) hlt2
    have hblk : ∀ j, j < Ws.heap.size → j ≠ w.heap.size + 1 → ¬ (rndB B Db gb Ws W3).F j → (W.putObj (w.heap.size + 1) (.loop (rec st pe))).heap[j]? = Ws.heap[j]? := fun j hj hne hF =>
      (World.putObj_heap_other hne).trans ((h3.base.block j (by show _ < W3.heap.size; omega) hF).trans (hc0 j hj hne hF))
    have hD' : (W.putObj (w.heap.size + 1) (.loop (rec st pe))).heap[w.heap.size]? = some (.deferred (some [])) := (hblk _ (Array.getElem?_eq_some_iff.1 hd).1 (by omega) (hnF hd rfl)).trans hd
    have hsz3 : W3.heap.size ≤ W.heap.size := h3.base.size
    have hcg := loop_cg hWl (.loop (rec st pe))
    have hDk : ∀ D : Nat, Ws.heap[D]? = some (.deferred (some [])) → (W.putObj (w.heap.size + 1) (.loop (rec st pe))).heap[D]? = some (.deferred (some [])) := fun D hDd => by
      have hne : D ≠ w.heap.size + 1 := fun e => by rw [e, hl] at hDd; cases hDd
      exact (hblk D (Array.getElem?_eq_some_iff.1 hDd).1 hne (hnF hDd rfl)).trans hDd
    refine ⟨hWl, ⟨h.lo, hs.defers.keep rfl fun D hDd => ?_, hs.size, ?_, fun x hx => ?_, fun m hm => ?_, fun m hm m' hm' hne => ?_⟩, hnew, hD', fun e1 e2 => ?_, fun g hg hlt hne => hblk g hlt hne (fun hF => by rcases hF.2 with h4 | h4; omega; exact h4.1 hg), by rw [World.putObj_size]; omega, hDk⟩
    · exact hDk D hDd
    · refine ⟨(h3.base.os.trans ho.1).trans hs.base.os, (h3.base.tape.trans ho.2.1).trans hs.base.tape, (h3.base.output.trans ho.2.2).trans hs.base.output, ?_, fun j hj hf => ?_⟩
      · have := hs.base.size
        rw [World.putObj_size]
        omega
      · have hjs : j < Ws.heap.size := Nat.lt_of_lt_of_le hj hs.base.size
        exact (hblk j hjs (by omega) (fun hF => by have := hF.1; omega)).trans (hs.base.block j hj hf)
    · -- what was known is known: by the blocks that turned
      have hb := (hΓ' x hx).2.1
      refine VA.many ((List.range Ws.heap.size).filter fun j => match Ws.heap[j]? with | some (.cells _ T _) => Db.contains T && decide (B ≤ j) | _ => false) (hs.vals x hx) (h3.base.os.trans ho.1) (h3.base.tape.trans ho.2.1) (h3.base.output.trans ho.2.2) (by rw [World.putObj_size]; omega) (fun j c T fz hj hn => ?_) (fun g hg => ?_)
      · refine hblk j (Array.getElem?_eq_some_iff.1 hj).1 (fun e => by rw [e, hl] at hj; cases hj) fun hF => hn (List.mem_filter.2 ⟨by simpa using (Array.getElem?_eq_some_iff.1 hj).1, ?_⟩)
        rcases hF.2 with h4 | ⟨_, c', T', fz', hc, hD''⟩
        · have := (Array.getElem?_eq_some_iff.1 hj).1; omega
        · rw [hj] at hc
          injection hc with hc
          injection hc with _ hc _
          subst hc
          rw [hj]
          simp only [Bool.and_eq_true, List.contains_eq_mem, decide_eq_true_eq]
          exact ⟨hD'', hF.1⟩
      · obtain ⟨_, h2⟩ := List.mem_filter.1 hg
        split at h2
        · rename_i c T fz hc
          simp only [Bool.and_eq_true, List.contains_eq_mem, decide_eq_true_eq] at h2
          exact ⟨h2.2, c, T, fz, hc, offD_ok hb T h2.1⟩
        · cases h2
    · obtain ⟨g, cs, e1, e2, e3, e4⟩ := h3.locs m hm
      refine ⟨g, cs, (heq m hm).symm.trans e1, .inl ?_, hcg.heap e3, m.A.cg _ _ _ _ hcg e4⟩
      have := h3.lo g e2
      omega
    · rw [← heq m hm, ← heq m' hm']
      exact h3.dis m hm m' hm' hne
    · subst e1 e2
      refine ⟨h3.base.os.trans ho.1, h3.base.tape.trans ho.2.1, h3.base.output.trans ho.2.2, by rw [World.putObj_size]; show Ws.heap.size ≤ _; omega, fun j hj hF => ?_⟩
      have hj' : j < Ws.heap.size := hj
      by_cases e : j = w.heap.size + 1
      · subst e
        show _ = Ws.heap[w.heap.size + 1]?
        rw [hnew, hl]
      · exact hblk j hj' e hF
  refine ⟨w.heap.size + 1, [mark w.heap.size], W1, { target := .fn (.func f) (gb.map ptr).toArray, args := #[.func (.yield (w.heap.size + 1)) #[] #[]] }, W1, f,
    #[.func (.yield (w.heap.size + 1)) #[] #[]] ++ (gb.map ptr).toArray, W1, ?_, ?_, fun _ _ => trivial, ?_, (fun hh => by cases hh), ?_⟩
  · rw [← hW1, hrec]; exact run_enterLoop_outer _ _ _ _ _
  · simp only [resolve, hev']
    simp [go_sem]
  · simp [invoke, run_callFunc hf hn hb]
  · refine callsIn_wide.2 ?_
    have hargs : (#[.func (.yield (w.heap.size + 1)) #[] #[]] ++ (gb.map ptr).toArray : Array Value) = (.func (.yield (w.heap.size + 1)) #[] #[] :: gb.map ptr).toArray := by simp
    rw [hargs]
    have hcaps1 : CapsOk B W1 caps gb := hcaps.mono fun c g ⟨h3, cs, h4, h5⟩ => ⟨h3, cs, hgr.heap h4, c.2.grow _ _ _ _ hgr h5⟩
    have hgl : ∀ g ∈ gb, g ≠ w.heap.size + 1 := fun g hg => by
      obtain ⟨c, T, fz, h1, _⟩ := hct g hg
      have := (Array.getElem?_eq_some_iff.1 h1).1
      omega
    refine (hcall (w.heap.size + 1) B W1 gb Db
      (fun k W => ((St B w0 N Γ (Λ k) a W ∧ W.heap[w.heap.size + 1]? = some (.loop (rec .ready none)) ∧ W.heap[w.heap.size]? = some (.deferred (some []))) ∧ (inf = true → k < M)) ∧ CellsT (caps.map Prod.fst) gb W)
      (fun W => (∃ c, ((c = .ret ∧ ∃ L, Λr = some L ∧ St B w0 N Γ L a W) ∨ (∃ id L, c = .exit id ∧ Λx id = some L ∧ St B w0 N Γ L a W)) ∧ W.heap[w.heap.size + 1]? = some (.loop (rec .done (some c))) ∧ W.heap[w.heap.size]? = some (.deferred (some []))) ∧ CellsT (caps.map Prod.fst) gb W)
      (by have := hgr.size; omega) hgn hcaps1 hDd ⟨fun hi W hJ => absurd (hJ.1.2 hi) (Nat.lt_irrefl M), ?_, ?_, fun k W hJ => hJ.2, fun W hJ => hJ.2, ?_⟩ ⟨⟨⟨h1, hL1, hK1⟩, hM⟩, (caps_cells hcaps1).1⟩).mono ?_
    · rintro k W W' ⟨⟨⟨hs, hl, hd⟩, hc⟩, hcc⟩ hk hcc'
      exact ⟨⟨⟨stp (hΛi k) hs hcc hk, hk.noncell hcc hl rfl, hk.noncell hcc hd rfl⟩, hc⟩, hcc'⟩
    · rintro W W' ⟨⟨c, hc, hl, hd⟩, hcc⟩ hk hcc'
      refine ⟨⟨c, ?_, hk.noncell hcc hl rfl, hk.noncell hcc hd rfl⟩, hcc'⟩
      rcases hc with ⟨e, L, hL, hs⟩ | ⟨id, L, e, hL, hs⟩
      · exact .inl ⟨e, L, hL, stp (hΛr L hL) hs hcc hk⟩
      · exact .inr ⟨id, L, e, hL, stp (hΛx id L hL) hs hcc hk⟩
    · rintro k W args hkM ⟨⟨⟨hs, hl, hd⟩, hc⟩, hcc⟩ hargs'
      have hla : args.length = ps.length := by rw [← hargs'.length, hps k]
      have hy := run_yield (P := P) (args := args.toArray) hl (by rw [hrec]; simpa using hla)
      rw [hrec] at hy
      have hlt : w.heap.size + 1 < W.heap.size := (Array.getElem?_eq_some_iff.1 hl).1
      have hBW : B ≤ W.heap.size := by have := hs.base.size; omega
      have hzip : (ps.toArray.zip args.toArray).foldl (fun (t : Array Value) (x : Nat × Value) => t.setIfInBounds x.1 x.2) a.tmps = (ps.zip args).foldl (fun t x => t.setIfInBounds x.1 x.2) a.tmps := by
        rw [List.zip_toArray, List.foldl_toArray]
      obtain ⟨z1, z2, z3⟩ := set_all (ps.zip args) a.tmps
      have hfst : (ps.zip args).map Prod.fst = ps := by rw [List.map_fst_zip]; omega
      rw [hfst] at z2 z3
      refine ⟨fn, _, assign, body, hy, roundIn_of_wpIn hfn ?_⟩
      have hst1 : St B (rndB B Db gb W W) N (Γ ++ (ps.zip (Y k) ++ (Λ k).map fun l => (l.s, EqV (a.eval (.tmp l.s))))) (Λ k) { tmps := (ps.zip args).foldl (fun t x => t.setIfInBounds x.1 x.2) a.tmps, defers := [] } W := by
        have hold : ∀ s, s ∉ ps → ({ tmps := (ps.zip args).foldl (fun t x => t.setIfInBounds x.1 x.2) a.tmps, defers := [] } : Act).eval (.tmp s) = a.eval (.tmp s) := fun s hs' => by
          rw [eval_tmp, eval_tmp]
          show ((_ : Array Value)[s]?).getD undef = _
          rw [z2 s hs']
        refine ⟨fun g hg => ?_, DefOk.nil rfl, by rw [z1]; exact hs.size, Kept.refl _, fun x hx => ?_, fun m hm => ?_, fun m hm m' hm' hne => ?_⟩
        · rcases hg with hg | hg
          · exact Nat.le_trans hBW hg
          · exact hg.1
        · rcases List.mem_append.1 hx with hx | hx
          · rw [hold _ (hΓ' x hx).2.2]
            exact hs.vals x hx
          · rcases List.mem_append.1 hx with hx | hx
            · obtain ⟨i, hi⟩ := List.getElem?_of_mem hx
              obtain ⟨p, A, e1, e2, rfl⟩ : ∃ p A, ps[i]? = some p ∧ (Y k)[i]? = some A ∧ x = (p, A) := by
                rw [List.getElem?_zip_eq_some] at hi
                exact ⟨x.1, x.2, hi.1, hi.2, rfl⟩
              obtain ⟨v, hv1, hv2⟩ := hargs'.get e2
              have hm : (p, v) ∈ ps.zip args := List.mem_of_getElem? (i := i) (by rw [List.getElem?_zip_eq_some]; exact ⟨e1, hv1⟩)
              have hpl : p < a.tmps.size := by
                rw [hs.size]
                have := List.all_eq_true.1 hpN p (List.mem_of_getElem? e1)
                simpa using this
              show A.p B _ W
              rw [eval_tmp]
              show A.p B (((_ : Array Value)[p]?).getD undef) W
              rw [z3 hnd (p, v) hm hpl]
              exact hv2
            · obtain ⟨m, hm, rfl⟩ := List.mem_map.1 hx
              exact hold m.s (hΛ' k m hm).2.1
        · obtain ⟨g, cs, e1, e2, e3, e4⟩ := hs.locs m hm
          exact ⟨g, cs, (hold m.s (hΛ' k m hm).2.1).trans e1, .inr ⟨h.lo g e2, .inr ⟨hdis m.s (by have := List.all_eq_true.1 (hsl k) m hm; simpa using this) g (by rw [e1]; exact m.H.ok g), _, _, _, e3, (hΛ' k m hm).2.2⟩⟩, e3, e4⟩
        · rw [hold m.s (hΛ' k m hm).2.1, hold m'.s (hΛ' k m' hm').2.1]
          exact hs.dis m hm m' hm' hne
      have hasg := hround (w.heap.size + 1) k _ W hkM hBW hcc hst1
      rw [← hzip] at hasg
      refine wpIn_mono hasg ?_
      rintro e a2 W2 hq
      cases e with
      | normal =>
        obtain ⟨hk2, hbody⟩ := hq
        have hnF : ∀ {j : Nat} {o : Obj}, W.heap[j]? = some o → o.isCells = false → ¬ (rndB B Db gb W W).F j := fun {j o} hj ho hF => by
          rcases hF.2 with h4 | ⟨_, c, T, fz, h4, _⟩
          · have := (Array.getElem?_eq_some_iff.1 hj).1; omega
          · rw [hj] at h4; injection h4 with h4; subst h4; cases ho
        have hl2 : W2.heap[w.heap.size + 1]? = some (.loop (rec .ready none)) := (hk2.block _ hlt (hnF hl rfl)).trans hl
        have hlt2 := (Array.getElem?_eq_some_iff.1 hl2).1
        refine ⟨_, run_beginRound hl2 (by rw [hrec]), ?_⟩
        obtain ⟨W3, hW3⟩ : ∃ W3, W2.putObj (w.heap.size + 1) (.loop { rec .ready none with state := .busy }) = W3 := ⟨_, rfl⟩
        rw [hW3]
        have hl3 : W3.heap[w.heap.size + 1]? = some (.loop { rec .ready none with state := .busy }) := by rw [← hW3]; exact World.putObj_heap_same hlt2
        have hc0 : ∀ j, j < W.heap.size → j ≠ w.heap.size + 1 → ¬ (rndB B Db gb W W3).F j → W3.heap[j]? = W.heap[j]? := fun j hj hne hF => by rw [← hW3]; exact (World.putObj_heap_other hne).trans (hk2.block j hj hF)
        have hsz3 : W.heap.size ≤ W3.heap.size := by rw [← hW3, World.putObj_size]; exact hk2.size
        have ho3 : W3.os = W.os ∧ W3.tape = W.tape ∧ W3.output = W.output := by rw [← hW3]; exact ⟨hk2.os, hk2.tape, hk2.output⟩
        refine wpIn_mono (hbody W3 ⟨_, _, hl2, hW3.symm⟩) ?_
        rintro e a3 W4 hp
        have fin : ∀ {L : List Lc} (jump : Option Code), REnd B N (rndB B Db gb W W3) a L a3 W4 → ∃ W5, (Instr.endRound (w.heap.size + 1) jump).run P W4 = .ok (.bool jump.isNone) W5 ∧ St B w0 N Γ L a W5 ∧ W5.heap[w.heap.size + 1]? = some (.loop (rec (if jump.isNone then .ready else .done) jump)) ∧ W5.heap[w.heap.size]? = some (.deferred (some [])) ∧ (jump = none → Stp B Db gb W W5) ∧ CellsT (caps.map Prod.fst) gb W5 ∧ W.heap.size ≤ W5.heap.size ∧ (∀ D : Nat, W.heap[D]? = some (.deferred (some [])) → W5.heap[D]? = some (.deferred (some []))) := fun {L} jump hr => by
          obtain ⟨b1, b2, b3, b4, b5, b6, b7, b8⟩ := back k _ (if jump.isNone then .ready else .done) jump hs hl hd hc0 hsz3 ho3 hl3 hr
          have hrun := run_endRound (P := P) jump b1
          refine ⟨_, ?_, b2, b3, b4, (fun e => b5 (by rw [e]; rfl) e), (fun g hg => ?_), b7, b8⟩
          rotate_left
          · obtain ⟨c, T, fz, h5, h6⟩ := hcc g hg
            exact ⟨c, T, fz, (b6 g hg (Array.getElem?_eq_some_iff.1 h5).1 (hgl g hg)).trans h5, h6⟩
          rw [hrun, hrec]
        cases e with
        | normal =>
          obtain ⟨hci, hr⟩ := hp
          obtain ⟨W5, f1, f2, f3, f4, f5, f6, _⟩ := fin none hr
          exact ⟨_, _, f1, .inl ⟨rfl, ⟨⟨⟨f2, f3, f4⟩, hci⟩, f6⟩, f5 rfl⟩⟩
        | ret =>
          obtain ⟨L, hL, hr⟩ := hp
          obtain ⟨W5, f1, f2, f3, f4, _, f6, f7, f8⟩ := fin (some .ret) hr
          exact ⟨_, _, f1, .inr ⟨rfl, ⟨⟨.ret, .inl ⟨rfl, L, hL, f2⟩, f3, f4⟩, f6⟩, f7, f8⟩⟩
        | exit id =>
          obtain ⟨L, hL, hr⟩ := hp
          obtain ⟨W5, f1, f2, f3, f4, _, f6, f7, f8⟩ := fin (some (.exit id)) hr
          exact ⟨_, _, f1, .inr ⟨rfl, ⟨⟨.exit id, .inr ⟨id, L, rfl, hL, f2⟩, f3, f4⟩, f6⟩, f7, f8⟩⟩
        | goto t => exact hp.elim
        | panic ch => exact hp.elim
        | outgrown => exact hp.elim
      | exit id => exact hq.elim
      | goto t => exact hq.elim
      | ret => exact hq.elim
      | panic ch => exact hq.elim
      | outgrown => exact hq.elim
    · have fin : ∀ {L : List Lc} {W : World} {st : LoopState} {pe : Option Code}, st ≠ .busy → St B w0 N Γ L a W → W.heap[w.heap.size + 1]? = some (.loop (rec st pe)) → W.heap[w.heap.size]? = some (.deferred (some [])) → ∃ W', (Instr.endLoop (w.heap.size + 1)).run P W = .ok pe W' ∧ St B w0 N Γ L { a with defers := [mark w.heap.size] ++ a.defers } W' := fun {L W st pe} hst hs hl hd => by
        have hrun := run_endLoop (P := P) hl (by rw [hrec]; exact hst)
        have hpe : (rec st pe).pending = pe := by rw [hrec]
        refine ⟨W.putObj (w.heap.size + 1) (.loop { rec st pe with state := .exhausted }), hrun.trans (congrArg (fun x => Result.ok x _) hpe), ?_⟩
        have h5 := hs.put (o' := .loop { rec st pe with state := .exhausted }) hl rfl (by simp) (by omega)
        refine ⟨h5.lo, ⟨fun d hd' => ?_, ?_, fun hn => by rw [hN0] at hn; cases hn⟩, h5.size, h5.base, h5.vals, h5.locs, h5.dis⟩
        · rcases List.mem_cons.1 hd' with rfl | hd'
          · exact ⟨_, rfl, .inl hws, (World.putObj_heap_other (by omega)).trans hd⟩
          · exact h5.defers.all d hd'
        · refine List.nodup_cons.2 ⟨fun hm => ?_, h5.defers.nodup⟩
          obtain ⟨D, e1, _, e3⟩ := h.defers.all _ hm
          have e1' : w.heap.size = D := by
            have := congrArg Deferred.target e1
            simpa using this
          rw [← e1'] at e3
          have := (Array.getElem?_eq_some_iff.1 e3).1
          omega
      rintro e W ⟨v, rfl, (⟨⟨⟨hs, hl, hd⟩, _⟩, _⟩ | ⟨⟨c, hc, hl, hd⟩, _⟩)⟩
      · obtain ⟨W', f1, f2⟩ := fin (by simp) hs hl hd
        exact ⟨none, W', f1, hdone _ _ f2⟩
      · rcases hc with ⟨rfl, L, hL, hs⟩ | ⟨id, L, rfl, hL, hs⟩
        · obtain ⟨W', f1, f2⟩ := fin (by simp) hs hl hd
          exact ⟨some .ret, W', f1, wpIn_ret (hret L hL _ _ f2)⟩
        · obtain ⟨W', f1, f2⟩ := fin (by simp) hs hl hd
          exact ⟨some (.exit id), W', f1, wpIn_exit (hexit id L hL _ _ f2)⟩
end

end Go.Proofs.YtgjolcbehcjhcaaGreat
