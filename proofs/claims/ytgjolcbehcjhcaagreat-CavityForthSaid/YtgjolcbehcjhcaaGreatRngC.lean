/- An iterator of its own: its walk; where it calls yield. Variables that hold a row of their own. -/
import Derived.Test.YtgjolcbehcjhcaaGreatRngB
namespace Go.Proofs.YtgjolcbehcjhcaaGreat
open Go Go.RowKit
namespace RngC

end RngC
open RngC
theorem anc_all {anc : List (List Nat)} {n m : Nat} (h : (List.range m).all (fun q => (List.range (n + q)).all fun j => (anc.getD (n + q) []).contains j) = true) : ∀ i, n ≤ i → i < n + m → ∀ j, j < i → (anc.getD i []).contains j = true := fun i h1 h2 j hj => by
  have := List.all_eq_true.1 (List.all_eq_true.1 h (i - n) (by simp; omega)) j (by simp; omega)
  rwa [show n + (i - n) = i by omega] at this

/-! the walk of an iterator -/
theorem calls_of_bF {P : Program} {f : FuncId} {fn : Func} {c : Code} {args : Array Value} {w : World} {R : Ending → World → Prop} (hf : P.funcs[f]? = some fn) (hb : fn.body = some c)
    (h : c.wpIn (fw none) 0 P (bPost P fn R) { tmps := args ++ Array.replicate (fn.ntmps - args.size) undef, defers := [] } w) : Calls P f args w R :=
  calls_of_b hf hb (wpIn_wide.1 h)
/-- the ground of an iterator, from a round's end on. -/
def itB (gs : List Nat) (w : World) : Bs := ⟨w, fun k => k ∈ gs, true⟩
def capsΛ (caps : List (TypeId × As)) : List Lc := caps.zipIdx.map fun x => ⟨x.2 + 1, x.1.1, ptrH, x.1.2⟩
def capsΓ (gs : List Nat) (n : Nat) : List (Nat × VA) := (List.range n).map fun i => (i + 1, EqV (ptr (gs.getD i 0)))
/-- where a walk of an iterator stands: so many rounds have been when its ground was laid. -/
structure ItG (B : Nat) (gs : List Nat) (Tc : List TypeId) (J : Nat → World → Prop) (k : Nat) (w0 : Bs) : Prop where
  eq : w0 = itB gs w0.w
  j : J k w0.w
  ge : ∀ g ∈ gs, B ≤ g
theorem nodup_at {α : Type} : ∀ {l : List α}, l.Nodup → ∀ {i j : Nat} {x : α}, l[i]? = some x → l[j]? = some x → i = j
  | [], _, _, _, _, h, _ => by cases h
  | y :: l, nd, i, j, x, hi, hj => by
    obtain ⟨n1, n2⟩ := List.nodup_cons.1 nd
    cases i with
    | zero => cases j with
      | zero => rfl
      | succ j =>
        have e1 : y = x := by simpa using hi
        have e2 : l[j]? = some x := by simpa using hj
        exact absurd (List.mem_of_getElem? e2) (by rw [← e1]; exact n1)
    | succ i => cases j with
      | zero =>
        have e1 : y = x := by simpa using hj
        have e2 : l[i]? = some x := by simpa using hi
        exact absurd (List.mem_of_getElem? e2) (by rw [← e1]; exact n1)
      | succ j => rw [nodup_at n2 (i := i) (j := j) (x := x) (by simpa using hi) (by simpa using hj)]
theorem ItC.intro {P : Program} {f : FuncId} {fn : Func} {c : Code} {caps : List (TypeId × As)} {Y : Nat → List VA} {inf : Bool} {M : Nat} {Dd : List TypeId} (hf : P.funcs[f]? = some fn) (hb : fn.body = some c) (hn : (fn.name == "runtime.NumGoroutine") = false) (hsz : caps.length + 1 ≤ fn.ntmps)
    (h : ∀ (l B : Nat) (gs : List Nat) (Db : List TypeId) (J : Nat → World → Prop) (Jx : World → Prop) (w0 : Bs) (a : Act), gs.length = caps.length → offD Db Dd = true → ItH P l B Db (caps.map Prod.fst) gs Y inf M J Jx → ItG B gs (caps.map Prod.fst) J 0 w0 →
      St B w0 fn.ntmps ((0, EqV (.func (.yield l) #[] #[])) :: capsΓ gs caps.length) (capsΛ caps) a w0.w → c.wpIn (fw none) 0 P (bPost P fn (fun e W' => ∃ v, e = .returned v ∧ (J M W' ∨ Jx W'))) a w0.w) : ItC P f caps Y inf M Dd := by
  refine ⟨⟨fn, hf, hn, by rw [hb]; rfl⟩, fun l B w gs Db J Jx hB hgn hcaps hoff hI hJ => calls_of_bF hf hb (h l B gs Db J Jx (itB gs w) _ hcaps.length.symm hoff hI ⟨rfl, hJ, (caps_cells hcaps).2⟩ ?_)⟩
  have hlen := hcaps.length
  have hev : ∀ i (hi : i < gs.length), ({ tmps := (Value.func (.yield l) #[] #[] :: gs.map ptr).toArray ++ Array.replicate (fn.ntmps - (Value.func (.yield l) #[] #[] :: gs.map ptr).toArray.size) undef, defers := [] } : Act).eval (.tmp (i + 1)) = ptr (gs.getD i 0) := fun i hi => by
    rw [eval_tmp]
    have h1 : (((Value.func (.yield l) #[] #[] :: gs.map ptr).toArray ++ Array.replicate (fn.ntmps - (Value.func (.yield l) #[] #[] :: gs.map ptr).toArray.size) undef : Array Value)[i + 1]?) = some (ptr (gs.getD i 0)) := by
      rw [Array.getElem?_append_left (by simp; omega)]
      simp [List.getD, hi]
    show ((_ : Array Value)[i + 1]?).getD undef = _
    rw [h1]
    rfl
  have hat : ∀ {i : Nat} {c : TypeId × As}, caps[i]? = some c → ∃ g, gs[i]? = some g ∧ g ∈ gs ∧ B ≤ g ∧ ∃ cs, w.heap[g]? = some (.cells (List.toArray cs) c.1 (0, 0)) ∧ c.2.p B cs w := fun {i c} hc => by
    obtain ⟨g, h1, h2⟩ := hcaps.get hc
    exact ⟨g, h1, List.mem_of_getElem? h1, h2⟩
  have hΛ : ∀ m ∈ capsΛ caps, ∃ i c g, caps[i]? = some c ∧ gs[i]? = some g ∧ m = ⟨i + 1, c.1, ptrH, c.2⟩ := fun m hm => by
    obtain ⟨x, hx, rfl⟩ := List.mem_map.1 hm
    have hx' := List.mem_zipIdx_iff_getElem?.1 hx
    obtain ⟨g, h1, _⟩ := hat hx'
    exact ⟨x.2, x.1, g, hx', h1, rfl⟩
  have hev' : ∀ {i g : Nat}, gs[i]? = some g → ({ tmps := (Value.func (.yield l) #[] #[] :: gs.map ptr).toArray ++ Array.replicate (fn.ntmps - (Value.func (.yield l) #[] #[] :: gs.map ptr).toArray.size) undef, defers := [] } : Act).eval (.tmp (i + 1)) = ptr g := fun {i g} hg => by
    rw [hev i (List.getElem?_eq_some_iff.1 hg).1]
    simp [List.getD, hg]
  refine ⟨fun g hg => ?_, DefOk.nil rfl, ?_, Kept.refl _, fun x hx => ?_, fun m hm => ?_, fun m hm m' hm' hne => ?_⟩
  · rcases hg with hg | hg
    · exact Nat.le_trans hB hg
    · exact (caps_cells hcaps).2 g hg
  · simp only [Array.size_append, List.size_toArray, Array.size_replicate, List.length_cons, List.length_map]
    omega
  · rcases List.mem_cons.1 hx with rfl | hx
    · show _ = _
      rw [eval_tmp]
      show ((_ : Array Value)[0]?).getD undef = _
      rw [Array.getElem?_append_left (by simp)]
      simp
    · obtain ⟨i, hi, rfl⟩ := List.mem_map.1 hx
      exact hev i (by rw [← hlen]; simpa using hi)
  · obtain ⟨i, c, g, h1, h2, rfl⟩ := hΛ m hm
    obtain ⟨g', h3, h4, _, cs, h5, h6⟩ := hat h1
    rw [h2] at h3
    injection h3 with h3
    subst h3
    exact ⟨g, cs, hev' h2, .inr h4, h5, h6⟩
  · obtain ⟨i, c, g, h1, h2, rfl⟩ := hΛ m hm
    obtain ⟨j, c', g', h3, h4, rfl⟩ := hΛ m' hm'
    show blk (Act.eval _ (.tmp (i + 1))) ≠ blk (Act.eval _ (.tmp (j + 1)))
    rw [hev' h2, hev' h4]
    intro e
    have e' : g = g' := by injection e
    subst e'
    exact hne (by rw [nodup_at hgn h2 h4])
/-- the facts that tell where the variables lie. -/
def CapIx (Γ : List (Nat × VA)) (Λ : List Lc) (gs : List Nat) : Nat → List TypeId → List (Nat × Nat) → Prop
  | _, [], [] => True
  | i, c :: cs, (x, y) :: ix => Γ[x]? = some (i + 1, EqV (ptr (gs.getD i 0))) ∧ (∃ A : As, Λ[y]? = some (⟨i + 1, c, ptrH, A⟩ : Lc)) ∧ CapIx Γ Λ gs (i + 1) cs ix
  | _, _, _ => False
section
open Rg
variable {P : Program} {Q : Exit → Act → World → Prop} {B N : Nat} {w0 : Bs} {Γ : List (Nat × VA)} {Λ : List Lc} {a : Act} {w : World}
/-- A CALL OF YIELD, of what a region's first operations have made: the world behind it. -/
theorem yield_at {R : Rg} {n m : Nat} {l : Nat} {Db Dd Tc : List TypeId} {gs : List Nat} {Y : Nat → List VA} {inf : Bool} {M k : Nat} {J : Nat → World → Prop} {Jx : World → Prop} (src : List Nat) (ix : List (Nat × Nat)) {d c : Nat} {xs : List Operand} {at_ : Array TypeId} {T1 : TypeId} {ps1 : String} {af1 : Array Edge}
    (hsz : R.ops.size = n + m) (hm : 0 < m) (hles : R.les = lesN Λ) (hancB : (List.range (n + 1)).all (fun i => (R.anc i).all fun j => decide (j < n)) = true)
    (ho1 : R.ops[n]? = some ⟨some d, .call ⟨.value (.tmp c), xs.toArray, at_⟩, T1, ps1, af1, none⟩) (hyv : Has R B w0 n (.tmp c) (EqV (.func (.yield l) #[] #[]))) (hx : HasL R B w0 n xs (Y k))
    (hoff : offD Db Dd = true) (hI : ItH P l B Db Tc gs Y inf M J Jx) (hG : ItG B gs Tc J k w0) (hkM : k < M) (hix : CapIx R.Γ Λ gs 0 Tc ix) (hgl : gs.length = Tc.length)
    (hixo : ix.all (fun x => match R.Γ[x.1]? with | some y => Rg.outG R y.1 | none => false) = true)
    (hsrc : src.all (fun k => match R.Γ[k]? with | some y => y.2.deps.all Dd.contains && Rg.outG R y.1 | none => false) = true)
    (hΛ : Λ.all (fun l => l.A.deps.all Dd.contains && decide (1 ≤ l.s) && decide (l.s ≤ Tc.length) && l.s != d) = true)
    {a1 : Act} {w1 : World} (hinv : R.Inv B w0 (fun k => decide (k < n)) a1 w1) (K : Act → World → Prop) (hd : d < R.N)
    (hK : ∀ w0' a' W', ItG B gs Tc J (k + 1) w0' → St B w0' R.N ((d, Bo true) :: src.filterMap (fun k => R.Γ[k]?)) Λ a' W' → W' = w0'.w → K a' W') (hKx : ∀ w0' a' W', w0' = itB gs W' → Jx W' → St B w0' R.N [(d, Bo false)] [] a' W' → K a' W') :
    wpOpIn (fw none) 0 P R.ops Q n K a1 w1 := by
  have hcl : ∀ deps, Rg.clash R (fun k => decide (k < n)) deps = false := fun deps => by
    unfold Rg.clash
    rw [List.any_eq_false]
    intro y hy
    rw [hles] at hy
    obtain ⟨l', _, rfl⟩ := List.mem_map.1 hy
    simp
  have hclo : Rg.Closed R (fun k => decide (k < n)) := fun i hi j hj => by
    have hi' : i < n := of_decide_eq_true hi
    have := List.all_eq_true.1 (List.all_eq_true.1 hancB i (by simp; omega)) j (by simpa using hj)
    simpa using this
  have av : R.Av B w0 n a1 w1 := hinv.av hclo (by simp) fun j hj => by
    have := List.all_eq_true.1 (List.all_eq_true.1 hancB n (by simp)) j (by simpa using hj)
    simpa using this
  have hcv : a1.eval (.tmp c) = .func (.yield l) #[] #[] := hyv a1 w1 av
  have hargs := hx.all av
  have hout : ∀ t, Rg.outG R t = true → ∀ q, q < R.ops.size → R.dst q ≠ some t := fun t ht q hq => by
    have := List.all_eq_true.1 ht q (by simpa using hq)
    simpa using this
  have hg : ∀ (k : Nat) (y : Nat × VA), R.Γ[k]? = some y → Rg.outG R y.1 = true → y.2.p B (a1.eval (.tmp y.1)) w1 := fun k y hk ho => hinv.g y (List.mem_of_getElem? hk) (fun q hq hdq => absurd hdq (hout _ ho q hq)) (hcl _)
  have hcur : ∀ l' ∈ Λ, LcOk B w0.may l'.s l'.T l'.H l'.A a1 w1 := fun l' hl' => hinv.c ⟨l'.s, l'.T, l'.H, none, l'.A, none⟩ (by rw [hles]; exact List.mem_map.2 ⟨l', hl', rfl⟩) l'.A rfl
  have hixg : ∀ {x y : Nat} , (x, y) ∈ ix → ∀ {z : Nat × VA}, R.Γ[x]? = some z → Rg.outG R z.1 = true := fun {x y} hxy {z} hz => by
    have := List.all_eq_true.1 hixo (x, y) hxy
    rw [hz] at this
    exact this
  -- the variables' names
  have key : ∀ {i : Nat} {cs : List TypeId} {ix' : List (Nat × Nat)}, CapIx R.Γ Λ gs i cs ix' → (∀ p ∈ ix', p ∈ ix) → ∀ j, j < cs.length → a1.eval (.tmp (i + j + 1)) = ptr (gs.getD (i + j) 0) ∧ ∃ c A, (⟨i + j + 1, c, ptrH, A⟩ : Lc) ∈ Λ ∧ c ∈ cs := by
    intro i cs ix'
    induction cs generalizing i ix' with
    | nil => intro _ _ j hj; cases hj
    | cons c cs ih =>
      intro h1 h2 j hj
      cases ix' with
      | nil => exact h1.elim
      | cons p ix'' =>
        obtain ⟨x, y⟩ := p
        obtain ⟨e1, ⟨A, e2⟩, e3⟩ := h1
        cases j with
        | zero => exact ⟨hg x _ e1 (hixg (h2 (x, y) (by simp)) e1), c, A, List.mem_of_getElem? e2, by simp⟩
        | succ j =>
          obtain ⟨q1, c', A', q2, q3⟩ := ih e3 (fun p hp => h2 p (List.mem_cons_of_mem _ hp)) j (by simpa using hj)
          rw [show i + 1 + j = i + (j + 1) by omega] at q1 q2
          exact ⟨q1, c', A', q2, by simp [q3]⟩
  have hnm : ∀ j, j < Tc.length → a1.eval (.tmp (j + 1)) = ptr (gs.getD j 0) ∧ ∃ c A, (⟨j + 1, c, ptrH, A⟩ : Lc) ∈ Λ ∧ c ∈ Tc := fun j hj => by
    have := key hix (fun p hp => hp) j hj
    simpa using this
  have hct1 : CellsT Tc gs w1 := fun g hg' => by
    obtain ⟨j, hj⟩ := List.getElem?_of_mem hg'
    have hjl := (List.getElem?_eq_some_iff.1 hj).1
    obtain ⟨e1, c', A', e2, e3⟩ := hnm j (by omega)
    obtain ⟨g2, cs, f1, _, f3, _⟩ := hcur _ e2
    have : g2 = g := by
      have f1' : a1.eval (.tmp (j + 1)) = ptr g2 := f1
      rw [e1] at f1'
      have : gs.getD j 0 = g := by simp [List.getD, hj]
      rw [this] at f1'
      injection f1' with f1'
      injection f1' with f1'
      injection f1' with f1'
      exact f1'.symm
    subst this
    exact ⟨_, _, _, f3, e3⟩
  have hbase : StpI gs w0.w w1 := by
    have := hinv.base
    rw [hG.eq] at this
    exact this
  have hJ1 : J k w1 := hI.st k _ _ hG.j hbase hct1
  obtain ⟨fn, tmps, assign, body, hy, hR⟩ := hI.yd k w1 _ hkM hJ1 hargs
  have hdf : a1.defers = [] := hinv.defers.none (by rw [hG.eq]; rfl)
  have hB1 : B ≤ w1.heap.size := Nat.le_trans (hinv.lo _ (.inl (Nat.le_refl _))) hinv.base.size
  have hNs : a1.tmps.size = R.N := hinv.size
  have hrun : (execOp a1.eval ⟨some d, .call ⟨.value (.tmp c), xs.toArray, at_⟩, T1, ps1, af1, none⟩).run P w1 = .ok (.round l fn tmps assign body) w1 := by
    have hy' : (Instr.yield l (xs.map a1.eval).toArray).run P w1 = .ok (.round l fn tmps assign body) w1 := hy
    simp only [execOp, resolve, hcv, Deferred.ofValue, Sem.run_bind, Sem.run_pure, Result.andThen_ok, invoke]
    simpa using hy'
  have hwant : Region.wanted (⟨some d, .call ⟨.value (.tmp c), xs.toArray, at_⟩, T1, ps1, af1, none⟩ : Oper) (yielded R.ops a1.tmps) = true := rfl
  unfold wpOpIn
  rw [ho1]
  simp only [hwant, if_true]
  refine ⟨fun _ _ => trivial, ?_⟩
  rw [show Oper.semAt (fw none).round a1.eval _ = execOp a1.eval _ from rfl, hrun]
  refine ⟨fun hh => (by cases hh), ?_⟩
  refine RoundIn.mono hR ?_
  have hsl : ∀ l' ∈ Λ, (∀ T ∈ l'.A.deps, T ∈ Dd) ∧ 1 ≤ l'.s ∧ l'.s ≤ Tc.length ∧ l'.s ≠ d := fun l' hl' => by
    have := List.all_eq_true.1 hΛ l' hl'
    simp only [Bool.and_eq_true, decide_eq_true_eq, bne_iff_ne, List.all_eq_true, List.contains_eq_mem] at this
    exact ⟨this.1.1.1, this.1.1.2, this.1.2, this.2⟩
  have hoffD : ∀ {deps : List TypeId}, (∀ T ∈ deps, T ∈ Dd) → ∀ T ∈ Db, T ∉ deps := fun {deps} hh T hT hm => offD_ok hoff T hT (hh T hm)
  rintro e W' (⟨rfl, hJ', hs⟩ | ⟨rfl, hJx, hsz', hdk⟩)
  · refine hK (itB gs W') _ W' ⟨rfl, hJ', hG.ge⟩ ⟨fun g hg' => ?_, DefOk.nil hdf, by rw [size_put]; exact hNs, Kept.refl _, fun y hy' => ?_, fun l' hl' => ?_, fun l1 hl1 l2 hl2 hne => ?_⟩ rfl
    · rcases hg' with hg' | hg'
      · have h1 : w1.heap.size ≤ W'.heap.size := hs.size
        have h2 : W'.heap.size ≤ g := hg'
        omega
      · exact hG.ge g hg'
    · rcases List.mem_cons.1 hy' with rfl | hy'
      · show (BoA true).va.p B ((a1.put (some d) _).eval (.tmp d)) W'
        rw [eval_put_same _ _ _ (by rw [hNs]; exact hd)]
        exact val_bo true _ _
      · obtain ⟨k', hk1, hk2⟩ := List.mem_filterMap.1 hy'
        have hs' := List.all_eq_true.1 hsrc k' hk1
        simp only [hk2, Bool.and_eq_true, List.all_eq_true, List.contains_eq_mem, decide_eq_true_eq] at hs'
        have hne : y.1 ≠ d := fun e => hout y.1 hs'.2 n (by omega) (by unfold Rg.dst; rw [ho1, e]; rfl)
        rw [eval_put_other _ _ _ _ hne]
        exact VA.stp (hg k' y hk2 hs'.2) hs (Nat.le_refl _) (hoffD hs'.1)
    · obtain ⟨h1, h2, h3, h4⟩ := hsl l' hl'
      obtain ⟨g, cs, f1, f2, f3, f4⟩ := hcur l' hl'
      obtain ⟨e1, _⟩ := hnm (l'.s - 1) (by omega)
      rw [show l'.s - 1 + 1 = l'.s by omega] at e1
      have hgb : blk (a1.eval (.tmp l'.s)) = some g := by rw [f1]; exact l'.H.ok g
      have hgm : g ∈ gs := by
        rw [e1] at hgb
        have : gs.getD (l'.s - 1) 0 = g := by injection hgb
        rw [← this]
        simp only [List.getD]
        rw [List.getElem?_eq_getElem (by omega)]
        exact List.getElem_mem _
      exact ⟨g, cs, by rw [eval_put_other _ _ _ _ h4]; exact f1, .inr hgm, hs.held f3 hgm, As.stp f4 hs (Nat.le_refl _) (hoffD h1)⟩
    · rw [eval_put_other _ _ _ _ (hsl l1 hl1).2.2.2, eval_put_other _ _ _ _ (hsl l2 hl2).2.2.2]
      exact hinv.x ⟨l1.s, l1.T, l1.H, none, l1.A, none⟩ (by rw [hles]; exact List.mem_map.2 ⟨l1, hl1, rfl⟩) ⟨l2.s, l2.T, l2.H, none, l2.A, none⟩ (by rw [hles]; exact List.mem_map.2 ⟨l2, hl2, rfl⟩) hne rfl rfl
  · refine hKx (itB gs W') _ W' rfl hJx ⟨fun g hg' => ?_, DefOk.nil hdf, by rw [size_put]; exact hNs, Kept.refl _, fun y hy' => ?_, (fun _ h => by cases h), (fun _ h => by cases h)⟩
    · rcases hg' with hg' | hg'
      · have h2 : W'.heap.size ≤ g := hg'
        omega
      · exact hG.ge g hg'
    · obtain rfl := List.mem_singleton.1 hy'
      show (BoA false).va.p B ((a1.put (some d) _).eval (.tmp d)) W'
      rw [eval_put_same _ _ _ (by rw [hNs]; exact hd)]
      exact val_bo false _ _
/-- an operation that makes a truth of a truth, behind it. -/
theorem op_truth {ops : Array Oper} {i d e : Nat} {op : Op} {T : TypeId} {ps : String} {af : Array Edge} {φ : Bool → Bool} {b : Bool} {K : Act → World → Prop} {L : List Lc} (ho : ops[i]? = some ⟨some e, op, T, ps, af, none⟩) (hop : ∀ (a : Act) w b, a.eval (.tmp d) = .bool b → (execOp a.eval ⟨some e, op, T, ps, af, none⟩).run P w = .ok (.value (.bool (φ b))) w)
    (hnd : noDefer ops = true) (he : e < N) (_hed : e ≠ d) (hΓ : Γ.all (fun x => x.1 != e) = true) (hL : L.all (fun l => l.s != e) = true) (h : St B w0 N ((d, Bo b) :: Γ) L a w) (hK : ∀ a', St B w0 N ((e, Bo (φ b)) :: Γ) L a' w → K a' w) : wpOpIn (fw none) 0 P ops Q i K a w := by
  unfold wpOpIn
  rw [ho]
  have hwant : Region.wanted (⟨some e, op, T, ps, af, none⟩ : Oper) (yielded ops a.tmps) = true := rfl
  simp only [hwant, if_true]
  refine ⟨fun _ _ => trivial, ?_⟩
  rw [Oper.semAt_eq _ _ _ (noDefer_at hnd ho), hop a w b (bo_val (h.vals _ List.mem_cons_self))]
  refine hK _ ⟨h.lo, h.defers.keep rfl (fun _ h => h), by rw [size_put]; exact h.size, h.base, fun x hx => ?_, fun l hl => ?_, fun l hl m hm hne => ?_⟩
  · rcases List.mem_cons.1 hx with rfl | hx
    · show (BoA (φ b)).va.p B ((a.put (some e) _).eval (.tmp e)) w
      rw [eval_put_same _ _ _ (by rw [h.size]; exact he)]
      exact val_bo _ _ _
    · have := List.all_eq_true.1 hΓ x hx
      rw [eval_put_other _ _ _ _ (by simpa using this)]
      exact h.vals x (List.mem_cons_of_mem _ hx)
  · have := List.all_eq_true.1 hL l hl
    exact (h.locs l hl).eval (eval_put_other _ _ _ _ (by simpa using this))
  · have h1 := List.all_eq_true.1 hL l hl
    have h2 := List.all_eq_true.1 hL m hm
    rw [eval_put_other _ _ _ _ (by simpa using h1), eval_put_other _ _ _ _ (by simpa using h2)]
    exact h.dis l hl m hm hne
theorem not_op {e d : Nat} {T T' : TypeId} {ps : String} {af : Array Edge} : ∀ (a : Act) (w : World) (b : Bool), a.eval (.tmp d) = .bool b → (execOp a.eval ⟨some e, .unOp .not T (.tmp d), T', ps, af, none⟩).run P w = .ok (.value (.bool (!b))) w := fun a w b h => by
  simp [execOp, h]
  rfl
theorem asg_op {e d : Nat} {T' : TypeId} {ps : String} {af : Array Edge} : ∀ (a : Act) (w : World) (b : Bool), a.eval (.tmp d) = .bool b → (execOp a.eval ⟨some e, .assign (.tmp d), T', ps, af, none⟩).run P w = .ok (.value (.bool b)) w := fun a w b h => by
  simp [execOp, h]

theorem go_yield1 {id : Nat} {ops : Array Oper} {sp : List Sp} (n : Nat) (src : List Nat) (ix : List (Nat × Nat)) {l : Nat} {Db Dd Tc : List TypeId} {gs : List Nat} {Y : Nat → List VA} {inf : Bool} {M k : Nat} {J : Nat → World → Prop} {Jx : World → Prop} {d c : Nat} {xs : List Operand} {at_ : Array TypeId} {T1 : TypeId} {ps1 : String} {af1 : Array Edge} 
    (h : St B w0 N Γ Λ a w) (hob : Obs P Q ⟨ops, N, Γ, lesN Λ, sp, fun i => List.range i⟩ B w0 0 n) (hsz : ops.size = n + 1) (hk : Rg.chk ⟨ops, N, Γ, lesN Λ, sp, fun i => List.range i⟩ = true) (hancB : (List.range (n + 1)).all (fun i => (List.range i).all fun j => decide (j < n)) = true)
    (ho1 : ops[n]? = some ⟨some d, .call ⟨.value (.tmp c), xs.toArray, at_⟩, T1, ps1, af1, none⟩) (hyv : Has ⟨ops, N, Γ, lesN Λ, sp, fun i => List.range i⟩ B w0 n (.tmp c) (EqV (.func (.yield l) #[] #[]))) (hx : HasL ⟨ops, N, Γ, lesN Λ, sp, fun i => List.range i⟩ B w0 n xs (Y k))
    (hoff : offD Db Dd = true) (hI : ItH P l B Db Tc gs Y inf M J Jx) (hG : ItG B gs Tc J k w0) (hkM : k < M) (hix : CapIx Γ Λ gs 0 Tc ix) (hgl : gs.length = Tc.length)
    (hixo : ix.all (fun x => match Γ[x.1]? with | some y => Rg.outG ⟨ops, N, Γ, lesN Λ, sp, fun i => List.range i⟩ y.1 | none => false) = true)
    (hsrc : src.all (fun k => match Γ[k]? with | some y => y.2.deps.all Dd.contains && Rg.outG ⟨ops, N, Γ, lesN Λ, sp, fun i => List.range i⟩ y.1 | none => false) = true)
    (hΛ : Λ.all (fun l => l.A.deps.all Dd.contains && decide (1 ≤ l.s) && decide (l.s ≤ Tc.length) && l.s != d) = true) (hnd : noDefer ops = true) (hQ0 : ¬ LetsOut Q) (hd : d < N)
    (hQ : ∀ w0 a w, ItG B gs Tc J (k + 1) w0 → St B w0 N ((d, Bo (true)) :: src.filterMap (fun k => Γ[k]?)) Λ a w → w = w0.w → Q .normal a w) (hQx : ∀ w0 a w, w0 = itB gs w → Jx w → St B w0 N [(d, Bo (false))] [] a w → Q .normal a w) :
    (Code.region id ops false).wpIn (fw none) 0 P Q a w := by
  have hles0 : ∀ y ∈ lesN Λ, y.cr = none ∧ (⟨y.s, y.T, y.H, y.A0⟩ : Lc) ∈ Λ := fun y hy => by
    obtain ⟨l', hl', rfl⟩ := List.mem_map.1 hy
    exact ⟨rfl, hl'⟩
  refine Rg.linKF (R := ⟨ops, N, Γ, lesN Λ, sp, fun i => List.range i⟩) (m := 1) hnd hQ0 hsz rfl hk h (fun y hy _ => (hles0 y hy).2) (fun i hi => hob.all i (by omega) (by omega)) fun a1 w1 hinv => ?_
  rw [show List.range' n 1 = [n] from rfl]
  rw [wpOpsIn_cons]
  exact yield_at (R := ⟨ops, N, Γ, lesN Λ, sp, fun i => List.range i⟩) (m := 1) src ix hsz (by decide) rfl hancB ho1 hyv hx hoff hI hG hkM hix hgl hixo hsrc hΛ hinv _ hd hQ hQx
theorem go_yield2 {id : Nat} {ops : Array Oper} {sp : List Sp} (n : Nat) (src : List Nat) (ix : List (Nat × Nat)) {l : Nat} {Db Dd Tc : List TypeId} {gs : List Nat} {Y : Nat → List VA} {inf : Bool} {M k : Nat} {J : Nat → World → Prop} {Jx : World → Prop} {d c e : Nat} {xs : List Operand} {at_ : Array TypeId} {T1 T3 : TypeId} {ps1 ps2 : String} {af1 af2 : Array Edge} {op : Op} (φ : Bool → Bool)
    (h : St B w0 N Γ Λ a w) (hob : Obs P Q ⟨ops, N, Γ, lesN Λ, sp, fun i => List.range i⟩ B w0 0 n) (hsz : ops.size = n + 2) (hk : Rg.chk ⟨ops, N, Γ, lesN Λ, sp, fun i => List.range i⟩ = true) (hancB : (List.range (n + 1)).all (fun i => (List.range i).all fun j => decide (j < n)) = true)
    (ho1 : ops[n]? = some ⟨some d, .call ⟨.value (.tmp c), xs.toArray, at_⟩, T1, ps1, af1, none⟩) (ho2 : ops[n + 1]? = some ⟨some e, op, T3, ps2, af2, none⟩) (hop : ∀ (a : Act) w b, a.eval (.tmp d) = .bool b → (execOp a.eval ⟨some e, op, T3, ps2, af2, none⟩).run P w = .ok (.value (.bool (φ b))) w) (he : e < N) (hed : e ≠ d) (hyv : Has ⟨ops, N, Γ, lesN Λ, sp, fun i => List.range i⟩ B w0 n (.tmp c) (EqV (.func (.yield l) #[] #[]))) (hx : HasL ⟨ops, N, Γ, lesN Λ, sp, fun i => List.range i⟩ B w0 n xs (Y k))
    (hoff : offD Db Dd = true) (hI : ItH P l B Db Tc gs Y inf M J Jx) (hG : ItG B gs Tc J k w0) (hkM : k < M) (hix : CapIx Γ Λ gs 0 Tc ix) (hgl : gs.length = Tc.length)
    (hixo : ix.all (fun x => match Γ[x.1]? with | some y => Rg.outG ⟨ops, N, Γ, lesN Λ, sp, fun i => List.range i⟩ y.1 | none => false) = true)
    (hsrc : src.all (fun k => match Γ[k]? with | some y => y.2.deps.all Dd.contains && Rg.outG ⟨ops, N, Γ, lesN Λ, sp, fun i => List.range i⟩ y.1 | none => false) = true)
    (hΛ : Λ.all (fun l => l.A.deps.all Dd.contains && decide (1 ≤ l.s) && decide (l.s ≤ Tc.length) && l.s != d && l.s != e) = true) (hnd : noDefer ops = true) (hQ0 : ¬ LetsOut Q) (hd : d < N)
    (hQ : ∀ w0 a w, ItG B gs Tc J (k + 1) w0 → St B w0 N ((e, Bo (φ true)) :: src.filterMap (fun k => Γ[k]?)) Λ a w → w = w0.w → Q .normal a w) (hQx : ∀ w0 a w, w0 = itB gs w → Jx w → St B w0 N [(e, Bo (φ false))] [] a w → Q .normal a w) :
    (Code.region id ops false).wpIn (fw none) 0 P Q a w := by
  have hles0 : ∀ y ∈ lesN Λ, y.cr = none ∧ (⟨y.s, y.T, y.H, y.A0⟩ : Lc) ∈ Λ := fun y hy => by
    obtain ⟨l', hl', rfl⟩ := List.mem_map.1 hy
    exact ⟨rfl, hl'⟩
  refine Rg.linKF (R := ⟨ops, N, Γ, lesN Λ, sp, fun i => List.range i⟩) (m := 2) hnd hQ0 hsz rfl hk h (fun y hy _ => (hles0 y hy).2) (fun i hi => hob.all i (by omega) (by omega)) fun a1 w1 hinv => ?_
  rw [show List.range' n 2 = [n, n + 1] from rfl]
  rw [wpOpsIn_cons]
  have hout : ∀ k', k' ∈ src → ∀ y, Γ[k']? = some y → y.1 ≠ e := fun k' hk' y hy => by
    have := List.all_eq_true.1 hsrc k' hk'
    rw [hy, Bool.and_eq_true] at this
    have h2 := List.all_eq_true.1 this.2 (n + 1) (by simp [hsz])
    intro e'
    simp only [Rg.dst, ho2, Option.bind_some, e', bne_self_eq_false] at h2
    exact absurd h2 (by decide)
  have hΛ' : Λ.all (fun l => l.s != e) = true := List.all_eq_true.2 fun l hl => by
    have := List.all_eq_true.1 hΛ l hl
    simp only [Bool.and_eq_true] at this
    exact this.2
  refine yield_at (R := ⟨ops, N, Γ, lesN Λ, sp, fun i => List.range i⟩) (m := 2) src ix hsz (by decide) rfl hancB ho1 hyv hx hoff hI hG hkM hix hgl hixo hsrc (List.all_eq_true.2 fun l hl => ?_) hinv _ hd (fun w0' a' W' hG' hst hw => ?_) fun w0' a' W' hw hJx hst => ?_
  · have := List.all_eq_true.1 hΛ l hl
    simp only [Bool.and_eq_true] at this ⊢
    exact this.1
  · rw [wpOpsIn_cons]
    refine op_truth (φ := φ) ho2 hop hnd he hed (List.all_eq_true.2 fun x hx => ?_) hΛ' hst fun a' hst => hQ w0' a' W' hG' hst hw
    obtain ⟨k', hk1, hk2⟩ := List.mem_filterMap.1 hx
    simpa using hout k' hk1 x hk2
  · rw [wpOpsIn_cons]
    exact op_truth (φ := φ) ho2 hop hnd he hed rfl rfl hst fun a' hst => hQx w0' a' W' hw hJx hst
theorem go_yieldD2 {id : Nat} {ops : Array Oper} {sp : List Sp} (anc : List (List Nat)) (n : Nat) (src : List Nat) (ix : List (Nat × Nat)) {l : Nat} {Db Dd Tc : List TypeId} {gs : List Nat} {Y : Nat → List VA} {inf : Bool} {M k : Nat} {J : Nat → World → Prop} {Jx : World → Prop} {d c e : Nat} {xs : List Operand} {at_ : Array TypeId} {T1 T3 : TypeId} {ps1 ps2 : String} {af1 af2 : Array Edge} {op : Op} (φ : Bool → Bool)
    (hmx : P.follows .mixedOrders = true) (h : St B w0 N Γ Λ a w) (hob : Obs P Q ⟨ops, N, Γ, lesN Λ, sp, fun i => anc.getD i []⟩ B w0 0 n) (hsz : ops.size = n + 2) (hanc : Rg.ancOk ⟨ops, N, Γ, lesN Λ, sp, fun i => anc.getD i []⟩ = true) (hall : ∀ i, n ≤ i → i < n + 2 → ∀ j, j < i → (anc.getD i []).contains j = true) (hk : Rg.chk ⟨ops, N, Γ, lesN Λ, sp, fun i => anc.getD i []⟩ = true) (hancB : (List.range (n + 1)).all (fun i => (anc.getD i []).all fun j => decide (j < n)) = true)
    (ho1 : ops[n]? = some ⟨some d, .call ⟨.value (.tmp c), xs.toArray, at_⟩, T1, ps1, af1, none⟩) (ho2 : ops[n + 1]? = some ⟨some e, op, T3, ps2, af2, none⟩) (hop : ∀ (a : Act) w b, a.eval (.tmp d) = .bool b → (execOp a.eval ⟨some e, op, T3, ps2, af2, none⟩).run P w = .ok (.value (.bool (φ b))) w) (he : e < N) (hed : e ≠ d) (hyv : Has ⟨ops, N, Γ, lesN Λ, sp, fun i => anc.getD i []⟩ B w0 n (.tmp c) (EqV (.func (.yield l) #[] #[]))) (hx : HasL ⟨ops, N, Γ, lesN Λ, sp, fun i => anc.getD i []⟩ B w0 n xs (Y k))
    (hoff : offD Db Dd = true) (hI : ItH P l B Db Tc gs Y inf M J Jx) (hG : ItG B gs Tc J k w0) (hkM : k < M) (hix : CapIx Γ Λ gs 0 Tc ix) (hgl : gs.length = Tc.length)
    (hixo : ix.all (fun x => match Γ[x.1]? with | some y => Rg.outG ⟨ops, N, Γ, lesN Λ, sp, fun i => anc.getD i []⟩ y.1 | none => false) = true)
    (hsrc : src.all (fun k => match Γ[k]? with | some y => y.2.deps.all Dd.contains && Rg.outG ⟨ops, N, Γ, lesN Λ, sp, fun i => anc.getD i []⟩ y.1 | none => false) = true)
    (hΛ : Λ.all (fun l => l.A.deps.all Dd.contains && decide (1 ≤ l.s) && decide (l.s ≤ Tc.length) && l.s != d && l.s != e) = true) (hnd : noDefer ops = true) (hQ0 : ¬ LetsOut Q) (hd : d < N)
    (hQ : ∀ w0 a w, ItG B gs Tc J (k + 1) w0 → St B w0 N ((e, Bo (φ true)) :: src.filterMap (fun k => Γ[k]?)) Λ a w → w = w0.w → Q .normal a w) (hQx : ∀ w0 a w, w0 = itB gs w → Jx w → St B w0 N [(e, Bo (φ false))] [] a w → Q .normal a w) :
    (Code.region id ops true).wpIn (fw none) 0 P Q a w := by
  have hles0 : ∀ y ∈ lesN Λ, y.cr = none ∧ (⟨y.s, y.T, y.H, y.A0⟩ : Lc) ∈ Λ := fun y hy => by
    obtain ⟨l', hl', rfl⟩ := List.mem_map.1 hy
    exact ⟨rfl, hl'⟩
  refine Rg.drawKF (R := ⟨ops, N, Γ, lesN Λ, sp, fun i => anc.getD i []⟩) (m := 2) hnd hQ0 hsz (by decide) hmx hanc hk h (fun y hy _ => (hles0 y hy).2) (fun i hi => hob.all i (by omega) (by omega)) (fun i h1 h2 j hj => hall i h1 h2 j hj) fun a1 w1 hinv => ?_
  rw [show List.range' n 2 = [n, n + 1] from rfl]
  rw [wpOpsIn_cons]
  have hout : ∀ k', k' ∈ src → ∀ y, Γ[k']? = some y → y.1 ≠ e := fun k' hk' y hy => by
    have := List.all_eq_true.1 hsrc k' hk'
    rw [hy, Bool.and_eq_true] at this
    have h2 := List.all_eq_true.1 this.2 (n + 1) (by simp [hsz])
    intro e'
    simp only [Rg.dst, ho2, Option.bind_some, e', bne_self_eq_false] at h2
    exact absurd h2 (by decide)
  have hΛ' : Λ.all (fun l => l.s != e) = true := List.all_eq_true.2 fun l hl => by
    have := List.all_eq_true.1 hΛ l hl
    simp only [Bool.and_eq_true] at this
    exact this.2
  refine yield_at (R := ⟨ops, N, Γ, lesN Λ, sp, fun i => anc.getD i []⟩) (m := 2) src ix hsz (by decide) rfl hancB ho1 hyv hx hoff hI hG hkM hix hgl hixo hsrc (List.all_eq_true.2 fun l hl => ?_) hinv _ hd (fun w0' a' W' hG' hst hw => ?_) fun w0' a' W' hw hJx hst => ?_
  · have := List.all_eq_true.1 hΛ l hl
    simp only [Bool.and_eq_true] at this ⊢
    exact this.1
  · rw [wpOpsIn_cons]
    refine op_truth (φ := φ) ho2 hop hnd he hed (List.all_eq_true.2 fun x hx => ?_) hΛ' hst fun a' hst => hQ w0' a' W' hG' hst hw
    obtain ⟨k', hk1, hk2⟩ := List.mem_filterMap.1 hx
    simpa using hout k' hk1 x hk2
  · rw [wpOpsIn_cons]
    exact op_truth (φ := φ) ho2 hop hnd he hed rfl rfl hst fun a' hst => hQx w0' a' W' hw hJx hst
end

end Go.Proofs.YtgjolcbehcjhcaaGreat
