/- The rules of the calculus once more, for code that runs in a round of a range over a function; regions whose last operations are shown apart. -/
import Derived.Test.YtgjolcbehcjhcaaGreatRayE
namespace Go.Proofs.YtgjolcbehcjhcaaGreat
open Go Go.RowKit
namespace RngA

end RngA
open RngA
theorem no_out {Q : Exit → Act → World → Prop} (h : ∀ a w, Q .outgrown a w → False) : ¬ LetsOut Q := fun ⟨a, w, h'⟩ => h a w h'
/-- the fence that asks nothing; in a round of the loop of record l; in none. -/
def fw (o : Option Nat) : Fence := { fn := fun _ => True, depth := none, alive := false, round := o }
theorem fw_none : fw none = Fence.wide := rfl
theorem fw_some (l : Nat) : fw (some l) = Fence.wide.inRound l := rfl
theorem calls_fw {o : Option Nat} {n : Nat} {P : Program} {f : FuncId} {args : Array Value} {w : World} {R : Ending → World → Prop} (h : Calls P f args w R) : CallsIn (fw o) n P f args w R := by
  have h' : CallsIn Fence.wide n P f args w R := callsIn_wide.2 h
  cases o with
  | none => exact h'
  | some l => exact CallsIn.inRound l h'
theorem fw_steps {o : Option Nat} {P : Program} {m m' : Machine} : StepsIn (Machine.fenced P (fw o)) P m m' ↔ Steps P m m' := by
  cases o with
  | none => exact stepsIn_wide
  | some l => exact stepsIn_wide
theorem rows_fw {o : Option Nat} {n : Nat} {P : Program} {row : String} {args : Array Value} {w : World} {R : Value → World → Prop} (h : Rows P row args w R) : RowsIn (fw o) n P row args w R := fun c cs _ => by
  obtain ⟨v, w', h1, h2⟩ := h c cs
  exact ⟨v, w', h1, fw_steps.2 h2⟩
def noDefer (ops : Array Oper) : Bool := ops.all fun x => match x.op with | .defer _ => false | _ => true
theorem noDefer_at {ops : Array Oper} (h : noDefer ops = true) {i : Nat} {x : Oper} (hx : ops[i]? = some x) : ∀ c, x.op ≠ .defer c := fun c e => by
  have := Array.all_eq_true'.1 h x (Array.mem_of_getElem? hx)
  rw [e] at this
  cases this
theorem wpOpIn_of {o : Option Nat} {P : Program} {ops : Array Oper} {Q : Exit → Act → World → Prop} {i : Nat} {K : Act → World → Prop} {a : Act} {w : World} (hnd : noDefer ops = true) (hQ0 : ¬ LetsOut Q) (h : wpOp P ops Q i K a w) : wpOpIn (fw o) 0 P ops Q i K a w := by
  unfold wpOp at h
  unfold wpOpIn
  cases ho : ops[i]? with
  | none => rw [ho] at h; exact h
  | some x =>
    rw [ho] at h
    simp only at h ⊢
    by_cases hw : Region.wanted x (yielded ops a.tmps) = true
    · rw [if_pos hw] at h ⊢
      rcases h with h | ⟨_, h⟩
      · refine ⟨fun _ _ => trivial, ?_⟩
        rw [Oper.semAt_eq _ _ _ (noDefer_at hnd ho)]
        unfold Oper.wp at h
        generalize (execOp a.eval x).run P w = r at *
        cases r with
        | ok nx w' =>
          cases nx with
          | value v => exact h
          | skip => exact h
          | defer d => exact h
          | enter f args => exact ⟨fun hh => (by cases hh), calls_fw h⟩
          | row r args => exact ⟨fun hh => (by cases hh), rows_fw h⟩
          | _ => exact absurd h (fun h => h)
        | halt e w' => cases e <;> exact h
      · exact absurd h hQ0
    · rw [if_neg hw] at h ⊢
      exact ⟨fun _ _ => trivial, h⟩

section
variable {P : Program} {R : Rg} {Q : Exit → Act → World → Prop} {B : Nat} {w0 : Bs} {a : Act} {w : World} {o : Option Nat}
open Rg in
theorem Rg.linF {id : Nat} {Λ : List Lc} (hnd : noDefer R.ops = true) (hQ0 : ¬ LetsOut Q) (hanc : R.anc = fun i => List.range i) (hk : R.chk = true) (h : St B w0 R.N R.Γ Λ a w) (hles : ∀ e ∈ R.les, e.cr = none → (⟨e.s, e.T, e.H, e.A0⟩ : Lc) ∈ Λ)
    (hob : ∀ i, i < R.ops.size → R.Ob P Q B w0 i) (hQ : ∀ a' w', Fin R B w0 a' w' → Q .normal a' w') : (Code.region id R.ops false).wpIn (fw o) 0 P Q a w := by
  refine wpIn_region ?_
  have key : ∀ m k, k + m = R.ops.size → ∀ a w, R.Inv B w0 (fun j => decide (j < k)) a w → wpOpsIn (fw o) 0 P R.ops Q (List.range' k m) a w := by
    intro m
    induction m with
    | zero =>
      intro k hkm a w hi
      have : k = R.ops.size := by omega
      subst this
      exact hQ a w ⟨hi⟩
    | succ m ih =>
      intro k hkm a w hi
      rw [List.range'_succ, wpOpsIn_cons]
      refine wpOpIn_of hnd hQ0 (step hk (hob k (by omega)) hi ?_ (by simp) ?_ _ fun a' w' hi' => ih (k + 1) (by omega) a' w' (hi'.congr fun j => ?_))
      · intro i hi j hj
        rw [hanc] at hj
        simp at hi hj ⊢
        omega
      · intro j hj
        rw [hanc] at hj
        simpa using hj
      · unfold upd
        by_cases h1 : j = k
        · subst h1; simp
        · have h2 : (j == k) = false := by simpa using h1
          rw [h2, Bool.false_or, decide_eq_decide]
          omega
  rw [List.range_eq_range']
  exact key _ 0 (by omega) a w ((start h hles).congr fun j => by simp)

open Rg in
theorem Rg.drawF {id : Nat} {Λ : List Lc} (hnd : noDefer R.ops = true) (hQ0 : ¬ LetsOut Q) (hm : P.follows .mixedOrders = true) (hanc : ancOk R = true) (hk : R.chk = true) (h : St B w0 R.N R.Γ Λ a w) (hles : ∀ e ∈ R.les, e.cr = none → (⟨e.s, e.T, e.H, e.A0⟩ : Lc) ∈ Λ)
    (hob : ∀ i, i < R.ops.size → R.Ob P Q B w0 i) (hQ : ∀ a' w', Fin R B w0 a' w' → Q .normal a' w') : (Code.region id R.ops true).wpIn (fw o) 0 P Q a w := by
  refine wpIn_region_any hm ?_
  have ho : ∀ i, i < R.ops.size → ∃ o : Oper, R.ops[i]? = some o ∧ (∀ j, (R.anc i).contains j = true → ∃ e ∈ o.after, Region.binds .any e = true ∧ (e.on = j ∨ (R.anc e.on).contains j = true)) ∧
      ∀ e ∈ o.after, Region.binds .any e = true → e.on < i := by
    intro i hi
    have := List.all_eq_true.1 hanc i (by simpa using hi)
    cases hoi : R.ops[i]? with
    | none => rw [hoi] at this; cases this
    | some o =>
      rw [hoi] at this
      simp only [Bool.and_eq_true] at this
      refine ⟨o, rfl, fun j hj => ?_, fun e he hb => ?_⟩
      · have hh := List.all_eq_true.1 this.1 j (by simpa using hj)
        obtain ⟨e, he, h1⟩ := Array.any_eq_true'.1 hh
        simp only [Bool.and_eq_true, Bool.or_eq_true, beq_iff_eq] at h1
        exact ⟨e, he, h1.1, h1.2⟩
      · have hh := Array.all_eq_true'.1 this.2 e he
        simpa [hb] using hh
  -- an operation that is ready
  have hrd : ∀ (listed : Array Bool) i, i ∈ Region.ready .any R.ops listed → i < R.ops.size ∧ listed.getD i true = false ∧ ∀ o, R.ops[i]? = some o → ∀ e ∈ o.after, Region.binds .any e = true → listed.getD e.on false = true := by
    intro listed i hi
    unfold Region.ready at hi
    obtain ⟨h1, h2⟩ := List.mem_filter.1 hi
    simp only [Bool.and_eq_true, Bool.not_eq_true'] at h2
    refine ⟨by simpa using h1, h2.1, fun o hoi e he hb => ?_⟩
    have h3 := h2.2
    rw [hoi] at h3
    simp only [Option.map_some, Option.getD_some] at h3
    have := Array.all_eq_true'.1 h3 e he
    simpa [hb] using this
  have key : ∀ fuel (listed : Array Bool) a w, listed.size = R.ops.size → (List.range R.ops.size).countP (fun i => !listed.getD i false) ≤ fuel → Closed R (fun i => listed.getD i false) →
      R.Inv B w0 (fun i => listed.getD i false) a w → wpAnyIn (fw o) 0 P .any R.ops Q fuel listed a w := by
    intro fuel
    have hend : ∀ (listed : Array Bool) a w, listed.size = R.ops.size → Region.ready .any R.ops listed = [] → R.Inv B w0 (fun i => listed.getD i false) a w → Q .normal a w := by
      intro listed a w hsz hr hi
      refine hQ a w ⟨hi.congr fun k => ?_⟩
      by_cases hkn : k < R.ops.size
      · have : ∀ k, k < R.ops.size → listed.getD k false = true := by
          intro k
          induction k using Nat.strongRecOn with
          | _ k ih =>
            intro hkn
            cases hl : listed.getD k false with
            | true => rfl
            | false =>
              exfalso
              obtain ⟨o, ho1, _, ho3⟩ := ho k hkn
              have : k ∈ Region.ready .any R.ops listed := by
                unfold Region.ready
                refine List.mem_filter.2 ⟨by simpa using hkn, ?_⟩
                have h0 : listed.getD k true = false := by
                  simp only [Array.getD, hsz, hkn, dite_true] at hl ⊢
                  exact hl
                rw [h0, ho1]
                simp only [Bool.not_false, Bool.true_and, Option.map_some, Option.getD_some]
                refine Array.all_eq_true'.2 fun e he => ?_
                cases hb : Region.binds .any e with
                | false => rfl
                | true => simpa using ih e.on (ho3 e he hb) (Nat.lt_trans (ho3 e he hb) hkn)
              rw [hr] at this
              cases this
        simp [hkn, this k hkn]
      · have : listed.getD k false = false := by simp [Array.getD, hsz, hkn]
        simp [hkn, this]
    induction fuel with
    | zero =>
      intro listed a w hsz hcnt hcl hi
      have hr : Region.ready .any R.ops listed = [] := by
        cases hrr : Region.ready .any R.ops listed with
        | nil => rfl
        | cons i rest =>
          exfalso
          obtain ⟨h1, h2, _⟩ := hrd listed i (by rw [hrr]; simp)
          have : 0 < (List.range R.ops.size).countP (fun i => !listed.getD i false) := by
            refine List.countP_pos_iff.2 ⟨i, by simpa using h1, ?_⟩
            simp only [Array.getD, hsz, h1, dite_true] at h2 ⊢
            simpa using h2
          omega
      exact ⟨hr, hend listed a w hsz hr hi⟩
    | succ fuel ih =>
      intro listed a w hsz hcnt hcl hi
      refine ⟨fun hr => hend listed a w hsz hr hi, fun i hir => ?_⟩
      obtain ⟨h1, h2, h3⟩ := hrd listed i hir
      obtain ⟨x, ho1, ho2, _⟩ := ho i h1
      have hLi : listed.getD i false = false := by
        simp only [Array.getD, hsz, h1, dite_true] at h2 ⊢
        exact h2
      have hanci : ∀ j, (R.anc i).contains j = true → listed.getD j false = true := by
        intro j hj
        obtain ⟨e, he, hb, hj'⟩ := ho2 j hj
        have hl := h3 x ho1 e he hb
        rcases hj' with rfl | hj'
        · exact hl
        · exact hcl e.on hl j hj'
      have hup : ∀ k, (listed.setIfInBounds i true).getD k false = upd (fun i => listed.getD i false) i k := by
        intro k
        unfold upd
        by_cases hki : k = i
        · subst hki
          simp [hsz, h1]
        · simp [hki, Array.getElem?_setIfInBounds_ne (fun e => hki e.symm)]
      refine wpOpIn_of hnd hQ0 (step hk (hob i h1) hi hcl hLi hanci _ fun a' w' hi' => ih _ _ _ (by simpa using hsz) ?_ ?_ (hi'.congr hup))
      · have : (List.range R.ops.size).countP (fun k => !(listed.setIfInBounds i true).getD k false) < (List.range R.ops.size).countP (fun k => !listed.getD k false) := by
          refine countP_lt (x := i) (fun x hx => ?_) (by simpa using h1) (by rw [hLi]; rfl) (by rw [hup, upd_same]; rfl)
          have hx' : upd (fun i => listed.getD i false) i x = false := by
            rw [← hup]
            simpa only [Bool.not_eq_true'] using hx
          rw [(upd_false hx').2]
          rfl
        omega
      · intro k hk' j hj
        have hk2 : upd (fun i => listed.getD i false) i k = true := by rw [← hup]; exact hk'
        show (listed.setIfInBounds i true).getD j false = true
        rw [hup]
        rcases of_upd hk2 with rfl | h4
        · exact upd_of _ (hanci j hj)
        · exact upd_of _ (hcl k h4 j hj)
  refine key _ _ a _ (by simp) ?_ ?_ ?_
  · refine Nat.le_trans (List.countP_le_length) (by simp)
  · intro i hi
    exfalso
    simp only [Array.getD, Array.size_replicate] at hi
    split at hi <;> simp at hi
  · have hs := start h hles
    have hd : R.Inv B w0 (fun _ => false) a w.drew := ⟨hs.lo, hs.defers.grow (Grow.drew w) rfl, hs.size, hs.base.drew, fun x hx h1 h2 => x.2.grow _ _ _ _ (Grow.drew w) (hs.g x hx h1 h2), (fun i y d A _ _ hf => by cases hf), (fun i d b k c _ hf => by cases hf),
      fun e he A hA => (hs.c e he A hA).grow (Grow.drew w), hs.x⟩
    refine Inv.congr hd fun k => ?_
    simp only [Array.getD, Array.size_replicate]
    split <;> simp
end

section
variable {P : Program} {R : Rg} {Q : Exit → Act → World → Prop} {B : Nat} {w0 : Bs} {a : Act} {w : World} {o : Option Nat}
open Rg in
/-- A REGION THAT DRAWS ITS ORDER; its last operations wait for all that is ahead of them: they are shown apart. -/
theorem Rg.drawK {id : Nat} {Λ : List Lc} {n m : Nat} (hsz2 : R.ops.size = n + m) (hm0 : 0 < m) (hm : P.follows .mixedOrders = true) (hanc : ancOk R = true) (hk : R.chk = true) (h : St B w0 R.N R.Γ Λ a w) (hles : ∀ e ∈ R.les, e.cr = none → (⟨e.s, e.T, e.H, e.A0⟩ : Lc) ∈ Λ)
    (hob : ∀ i, i < n → R.Ob P Q B w0 i) (ha1 : ∀ i, n ≤ i → i < n + m → ∀ j, j < i → (R.anc i).contains j = true)
    (hQ : ∀ a w, R.Inv B w0 (fun k => decide (k < n)) a w → wpOps P R.ops Q (List.range' n m) a w) :
    (Code.region id R.ops true).wp P Q a w := by
  refine wp_region_any hm ?_
  have ho : ∀ i, i < R.ops.size → ∃ o : Oper, R.ops[i]? = some o ∧ (∀ j, (R.anc i).contains j = true → ∃ e ∈ o.after, Region.binds .any e = true ∧ (e.on = j ∨ (R.anc e.on).contains j = true)) ∧
      ∀ e ∈ o.after, Region.binds .any e = true → e.on < i := by
    intro i hi
    have := List.all_eq_true.1 hanc i (by simpa using hi)
    cases hoi : R.ops[i]? with
    | none => rw [hoi] at this; cases this
    | some o =>
      rw [hoi] at this
      simp only [Bool.and_eq_true] at this
      refine ⟨o, rfl, fun j hj => ?_, fun e he hb => ?_⟩
      · have hh := List.all_eq_true.1 this.1 j (by simpa using hj)
        obtain ⟨e, he, h1⟩ := Array.any_eq_true'.1 hh
        simp only [Bool.and_eq_true, Bool.or_eq_true, beq_iff_eq] at h1
        exact ⟨e, he, h1.1, h1.2⟩
      · have hh := Array.all_eq_true'.1 this.2 e he
        simpa [hb] using hh
  -- an operation that is ready
  have hrd : ∀ (listed : Array Bool) i, i ∈ Region.ready .any R.ops listed → i < R.ops.size ∧ listed.getD i true = false ∧ ∀ o, R.ops[i]? = some o → ∀ e ∈ o.after, Region.binds .any e = true → listed.getD e.on false = true := by
    intro listed i hi
    unfold Region.ready at hi
    obtain ⟨h1, h2⟩ := List.mem_filter.1 hi
    simp only [Bool.and_eq_true, Bool.not_eq_true'] at h2
    refine ⟨by simpa using h1, h2.1, fun o hoi e he hb => ?_⟩
    have h3 := h2.2
    rw [hoi] at h3
    simp only [Option.map_some, Option.getD_some] at h3
    have := Array.all_eq_true'.1 h3 e he
    simpa [hb] using this
  have hset : ∀ (listed : Array Bool) (i k : Nat), listed.size = R.ops.size → i < R.ops.size → (listed.setIfInBounds i true).getD k false = upd (fun i => listed.getD i false) i k := by
    intro listed i k hsz hi
    unfold upd
    by_cases hki : k = i
    · subst hki
      simp [hsz, hi]
    · simp [hki, Array.getElem?_setIfInBounds_ne (fun e => hki e.symm)]
  have hpos : ∀ (listed : Array Bool) (i : Nat), i < R.ops.size → listed.getD i false = false → 0 < (List.range R.ops.size).countP (fun k => !listed.getD k false) := fun listed i hi hl =>
    List.countP_pos_iff.2 ⟨i, by simpa using hi, by simp only [hl]; rfl⟩
  have hlt : ∀ (listed : Array Bool) (i : Nat), listed.size = R.ops.size → i < R.ops.size → listed.getD i false = false → (List.range R.ops.size).countP (fun k => !(listed.setIfInBounds i true).getD k false) < (List.range R.ops.size).countP (fun k => !listed.getD k false) := by
    intro listed i hsz hi hLi
    refine countP_lt (x := i) (fun x hx => ?_) (by simpa using hi) (by rw [hLi]; rfl) (by rw [hset listed i i hsz hi, upd_same]; rfl)
    have hx' : upd (fun i => listed.getD i false) i x = false := by
      rw [← hset listed i x hsz hi]
      simpa only [Bool.not_eq_true'] using hx
    rw [(upd_false hx').2]
    rfl
  have hfull : ∀ (listed : Array Bool), listed.size = R.ops.size → Region.ready .any R.ops listed = [] → ∀ k, k < R.ops.size → listed.getD k false = true := by
    intro listed hsz hr k
    induction k using Nat.strongRecOn with
    | _ k ih =>
      intro hkn
      cases hl : listed.getD k false with
      | true => rfl
      | false =>
        exfalso
        obtain ⟨x, ho1, _, ho3⟩ := ho k hkn
        have : k ∈ Region.ready .any R.ops listed := by
          unfold Region.ready
          refine List.mem_filter.2 ⟨by simpa using hkn, ?_⟩
          have h0 : listed.getD k true = false := by
            simp only [Array.getD, hsz, hkn, dite_true] at hl ⊢
            exact hl
          rw [h0, ho1]
          simp only [Bool.not_false, Bool.true_and, Option.map_some, Option.getD_some]
          refine Array.all_eq_true'.2 fun e he => ?_
          cases hb : Region.binds .any e with
          | false => rfl
          | true => simpa using ih e.on (ho3 e he hb) (Nat.lt_trans (ho3 e he hb) hkn)
        rw [hr] at this
        cases this
  have hancL : ∀ (listed : Array Bool) i, Closed R (fun i => listed.getD i false) → i ∈ Region.ready .any R.ops listed → ∀ j, (R.anc i).contains j = true → listed.getD j false = true := by
    intro listed i hcl hir j hj
    obtain ⟨h1, h2, h3⟩ := hrd listed i hir
    obtain ⟨x, ho1, ho2, _⟩ := ho i h1
    obtain ⟨e, he, hb, hj'⟩ := ho2 j hj
    have hl := h3 x ho1 e he hb
    rcases hj' with rfl | hj'
    · exact hl
    · exact hcl e.on hl j hj'
  have hclN : ∀ (listed : Array Bool) i, listed.size = R.ops.size → Closed R (fun i => listed.getD i false) → i ∈ Region.ready .any R.ops listed → Closed R (fun k => (listed.setIfInBounds i true).getD k false) := by
    intro listed i hsz hcl hir k hk' j hj
    obtain ⟨h1, _, _⟩ := hrd listed i hir
    have hk2 : upd (fun i => listed.getD i false) i k = true := by rw [← hset listed i k hsz h1]; exact hk'
    show (listed.setIfInBounds i true).getD j false = true
    rw [hset listed i j hsz h1]
    rcases of_upd hk2 with rfl | h4
    · exact upd_of _ (hancL listed k hcl hir j hj)
    · exact upd_of _ (hcl k h4 j hj)
  have tail : ∀ q k, k + q = n + m → n ≤ k → ∀ fuel (listed : Array Bool) a w, listed.size = R.ops.size → (List.range R.ops.size).countP (fun i => !listed.getD i false) ≤ fuel → Closed R (fun i => listed.getD i false) →
      (∀ j, j < k → listed.getD j false = true) → (∀ j, k ≤ j → j < n + m → listed.getD j false = false) → wpOps P R.ops Q (List.range' k q) a w → wpAny P .any R.ops Q fuel listed a w := by
    intro q
    induction q with
    | zero =>
      intro k hkq hnk fuel listed a w hsz hcnt hcl hall _ hwp
      have hr : Region.ready .any R.ops listed = [] := by
        cases hrr : Region.ready .any R.ops listed with
        | nil => rfl
        | cons i rest =>
          obtain ⟨h1, h2, _⟩ := hrd listed i (by rw [hrr]; simp)
          have := hall i (by omega)
          simp only [Array.getD, hsz, h1, dite_true] at h2 this
          rw [h2] at this
          cases this
      cases fuel with
      | zero => exact ⟨hr, hwp⟩
      | succ fuel => exact ⟨fun _ => hwp, fun i hir => by rw [hr] at hir; cases hir⟩
    | succ q ih =>
      intro k hkq hnk fuel listed a w hsz hcnt hcl hall hnone hwp
      have hLk : listed.getD k false = false := hnone k (Nat.le_refl _) (by omega)
      have hp := hpos listed k (by omega) hLk
      cases fuel with
      | zero => omega
      | succ fuel =>
        refine ⟨fun hr => absurd (hfull listed hsz hr k (by omega)) (by rw [hLk]; decide), fun i hir => ?_⟩
        obtain ⟨h1, h2, h3⟩ := hrd listed i hir
        have hik : i = k := by
          by_cases e : i = k
          · exact e
          · exfalso
            by_cases hlt' : i < k
            · have := hall i hlt'
              simp only [Array.getD, hsz, h1, dite_true] at h2 this
              rw [h2] at this
              cases this
            · have := hancL listed i hcl hir k (ha1 i (by omega) (by omega) k (by omega))
              rw [hLk] at this
              cases this
        subst hik
        rw [List.range'_succ, wpOps_cons] at hwp
        refine wpOp_mono (fun a' w' hr => ih (i + 1) (by omega) (by omega) fuel _ a' w' (by simpa using hsz) ?_ (hclN listed i hsz hcl hir) (fun j hj => ?_) (fun j hj hj2 => ?_) hr) hwp
        · have := hlt listed i hsz h1 hLk
          omega
        · rw [hset listed i j hsz h1]
          by_cases e : j = i
          · rw [e]; exact upd_same _ _
          · exact upd_of _ (hall j (by omega))
        · rw [hset listed i j hsz h1, upd_ne _ (by omega)]
          exact hnone j (by omega) hj2
  have key : ∀ fuel (listed : Array Bool) a w, listed.size = R.ops.size → (List.range R.ops.size).countP (fun i => !listed.getD i false) ≤ fuel → Closed R (fun i => listed.getD i false) →
      (∀ j, n ≤ j → j < n + m → listed.getD j false = false) → R.Inv B w0 (fun i => listed.getD i false) a w → wpAny P .any R.ops Q fuel listed a w := by
    intro fuel
    induction fuel with
    | zero =>
      intro listed a w hsz hcnt hcl hn0 hi
      have := hpos listed n (by omega) (hn0 n (Nat.le_refl _) (by omega))
      omega
    | succ fuel ih =>
      intro listed a w hsz hcnt hcl hn0 hi
      have hn00 := hn0 n (Nat.le_refl _) (by omega)
      by_cases hdone : ∀ j, j < n → listed.getD j false = true
      · refine tail m n rfl (Nat.le_refl _) (fuel + 1) listed a w hsz hcnt hcl hdone hn0 (hQ a w (hi.congr fun k => ?_))
        by_cases hkn : k < n
        · rw [hdone k hkn]; simp [hkn]
        · by_cases hkm : k < n + m
          · rw [hn0 k (by omega) hkm]; simp [hkn]
          · have : listed.getD k false = false := by simp [Array.getD, hsz, hsz2, hkm]
            rw [this]; simp [hkn]
      · refine ⟨fun hr => absurd (hfull listed hsz hr n (by omega)) (by rw [hn00]; decide), fun i hir => ?_⟩
        obtain ⟨h1, h2, h3⟩ := hrd listed i hir
        have hin : i < n := by
          by_cases e : i < n
          · exact e
          · exact absurd (fun j hj => hancL listed i hcl hir j (ha1 i (by omega) (by omega) j (by omega))) hdone
        have hLi : listed.getD i false = false := by
          simp only [Array.getD, hsz, h1, dite_true] at h2 ⊢
          exact h2
        refine step hk (hob i hin) hi hcl hLi (hancL listed i hcl hir) _ fun a' w' hi' => ih _ _ _ (by simpa using hsz) ?_ (hclN listed i hsz hcl hir) ?_ (hi'.congr fun k => hset listed i k hsz h1)
        · have := hlt listed i hsz h1 hLi
          omega
        · intro j hj hj2
          rw [hset listed i j hsz h1, upd_ne _ (by omega)]
          exact hn0 j hj hj2
  refine key _ _ a _ (by simp) ?_ ?_ ?_ ?_
  · refine Nat.le_trans (List.countP_le_length) (by simp)
  · intro i hi
    exfalso
    simp only [Array.getD, Array.size_replicate] at hi
    split at hi <;> simp at hi
  · intro j hj hj2
    simp only [Array.getD, Array.size_replicate]
    split <;> simp
  · have hs := start h hles
    have hd : R.Inv B w0 (fun _ => false) a w.drew := ⟨hs.lo, hs.defers.grow (Grow.drew w) rfl, hs.size, hs.base.drew, fun x hx h1 h2 => x.2.grow _ _ _ _ (Grow.drew w) (hs.g x hx h1 h2), (fun i y d A _ _ hf => by cases hf), (fun i d b k c _ hf => by cases hf),
      fun e he A hA => (hs.c e he A hA).grow (Grow.drew w), hs.x⟩
    refine Inv.congr hd fun k => ?_
    simp only [Array.getD, Array.size_replicate]
    split <;> simp
open Rg in
/-- A REGION THAT DRAWS ITS ORDER; its last operations wait for all that is ahead of them: they are shown apart. -/
theorem Rg.drawKF {id : Nat} {Λ : List Lc} {n m : Nat} (hnd : noDefer R.ops = true) (hQ0 : ¬ LetsOut Q) (hsz2 : R.ops.size = n + m) (hm0 : 0 < m) (hm : P.follows .mixedOrders = true) (hanc : ancOk R = true) (hk : R.chk = true) (h : St B w0 R.N R.Γ Λ a w) (hles : ∀ e ∈ R.les, e.cr = none → (⟨e.s, e.T, e.H, e.A0⟩ : Lc) ∈ Λ)
    (hob : ∀ i, i < n → R.Ob P Q B w0 i) (ha1 : ∀ i, n ≤ i → i < n + m → ∀ j, j < i → (R.anc i).contains j = true)
    (hQ : ∀ a w, R.Inv B w0 (fun k => decide (k < n)) a w → wpOpsIn (fw o) 0 P R.ops Q (List.range' n m) a w) :
    (Code.region id R.ops true).wpIn (fw o) 0 P Q a w := by
  refine wpIn_region_any hm ?_
  have ho : ∀ i, i < R.ops.size → ∃ o : Oper, R.ops[i]? = some o ∧ (∀ j, (R.anc i).contains j = true → ∃ e ∈ o.after, Region.binds .any e = true ∧ (e.on = j ∨ (R.anc e.on).contains j = true)) ∧
      ∀ e ∈ o.after, Region.binds .any e = true → e.on < i := by
    intro i hi
    have := List.all_eq_true.1 hanc i (by simpa using hi)
    cases hoi : R.ops[i]? with
    | none => rw [hoi] at this; cases this
    | some o =>
      rw [hoi] at this
      simp only [Bool.and_eq_true] at this
      refine ⟨o, rfl, fun j hj => ?_, fun e he hb => ?_⟩
      · have hh := List.all_eq_true.1 this.1 j (by simpa using hj)
        obtain ⟨e, he, h1⟩ := Array.any_eq_true'.1 hh
        simp only [Bool.and_eq_true, Bool.or_eq_true, beq_iff_eq] at h1
        exact ⟨e, he, h1.1, h1.2⟩
      · have hh := Array.all_eq_true'.1 this.2 e he
        simpa [hb] using hh
  -- an operation that is ready
  have hrd : ∀ (listed : Array Bool) i, i ∈ Region.ready .any R.ops listed → i < R.ops.size ∧ listed.getD i true = false ∧ ∀ o, R.ops[i]? = some o → ∀ e ∈ o.after, Region.binds .any e = true → listed.getD e.on false = true := by
    intro listed i hi
    unfold Region.ready at hi
    obtain ⟨h1, h2⟩ := List.mem_filter.1 hi
    simp only [Bool.and_eq_true, Bool.not_eq_true'] at h2
    refine ⟨by simpa using h1, h2.1, fun o hoi e he hb => ?_⟩
    have h3 := h2.2
    rw [hoi] at h3
    simp only [Option.map_some, Option.getD_some] at h3
    have := Array.all_eq_true'.1 h3 e he
    simpa [hb] using this
  have hset : ∀ (listed : Array Bool) (i k : Nat), listed.size = R.ops.size → i < R.ops.size → (listed.setIfInBounds i true).getD k false = upd (fun i => listed.getD i false) i k := by
    intro listed i k hsz hi
    unfold upd
    by_cases hki : k = i
    · subst hki
      simp [hsz, hi]
    · simp [hki, Array.getElem?_setIfInBounds_ne (fun e => hki e.symm)]
  have hpos : ∀ (listed : Array Bool) (i : Nat), i < R.ops.size → listed.getD i false = false → 0 < (List.range R.ops.size).countP (fun k => !listed.getD k false) := fun listed i hi hl =>
    List.countP_pos_iff.2 ⟨i, by simpa using hi, by simp only [hl]; rfl⟩
  have hlt : ∀ (listed : Array Bool) (i : Nat), listed.size = R.ops.size → i < R.ops.size → listed.getD i false = false → (List.range R.ops.size).countP (fun k => !(listed.setIfInBounds i true).getD k false) < (List.range R.ops.size).countP (fun k => !listed.getD k false) := by
    intro listed i hsz hi hLi
    refine countP_lt (x := i) (fun x hx => ?_) (by simpa using hi) (by rw [hLi]; rfl) (by rw [hset listed i i hsz hi, upd_same]; rfl)
    have hx' : upd (fun i => listed.getD i false) i x = false := by
      rw [← hset listed i x hsz hi]
      simpa only [Bool.not_eq_true'] using hx
    rw [(upd_false hx').2]
    rfl
  have hfull : ∀ (listed : Array Bool), listed.size = R.ops.size → Region.ready .any R.ops listed = [] → ∀ k, k < R.ops.size → listed.getD k false = true := by
    intro listed hsz hr k
    induction k using Nat.strongRecOn with
    | _ k ih =>
      intro hkn
      cases hl : listed.getD k false with
      | true => rfl
      | false =>
        exfalso
        obtain ⟨x, ho1, _, ho3⟩ := ho k hkn
        have : k ∈ Region.ready .any R.ops listed := by
          unfold Region.ready
          refine List.mem_filter.2 ⟨by simpa using hkn, ?_⟩
          have h0 : listed.getD k true = false := by
            simp only [Array.getD, hsz, hkn, dite_true] at hl ⊢
            exact hl
          rw [h0, ho1]
          simp only [Bool.not_false, Bool.true_and, Option.map_some, Option.getD_some]
          refine Array.all_eq_true'.2 fun e he => ?_
          cases hb : Region.binds .any e with
          | false => rfl
          | true => simpa using ih e.on (ho3 e he hb) (Nat.lt_trans (ho3 e he hb) hkn)
        rw [hr] at this
        cases this
  have hancL : ∀ (listed : Array Bool) i, Closed R (fun i => listed.getD i false) → i ∈ Region.ready .any R.ops listed → ∀ j, (R.anc i).contains j = true → listed.getD j false = true := by
    intro listed i hcl hir j hj
    obtain ⟨h1, h2, h3⟩ := hrd listed i hir
    obtain ⟨x, ho1, ho2, _⟩ := ho i h1
    obtain ⟨e, he, hb, hj'⟩ := ho2 j hj
    have hl := h3 x ho1 e he hb
    rcases hj' with rfl | hj'
    · exact hl
    · exact hcl e.on hl j hj'
  have hclN : ∀ (listed : Array Bool) i, listed.size = R.ops.size → Closed R (fun i => listed.getD i false) → i ∈ Region.ready .any R.ops listed → Closed R (fun k => (listed.setIfInBounds i true).getD k false) := by
    intro listed i hsz hcl hir k hk' j hj
    obtain ⟨h1, _, _⟩ := hrd listed i hir
    have hk2 : upd (fun i => listed.getD i false) i k = true := by rw [← hset listed i k hsz h1]; exact hk'
    show (listed.setIfInBounds i true).getD j false = true
    rw [hset listed i j hsz h1]
    rcases of_upd hk2 with rfl | h4
    · exact upd_of _ (hancL listed k hcl hir j hj)
    · exact upd_of _ (hcl k h4 j hj)
  have tail : ∀ q k, k + q = n + m → n ≤ k → ∀ fuel (listed : Array Bool) a w, listed.size = R.ops.size → (List.range R.ops.size).countP (fun i => !listed.getD i false) ≤ fuel → Closed R (fun i => listed.getD i false) →
      (∀ j, j < k → listed.getD j false = true) → (∀ j, k ≤ j → j < n + m → listed.getD j false = false) → wpOpsIn (fw o) 0 P R.ops Q (List.range' k q) a w → wpAnyIn (fw o) 0 P .any R.ops Q fuel listed a w := by
    intro q
    induction q with
    | zero =>
      intro k hkq hnk fuel listed a w hsz hcnt hcl hall _ hwp
      have hr : Region.ready .any R.ops listed = [] := by
        cases hrr : Region.ready .any R.ops listed with
        | nil => rfl
        | cons i rest =>
          obtain ⟨h1, h2, _⟩ := hrd listed i (by rw [hrr]; simp)
          have := hall i (by omega)
          simp only [Array.getD, hsz, h1, dite_true] at h2 this
          rw [h2] at this
          cases this
      cases fuel with
      | zero => exact ⟨hr, hwp⟩
      | succ fuel => exact ⟨fun _ => hwp, fun i hir => by rw [hr] at hir; cases hir⟩
    | succ q ih =>
      intro k hkq hnk fuel listed a w hsz hcnt hcl hall hnone hwp
      have hLk : listed.getD k false = false := hnone k (Nat.le_refl _) (by omega)
      have hp := hpos listed k (by omega) hLk
      cases fuel with
      | zero => omega
      | succ fuel =>
        refine ⟨fun hr => absurd (hfull listed hsz hr k (by omega)) (by rw [hLk]; decide), fun i hir => ?_⟩
        obtain ⟨h1, h2, h3⟩ := hrd listed i hir
        have hik : i = k := by
          by_cases e : i = k
          · exact e
          · exfalso
            by_cases hlt' : i < k
            · have := hall i hlt'
              simp only [Array.getD, hsz, h1, dite_true] at h2 this
              rw [h2] at this
              cases this
            · have := hancL listed i hcl hir k (ha1 i (by omega) (by omega) k (by omega))
              rw [hLk] at this
              cases this
        subst hik
        rw [List.range'_succ, wpOpsIn_cons] at hwp
        refine wpOpIn_mono (fun a' w' hr => ih (i + 1) (by omega) (by omega) fuel _ a' w' (by simpa using hsz) ?_ (hclN listed i hsz hcl hir) (fun j hj => ?_) (fun j hj hj2 => ?_) hr) hwp
        · have := hlt listed i hsz h1 hLk
          omega
        · rw [hset listed i j hsz h1]
          by_cases e : j = i
          · rw [e]; exact upd_same _ _
          · exact upd_of _ (hall j (by omega))
        · rw [hset listed i j hsz h1, upd_ne _ (by omega)]
          exact hnone j (by omega) hj2
  have key : ∀ fuel (listed : Array Bool) a w, listed.size = R.ops.size → (List.range R.ops.size).countP (fun i => !listed.getD i false) ≤ fuel → Closed R (fun i => listed.getD i false) →
      (∀ j, n ≤ j → j < n + m → listed.getD j false = false) → R.Inv B w0 (fun i => listed.getD i false) a w → wpAnyIn (fw o) 0 P .any R.ops Q fuel listed a w := by
    intro fuel
    induction fuel with
    | zero =>
      intro listed a w hsz hcnt hcl hn0 hi
      have := hpos listed n (by omega) (hn0 n (Nat.le_refl _) (by omega))
      omega
    | succ fuel ih =>
      intro listed a w hsz hcnt hcl hn0 hi
      have hn00 := hn0 n (Nat.le_refl _) (by omega)
      by_cases hdone : ∀ j, j < n → listed.getD j false = true
      · refine tail m n rfl (Nat.le_refl _) (fuel + 1) listed a w hsz hcnt hcl hdone hn0 (hQ a w (hi.congr fun k => ?_))
        by_cases hkn : k < n
        · rw [hdone k hkn]; simp [hkn]
        · by_cases hkm : k < n + m
          · rw [hn0 k (by omega) hkm]; simp [hkn]
          · have : listed.getD k false = false := by simp [Array.getD, hsz, hsz2, hkm]
            rw [this]; simp [hkn]
      · refine ⟨fun hr => absurd (hfull listed hsz hr n (by omega)) (by rw [hn00]; decide), fun i hir => ?_⟩
        obtain ⟨h1, h2, h3⟩ := hrd listed i hir
        have hin : i < n := by
          by_cases e : i < n
          · exact e
          · exact absurd (fun j hj => hancL listed i hcl hir j (ha1 i (by omega) (by omega) j (by omega))) hdone
        have hLi : listed.getD i false = false := by
          simp only [Array.getD, hsz, h1, dite_true] at h2 ⊢
          exact h2
        refine wpOpIn_of hnd hQ0 (step hk (hob i hin) hi hcl hLi (hancL listed i hcl hir) _ fun a' w' hi' => ih _ _ _ (by simpa using hsz) ?_ (hclN listed i hsz hcl hir) ?_ (hi'.congr fun k => hset listed i k hsz h1))
        · have := hlt listed i hsz h1 hLi
          omega
        · intro j hj hj2
          rw [hset listed i j hsz h1, upd_ne _ (by omega)]
          exact hn0 j hj hj2
  refine key _ _ a _ (by simp) ?_ ?_ ?_ ?_
  · refine Nat.le_trans (List.countP_le_length) (by simp)
  · intro i hi
    exfalso
    simp only [Array.getD, Array.size_replicate] at hi
    split at hi <;> simp at hi
  · intro j hj hj2
    simp only [Array.getD, Array.size_replicate]
    split <;> simp
  · have hs := start h hles
    have hd : R.Inv B w0 (fun _ => false) a w.drew := ⟨hs.lo, hs.defers.grow (Grow.drew w) rfl, hs.size, hs.base.drew, fun x hx h1 h2 => x.2.grow _ _ _ _ (Grow.drew w) (hs.g x hx h1 h2), (fun i y d A _ _ hf => by cases hf), (fun i d b k c _ hf => by cases hf),
      fun e he A hA => (hs.c e he A hA).grow (Grow.drew w), hs.x⟩
    refine Inv.congr hd fun k => ?_
    simp only [Array.getD, Array.size_replicate]
    split <;> simp
open Rg in
theorem Rg.linKF {id : Nat} {Λ : List Lc} {n m : Nat} (hnd : noDefer R.ops = true) (hQ0 : ¬ LetsOut Q) (hsz : R.ops.size = n + m) (hanc : R.anc = fun i => List.range i) (hk : R.chk = true) (h : St B w0 R.N R.Γ Λ a w) (hles : ∀ e ∈ R.les, e.cr = none → (⟨e.s, e.T, e.H, e.A0⟩ : Lc) ∈ Λ)
    (hob : ∀ i, i < n → R.Ob P Q B w0 i) (hQ : ∀ a w, R.Inv B w0 (fun k => decide (k < n)) a w → wpOpsIn (fw o) 0 P R.ops Q (List.range' n m) a w) : (Code.region id R.ops false).wpIn (fw o) 0 P Q a w := by
  refine wpIn_region ?_
  have key : ∀ q k, k + q = n → ∀ a w, R.Inv B w0 (fun j => decide (j < k)) a w → wpOpsIn (fw o) 0 P R.ops Q (List.range' k (q + m)) a w := by
    intro q
    induction q with
    | zero =>
      intro k hkm a w hi
      have : k = n := by omega
      subst this
      rw [Nat.zero_add]
      exact hQ a w hi
    | succ q ih =>
      intro k hkm a w hi
      rw [show q + 1 + m = (q + m) + 1 by omega, List.range'_succ, wpOpsIn_cons]
      refine wpOpIn_of hnd hQ0 (step hk (hob k (by omega)) hi ?_ (by simp) ?_ _ fun a' w' hi' => ih (k + 1) (by omega) a' w' (hi'.congr fun j => ?_))
      · intro i hi j hj
        rw [hanc] at hj
        simp at hi hj ⊢
        omega
      · intro j hj
        rw [hanc] at hj
        simpa using hj
      · unfold upd
        by_cases h1 : j = k
        · subst h1; simp
        · have h2 : (j == k) = false := by simpa using h1
          rw [h2, Bool.false_or, decide_eq_decide]
          omega
  rw [List.range_eq_range', hsz]
  exact key n 0 (by omega) a w ((start h hles).congr fun j => by simp)
end

section
variable {P : Program} {Q : Exit → Act → World → Prop} {B N : Nat} {w0 : Bs} {Γ : List (Nat × VA)} {Λ : List Lc} {a : Act} {w : World}
theorem go_linF {o : Option Nat} {id : Nat} {ops : Array Oper} {sts : List (Option (Nat × As))} {news : List Le} {sp : List Sp} (src : List Src) (hnd : noDefer ops = true) (hQ0 : ¬ LetsOut Q) (h : St B w0 N Γ Λ a w)
    (hob : Obs P Q ⟨ops, N, Γ, lesOf Λ sts news, sp, fun i => List.range i⟩ B w0 0 ops.size)
    (hn : news.all (fun e => e.cr.isSome) = true) (hk : Rg.chk ⟨ops, N, Γ, lesOf Λ sts news, sp, fun i => List.range i⟩ = true) (hsrc : src.all (okS ⟨ops, N, Γ, lesOf Λ sts news, sp, fun i => List.range i⟩) = true)
    (hQ : ∀ a w, St B w0 N (src.filterMap (takeS ⟨ops, N, Γ, lesOf Λ sts news, sp, fun i => List.range i⟩)) ((lesOf Λ sts news).map fun e => ⟨e.s, e.T, e.H, Rg.last e⟩) a w → Q .normal a w) : (Code.region id ops false).wpIn (fw o) 0 P Q a w :=
  Rg.linF (R := ⟨ops, N, Γ, lesOf Λ sts news, sp, fun i => List.range i⟩) hnd hQ0 rfl hk h (lesOf_in hn) (fun i hi => hob.all i (by omega) (by simpa using hi)) fun a' w' hf => hQ a' w' (fin_out hk hf src hsrc)
theorem go_drawF {o : Option Nat} {id : Nat} {ops : Array Oper} {sts : List (Option (Nat × As))} {news : List Le} {sp : List Sp} (anc : List (List Nat)) (src : List Src) (hm : P.follows .mixedOrders = true) (hnd : noDefer ops = true) (hQ0 : ¬ LetsOut Q) (h : St B w0 N Γ Λ a w)
    (hob : Obs P Q ⟨ops, N, Γ, lesOf Λ sts news, sp, fun i => anc.getD i []⟩ B w0 0 ops.size)
    (hn : news.all (fun e => e.cr.isSome) = true) (hanc : Rg.ancOk ⟨ops, N, Γ, lesOf Λ sts news, sp, fun i => anc.getD i []⟩ = true) (hk : Rg.chk ⟨ops, N, Γ, lesOf Λ sts news, sp, fun i => anc.getD i []⟩ = true) (hsrc : src.all (okS ⟨ops, N, Γ, lesOf Λ sts news, sp, fun i => anc.getD i []⟩) = true)
    (hQ : ∀ a w, St B w0 N (src.filterMap (takeS ⟨ops, N, Γ, lesOf Λ sts news, sp, fun i => anc.getD i []⟩)) ((lesOf Λ sts news).map fun e => ⟨e.s, e.T, e.H, Rg.last e⟩) a w → Q .normal a w) : (Code.region id ops true).wpIn (fw o) 0 P Q a w :=
  Rg.drawF (R := ⟨ops, N, Γ, lesOf Λ sts news, sp, fun i => anc.getD i []⟩) hnd hQ0 hm hanc hk h (lesOf_in hn) (fun i hi => hob.all i (by omega) (by simpa using hi)) fun a' w' hf => hQ a' w' (fin_out hk hf src hsrc)

theorem go_linRF {o : Option Nat} {id : Nat} {ops : Array Oper} {sts : List (Option (Nat × As))} {news : List Le} {sp : List Sp} (src : List Src) (rn : List (Nat × Nat)) (Λ' : List Lc) (hnd : noDefer ops = true) (hQ0 : ¬ LetsOut Q) (h : St B w0 N Γ Λ a w)
    (hob : Obs P Q ⟨ops, N, Γ, lesOf Λ sts news, sp, fun i => List.range i⟩ B w0 0 ops.size)
    (hn : news.all (fun e => e.cr.isSome) = true) (hk : Rg.chk ⟨ops, N, Γ, lesOf Λ sts news, sp, fun i => List.range i⟩ = true) (hsrc : src.all (okS ⟨ops, N, Γ, lesOf Λ sts news, sp, fun i => List.range i⟩) = true)
    (hrn : RnOk ⟨ops, N, Γ, lesOf Λ sts news, sp, fun i => List.range i⟩ rn) (hΛ : ((lesOf Λ sts news).map fun e => (⟨e.s, e.T, e.H, Rg.last e⟩ : Lc)) = Λ'.map fun l => ⟨oldS rn l.s, l.T, l.H, l.A⟩) (hin : Λ'.all (fun l => Λ'.all fun m => l.s == m.s || oldS rn l.s != oldS rn m.s) = true)
    (hQ : ∀ a w, St B w0 N (src.filterMap (takeS ⟨ops, N, Γ, lesOf Λ sts news, sp, fun i => List.range i⟩)) Λ' a w → Q .normal a w) : (Code.region id ops false).wpIn (fw o) 0 P Q a w :=
  Rg.linF (R := ⟨ops, N, Γ, lesOf Λ sts news, sp, fun i => List.range i⟩) hnd hQ0 rfl hk h (lesOf_in hn) (fun i hi => hob.all i (by omega) (by simpa using hi)) fun a' w' hf => hQ a' w' (fin_as hk hf src hsrc rn Λ' hΛ hin hrn)
theorem cond_ofF {o : Option Nat} {t : Nat} {b : Bool} {x y : Code} (h : St B w0 N Γ Λ a w) (hm : (t, Bo b) ∈ Γ) (ht : b = true → x.wpIn (fw o) 0 P Q a w) (hf : b = false → y.wpIn (fw o) 0 P Q a w) : (Code.cond (.tmp t) x y).wpIn (fw o) 0 P Q a w :=
  wpIn_cond_split (bo_val (h.vals _ hm)) ht hf
theorem cond_joinF {o : Option Nat} {t : Nat} {b : Bool} {x y : Code} (J : Act → World → Prop) (h : St B w0 N Γ Λ a w) (hm : (t, Bo b) ∈ Γ)
    (ht : b = true → x.wpIn (fw o) 0 P (Exit.then J Q) a w) (hf : b = false → y.wpIn (fw o) 0 P (Exit.then J Q) a w) (hk : ∀ a w, J a w → Q .normal a w) : (Code.cond (.tmp t) x y).wpIn (fw o) 0 P Q a w := by
  have hJ : ∀ {z : Code}, z.wpIn (fw o) 0 P (Exit.then J Q) a w → z.wpIn (fw o) 0 P Q a w := fun hz => wpIn_mono hz fun e a' w' hq => by
    cases e with
    | normal => exact hk a' w' hq
    | _ => exact hq
  exact cond_ofF h hm (fun hb => hJ (ht hb)) (fun hb => hJ (hf hb))
theorem block_joinF {o : Option Nat} {id : Nat} {c : Code} (J : Act → World → Prop) (h : c.wpIn (fw o) 0 P (Exit.inBlock id (Exit.then J Q)) a w) (hk : ∀ a w, J a w → Q .normal a w) : (Code.block id c).wpIn (fw o) 0 P Q a w :=
  wpIn_mono (wpIn_block h) fun e a' w' hq => by
    cases e with
    | normal => exact hk a' w' hq
    | _ => exact hq
end

end Go.Proofs.YtgjolcbehcjhcaaGreat
