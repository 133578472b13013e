/- Rules for a row of structs that grows by append in a region that draws its order. -/
import Derived.Test.YtgjolcbehcjhcaaGreatRayB
import Derived.Laws.AppendOwn
import Derived.Orders
namespace Go.Proofs.YtgjolcbehcjhcaaGreat
open Go Go.RowKit
namespace RayC

end RayC
open RayC
section
variable {P : Program} {R : Rg} {Q : Exit → Act → World → Prop} {B : Nat} {w0 : Bs} {a : Act} {w : World}
open Rg in
theorem Rg.draw2 {id : Nat} {Λ : List Lc} {n : Nat} (hsz2 : R.ops.size = n + 2) (hm : P.follows .mixedOrders = true) (hanc : ancOk R = true) (hk : R.chk = true) (h : St B w0 R.N R.Γ Λ a w) (hles : ∀ e ∈ R.les, e.cr = none → (⟨e.s, e.T, e.H, e.A0⟩ : Lc) ∈ Λ)
    (hob : ∀ i, i < n → R.Ob P Q B w0 i) (ha1 : ∀ j, j < n → (R.anc n).contains j = true) (ha2 : (R.anc (n + 1)).contains n = true)
    (hQ : ∀ a w, R.Inv B w0 (fun k => decide (k < n)) a w → ∀ K : Act → World → Prop, (∀ a' w', (∀ K' : Act → World → Prop, (∀ a'' w'', Q .normal a'' w'' → K' a'' w'') → wpOp P R.ops Q (n + 1) K' a' w') → K a' w') → wpOp P R.ops Q n K a w) :
    (Code.region id R.ops true).wp P Q a w := by
  refine wp_region_any hm ?_
  have ho : ∀ i, i < R.ops.size → ∃ o, R.ops[i]? = some o ∧ (∀ j, (R.anc i).contains j = true → ∃ e ∈ o.after, Region.binds .any e = true ∧ (e.on = j ∨ (R.anc e.on).contains j = true)) ∧
      ∀ e ∈ o.after, Region.binds .any e = true → e.on < i := by
    intro i hi
    have := List.all_eq_true.1 hanc i (by simpa using hi)
    cases hoi : R.ops[i]? with
    | none => rw [hoi] at this; cases this
    | some o =>
      rw [hoi] at this
      simp only [Bool.and_eq_true] at this
      refine ⟨o, rfl, fun j hj => ?_, fun e he hb => ?_⟩
      · have hh := List.all_eq_true.1 this.1 j (by simpa using hj)
        obtain ⟨e, he, h1⟩ := Array.any_eq_true'.1 hh
        simp only [Bool.and_eq_true, Bool.or_eq_true, beq_iff_eq] at h1
        exact ⟨e, he, h1.1, h1.2⟩
      · have hh := Array.all_eq_true'.1 this.2 e he
        simpa [hb] using hh
  -- an operation that is ready
  have hrd : ∀ (listed : Array Bool) i, i ∈ Region.ready .any R.ops listed → i < R.ops.size ∧ listed.getD i true = false ∧ ∀ o, R.ops[i]? = some o → ∀ e ∈ o.after, Region.binds .any e = true → listed.getD e.on false = true := by
    intro listed i hi
    unfold Region.ready at hi
    obtain ⟨h1, h2⟩ := List.mem_filter.1 hi
    simp only [Bool.and_eq_true, Bool.not_eq_true'] at h2
    refine ⟨by simpa using h1, h2.1, fun o hoi e he hb => ?_⟩
    have h3 := h2.2
    rw [hoi] at h3
    simp only [Option.map_some, Option.getD_some] at h3
    have := Array.all_eq_true'.1 h3 e he
    simpa [hb] using this
  have hfull : ∀ (listed : Array Bool), listed.size = R.ops.size → Region.ready .any R.ops listed = [] → ∀ k, k < R.ops.size → listed.getD k false = true := by
    intro listed hsz hr k
    induction k using Nat.strongRecOn with
    | _ k ih =>
      intro hkn
      cases hl : listed.getD k false with
      | true => rfl
      | false =>
        exfalso
        obtain ⟨o, ho1, _, ho3⟩ := ho k hkn
        have : k ∈ Region.ready .any R.ops listed := by
          unfold Region.ready
          refine List.mem_filter.2 ⟨by simpa using hkn, ?_⟩
          have h0 : listed.getD k true = false := by
            simp only [Array.getD, hsz, hkn, dite_true] at hl ⊢
            exact hl
          rw [h0, ho1]
          simp only [Bool.not_false, Bool.true_and, Option.map_some, Option.getD_some]
          refine Array.all_eq_true'.2 fun e he => ?_
          cases hb : Region.binds .any e with
          | false => rfl
          | true => simpa using ih e.on (ho3 e he hb) (Nat.lt_trans (ho3 e he hb) hkn)
        rw [hr] at this
        cases this
  have hset : ∀ (listed : Array Bool) (i k : Nat), listed.size = R.ops.size → i < R.ops.size → (listed.setIfInBounds i true).getD k false = upd (fun i => listed.getD i false) i k := by
    intro listed i k hsz hi
    unfold upd
    by_cases hki : k = i
    · subst hki
      simp [hsz, hi]
    · simp [hki, Array.getElem?_setIfInBounds_ne (fun e => hki e.symm)]
  have hpos : ∀ (listed : Array Bool) (i : Nat), i < R.ops.size → listed.getD i false = false → 0 < (List.range R.ops.size).countP (fun k => !listed.getD k false) := fun listed i hi hl =>
    List.countP_pos_iff.2 ⟨i, by simpa using hi, by simp only [hl]; rfl⟩
  have hlt : ∀ (listed : Array Bool) (i : Nat), listed.size = R.ops.size → i < R.ops.size → listed.getD i false = false → (List.range R.ops.size).countP (fun k => !(listed.setIfInBounds i true).getD k false) < (List.range R.ops.size).countP (fun k => !listed.getD k false) := by
    intro listed i hsz hi hLi
    refine countP_lt (x := i) (fun x hx => ?_) (by simpa using hi) (by rw [hLi]; rfl) (by rw [hset listed i i hsz hi, upd_same]; rfl)
    have hx' : upd (fun i => listed.getD i false) i x = false := by
      rw [← hset listed i x hsz hi]
      simpa only [Bool.not_eq_true'] using hx
    rw [(upd_false hx').2]
    rfl
  have key : ∀ fuel (listed : Array Bool) a w, listed.size = R.ops.size → (List.range R.ops.size).countP (fun i => !listed.getD i false) ≤ fuel → Closed R (fun i => listed.getD i false) →
      listed.getD n false = false → listed.getD (n + 1) false = false → R.Inv B w0 (fun i => listed.getD i false) a w → wpAny P .any R.ops Q fuel listed a w := by
    intro fuel
    induction fuel with
    | zero =>
      intro listed a w hsz hcnt hcl hn0 hn1 hi
      have := hpos listed n (by omega) hn0
      omega
    | succ fuel ih =>
      intro listed a w hsz hcnt hcl hn0 hn1 hi
      refine ⟨fun hr => absurd (hfull listed hsz hr n (by omega)) (by rw [hn0]; decide), fun i hir => ?_⟩
      obtain ⟨h1, h2, h3⟩ := hrd listed i hir
      obtain ⟨o, ho1, ho2, _⟩ := ho i h1
      have hLi : listed.getD i false = false := by
        simp only [Array.getD, hsz, h1, dite_true] at h2 ⊢
        exact h2
      have hanci : ∀ j, (R.anc i).contains j = true → listed.getD j false = true := by
        intro j hj
        obtain ⟨e, he, hb, hj'⟩ := ho2 j hj
        have hl := h3 o ho1 e he hb
        rcases hj' with rfl | hj'
        · exact hl
        · exact hcl e.on hl j hj'
      have hup := fun k => hset listed i k hsz h1
      by_cases hin : i < n
      · refine step hk (hob i hin) hi hcl hLi hanci _ fun a' w' hi' => ih _ _ _ (by simpa using hsz) (by have := hlt listed i hsz h1 hLi; omega) ?_ ?_ ?_ (hi'.congr hup)
        · intro k hk' j hj
          have hk2 : upd (fun i => listed.getD i false) i k = true := by rw [← hup]; exact hk'
          show (listed.setIfInBounds i true).getD j false = true
          rw [hup]
          rcases of_upd hk2 with rfl | h4
          · exact upd_of _ (hanci j hj)
          · exact upd_of _ (hcl k h4 j hj)
        · rw [hup, upd_ne _ (by omega)]; exact hn0
        · rw [hup, upd_ne _ (by omega)]; exact hn1
      · rcases (show i = n ∨ i = n + 1 by omega) with rfl | rfl
        · have hinv : R.Inv B w0 (fun k => decide (k < i)) a w := by
            refine hi.congr fun k => ?_
            by_cases hki : k < i
            · rw [decide_eq_true hki]; exact (hanci k (ha1 k hki)).symm
            · rw [decide_eq_false hki]
              by_cases hk2 : k < R.ops.size
              · rcases (show k = i ∨ k = i + 1 by omega) with rfl | rfl
                · exact hn0.symm
                · exact hn1.symm
              · have : listed.getD k false = false := by simp [Array.getD, hsz, hk2]
                exact this.symm
          refine hQ a w hinv _ fun a' w' H => ?_
          have hsz' : (listed.setIfInBounds i true).size = R.ops.size := by simpa using hsz
          have hc' := hlt listed i hsz h1 hLi
          have hn1' : (listed.setIfInBounds i true).getD (i + 1) false = false := by rw [hup, upd_ne _ (by omega)]; exact hn1
          have hp' := hpos _ (i + 1) (by omega) hn1'
          cases fuel with
          | zero => omega
          | succ f =>
            refine ⟨fun hr => absurd (hfull _ hsz' hr (i + 1) (by omega)) (by rw [hn1']; decide), fun i' hir' => ?_⟩
            obtain ⟨g1, g2, _⟩ := hrd _ i' hir'
            have hi' : i' = i + 1 := by
              by_cases hlo : i' ≤ i
              · exfalso
                have : (listed.setIfInBounds i true).getD i' false = true := by
                  rw [hup]
                  by_cases he : i' = i
                  · subst he; exact upd_same _ _
                  · exact upd_of _ (hanci i' (ha1 i' (by omega)))
                simp only [Array.getD, hsz', g1, dite_true] at this g2
                rw [this] at g2
                cases g2
              · omega
            subst hi'
            refine H _ fun a'' w'' hq => ?_
            have hnone : Region.ready .any R.ops ((listed.setIfInBounds i true).setIfInBounds (i + 1) true) = [] := by
              cases hrr : Region.ready .any R.ops ((listed.setIfInBounds i true).setIfInBounds (i + 1) true) with
              | nil => rfl
              | cons q rest =>
                exfalso
                obtain ⟨q1, q2, _⟩ := hrd _ q (by rw [hrr]; simp)
                have hsz'' : ((listed.setIfInBounds i true).setIfInBounds (i + 1) true).size = R.ops.size := by simpa using hsz
                have : ((listed.setIfInBounds i true).setIfInBounds (i + 1) true).getD q false = true := by
                  rw [hset _ (i + 1) q hsz' (by omega)]
                  by_cases he : q = i + 1
                  · subst he; exact upd_same _ _
                  · refine upd_of _ ?_
                    show (listed.setIfInBounds i true).getD q false = true
                    rw [hup]
                    by_cases he2 : q = i
                    · subst he2; exact upd_same _ _
                    · exact upd_of _ (hanci q (ha1 q (by omega)))
                simp only [Array.getD, hsz'', q1, dite_true] at this q2
                rw [this] at q2
                cases q2
            cases f with
            | zero => exact ⟨hnone, hq⟩
            | succ f => exact ⟨fun _ => hq, fun j hj => by rw [hnone] at hj; cases hj⟩
        · have := hanci n ha2
          rw [hn0] at this
          cases this
  refine key _ _ a _ (by simp) ?_ ?_ ?_ ?_ ?_
  · refine Nat.le_trans (List.countP_le_length) (by simp)
  · intro i hi
    exfalso
    simp only [Array.getD, Array.size_replicate] at hi
    split at hi <;> simp at hi
  · simp only [Array.getD, Array.size_replicate]; split <;> simp
  · simp only [Array.getD, Array.size_replicate]; split <;> simp
  · have hs := start h hles
    have hd : R.Inv B w0 (fun _ => false) a w.drew := ⟨hs.lo, hs.defers.grow (Grow.drew w) rfl, hs.size, hs.base.drew, fun x hx h1 h2 => x.2.grow _ _ _ _ (Grow.drew w) (hs.g x hx h1 h2), (fun i y d A _ _ hf => by cases hf), (fun i d b k c _ hf => by cases hf),
      fun e he A hA => (hs.c e he A hA).grow (Grow.drew w), hs.x⟩
    refine Inv.congr hd fun k => ?_
    simp only [Array.getD, Array.size_replicate]
    split <;> simp
end

end Go.Proofs.YtgjolcbehcjhcaaGreat
