/- Reading an argument that is a slice of structs. -/
import Derived.Test.YtljkepdpoelpkaaLeafX
import Derived.ProofKit
import Derived.OpenShut
import Derived.ChangeOld
import Derived.Below
import Derived.Deep.Slices
namespace Go.Proofs.Ytljkepdpoelpkaa
open Go Go.RowKit
namespace MatC

end MatC
open MatC
open Go.ChangeShapes Go.WideShapes Go.ChangeAt
theorem all2_apx {α β : Type} {R' : α → β → Prop} {l1 l2 : List α} {m1 m2 : List β} (h : All2 R' l1 m1) (h' : All2 R' l2 m2) : All2 R' (l1 ++ l2) (m1 ++ m2) := by
  induction h with
  | nil => exact h'
  | cons h1 _ ih => exact .cons h1 ih
theorem cat_apx {l l' : List As} {B : Nat} {ds ds' : List Value} {w : World} (h : (cat l).p B ds w) (h' : (cat l').p B ds' w) : (cat (l ++ l')).p B (ds ++ ds') w := by
  obtain ⟨ps, rfl, h1⟩ := h
  obtain ⟨ps', rfl, h2⟩ := h'
  exact ⟨ps ++ ps', by simp, all2_apx h1 h2⟩
theorem cat_onex {A : As} {B : Nat} {ds : List Value} {w : World} (h : A.p B ds w) : (cat [A]).p B ds w := ⟨[ds], by simp, .cons h .nil⟩
section
variable {H : Type} {enc : TypeId × Value → H} {w : World} {base : Nat} {spare : Nat → Bool} {held : Bool} {fuel : Nat} {cs : List Value} {x : DataW H × List MemPlace}
theorem rd_sl {P : Program} {α : Type} {A : α → As} {t e : TypeId} {m : Nat} {D : List TypeId} (ht : P.underlying t = some (.slice e)) (hc : P.cellsOf e = m) (hm0 : 0 < m) (hD : ∀ y, ∀ T ∈ (A y).deps, T ∈ D)
    (rd : ∀ {fuel : Nat} {cs : List Value} {x : DataW H × List MemPlace}, DataW.trod enc P w base spare held fuel e cs = some x → ∃ y, (A y).p w.heap.size cs w)
    (h : DataW.trod enc P w base spare held fuel t cs = some x) : ∃ l : List α, (SlA e D (l.map A)).p w.heap.size cs w := by
  rcases Go.Deep.open_slice ht h with ⟨rfl, _⟩ | ⟨a, len, cap, m', n, Df, Pl, rfl, hb, hl, hmx, hm', _, hel⟩
  · exact ⟨[], fun A hA => by simp at hA, none, 0, [], rfl, Nat.le_refl _, Nat.zero_le _, ⟨[], rfl, .nil⟩, fun h => absurd h (by simp)⟩
  · rw [hc] at hel
    have hle : len ≤ m' := by rw [hm']; split <;> omega
    have key : ∀ k, k ≤ len → ∃ (l : List α) (ds : List Value), l.length = k ∧ ds.length = k * m ∧ (cat (l.map A)).p w.heap.size ds w ∧ ∀ (j : Nat) v, ds[j]? = some v → w.cell? (a.add j) = some v := by
      intro k
      induction k with
      | zero => exact fun _ => ⟨[], [], rfl, by simp, ⟨[], rfl, .nil⟩, fun j v hv => by simp at hv⟩
      | succ k ih =>
        intro hk
        obtain ⟨l, ds, h1, h2, h3, h4⟩ := ih (by omega)
        obtain ⟨cs', q1, q2⟩ := hel k (by omega)
        obtain ⟨y, hy⟩ := rd q2
        obtain ⟨_, q3, q4⟩ := World.cells?_some q1
        refine ⟨l ++ [y], ds ++ cs', by simp [h1], by rw [List.length_append, h2, q3, Nat.add_mul, Nat.one_mul], ?_, fun j v hv => ?_⟩
        · rw [List.map_append]
          exact cat_apx h3 (cat_onex hy)
        · by_cases hj : j < ds.length
          · rw [List.getElem?_append_left hj] at hv
            exact h4 j v hv
          · rw [List.getElem?_append_right (by omega)] at hv
            have hlt : j - ds.length < cs'.length := (List.getElem?_eq_some_iff.1 hv).1
            have := q4 (j - ds.length) (by omega)
            rw [Go.Deep.add_add, show k * m + (j - ds.length) = j by omega] at this
            rw [this, hv]
    obtain ⟨l, ds, h1, h2, h3, h4⟩ := key len (Nat.le_refl _)
    refine ⟨l, fun A' hA => ?_, some a, cap, ds, by rw [List.length_map, h1], by rw [List.length_map, h1]; exact hl, hmx, h3, fun hpos => ?_⟩
    · obtain ⟨y, _, rfl⟩ := List.mem_map.1 hA
      exact hD y
    · rw [List.length_map, h1] at hpos
      have hds : 0 < ds.length := by rw [h2]; exact Nat.mul_pos hpos hm0
      obtain ⟨b, off, spot⟩ := a
      have h0 := h4 0 (ds[0]) (List.getElem?_eq_getElem hds)
      have hspot : spot = none := by simpa [Addr.add] using World.cell?_spot h0
      subst hspot
      have hblk : b < w.heap.size := World.block_lt_of_cell? w _ (by rw [Go.WideShapes.add_plain] at h0; exact h0)
      exact ⟨b, off, rfl, hblk, .inl hblk, fun j v hv => by rw [← Go.WideShapes.add_plain]; exact h4 j v hv⟩
theorem arg_sl {P : Program} {α : Type} {A : α → As} {t e : TypeId} {m : Nat} {D : List TypeId} {r : Reach} {b0 : Nat} {v : Value} {d : DataW H} {p : List MemPlace} (ht : P.underlying t = some (.slice e)) (hc : P.cellsOf e = m) (hm0 : 0 < m) (hD : ∀ y, ∀ T ∈ (A y).deps, T ∈ D)
    (rd : ∀ {fuel : Nat} {cs : List Value} {x : DataW H × List MemPlace}, DataW.trod enc P w base spare held fuel e cs = some x → ∃ y, (A y).p w.heap.size cs w)
    (hv : Value.okWide P w r b0 t v) (h : DataW.Trod enc P w base spare held t v d p) : ∃ l : List α, (SlA e D (l.map A)).va.p w.heap.size v w := by
  obtain ⟨a, len, cap, rfl⟩ := okWide_slice ht hv
  obtain ⟨fuel, hf⟩ := h
  obtain ⟨l, hl⟩ := rd_sl ht hc hm0 hD rd hf
  exact ⟨l, _, hl, rfl⟩
end

end Go.Proofs.Ytljkepdpoelpkaa
