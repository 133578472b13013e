/- A row of structs that grows by append: what it is, what an append does to it and to all else. -/
import Derived.Test.YtgjolcbehcjhcaaGreatRayC
import Derived.Laws.AppendOwn
import Derived.Orders
namespace Go.Proofs.YtgjolcbehcjhcaaGreat
open Go Go.RowKit
namespace RayD

end RayD
open RayD
/-! a world that turned in one row, and grew -/
def cutW (w w' : World) : World := { w' with heap := w'.heap.extract 0 w.heap.size }
theorem cut_at {w w' : World} (hs : w.heap.size ≤ w'.heap.size) {k : Nat} (hk : k < w.heap.size) : (cutW w w').heap[k]? = w'.heap[k]? := by
  show (w'.heap.extract 0 w.heap.size)[k]? = _
  rw [Array.getElem?_extract]
  simp
  omega
theorem cut_size {w w' : World} (hs : w.heap.size ≤ w'.heap.size) : (cutW w w').heap.size = w.heap.size := by
  show (w'.heap.extract 0 w.heap.size).size = _
  simp
  omega
theorem cut_wr {w w' : World} {g : Nat} (h : w.grownBy w' (some g)) : Wr g w (cutW w w') :=
  ⟨h.os, h.tape, h.output, cut_size h.size, fun k hk => by
    by_cases hlt : k < w.heap.size
    · rw [cut_at h.size hlt]
      exact h.block k hlt (fun e => hk (by injection e))
    · rw [Array.getElem?_eq_none (by rw [cut_size h.size]; omega), Array.getElem?_eq_none (by omega)]⟩
theorem cut_grow {w w' : World} {row : Option Nat} (h : w.grownBy w' row) : Grow (cutW w w') w' :=
  ⟨rfl, rfl, rfl, by rw [cut_size h.size]; exact h.size, fun k hk => by
    rw [cut_size h.size] at hk
    rw [cut_at h.size hk]⟩
theorem none_grow {w w' : World} (h : w.grownBy w' none) : Grow w w' := ⟨h.os, h.tape, h.output, h.size, fun k hk => h.block k hk (by simp)⟩
/-- the row that may turn: of element type E, from b on. -/
def RowOk (w : World) (b : Nat) (E : TypeId) (row : Option Nat) : Prop := ∀ g, row = some g → b ≤ g ∧ ∃ c fz, w.heap[g]? = some (.cells c E fz)
theorem DefOk.grown {w0 : Bs} {a a' : Act} {w w' : World} {b : Nat} {E : TypeId} {row : Option Nat} (h : DefOk w0 a w) (hg : w.grownBy w' row) (hr : RowOk w b E row) (e : a'.defers = a.defers) : DefOk w0 a' w' :=
  h.keep e fun D hD => (hg.block D (Array.getElem?_eq_some_iff.1 hD).1 (fun e => by
    obtain ⟨_, c, fz, hc⟩ := hr D e.symm
    rw [hc] at hD
    cases hD)).trans hD
theorem VA.grown {A : VA} {B b : Nat} {v : Value} {w w' : World} {E : TypeId} {row : Option Nat} (hp : A.p B v w) (hg : w.grownBy w' row) (hr : RowOk w b E row) (hb : B ≤ b) (hE : E ∉ A.deps) : A.p B v w' := by
  cases row with
  | none => exact A.grow _ _ _ _ (none_grow hg) hp
  | some g =>
    obtain ⟨h1, c, fz, h2⟩ := hr g rfl
    exact A.grow _ _ _ _ (cut_grow hg) (A.wr _ _ _ _ _ _ _ _ h2 hE (Nat.le_trans hb h1) (cut_wr hg) hp)
theorem As.grown {A : As} {B b : Nat} {cs : List Value} {w w' : World} {E : TypeId} {row : Option Nat} (hp : A.p B cs w) (hg : w.grownBy w' row) (hr : RowOk w b E row) (hb : B ≤ b) (hE : E ∉ A.deps) : A.p B cs w' := by
  cases row with
  | none => exact A.grow _ _ _ _ (none_grow hg) hp
  | some g =>
    obtain ⟨h1, c, fz, h2⟩ := hr g rfl
    exact A.grow _ _ _ _ (cut_grow hg) (A.wr _ _ _ _ _ _ _ _ h2 hE (Nat.le_trans hb h1) (cut_wr hg) hp)
/-- a row of a call's own, of element type E (m cells an element), that grows; b: the world's size when the call began. -/
def OwnR (b : Nat) (E : TypeId) (m : Nat) (D : List TypeId) (l : List As) : VA where
  p B v w := (∀ A ∈ l, A.n = m) ∧ (∀ A ∈ l, ∀ T ∈ A.deps, T ∈ D) ∧ ∃ ds, (cat l).p B ds w ∧ w.ownsRow b E m v l.length ds
  deps := E :: D
  cg := by
    rintro B v w w' hg ⟨h1, h2, ds, h3, h4, h5⟩
    refine ⟨h1, h2, ds, (cat l).cg _ _ _ _ hg h3, h4, ?_⟩
    rcases h5 with h5 | ⟨g, cap, cur, e1, e2, e3, e4⟩
    · exact .inl h5
    · exact .inr ⟨g, cap, cur, e1, e2, hg.heap e3, e4⟩
  wr := by
    rintro B v w w' g c T fz hgc hT hB hW ⟨h1, h2, ds, h3, h4, h5⟩
    simp only [List.mem_cons, not_or] at hT
    refine ⟨h1, h2, ds, (cat l).wr _ _ _ _ _ _ _ _ hgc (cat_nd h2 hT.2) hB hW h3, h4, ?_⟩
    rcases h5 with h5 | ⟨g0, cap, cur, e1, e2, e3, e4⟩
    · exact .inl h5
    · refine .inr ⟨g0, cap, cur, e1, e2, ?_, e4⟩
      have hne : g0 ≠ g := by
        rintro rfl
        rw [hgc] at e3
        injection e3 with e3
        injection e3 with _ e3 _
        exact hT.1 e3
      rw [hW.block g0 hne]
      exact e3
theorem own_nil {b : Nat} {E : TypeId} {m : Nat} {D : List TypeId} : Wk (EqV (.slice none 0 0)) (OwnR b E m D []) := fun _ v w h => by
  have e : v = .slice none 0 0 := h
  subst e
  exact ⟨(fun A hA => by cases hA), (fun A hA => by cases hA), [], ⟨[], rfl, .nil⟩, World.ownsRow_nil w b E m⟩
theorem own_sl {b : Nat} {E : TypeId} {m : Nat} {D : List TypeId} {l : List As} : Wk (OwnR b E m D l) (SlA E D l).va := fun B v w ⟨_, h2, ds, h3, h4, h5⟩ => by
  rcases h5 with ⟨rfl, h5⟩ | ⟨g, cap, cur, rfl, e2, e3, e4, e5, e6, e7⟩
  · refine ⟨[.slice none 0 0], ⟨h2, none, 0, ds, by rw [h5], by omega, Nat.zero_le _, h3, fun h => by omega⟩, rfl⟩
  · refine ⟨[.slice (some ⟨g, 0, none⟩) l.length cap], ⟨h2, _, cap, ds, rfl, e4, e5, h3, fun _ => ⟨g, 0, rfl, (Array.getElem?_eq_some_iff.1 e3).1, .inr ⟨_, _, e3⟩, fun j u hu => ?_⟩⟩, rfl⟩
    rw [cell_of_row w g (0 + j) cur E _ e3, Nat.zero_add]
    rw [← e7, List.getElem?_take] at hu
    split at hu
    · simpa using hu
    · cases hu
theorem own_row {b : Nat} {E : TypeId} {m : Nat} {v : Value} {n : Nat} {ds : List Value} {w : World} (h : w.ownsRow b E m v n ds) : RowOk w b E v.ownBlock := by
  intro g hg
  obtain ⟨_, ⟨rfl, _⟩ | ⟨g', cap, cur, rfl, e2, e3, _⟩⟩ := h
  · cases hg
  · have : g' = g := by injection hg
    subst this
    exact ⟨e2, _, _, e3⟩
theorem all2_app {α β : Type} {R' : α → β → Prop} {l1 l2 : List α} {m1 m2 : List β} (h : All2 R' l1 m1) (h' : All2 R' l2 m2) : All2 R' (l1 ++ l2) (m1 ++ m2) := by
  induction h with
  | nil => exact h'
  | cons h1 _ ih => exact .cons h1 ih
theorem cat_app {l l' : List As} {B : Nat} {ds ds' : List Value} {w : World} (h : (cat l).p B ds w) (h' : (cat l').p B ds' w) : (cat (l ++ l')).p B (ds ++ ds') w := by
  obtain ⟨ps, rfl, h1⟩ := h
  obtain ⟨ps', rfl, h2⟩ := h'
  exact ⟨ps ++ ps', by simp, all2_app h1 h2⟩
/-- what an append of one element does. -/
theorem run_own {P : Program} {S E T1 : TypeId} {m bytes b B : Nat} {D D' : List TypeId} {l : List As} {x : As} {w : World} {v u : Value} {it : TypeInfo} {z : Value}
    (hS : P.underlying S = some (.slice E)) (hi : P.info? E = some it) (hz : it.zero = some z) (hsz : it.size = m) (hby : it.bytes = bytes) (hzs : z.cells.size = m) (hm0 : 0 < m) (hl : l.length ≤ 1000) (hb6 : bytes ≤ 1000)
    (hv : (OwnR b E m D l).p B v w) (hu : (SlA E D' [x]).va.p B u w) (hD' : ∀ T ∈ D', T ∈ D) (hED : E ∉ D) (hxm : x.n = m) (hbw : b ≤ w.heap.size) (hB : B ≤ b) :
    ∃ v' w', (Builtin.append_ #[S, S] T1 #[v, u]).run P w = .ok v' w' ∧ (OwnR b E m D (l ++ [x])).p B v' w' ∧ w.grownBy w' v.ownBlock ∧ RowOk w b E v.ownBlock := by
  obtain ⟨h1, h2, ds, h3, h4⟩ := hv
  obtain ⟨cs, ⟨hD, Ad, c, ds1, rfl, _, _, h5, h6⟩, hu'⟩ := hu
  obtain ⟨g1, o1, rfl, _, _, h8⟩ := h6 (by simp)
  have hu2 : u = .slice (some ⟨g1, o1, none⟩) 1 c := hu'
  subst hu2
  have hl1 : ds1.length = 1 * m := by rw [(cat [x]).len _ _ _ h5]; simp [cat, hxm]
  obtain ⟨v', w', hr, r1, r2, _⟩ := run_append_own (P := P) w b S T1 E it z m bytes hS hi hz hsz hby hzs hm0 v l.length ds h4 ⟨g1, o1, none⟩ 1 c ds1 hl1 (fun j u hj => by rw [add_k]; exact h8 j u hj) ((cat [x]).one _ _ _ h5) (by unfold maxLen; omega)
    (Nat.le_trans (Nat.mul_le_mul (show l.length + 1 ≤ 1001 by omega) hb6) (by decide)) hbw
  have hro := own_row h4
  refine ⟨v', w', hr, ⟨?_, ?_, ds ++ ds1, ?_, ?_⟩, r2, hro⟩
  · intro A hA
    rcases List.mem_append.1 hA with hA | hA
    · exact h1 A hA
    · obtain rfl := List.mem_singleton.1 hA
      exact hxm
  · intro A hA
    rcases List.mem_append.1 hA with hA | hA
    · exact h2 A hA
    · exact fun T hT => hD' T (hD A hA T hT)
  · exact cat_app (As.grown h3 r2 hro hB (cat_nd h2 hED)) (As.grown h5 r2 hro hB (cat_nd (fun A hA T hT => hD' T (hD A hA T hT)) hED))
  · rw [List.length_append]
    exact r1

end Go.Proofs.YtgjolcbehcjhcaaGreat
