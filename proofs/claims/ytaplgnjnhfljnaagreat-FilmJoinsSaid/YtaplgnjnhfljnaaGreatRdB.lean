/- Reading arguments, with the bound on what they hold: each list has fewer than 2^47 entries. -/
import Derived.Test.YtaplgnjnhfljnaaGreatMatC
import Derived.ProofKit
import Derived.OpenShut
import Derived.ChangeOld
import Derived.Below
import Derived.Deep.Slices
import Derived.SizedLaws
namespace Go.Proofs.YtaplgnjnhfljnaaGreat
open Go Go.RowKit
namespace RdB

end RdB
open RdB
open Go.ChangeShapes Go.WideShapes Go.ChangeAt
set_option linter.unusedVariables false
theorem nd_selfB {A : As} {D : List TypeId} (h : (A.deps.all fun T => D.contains T) = true) : ∀ T ∈ A.deps, T ∈ D := fun T hT => by
  have := List.all_eq_true.1 h T hT
  simpa using this
def wdI (x : RI) : Prop := x.mag.length ≤ 140737488355328
def wdF (x : RF) : Prop := wdI x.num ∧ wdI x.den
def wdM (x : RM) : Prop := wdF x.a ∧ wdF x.b ∧ wdF x.c ∧ wdF x.d
def wdR (x : RR) : Prop := wdF x.y ∧ wdF x.u
abbrev Wt {H : Type} (P : Program) (t : TypeId) (d : DataW H) : Prop := ∀ n ∈ d.weights P t, n ≤ reachBytes
section
variable {H : Type} {enc : TypeId × Value → H} {w : World} {base : Nat} {spare : Nat → Bool} {held : Bool} {fuel : Nat} {cs : List Value} {x : DataW H × List MemPlace}
theorem rb_mg (h : DataW.trod enc Tryz.prog w base spare held fuel 22 cs = some x) (hw : Wt Tryz.prog 22 x.1) : ∃ l, (MgA l).p w.heap.size cs w ∧ l.length ≤ 140737488355328 := by
  obtain ⟨l, hl⟩ := rd_mg h
  refine ⟨l, hl, ?_⟩
  rcases open_ints Tryz.underlying22 Tryz.underlying84 (by kernel_rfl) h with ⟨hcs, _⟩ | ⟨a, len, cap, zs, rfl, _, h1, hm, hz, hx, hcell, hwz⟩
  · subst hcs
    obtain ⟨_, _, A, c, ds, e, _⟩ := hl
    rw [List.length_map] at e
    simp only [List.cons.injEq, Value.slice.injEq, and_true] at e
    omega
  · obtain ⟨_, _, A, c, ds, e, _⟩ := hl
    rw [List.length_map] at e
    simp only [List.cons.injEq, Value.slice.injEq, and_true] at e
    have h4 : Tryz.prog.bytesOf 84 = 4 := by kernel_rfl
    have := hw (((lits .u32 (zs.take len) : List (DataW H)).length + (lits .u32 (zs.drop len) : List (DataW H)).length) * Tryz.prog.bytesOf 84) (by rw [hx]; simp [DataW.weights, Tryz.underlying22, lits])
    rw [h4] at this
    simp only [lits, List.length_map, List.length_take, List.length_drop] at this
    have hlen : len ≤ zs.length := by rw [hz]; split <;> omega
    unfold reachBytes at this
    omega
theorem rb_part {P : Program} {t : TypeId} {fs : Array Field} (ht : P.underlying t = some (.struct fs)) (h : DataW.trod enc P w base spare held fuel t cs = some x) (hw : Wt P t x.1) (j : Nat) {f : Field} (hf : fs[j]? = some f) :
    ∃ n y, DataW.trod enc P w base spare held n f.type ((cs.drop f.offset).take (P.cellsOf f.type)) = some y ∧ Wt P f.type y.1 := by
  obtain ⟨xs, n, _, hx, _, hlen, hel⟩ := DataW.trod_struct ht h
  have hj : j < fs.size := (Array.getElem?_eq_some_iff.1 hf).1
  have h1 := hel j f hf
  rw [List.getElem?_eq_getElem (by omega)] at h1
  refine ⟨n, _, h1, fun k hk => hw k ?_⟩
  rw [hx]
  simp only [DataW.weights, ht]
  exact DataW.weights_mem_each (j := j) (by rw [List.getElem?_map]; show (fs.toList[j]?).map _ = _; rw [Array.getElem?_toList, hf]; rfl) (by rw [List.getElem?_map, List.getElem?_eq_getElem (by omega)]; rfl) k hk

theorem rb_ri (h : DataW.trod enc Tryz.prog w base spare held fuel 24 cs = some x) (hw : Wt Tryz.prog 24 x.1) : ∃ y, (RIA y).p w.heap.size cs w ∧ wdI y := by
  have hl : cs.length = 2 := by
    obtain ⟨_, _, _, _, hl, _, _⟩ := DataW.trod_struct Tryz.underlying24 h
    exact hl.trans (by kernel_rfl)
  obtain ⟨n0, y0, h0, w0⟩ := rb_part Tryz.underlying24 h hw 0 rfl
  have c0 : Tryz.prog.cellsOf 4 = 1 := by kernel_rfl
  have h0 : DataW.trod enc Tryz.prog w base spare held n0 4 ((cs.drop 0).take (Tryz.prog.cellsOf 4)) = some y0 := h0
  rw [c0] at h0
  obtain ⟨a0, q0⟩ := rd_bo h0
  obtain ⟨n1, y1, h1, w1⟩ := rb_part Tryz.underlying24 h hw 1 rfl
  have c1 : Tryz.prog.cellsOf 22 = 1 := by kernel_rfl
  have h1 : DataW.trod enc Tryz.prog w base spare held n1 22 ((cs.drop 1).take (Tryz.prog.cellsOf 22)) = some y1 := h1
  rw [c1] at h1
  obtain ⟨a1, q1, b1⟩ := rb_mg h1 w1
  exact ⟨⟨a0, a1⟩, cat_two q0 q1 hl, b1⟩

theorem rb_rf (h : DataW.trod enc Tryz.prog w base spare held fuel 26 cs = some x) (hw : Wt Tryz.prog 26 x.1) : ∃ y, (RFA y).p w.heap.size cs w ∧ wdF y := by
  have hl : cs.length = 4 := by
    obtain ⟨_, _, _, _, hl, _, _⟩ := DataW.trod_struct Tryz.underlying26 h
    exact hl.trans (by kernel_rfl)
  obtain ⟨n0, y0, h0, w0⟩ := rb_part Tryz.underlying26 h hw 0 rfl
  have c0 : Tryz.prog.cellsOf 24 = 2 := by kernel_rfl
  have h0 : DataW.trod enc Tryz.prog w base spare held n0 24 ((cs.drop 0).take (Tryz.prog.cellsOf 24)) = some y0 := h0
  rw [c0] at h0
  obtain ⟨a0, q0, b0⟩ := rb_ri h0 w0
  obtain ⟨n1, y1, h1, w1⟩ := rb_part Tryz.underlying26 h hw 1 rfl
  have c1 : Tryz.prog.cellsOf 24 = 2 := by kernel_rfl
  have h1 : DataW.trod enc Tryz.prog w base spare held n1 24 ((cs.drop 2).take (Tryz.prog.cellsOf 24)) = some y1 := h1
  rw [c1] at h1
  obtain ⟨a1, q1, b1⟩ := rb_ri h1 w1
  exact ⟨⟨a0, a1⟩, cat_two q0 q1 hl, ⟨b0, b1⟩⟩

def wdG (x : RG) : Prop := wdF x.re ∧ wdF x.im
theorem rb_rg (h : DataW.trod enc Tryz.prog w base spare held fuel 36 cs = some x) (hw : Wt Tryz.prog 36 x.1) : ∃ y, (RGA y).p w.heap.size cs w ∧ wdG y := by
  have hl : cs.length = 8 := by
    obtain ⟨_, _, _, _, hl, _, _⟩ := DataW.trod_struct Tryz.underlying36 h
    exact hl.trans (by kernel_rfl)
  obtain ⟨n0, y0, h0, w0⟩ := rb_part Tryz.underlying36 h hw 0 rfl
  have c0 : Tryz.prog.cellsOf 26 = 4 := by kernel_rfl
  have h0 : DataW.trod enc Tryz.prog w base spare held n0 26 ((cs.drop 0).take (Tryz.prog.cellsOf 26)) = some y0 := h0
  rw [c0] at h0
  obtain ⟨a0, q0, b0⟩ := rb_rf h0 w0
  obtain ⟨n1, y1, h1, w1⟩ := rb_part Tryz.underlying36 h hw 1 rfl
  have c1 : Tryz.prog.cellsOf 26 = 4 := by kernel_rfl
  have h1 : DataW.trod enc Tryz.prog w base spare held n1 26 ((cs.drop 4).take (Tryz.prog.cellsOf 26)) = some y1 := h1
  rw [c1] at h1
  obtain ⟨a1, q1, b1⟩ := rb_rf h1 w1
  exact ⟨⟨a0, a1⟩, cat_two q0 q1 hl, ⟨b0, b1⟩⟩

theorem rb_sh (h : DataW.trod enc Tryz.prog w base spare held fuel 28 cs = some x) (hw : Wt Tryz.prog 28 x.1) : ∃ y, (RRA y).p w.heap.size cs w ∧ wdR y := by
  have hl : cs.length = 8 := by
    obtain ⟨_, _, _, _, hl, _, _⟩ := DataW.trod_struct Tryz.underlying28 h
    exact hl.trans (by kernel_rfl)
  obtain ⟨n0, y0, h0, w0⟩ := rb_part Tryz.underlying28 h hw 0 rfl
  have c0 : Tryz.prog.cellsOf 26 = 4 := by kernel_rfl
  have h0 : DataW.trod enc Tryz.prog w base spare held n0 26 ((cs.drop 0).take (Tryz.prog.cellsOf 26)) = some y0 := h0
  rw [c0] at h0
  obtain ⟨a0, q0, b0⟩ := rb_rf h0 w0
  obtain ⟨n1, y1, h1, w1⟩ := rb_part Tryz.underlying28 h hw 1 rfl
  have c1 : Tryz.prog.cellsOf 26 = 4 := by kernel_rfl
  have h1 : DataW.trod enc Tryz.prog w base spare held n1 26 ((cs.drop 4).take (Tryz.prog.cellsOf 26)) = some y1 := h1
  rw [c1] at h1
  obtain ⟨a1, q1, b1⟩ := rb_rf h1 w1
  exact ⟨⟨a0, a1⟩, cat_two q0 q1 hl, ⟨b0, b1⟩⟩

/-- an argument that is a struct. -/
theorem arg_ofB {P : Program} {α : Type} {A : α → As} {bd : α → Prop} {t : TypeId} {fs : Array Field} {r : Reach} {b0 : Nat} {v : Value} {d : DataW H} {p : List MemPlace} (hag : ∀ y, (A y).ag = true) (ht : P.underlying t = some (.struct fs))
    (rd : ∀ {fuel : Nat} {cs : List Value} {x : DataW H × List MemPlace}, DataW.trod enc P w base spare held fuel t cs = some x → Wt P t x.1 → ∃ y, (A y).p w.heap.size cs w ∧ bd y)
    (hv : Value.okWide P w r b0 t v) (h : DataW.Trod enc P w base spare held t v d p) (hw : Wt P t d) : ∃ y, (A y).va.p w.heap.size v w ∧ bd y := by
  obtain ⟨cs, hcs, _⟩ := okWide_struct ht hv
  subst hcs
  obtain ⟨fuel, hf⟩ := h
  obtain ⟨y, hy, hb⟩ := rd hf hw
  refine ⟨y, ⟨cs.toList, hy, ?_⟩, hb⟩
  unfold shape
  rw [hag y, if_pos rfl]
theorem wt_of {P : Program} {ts : List TypeId} {ds : List (DataW H)} (h : (DataW.weightsEach P ts ds).all (· ≤ reachBytes) = true) (j : Nat) {t : TypeId} {d : DataW H} (ht : ts[j]? = some t) (hd : ds[j]? = some d) : Wt P t d := fun n hn => by
  have := List.all_eq_true.1 h n (DataW.weights_mem_each ht hd n hn)
  simpa using this
theorem weightsAll_mem {P : Program} {e : TypeId} : ∀ {l : List (DataW H)} {d : DataW H}, d ∈ l → ∀ n ∈ d.weights P e, n ∈ DataW.weightsAll P e l
  | [], _, h, _, _ => by cases h
  | x :: l, d, h, n, hn => by
    simp only [DataW.weightsAll, List.mem_append]
    rcases List.mem_cons.1 h with rfl | h
    · exact .inl hn
    · exact .inr (weightsAll_mem h n hn)
theorem rb_sl {P : Program} {α : Type} {A : α → As} {bd : α → Prop} {t e : TypeId} {m : Nat} {D : List TypeId} (ht : P.underlying t = some (.slice e)) (hc : P.cellsOf e = m) (hm0 : 0 < m) (hby : 0 < P.bytesOf e) (hD : ∀ y, ∀ T ∈ (A y).deps, T ∈ D)
    (rd : ∀ {fuel : Nat} {cs : List Value} {x : DataW H × List MemPlace}, DataW.trod enc P w base spare held fuel e cs = some x → Wt P e x.1 → ∃ y, (A y).p w.heap.size cs w ∧ bd y)
    (h : DataW.trod enc P w base spare held fuel t cs = some x) (hw : Wt P t x.1) : ∃ l : List α, (SlA e D (l.map A)).p w.heap.size cs w ∧ (∀ y ∈ l, bd y) ∧ l.length ≤ 140737488355328 := by
  rcases Go.Deep.open_slice ht h with ⟨rfl, _⟩ | ⟨a, len, cap, m', n, Df, Pl, rfl, hb, hl, hmx, hm', hxx, hel⟩
  · exact ⟨[], ⟨fun A hA => by simp at hA, none, 0, [], rfl, Nat.le_refl _, Nat.zero_le _, ⟨[], rfl, .nil⟩, fun h => absurd h (by simp)⟩, fun y hy => (by cases hy), by simp⟩
  · rw [hc] at hel
    have hle : len ≤ m' := by rw [hm']; split <;> omega
    have hwt : ∀ k, k < len → Wt P e (Df k) := fun k hk n hn => hw n (by
      rw [hxx]
      simp only [DataW.weights, ht]
      exact List.mem_cons_of_mem _ (List.mem_append_left _ (weightsAll_mem (List.mem_map.2 ⟨k, List.mem_range.2 hk, rfl⟩) n hn)))
    have hlw : len ≤ 140737488355328 := by
      have := hw ((((List.range len).map Df).length + ((List.range (m' - len)).map fun j => Df (len + j)).length) * P.bytesOf e) (by rw [hxx]; simp [DataW.weights, ht])
      simp only [List.length_map, List.length_range] at this
      unfold reachBytes at this
      have h1 : (len + (m' - len)) * 1 ≤ (len + (m' - len)) * P.bytesOf e := Nat.mul_le_mul_left _ hby
      omega
    have key : ∀ k, k ≤ len → ∃ (l : List α) (ds : List Value), l.length = k ∧ ds.length = k * m ∧ (cat (l.map A)).p w.heap.size ds w ∧ (∀ y ∈ l, bd y) ∧ ∀ (j : Nat) v, ds[j]? = some v → w.cell? (a.add j) = some v := by
      intro k
      induction k with
      | zero => exact fun _ => ⟨[], [], rfl, by simp, ⟨[], rfl, .nil⟩, fun y hy => (by cases hy), fun j v hv => by simp at hv⟩
      | succ k ih =>
        intro hk
        obtain ⟨l, ds, h1, h2, h3, hbd, h4⟩ := ih (by omega)
        obtain ⟨cs', q1, q2⟩ := hel k (by omega)
        obtain ⟨y, hy, hyb⟩ := rd q2 (hwt k (by omega))
        obtain ⟨_, q3, q4⟩ := World.cells?_some q1
        refine ⟨l ++ [y], ds ++ cs', by simp [h1], by rw [List.length_append, h2, q3, Nat.add_mul, Nat.one_mul], ?_, fun z hz => by
          rcases List.mem_append.1 hz with hz | hz
          · exact hbd z hz
          · obtain rfl := List.mem_singleton.1 hz; exact hyb, fun j v hv => ?_⟩
        · rw [List.map_append]
          exact cat_apx h3 (cat_onex hy)
        · by_cases hj : j < ds.length
          · rw [List.getElem?_append_left hj] at hv
            exact h4 j v hv
          · rw [List.getElem?_append_right (by omega)] at hv
            have hlt : j - ds.length < cs'.length := (List.getElem?_eq_some_iff.1 hv).1
            have := q4 (j - ds.length) (by omega)
            rw [Go.Deep.add_add, show k * m + (j - ds.length) = j by omega] at this
            rw [this, hv]
    obtain ⟨l, ds, h1, h2, h3, hbd, h4⟩ := key len (Nat.le_refl _)
    refine ⟨l, ⟨fun A' hA => ?_, some a, cap, ds, by rw [List.length_map, h1], by rw [List.length_map, h1]; exact hl, hmx, h3, fun hpos => ?_⟩, hbd, by omega⟩
    · obtain ⟨y, _, rfl⟩ := List.mem_map.1 hA
      exact hD y
    · rw [List.length_map, h1] at hpos
      have hds : 0 < ds.length := by rw [h2]; exact Nat.mul_pos hpos hm0
      obtain ⟨b, off, spot⟩ := a
      have h0 := h4 0 (ds[0]) (List.getElem?_eq_getElem hds)
      have hspot : spot = none := by simpa [Addr.add] using World.cell?_spot h0
      subst hspot
      have hblk : b < w.heap.size := World.block_lt_of_cell? w _ (by rw [Go.WideShapes.add_plain] at h0; exact h0)
      exact ⟨b, off, rfl, hblk, .inl hblk, fun j v hv => by rw [← Go.WideShapes.add_plain]; exact h4 j v hv⟩
theorem arg_slB {P : Program} {α : Type} {A : α → As} {bd : α → Prop} {t e : TypeId} {m : Nat} {D : List TypeId} {r : Reach} {b0 : Nat} {v : Value} {d : DataW H} {p : List MemPlace} (ht : P.underlying t = some (.slice e)) (hc : P.cellsOf e = m) (hm0 : 0 < m) (hby : 0 < P.bytesOf e) (hD : ∀ y, ∀ T ∈ (A y).deps, T ∈ D)
    (rd : ∀ {fuel : Nat} {cs : List Value} {x : DataW H × List MemPlace}, DataW.trod enc P w base spare held fuel e cs = some x → Wt P e x.1 → ∃ y, (A y).p w.heap.size cs w ∧ bd y)
    (hv : Value.okWide P w r b0 t v) (h : DataW.Trod enc P w base spare held t v d p) (hw : Wt P t d) : ∃ l : List α, (SlA e D (l.map A)).va.p w.heap.size v w ∧ (∀ y ∈ l, bd y) ∧ l.length ≤ 140737488355328 := by
  obtain ⟨a, len, cap, rfl⟩ := okWide_slice ht hv
  obtain ⟨fuel, hf⟩ := h
  obtain ⟨l, hl, h2⟩ := rb_sl ht hc hm0 hby hD rd hf hw
  exact ⟨l, ⟨_, hl, rfl⟩, h2⟩
end
/-! what is not too much is short -/
theorem frac_cost {x : RF} (h : wdF x) : ∃ c : Nat, fracCostF x = (c : Int) ∧ x.num.mag.length + x.den.mag.length + 2 ≤ c ∧ c ≤ 4503599627370496 := by
  obtain ⟨h1, h2⟩ := h
  unfold wdI at h1 h2
  have e1 : intSizeF x.num = ((1 + x.num.mag.length : Nat) : Int) := by unfold intSizeF; rw [wi64 (by omega) (by omega)]; omega
  have e2 : intSizeF x.den = ((1 + x.den.mag.length : Nat) : Int) := by unfold intSizeF; rw [wi64 (by omega) (by omega)]; omega
  have e3 : fracSizeF x = ((2 + x.num.mag.length + x.den.mag.length : Nat) : Int) := by unfold fracSizeF; rw [e1, e2, wi64 (by omega) (by omega)]; omega
  obtain ⟨u, hu⟩ : ∃ u : Nat, u = min x.num.mag.length 1048576 := ⟨_, rfl⟩
  obtain ⟨v, hv⟩ : ∃ v : Nat, v = min x.den.mag.length 1048576 := ⟨_, rfl⟩
  have hu' : min (x.num.mag.length : Int) 1048576 = (u : Int) := by omega
  have hv' : min (x.den.mag.length : Int) 1048576 = (v : Int) := by omega
  have huv : u * v ≤ 1048576 * 1048576 := Nat.mul_le_mul (by omega) (by omega)
  have h16 : u * v / 16 ≤ 68719476736 := Nat.le_trans (Nat.div_le_div_right huv) (by decide)
  have e4 : lowCostF x.num x.den = ((u * v / 16 * 1024 : Nat) : Int) := by
    unfold lowCostF
    have t1 : IntKind.i64.wrap (((u * v : Nat) : Int)) = ((u * v : Nat) : Int) := wi64 (by omega) (by omega)
    have t2 : (((u * v : Nat) : Int)).tdiv 16 = ((u * v / 16 : Nat) : Int) := by rw [show (16 : Int) = ((16 : Nat) : Int) from rfl, Int.tdiv_eq_ediv_of_nonneg (by omega), ← Int.natCast_ediv]
    have t3 : IntKind.i64.wrap (((u * v / 16 : Nat) : Int)) = ((u * v / 16 : Nat) : Int) := wi64 (by omega) (by omega)
    rw [hu', hv', ← Int.natCast_mul, t1, t2, t3, wi64 (by omega) (by omega)]
    omega
  refine ⟨2 + x.num.mag.length + x.den.mag.length + u * v / 16 * 1024, ?_, by omega, by omega⟩
  unfold fracCostF
  rw [e3, e4, wi64 (by omega) (by omega)]
  omega
theorem mat_cost {x : RM} (h : wdM x) : ∃ a b c d : Nat, matCostF x = ((a + b + c + d : Nat) : Int) ∧ (x.a.num.mag.length + x.a.den.mag.length ≤ a ∧ x.b.num.mag.length + x.b.den.mag.length ≤ b ∧ x.c.num.mag.length + x.c.den.mag.length ≤ c ∧ x.d.num.mag.length + x.d.den.mag.length ≤ d) ∧ a + b + c + d ≤ 18014398509481984 := by
  obtain ⟨h1, h2, h3, h4⟩ := h
  obtain ⟨a, ea, la, ma⟩ := frac_cost h1
  obtain ⟨b, eb, lb, mb⟩ := frac_cost h2
  obtain ⟨c, ec, lc, mc⟩ := frac_cost h3
  obtain ⟨d, ed, ld, md⟩ := frac_cost h4
  refine ⟨a, b, c, d, ?_, ⟨by omega, by omega, by omega, by omega⟩, by omega⟩
  unfold matCostF
  rw [ea, eb, ec, ed, wi64 (x := (a : Int) + b) (by omega) (by omega), wi64 (x := (a : Int) + b + c) (by omega) (by omega), wi64 (by omega) (by omega)]
  omega
theorem ray_cost {x : RR} (h : wdR x) : ∃ a b : Nat, rayCostF x = ((a + b : Nat) : Int) ∧ (x.y.num.mag.length + x.y.den.mag.length ≤ a ∧ x.u.num.mag.length + x.u.den.mag.length ≤ b) ∧ a + b ≤ 9007199254740992 := by
  obtain ⟨h1, h2⟩ := h
  obtain ⟨a, ea, la, ma⟩ := frac_cost h1
  obtain ⟨b, eb, lb, mb⟩ := frac_cost h2
  refine ⟨a, b, ?_, ⟨by omega, by omega⟩, by omega⟩
  unfold rayCostF
  rw [ea, eb, wi64 (by omega) (by omega)]
  omega
/-- sums that are told without wrapping. -/
theorem byd_sum {n : Nat} {l : List Nat} (hn : n + l.sum ≤ 9223372036854775807) (h : bydF (n : Int) (l.map fun (x : Nat) => (x : Int)) = false) : n ≤ 1048576 ∨ l = [] → n + l.sum ≤ 1048576 ∨ l = [] := by
  induction l generalizing n with
  | nil => exact fun _ => .inr rfl
  | cons x l ih =>
    intro _
    simp only [List.sum_cons] at hn
    simp only [List.map_cons, bydF] at h
    rw [wi64 (by omega) (by omega)] at h
    split at h
    · cases h
    · rename_i h1
      have h2 : n + x ≤ 1048576 := by
        rw [decide_eq_true_eq] at h1
        omega
      rw [show ((n : Int) + (x : Int)) = ((n + x : Nat) : Int) from rfl] at h
      rcases ih (n := n + x) (by omega) h (.inl h2) with h3 | h3
      · left; simp only [List.sum_cons]; omega
      · subst h3; left; simp; omega
theorem byd_0 {l : List Nat} (hn : l.sum ≤ 9223372036854775807) (h : bydF 0 (l.map fun (x : Nat) => (x : Int)) = false) : l.sum ≤ 1048576 := by
  rcases byd_sum (n := 0) (by omega) h (.inl (by decide)) with h | h
  · omega
  · subst h; decide

theorem gauss_cost {x : RG} (h : wdG x) : ∃ a b : Nat, gaussCostF x = ((a + b : Nat) : Int) ∧ (x.re.num.mag.length + x.re.den.mag.length ≤ a ∧ x.im.num.mag.length + x.im.den.mag.length ≤ b) ∧ a + b ≤ 9007199254740992 := by
  obtain ⟨h1, h2⟩ := h
  obtain ⟨a, ea, la, ma⟩ := frac_cost h1
  obtain ⟨b, eb, lb, mb⟩ := frac_cost h2
  refine ⟨a, b, ?_, ⟨by omega, by omega⟩, by omega⟩
  unfold gaussCostF
  rw [ea, eb, wi64 (by omega) (by omega)]
  omega
def shG (c : Nat) (x : RG) : Prop := x.re.num.mag.length ≤ c ∧ x.re.den.mag.length ≤ c ∧ x.im.num.mag.length ≤ c ∧ x.im.den.mag.length ≤ c
theorem gcs_ok : ∀ (xs : List RG) (n : Nat), (∀ x ∈ xs, wdG x) → n ≤ 288230376151711744 → ∃ c : Nat, gcsF (n : Int) xs = (c : Int) ∧ c ≤ 576460752303423488 ∧ (c ≤ 1048576 → n ≤ c ∧ ∀ x ∈ xs, shG c x)
  | [], n, _, hn => ⟨n, rfl, by omega, fun _ => ⟨Nat.le_refl _, fun x hx => by cases hx⟩⟩
  | x :: xs, n, hw, hn => by
    obtain ⟨a, b, e, l, hs⟩ := gauss_cost (hw x (by simp))
    by_cases h : n ≤ 1048576
    · obtain ⟨c, h1, h2, h3⟩ := gcs_ok xs (n + (a + b)) (fun y hy => hw y (by simp [hy])) (by omega)
      refine ⟨c, ?_, h2, fun hc => ?_⟩
      · rw [gcsF, if_pos (decide_eq_true (by omega)), e, wi64 (by omega) (by omega)]
        exact h1
      · obtain ⟨h4, h5⟩ := h3 hc
        refine ⟨by omega, fun y hy => ?_⟩
        rcases List.mem_cons.1 hy with rfl | hy
        · unfold shG; omega
        · exact h5 y hy
    · refine ⟨n, ?_, by omega, fun hc => absurd hc h⟩
      rw [gcsF, if_neg (by intro h2; have := of_decide_eq_true h2; omega)]

end Go.Proofs.YtaplgnjnhfljnaaGreat
