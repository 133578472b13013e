import Derived.Test.YtljkepdpoelpkaaLeafU
import Derived.ProofKit
import Derived.OpenShut
import Derived.ChangeOld
import Derived.Below
namespace Go.Proofs.Ytljkepdpoelpkaa
open Go Go.RowKit
namespace LeafV

end LeafV
open LeafV
open Go.ChangeShapes Go.WideShapes Go.ChangeAt
theorem cat_of {B : Nat} {w : World} : ∀ {l : List As} {cs : List Value}, cs.length = (l.map (·.n)).sum → (∀ (k : Nat) (A : As), l[k]? = some A → A.p B ((cs.drop (offs l k)).take A.n) w) → (cat l).p B cs w
  | [], cs, hl, _ => by
    have : cs = [] := List.length_eq_zero_iff.1 (by simpa using hl)
    subst this
    exact ⟨[], rfl, .nil⟩
  | A :: l, cs, hl, h => by
    simp only [List.map_cons, List.sum_cons] at hl
    have h0 := h 0 A rfl
    simp only [offs, List.take_zero, List.map_nil, List.sum_nil, List.drop_zero] at h0
    obtain ⟨ps, e, hps⟩ := cat_of (l := l) (cs := cs.drop A.n) (B := B) (w := w) (by simp; omega) fun k A' hk => by
      have := h (k + 1) A' (by simpa using hk)
      simp only [offs, List.take_succ_cons, List.map_cons, List.sum_cons] at this
      rw [List.drop_drop]
      exact this
    exact ⟨cs.take A.n :: ps, by rw [List.flatten_cons, ← e, List.take_append_drop], .cons h0 hps⟩
section
variable {H : Type} {enc : TypeId × Value → H} {w : World} {base : Nat} {spare : Nat → Bool} {held : Bool} {fuel : Nat} {cs : List Value} {x : DataW H × List MemPlace}
theorem rd_mg (h : DataW.trod enc Try.prog w base spare held fuel 31 cs = some x) : ∃ l, (MgA l).p w.heap.size cs w := by
  rcases open_ints Try.underlying31 Try.underlying91 (by kernel_rfl) h with ⟨hcs, _⟩ | ⟨a, len, cap, zs, rfl, _, hl, hm, hz, _, hcell, hwz⟩
  · subst hcs
    exact ⟨[], mag_nil_p _ _⟩
  · have hzl : len ≤ zs.length := by rw [hz]; split <;> omega
    have hnn : ∀ n ∈ zs, 0 ≤ n ∧ n < 4294967296 := fun n hn => by
      have := hwz n hn
      simp [Lit.wf, IntKind.min, IntKind.max, IntKind.signed, IntKind.bits] at this
      omega
    have hlen : ((zs.take len).map Int.toNat).length = len := by simp; omega
    refine ⟨(zs.take len).map Int.toNat, ?_⟩
    have hM : Mag w.heap.size w (some a) cap ((zs.take len).map Int.toNat) := by
      refine ⟨fun y hy => ?_, by omega, hm, fun hn => ?_⟩
      · obtain ⟨n, hn, rfl⟩ := List.mem_map.1 hy
        have := hnn n (List.mem_of_mem_take hn)
        omega
      · obtain ⟨b, off, rfl, hc⟩ := ints_at hcell (by omega)
        have hb : b < w.heap.size := World.block_lt_of_cell? w _ (hc 0 (by omega))
        refine ⟨b, off, rfl, hb, .inl hb, fun j hj => ?_⟩
        rw [hc j (by omega)]
        have hjz : j < zs.length := by omega
        have := hnn _ (List.getElem_mem hjz)
        congr 2
        simp only [List.getElem_map, List.getElem_take]
        rw [Int.toNat_of_nonneg this.1]
        simp [List.getD_eq_getElem?_getD, List.getElem?_eq_getElem hjz]
    obtain ⟨ds, hp, hv⟩ := mg_shut hM hlen.symm
    have hd := (MgA ((zs.take len).map Int.toNat)).len _ _ _ hp
    match ds, hd with
    | [d], _ =>
      have : d = .slice (some a) len cap := hv.symm
      subst this
      exact hp
theorem cat_two {B : Nat} {A0 A1 : As} (h0 : A0.p B ((cs.drop 0).take A0.n) w) (h1 : A1.p B ((cs.drop A0.n).take A1.n) w) (hl : cs.length = A0.n + A1.n) : (cat [A0, A1]).p B cs w :=
  cat_of (by simpa using hl) fun k A hk => by
    match k, hk with
    | 0, hk => simp at hk; subst hk; exact h0
    | 1, hk => simp at hk; subst hk; simpa [offs] using h1
theorem cat_four {B : Nat} {A0 A1 A2 A3 : As} (h0 : A0.p B ((cs.drop 0).take A0.n) w) (h1 : A1.p B ((cs.drop A0.n).take A1.n) w) (h2 : A2.p B ((cs.drop (A0.n + A1.n)).take A2.n) w) (h3 : A3.p B ((cs.drop (A0.n + (A1.n + A2.n))).take A3.n) w) (hl : cs.length = A0.n + (A1.n + (A2.n + A3.n))) : (cat [A0, A1, A2, A3]).p B cs w :=
  cat_of (by simpa using hl) fun k A hk => by
    match k, hk with
    | 0, hk => simp at hk; subst hk; exact h0
    | 1, hk => simp at hk; subst hk; simpa [offs] using h1
    | 2, hk => simp at hk; subst hk; simpa [offs] using h2
    | 3, hk => simp at hk; subst hk; simpa [offs] using h3
theorem rd_bo (h : DataW.trod enc Try.prog w base spare held fuel 4 cs = some x) : ∃ b, (BoA b).p w.heap.size cs w := by
  obtain ⟨b, hb, _⟩ := DataW.trod_bool Try.underlying4 h
  exact ⟨b, hb⟩
theorem rd_ri (h : DataW.trod enc Try.prog w base spare held fuel 33 cs = some x) : ∃ y, (RIA y).p w.heap.size cs w := by
  obtain ⟨y0, y1, n, _, hl, h0, h1⟩ := trod_struct2 Try.underlying33 h
  have hl' : cs.length = 2 := hl.trans (by kernel_rfl)
  have c0 : Try.prog.cellsOf 4 = 1 := by kernel_rfl
  have c1 : Try.prog.cellsOf 31 = 1 := by kernel_rfl
  simp only [c0, c1] at h0 h1
  obtain ⟨a, ha⟩ := rd_bo h0
  obtain ⟨b, hb⟩ := rd_mg h1
  exact ⟨⟨a, b⟩, cat_two ha hb hl'⟩
theorem rd_rf (h : DataW.trod enc Try.prog w base spare held fuel 35 cs = some x) : ∃ y, (RFA y).p w.heap.size cs w := by
  obtain ⟨y0, y1, n, _, hl, h0, h1⟩ := trod_struct2 Try.underlying35 h
  have hl' : cs.length = 4 := hl.trans (by kernel_rfl)
  have c0 : Try.prog.cellsOf 33 = 2 := by kernel_rfl
  simp only [c0] at h0 h1
  obtain ⟨a, ha⟩ := rd_ri h0
  obtain ⟨b, hb⟩ := rd_ri h1
  exact ⟨⟨a, b⟩, cat_two ha hb hl'⟩

theorem rd_rm (h : DataW.trod enc Try.prog w base spare held fuel 37 cs = some x) : ∃ y, (RMA y).p w.heap.size cs w := by
  obtain ⟨xs, n, _, _, hl, hlen, hf⟩ := DataW.trod_struct Try.underlying37 h
  have hl' : cs.length = 16 := hl.trans (by kernel_rfl)
  have c0 : Try.prog.cellsOf 35 = 4 := by kernel_rfl
  match xs, hlen with
  | [y0, y1, y2, y3], _ =>
    have h0 : DataW.trod enc Try.prog w base spare held n 35 ((cs.drop 0).take (Try.prog.cellsOf 35)) = some y0 := hf 0 _ rfl
    have h1 : DataW.trod enc Try.prog w base spare held n 35 ((cs.drop 4).take (Try.prog.cellsOf 35)) = some y1 := hf 1 _ rfl
    have h2 : DataW.trod enc Try.prog w base spare held n 35 ((cs.drop 8).take (Try.prog.cellsOf 35)) = some y2 := hf 2 _ rfl
    have h3 : DataW.trod enc Try.prog w base spare held n 35 ((cs.drop 12).take (Try.prog.cellsOf 35)) = some y3 := hf 3 _ rfl
    rw [c0] at h0 h1 h2 h3
    obtain ⟨a, ha⟩ := rd_rf h0
    obtain ⟨b, hb⟩ := rd_rf h1
    obtain ⟨c, hc⟩ := rd_rf h2
    obtain ⟨d, hd⟩ := rd_rf h3
    exact ⟨⟨a, b, c, d⟩, cat_four ha hb hc hd hl'⟩
/-- an argument that is a struct. -/
theorem arg_of {P : Program} {α : Type} {A : α → As} {t : TypeId} {fs : Array Field} {r : Reach} {b0 : Nat} {v : Value} {d : DataW H} {p : List MemPlace} (hag : ∀ y, (A y).ag = true) (ht : P.underlying t = some (.struct fs))
    (rd : ∀ {fuel : Nat} {cs : List Value} {x : DataW H × List MemPlace}, DataW.trod enc P w base spare held fuel t cs = some x → ∃ y, (A y).p w.heap.size cs w)
    (hv : Value.okWide P w r b0 t v) (h : DataW.Trod enc P w base spare held t v d p) : ∃ y, (A y).va.p w.heap.size v w := by
  obtain ⟨cs, hcs, _⟩ := okWide_struct ht hv
  subst hcs
  obtain ⟨fuel, hf⟩ := h
  obtain ⟨y, hy⟩ := rd hf
  refine ⟨y, cs.toList, hy, ?_⟩
  unfold shape
  rw [hag y, if_pos rfl]
end

end Go.Proofs.Ytljkepdpoelpkaa
