/- How the program's data lie in memory: limbs, whole numbers, fractions; closed facts on the table of types. -/
import Derived.Test.YtgjolcbehcjhcaaProg
import Derived.Test.YtgjolcbehcjhcaaNum
import Derived.Test.YtgjolcbehcjhcaaCal
import Derived.KernelRfl
namespace Go.Proofs.Ytgjolcbehcjhcaa
open Go Go.RowKit

abbrev U32 : TypeId := 175
/-- limbs. -/
def MgA (l : List Nat) : As := (SlA U32 [] (l.map fun (x : Nat) => NumA .u32 (x : Int))).and (okL l)

theorem cat_nums {k : IntKind} {B : Nat} {w : World} : ∀ {l : List Nat} {ds : List Value}, (cat (l.map fun (x : Nat) => NumA k (x : Int))).p B ds w ↔ ds = l.map fun (x : Nat) => .int k (x : Int) := by
  intro l
  induction l with
  | nil =>
    intro ds
    constructor
    · rintro ⟨ps, rfl, h⟩; cases h; rfl
    · rintro rfl; exact ⟨[], rfl, .nil⟩
  | cons x xs ih =>
    intro ds
    constructor
    · rintro ⟨ps, rfl, h⟩
      cases h with
      | cons h ht =>
        have h' : _ = [Value.int k (x : Int)] := h
        have := (ih (ds := _)).1 ⟨_, rfl, ht⟩
        simp only [List.flatten_cons, List.map_cons]
        rw [h', this]
        rfl
    · rintro rfl
      obtain ⟨ps, h1, h2⟩ := (ih (ds := _)).2 rfl
      refine ⟨[.int k (x : Int)] :: ps, ?_, .cons rfl h2⟩
      simp only [List.map_cons, List.flatten_cons, ← h1]
      rfl

/-- what a slice of limbs is, in memory. -/
structure Mag (B : Nat) (w : World) (A : Option Addr) (c : Nat) (l : List Nat) : Prop where
  ok : okL l
  le : l.length ≤ c
  max : c ≤ maxLen
  at_ : 0 < l.length → ∃ b o, A = some ⟨b, o, none⟩ ∧ b < w.heap.size ∧ Safe B U32 b w ∧ ∀ j (h : j < l.length), w.cell? ⟨b, o + j, none⟩ = some (.int .u32 (l[j] : Nat))

theorem mg_open {B : Nat} {w : World} {v : Value} {l : List Nat} (h : (MgA l).va.p B v w) : ∃ A c, v = .slice A l.length c ∧ Mag B w A c l := by
  obtain ⟨cs, ⟨ok, _, A, c, ds, rfl, h1, h2, h3, h4⟩, hv⟩ := h
  simp only [List.length_map] at h1 h4 hv
  refine ⟨A, c, hv, ok, h1, h2, fun hn => ?_⟩
  obtain ⟨b, o, e1, e2, e3, e4⟩ := h4 hn
  refine ⟨b, o, e1, e2, e3, fun j hj => e4 j _ ?_⟩
  rw [cat_nums.1 h3]
  simp [hj]
theorem mg_shut {B : Nat} {w : World} {A : Option Addr} {c : Nat} {l : List Nat} {n : Nat} (h : Mag B w A c l) (hn : n = l.length) : (MgA l).va.p B (.slice A n c) w := by
  subst hn
  refine ⟨[.slice A l.length c], ⟨h.ok, nums_nd, A, c, l.map fun (x : Nat) => .int .u32 (x : Int), by simp, by simpa using h.le, h.max, cat_nums.2 rfl, fun hn => ?_⟩, rfl⟩
  obtain ⟨b, o, e1, e2, e3, e4⟩ := h.at_ (by simpa using hn)
  refine ⟨b, o, e1, e2, e3, fun j v hv => ?_⟩
  rw [List.getElem?_map] at hv
  cases hj : l[j]? with
  | none => rw [hj] at hv; simp at hv
  | some x =>
    obtain ⟨hlt, hx⟩ := List.getElem?_eq_some_iff.1 hj
    rw [hj] at hv
    simp only [Option.map_some, Option.some.injEq] at hv
    rw [e4 j hlt, hx, hv]
theorem Mag.nil (B : Nat) (w : World) : Mag B w none 0 [] := ⟨okL_nil, Nat.le_refl _, Nat.zero_le _, fun h => by simp at h⟩
theorem Mag.take {B : Nat} {w : World} {A : Option Addr} {c : Nat} {l : List Nat} (h : Mag B w A c l) (k : Nat) : Mag B w A c (l.take k) := by
  refine ⟨fun x hx => h.ok x (List.mem_of_mem_take hx), by have := h.le; simp; omega, h.max, fun hn => ?_⟩
  obtain ⟨b, o, e1, e2, e3, e4⟩ := h.at_ (by simp at hn; omega)
  exact ⟨b, o, e1, e2, e3, fun j hj => by rw [e4 j (by simp at hj; omega)]; simp⟩
/-- a row of the call's own. -/
theorem Mag.own {B : Nat} {w : World} {g c : Nat} {l : List Nat} {cur : Array Value} (hg : w.heap[g]? = some (.cells cur U32 (0, 0))) (ok : okL l) (hl : l.length ≤ c) (hm : c ≤ maxLen)
    (hc : ∀ j (h : j < l.length), cur[j]? = some (.int .u32 (l[j] : Nat))) : Mag B w (some ⟨g, 0, none⟩) c l :=
  ⟨ok, hl, hm, fun _ => ⟨g, 0, rfl, (Array.getElem?_eq_some_iff.1 hg).1, .inr ⟨_, _, hg⟩, fun j hj => by rw [Nat.zero_add, cell_of_row w g j cur U32 _ hg]; exact hc j hj⟩⟩

section
variable {P : Program} {Q : Exit → Act → World → Prop} {R : Rg} {B : Nat} {w0 : Bs} {i : Nat}
theorem has_mag {x : Operand} {l : List Nat} (h : Has R B w0 i x (MgA l).va) : Has R B w0 i x (SlA U32 [] (l.map fun (x : Nat) => NumA .u32 (x : Int))).va := has_and h
theorem r_lenm {x : Operand} {S E' : TypeId} {l : List Nat} (hS : P.underlying S = some (.slice E')) (hx : Has R B w0 i x (MgA l).va) : Wv P Q R B w0 i (.call ⟨.builtin .len, #[x], #[S]⟩) (In l.length) := by
  have := r_len (P := P) (Q := Q) hS (has_mag hx)
  rwa [List.length_map] at this
theorem r_idxm {x y : Operand} {S : TypeId} {l : List Nat} {k : Nat} {kd : IntKind} (hS : Sl P S U32 1) (hx : Has R B w0 i x (MgA l).va) (hy : Has R B w0 i y (NumA kd k).va) (hk : k < l.length) : Wv P Q R B w0 i (.indexAddr S x y) (ElP U32 (NumA .u32 (l[k] : Nat))) :=
  r_idx hS (fun A hA => by obtain ⟨x, _, rfl⟩ := List.mem_map.1 hA; rfl) (has_mag hx) hy (by simp [hk])
end

structure RI where
  neg : Bool
  mag : List Nat
  deriving DecidableEq
structure RF where
  num : RI
  den : RI
  deriving DecidableEq
def RIA (x : RI) : As := cat [BoA x.neg, MgA x.mag]
def RFA (x : RF) : As := cat [RIA x.num, RIA x.den]

/-- a whole number, as it should lie. -/
def riOf (z : Int) : RI := ⟨decide (z < 0), limbs z.natAbs⟩
def rfOf (q : Rat) : RF := ⟨riOf q.num, riOf q.den⟩
abbrev Zi (z : Int) : VA := (RIA (riOf z)).va
abbrev Qf (q : Rat) : VA := (RFA (rfOf q)).va
/-- how many limbs. -/
def lz (z : Int) : Nat := (limbs z.natAbs).length

/-! closed facts on types -/
theorem sl_u32 : Sl Try.prog 22 U32 1 := ⟨by kernel_rfl, by kernel_rfl⟩
theorem ty_u32 : Ty Try.prog U32 1 false := ⟨by kernel_rfl, by kernel_rfl⟩
theorem ty_bool : Ty Try.prog 4 1 false := ⟨by kernel_rfl, by kernel_rfl⟩
theorem ty_mag : Ty Try.prog 22 1 false := ⟨by kernel_rfl, by kernel_rfl⟩
theorem ty_int : Ty Try.prog 24 2 true := ⟨by kernel_rfl, by kernel_rfl⟩
theorem ty_frac : Ty Try.prog 26 4 true := ⟨by kernel_rfl, by kernel_rfl⟩
theorem fld_int0 : Fld Try.prog 24 0 0 1 := ⟨_, _, Try.underlying24, rfl, rfl, by kernel_rfl, by decide⟩
theorem fld_int1 : Fld Try.prog 24 1 1 1 := ⟨_, _, Try.underlying24, rfl, rfl, by kernel_rfl, by decide⟩
theorem fld_frac0 : Fld Try.prog 26 0 0 2 := ⟨_, _, Try.underlying26, rfl, rfl, by kernel_rfl, by decide⟩
theorem fld_frac1 : Fld Try.prog 26 1 2 2 := ⟨_, _, Try.underlying26, rfl, rfl, by kernel_rfl, by decide⟩
theorem mag_nil_p (B : Nat) (w : World) : (MgA []).p B [.slice none 0 0] w := by
  obtain ⟨cs, h, hv⟩ := mg_shut (Mag.nil B w) rfl
  have h1 := (MgA []).len _ _ _ h
  match cs, h1 with
  | [c], _ =>
    have : c = .slice none 0 0 := hv.symm
    subst this
    exact h
theorem ri0_p (B : Nat) (w : World) : (RIA ⟨false, []⟩).p B [.bool false, .slice none 0 0] w := ⟨[[.bool false], [.slice none 0 0]], rfl, .cons rfl (.cons (mag_nil_p B w) .nil)⟩
theorem str_int : Str Try.prog 24 [BoA false, MgA []] :=
  Str.of (z := .agg #[.bool false, .slice none 0 0]) (by kernel_rfl) Try.underlying24 (by kernel_rfl) fun B w => ri0_p B w
theorem rf0_p (B : Nat) (w : World) : (RFA ⟨⟨false, []⟩, ⟨false, []⟩⟩).p B [.bool false, .slice none 0 0, .bool false, .slice none 0 0] w := ⟨[[.bool false, .slice none 0 0], [.bool false, .slice none 0 0]], rfl, .cons (ri0_p B w) (.cons (ri0_p B w) .nil)⟩
theorem str_frac : Str Try.prog 26 [RIA ⟨false, []⟩, RIA ⟨false, []⟩] :=
  Str.of (z := .agg #[.bool false, .slice none 0 0, .bool false, .slice none 0 0]) (by kernel_rfl) Try.underlying26 (by kernel_rfl) fun B w => rf0_p B w
end Go.Proofs.Ytgjolcbehcjhcaa
