/- Data, operations, rows that are made, windows, function values: rules for this seat's types, and the first contracts. -/
import Derived.Test.YtgjolcbehcjhcaaProg
import Derived.Test.YtgjolcbehcjhcaaNum
import Derived.Test.YtgjolcbehcjhcaaCal
import Derived.KernelRfl
import Derived.Laws.Bits64b
import Derived.Lib.MinMax
import Derived.Laws.BitsLemmas
import Derived.OwnWalk
import Derived.Maps.AppendAt
import Derived.WalkKit
import Derived.Lib.Walk
import Derived.Lib.SliceRun
import Derived.Scope
namespace Go.Proofs.Ytgjolcbehcjhcaa
open Go Go.RowKit

abbrev U32 : TypeId := 175
/-- limbs. -/
def MgA (l : List Nat) : As := (SlA U32 [] (l.map fun (x : Nat) => NumA .u32 (x : Int))).and (okL l)

theorem cat_nums {k : IntKind} {B : Nat} {w : World} : ∀ {l : List Nat} {ds : List Value}, (cat (l.map fun (x : Nat) => NumA k (x : Int))).p B ds w ↔ ds = l.map fun (x : Nat) => .int k (x : Int) := by
  intro l
  induction l with
  | nil =>
    intro ds
    constructor
    · rintro ⟨ps, rfl, h⟩; cases h; rfl
    · rintro rfl; exact ⟨[], rfl, .nil⟩
  | cons x xs ih =>
    intro ds
    constructor
    · rintro ⟨ps, rfl, h⟩
      cases h with
      | cons h ht =>
        have h' : _ = [Value.int k (x : Int)] := h
        have := (ih (ds := _)).1 ⟨_, rfl, ht⟩
        simp only [List.flatten_cons, List.map_cons]
        rw [h', this]
        rfl
    · rintro rfl
      obtain ⟨ps, h1, h2⟩ := (ih (ds := _)).2 rfl
      refine ⟨[.int k (x : Int)] :: ps, ?_, .cons rfl h2⟩
      simp only [List.map_cons, List.flatten_cons, ← h1]
      rfl

/-- what a slice of limbs is, in memory. -/
structure Mag (B : Nat) (w : World) (A : Option Addr) (c : Nat) (l : List Nat) : Prop where
  ok : okL l
  le : l.length ≤ c
  max : c ≤ maxLen
  at_ : 0 < l.length → ∃ b o, A = some ⟨b, o, none⟩ ∧ b < w.heap.size ∧ Safe B U32 b w ∧ ∀ j (h : j < l.length), w.cell? ⟨b, o + j, none⟩ = some (.int .u32 (l[j] : Nat))

theorem mg_open {B : Nat} {w : World} {v : Value} {l : List Nat} (h : (MgA l).va.p B v w) : ∃ A c, v = .slice A l.length c ∧ Mag B w A c l := by
  obtain ⟨cs, ⟨ok, _, A, c, ds, rfl, h1, h2, h3, h4⟩, hv⟩ := h
  simp only [List.length_map] at h1 h4 hv
  refine ⟨A, c, hv, ok, h1, h2, fun hn => ?_⟩
  obtain ⟨b, o, e1, e2, e3, e4⟩ := h4 hn
  refine ⟨b, o, e1, e2, e3, fun j hj => e4 j _ ?_⟩
  rw [cat_nums.1 h3]
  simp [hj]
theorem mg_shut {B : Nat} {w : World} {A : Option Addr} {c : Nat} {l : List Nat} {n : Nat} (h : Mag B w A c l) (hn : n = l.length) : (MgA l).va.p B (.slice A n c) w := by
  subst hn
  refine ⟨[.slice A l.length c], ⟨h.ok, nums_nd, A, c, l.map fun (x : Nat) => .int .u32 (x : Int), by simp, by simpa using h.le, h.max, cat_nums.2 rfl, fun hn => ?_⟩, rfl⟩
  obtain ⟨b, o, e1, e2, e3, e4⟩ := h.at_ (by simpa using hn)
  refine ⟨b, o, e1, e2, e3, fun j v hv => ?_⟩
  rw [List.getElem?_map] at hv
  cases hj : l[j]? with
  | none => rw [hj] at hv; simp at hv
  | some x =>
    obtain ⟨hlt, hx⟩ := List.getElem?_eq_some_iff.1 hj
    rw [hj] at hv
    simp only [Option.map_some, Option.some.injEq] at hv
    rw [e4 j hlt, hx, hv]
theorem Mag.nil (B : Nat) (w : World) : Mag B w none 0 [] := ⟨okL_nil, Nat.le_refl _, Nat.zero_le _, fun h => by simp at h⟩
theorem Mag.take {B : Nat} {w : World} {A : Option Addr} {c : Nat} {l : List Nat} (h : Mag B w A c l) (k : Nat) : Mag B w A c (l.take k) := by
  refine ⟨fun x hx => h.ok x (List.mem_of_mem_take hx), by have := h.le; simp; omega, h.max, fun hn => ?_⟩
  obtain ⟨b, o, e1, e2, e3, e4⟩ := h.at_ (by simp at hn; omega)
  exact ⟨b, o, e1, e2, e3, fun j hj => by rw [e4 j (by simp at hj; omega)]; simp⟩
/-- a row of the call's own. -/
theorem Mag.own {B : Nat} {w : World} {g c : Nat} {l : List Nat} {cur : Array Value} (hg : w.heap[g]? = some (.cells cur U32 (0, 0))) (ok : okL l) (hl : l.length ≤ c) (hm : c ≤ maxLen)
    (hc : ∀ j (h : j < l.length), cur[j]? = some (.int .u32 (l[j] : Nat))) : Mag B w (some ⟨g, 0, none⟩) c l :=
  ⟨ok, hl, hm, fun _ => ⟨g, 0, rfl, (Array.getElem?_eq_some_iff.1 hg).1, .inr ⟨_, _, hg⟩, fun j hj => by rw [Nat.zero_add, cell_of_row w g j cur U32 _ hg]; exact hc j hj⟩⟩

section
variable {P : Program} {Q : Exit → Act → World → Prop} {R : Rg} {B : Nat} {w0 : Bs} {i : Nat}
theorem has_mag {x : Operand} {l : List Nat} (h : Has R B w0 i x (MgA l).va) : Has R B w0 i x (SlA U32 [] (l.map fun (x : Nat) => NumA .u32 (x : Int))).va := has_and h
theorem r_lenm {x : Operand} {S E' : TypeId} {l : List Nat} (hS : P.underlying S = some (.slice E')) (hx : Has R B w0 i x (MgA l).va) : Wv P Q R B w0 i (.call ⟨.builtin .len, #[x], #[S]⟩) (In l.length) := by
  have := r_len (P := P) (Q := Q) hS (has_mag hx)
  rwa [List.length_map] at this
theorem r_idxm {x y : Operand} {S : TypeId} {l : List Nat} {k : Nat} {kd : IntKind} (hS : Sl P S U32 1) (hx : Has R B w0 i x (MgA l).va) (hy : Has R B w0 i y (NumA kd k).va) (hk : k < l.length) : Wv P Q R B w0 i (.indexAddr S x y) (ElP U32 (NumA .u32 (l[k] : Nat))) :=
  r_idx hS (fun A hA => by obtain ⟨x, _, rfl⟩ := List.mem_map.1 hA; rfl) (has_mag hx) hy (by simp [hk])
end

structure RI where
  neg : Bool
  mag : List Nat
  deriving DecidableEq
structure RF where
  num : RI
  den : RI
  deriving DecidableEq
def RIA (x : RI) : As := cat [BoA x.neg, MgA x.mag]
def RFA (x : RF) : As := cat [RIA x.num, RIA x.den]

/-- a whole number, as it should lie. -/
def riOf (z : Int) : RI := ⟨decide (z < 0), limbs z.natAbs⟩
def rfOf (q : Rat) : RF := ⟨riOf q.num, riOf q.den⟩
abbrev Zi (z : Int) : VA := (RIA (riOf z)).va
abbrev Qf (q : Rat) : VA := (RFA (rfOf q)).va
/-- how many limbs. -/
def lz (z : Int) : Nat := (limbs z.natAbs).length

/-! closed facts on types -/
theorem sl_u32 : Sl Try.prog 22 U32 1 := ⟨by kernel_rfl, by kernel_rfl⟩
theorem ty_u32 : Ty Try.prog U32 1 false := ⟨by kernel_rfl, by kernel_rfl⟩
theorem ty_bool : Ty Try.prog 4 1 false := ⟨by kernel_rfl, by kernel_rfl⟩
theorem ty_mag : Ty Try.prog 22 1 false := ⟨by kernel_rfl, by kernel_rfl⟩
theorem ty_int : Ty Try.prog 24 2 true := ⟨by kernel_rfl, by kernel_rfl⟩
theorem ty_frac : Ty Try.prog 26 4 true := ⟨by kernel_rfl, by kernel_rfl⟩
theorem fld_int0 : Fld Try.prog 24 0 0 1 := ⟨_, _, Try.underlying24, rfl, rfl, by kernel_rfl, by decide⟩
theorem fld_int1 : Fld Try.prog 24 1 1 1 := ⟨_, _, Try.underlying24, rfl, rfl, by kernel_rfl, by decide⟩
theorem fld_frac0 : Fld Try.prog 26 0 0 2 := ⟨_, _, Try.underlying26, rfl, rfl, by kernel_rfl, by decide⟩
theorem fld_frac1 : Fld Try.prog 26 1 2 2 := ⟨_, _, Try.underlying26, rfl, rfl, by kernel_rfl, by decide⟩
theorem mag_nil_p (B : Nat) (w : World) : (MgA []).p B [.slice none 0 0] w := by
  obtain ⟨cs, h, hv⟩ := mg_shut (Mag.nil B w) rfl
  have h1 := (MgA []).len _ _ _ h
  match cs, h1 with
  | [c], _ =>
    have : c = .slice none 0 0 := hv.symm
    subst this
    exact h
theorem ri0_p (B : Nat) (w : World) : (RIA ⟨false, []⟩).p B [.bool false, .slice none 0 0] w := ⟨[[.bool false], [.slice none 0 0]], rfl, .cons rfl (.cons (mag_nil_p B w) .nil)⟩
theorem str_int : Str Try.prog 24 [BoA false, MgA []] :=
  Str.of (z := .agg #[.bool false, .slice none 0 0]) (by kernel_rfl) Try.underlying24 (by kernel_rfl) fun B w => ri0_p B w
theorem rf0_p (B : Nat) (w : World) : (RFA ⟨⟨false, []⟩, ⟨false, []⟩⟩).p B [.bool false, .slice none 0 0, .bool false, .slice none 0 0] w := ⟨[[.bool false, .slice none 0 0], [.bool false, .slice none 0 0]], rfl, .cons (ri0_p B w) (.cons (ri0_p B w) .nil)⟩
theorem str_frac : Str Try.prog 26 [RIA ⟨false, []⟩, RIA ⟨false, []⟩] :=
  Str.of (z := .agg #[.bool false, .slice none 0 0, .bool false, .slice none 0 0]) (by kernel_rfl) Try.underlying26 (by kernel_rfl) fun B w => rf0_p B w
end Go.Proofs.Ytgjolcbehcjhcaa
namespace Go.Proofs.Ytgjolcbehcjhcaa
open Go Go.RowKit
section
variable {P : Program} {Q : Exit → Act → World → Prop} {R : Rg} {B : Nat} {w0 : Bs} {i : Nat}
theorem r_num2 {k k2 k3 : IntKind} {op : BinOp} {x y : Operand} {xt yt : TypeId} {m n c : Int} (hx : Has R B w0 i x (NumA k m).va) (hy : Has R B w0 i y (NumA k2 n).va)
    (h : ∀ w, (binOp op xt (.int k m) (.int k2 n)).run P w = .ok (.int k3 c) w) : Wv P Q R B w0 i (.binOp op xt x y yt) (NumA k3 c).va :=
  wv_run fun _ _ _ _ _ a w av => by
    have e1 := num_val (hx a w av)
    have e2 := num_val (hy a w av)
    refine ⟨.int k3 c, w, ?_, Grow.refl w, val_num _ _ _ _⟩
    have hg : (eqGuard op xt x y (.int k m) (.int k2 n)).run P w = .ok () w := by unfold eqGuard; split <;> rfl
    simp only [execOp, e1, e2, Sem.run_bind, hg, h, Result.andThen_ok, Sem.run_pure]
theorem r_conv {k : IntKind} {x : Operand} {xt yt : TypeId} {n c : Int} (hs : (P.underlying xt).isSome = true) (hd : P.underlying yt = some (.int (P.intKind yt))) (hx : Has R B w0 i x (NumA k n).va) (h : (P.intKind yt).wrap n = c) : Wv P Q R B w0 i (.convert xt yt x) (NumA (P.intKind yt) c).va :=
  wv_run fun _ _ _ _ _ a w av => by
    refine ⟨_, w, ?_, Grow.refl w, val_num _ _ _ _⟩
    simp only [execOp, num_val (hx a w av), Sem.run_bind, run_convert_int _ _ _ _ _ hs hd, h, Result.andThen_ok, Sem.run_pure]
/-- the same, with the kind told. -/
theorem r_convk {k : IntKind} (k' : IntKind) {x : Operand} {xt yt : TypeId} {n c : Int} (hs : (P.underlying xt).isSome = true) (hd : P.underlying yt = some (.int k')) (hx : Has R B w0 i x (NumA k n).va) (h : k'.wrap n = c) : Wv P Q R B w0 i (.convert xt yt x) (NumA k' c).va := by
  have e : P.intKind yt = k' := by simp [Program.intKind, hd]
  subst e
  exact r_conv hs hd hx h
section
variable {k k2 : IntKind} {x y : Operand} {xt yt : TypeId} {m n : Int}
theorem r_shr {c : Int} (hx : Has R B w0 i x (NumA k m).va) (hy : Has R B w0 i y (NumA k2 n).va) (h0 : 0 ≤ n ∧ n ≤ k.bits) (h : m / 2 ^ n.toNat = c) : Wv P Q R B w0 i (.binOp .shr xt x y yt) (NumA k c).va := r_num2 hx hy fun w => by rw [binOp_shr, shift_shr _ _ _ _ h0.1 h0.2, h]; rfl
theorem r_shl {c : Int} (hx : Has R B w0 i x (NumA k m).va) (hy : Has R B w0 i y (NumA k2 n).va) (h0 : 0 ≤ n ∧ n ≤ k.bits) (h : k.wrap (m * 2 ^ n.toNat) = c) : Wv P Q R B w0 i (.binOp .shl xt x y yt) (NumA k c).va := r_num2 hx hy fun w => by rw [binOp_shl, shift_shl _ _ _ _ h0.1 h0.2, h]; rfl
variable (hx : Has R B w0 i x (NumA k m).va) (hy : Has R B w0 i y (NumA k n).va)
include hx hy
theorem r_quo {c : Int} (h0 : n ≠ 0) (h : k.wrap (m.tdiv n) = c) : Wv P Q R B w0 i (.binOp .quo xt x y yt) (NumA k c).va := r_num hx hy fun w => by rw [binOp_quo, ← h]; simp [Op.intDiv, h0]
theorem r_rem {c : Int} (h0 : n ≠ 0) (h : m.tmod n = c) : Wv P Q R B w0 i (.binOp .rem xt x y yt) (NumA k c).va := r_num hx hy fun w => by rw [binOp_rem, ← h]; simp [Op.intDiv, h0]
theorem r_band {c : Int} (h : bits .and k m n = c) : Wv P Q R B w0 i (.binOp .and xt x y yt) (NumA k c).va := r_num hx hy fun w => by rw [binOp_and, ← h]; rfl
theorem r_bor {c : Int} (h : bits .or k m n = c) : Wv P Q R B w0 i (.binOp .or xt x y yt) (NumA k c).va := r_num hx hy fun w => by rw [binOp_or, ← h]; rfl
theorem r_bxor {c : Int} (h : bits .xor k m n = c) : Wv P Q R B w0 i (.binOp .xor xt x y yt) (NumA k c).va := r_num hx hy fun w => by rw [binOp_xor, ← h]; rfl
end
theorem r_bnot {k : IntKind} {x : Operand} {T : TypeId} {n c : Int} (hx : Has R B w0 i x (NumA k n).va) (h : bits .xor k (if k.signed then -1 else k.max) n = c) : Wv P Q R B w0 i (.unOp .xor T x) (NumA k c).va :=
  wv_run fun _ _ _ _ _ a w av => ⟨.int k c, w, by simp [execOp, num_val (hx a w av), unary_xor, intBits_xor, h], Grow.refl w, val_num _ _ _ _⟩
theorem r_neg {k : IntKind} {x : Operand} {T : TypeId} {n c : Int} (hx : Has R B w0 i x (NumA k n).va) (h : k.wrap (0 - n) = c) : Wv P Q R B w0 i (.unOp .neg T x) (NumA k c).va :=
  wv_run fun _ _ _ _ _ a w av => ⟨.int k c, w, by simp only [execOp, num_val (hx a w av), Op.unary, ← h]; rfl, Grow.refl w, val_num _ _ _ _⟩
theorem Wv.mono {op : Op} {A A' : VA} (h : Wv P Q R B w0 i op A) (hm : ∀ v w, A.p B v w → A'.p B v w) : Wv P Q R B w0 i op A' := fun d T ps af gd a w av K hK => h d T ps af gd a w av K fun v w' hg hp => hK v w' hg (hm v w' hp)
theorem r_min {k : IntKind} {x y : Operand} {ts : Array TypeId} {m n : Int} (hx : Has R B w0 i x (NumA k m).va) (hy : Has R B w0 i y (NumA k n).va) : Wv P Q R B w0 i (.call ⟨.builtin .min, #[x, y], ts⟩) (NumA k (min m n)).va :=
  wv_run fun _ _ _ _ _ a w av => ⟨_, w, by simp [execOp, resolve, invoke, builtin, num_val (hx a w av), num_val (hy a w av), Lib.run_min_ints], Grow.refl w, val_num _ _ _ _⟩
theorem r_max {k : IntKind} {x y : Operand} {ts : Array TypeId} {m n : Int} (hx : Has R B w0 i x (NumA k m).va) (hy : Has R B w0 i y (NumA k n).va) : Wv P Q R B w0 i (.call ⟨.builtin .max, #[x, y], ts⟩) (NumA k (max m n)).va :=
  wv_run fun _ _ _ _ _ a w av => ⟨_, w, by simp [execOp, resolve, invoke, builtin, num_val (hx a w av), num_val (hy a w av), Lib.run_max_ints], Grow.refl w, val_num _ _ _ _⟩
theorem nums_nd' {l : List Nat} : ∀ A ∈ l.map (fun (x : Nat) => NumA .u32 x), ∀ T ∈ A.deps, T ∈ ([] : List TypeId) := nums_nd
/-- a slice of limbs, written out. -/
theorem r_slicem {S : TypeId} {l : List Nat} {xs : List Operand} (hS : Sl P S U32 1) (hz : ((P.info? U32).bind (·.zero)).isSome = true) (hl0 : 0 < l.length) (hsmall : l.length ≤ 16777216) (ok : okL l)
    (hx : All2 (fun (A : As) x => Has R B w0 i x A.va) (l.map fun (x : Nat) => NumA .u32 x) xs) {ps' : Array (Nat × Operand)} (hps : ps'.toList = (xs.zipIdx 0).map fun x => (x.2, x.1)) {n : Nat} (hn : n = l.length) : Wv P Q R B w0 i (.buildSlice S n ps') (MgA l).va :=
  (r_slice (D := []) nums_nd hS hz (fun A hA => by obtain ⟨_, _, rfl⟩ := List.mem_map.1 hA; rfl) (by decide) (by simpa using hl0) (by simpa using hsmall) hx hps (by simpa using hn)).mono fun v w ⟨cs, hp, hv⟩ => ⟨cs, ⟨ok, hp⟩, hv⟩
end
/-! wraps -/
theorem wu32 {x : Nat} (h : x < 4294967296) : IntKind.u32.wrap (x : Int) = (x : Int) := by simp [IntKind.wrap, IntKind.bits, IntKind.signed]; omega
theorem wu32' {x : Nat} : IntKind.u32.wrap (x : Int) = ((x % 4294967296 : Nat) : Int) := by simp [IntKind.wrap, IntKind.bits, IntKind.signed]
theorem wu64 {x : Nat} (h : x < 18446744073709551616) : IntKind.u64.wrap (x : Int) = (x : Int) := by simp [IntKind.wrap, IntKind.bits, IntKind.signed]; omega
theorem wi64 {x : Int} (h : -9223372036854775808 ≤ x) (h' : x < 9223372036854775808) : IntKind.i64.wrap x = x := by simp [IntKind.wrap, IntKind.bits, IntKind.signed]; omega
theorem wadd64 {x y : Nat} (h : x + y < 18446744073709551616) : IntKind.u64.wrap ((x : Int) + (y : Int)) = ((x + y : Nat) : Int) := by rw [← wu64 h]; simp
theorem wmul64 {x y : Nat} (h : x * y < 18446744073709551616) : IntKind.u64.wrap ((x : Int) * (y : Int)) = ((x * y : Nat) : Int) := by rw [← wu64 h]; simp
theorem nshr {x k : Nat} : (x : Int) / 2 ^ ((k : Int).toNat) = ((x / 2 ^ k : Nat) : Int) := by simp
theorem nquo {x y : Nat} (h : x / y < 18446744073709551616) : IntKind.u64.wrap ((x : Int).tdiv (y : Int)) = ((x / y : Nat) : Int) := by
  rw [Int.tdiv_eq_ediv_of_nonneg (by omega)]
  rw [← Int.natCast_ediv, wu64 h]
theorem nrem {x y : Nat} : (x : Int).tmod (y : Int) = ((x % y : Nat) : Int) := by
  rw [Int.tmod_eq_emod_of_nonneg (by omega)]; rfl
theorem wlow {x : Nat} : IntKind.u32.wrap ((x : Nat) : Int) = ((x % 4294967296 : Nat) : Int) := wu32'
theorem or64 {x y : Nat} (hx : x < 4294967296) (hy : y < 4294967296) : bits .or .u64 (((x * 4294967296 : Nat)) : Int) (y : Int) = ((x * 4294967296 + y : Nat) : Int) := by
  have := bits_join .u64 64 (by decide) (fun n h0 h1 => by simp [IntKind.wrap, IntKind.bits, IntKind.signed]; omega) 32 ((x * 4294967296 : Nat) : Int) (y : Int) (by omega) (by omega) (by omega) (by omega) (by omega) (by omega)
  rw [this]; simp
theorem wshl32 {x : Nat} (hx : x < 4294967296) : IntKind.u64.wrap ((x : Int) * 2 ^ ((32 : Int).toNat)) = ((x * 4294967296 : Nat) : Int) := by
  rw [← wu64 (x := x * 4294967296) (by omega)]; simp
theorem ofi {x : Nat} (h : x < 4294967296) : (BitVec.ofInt 32 (x : Int)).toNat = x := by
  rw [BitVec.ofInt_natCast, BitVec.toNat_ofNat]; exact Nat.mod_eq_of_lt (by omega)
theorem bxor32 {x y : Nat} (hx : x < 4294967296) (hy : y < 4294967296) : bits .xor .u32 (x : Int) (y : Int) = ((x ^^^ y : Nat) : Int) := by
  have h : x ^^^ y < 2 ^ 32 := Nat.xor_lt_two_pow (by omega) (by omega)
  have e : (BitVec.ofInt 32 (x : Int) ^^^ BitVec.ofInt 32 (y : Int)).toNat = x ^^^ y := by rw [BitVec.toNat_xor, ofi hx, ofi hy]
  show IntKind.u32.wrap (((BitVec.ofInt 32 (x : Int) ^^^ BitVec.ofInt 32 (y : Int)).toNat : Nat) : Int) = _
  rw [e, wu32 (by omega)]
theorem band32 {x y : Nat} (hx : x < 4294967296) (hy : y < 4294967296) : bits .and .u32 (x : Int) (y : Int) = ((x &&& y : Nat) : Int) := by
  have h : x &&& y < 2 ^ 32 := Nat.and_lt_two_pow _ (by omega)
  have e : (BitVec.ofInt 32 (x : Int) &&& BitVec.ofInt 32 (y : Int)).toNat = x &&& y := by rw [BitVec.toNat_and, ofi hx, ofi hy]
  show IntKind.u32.wrap (((BitVec.ofInt 32 (x : Int) &&& BitVec.ofInt 32 (y : Int)).toNat : Nat) : Int) = _
  rw [e, wu32 (by omega)]
theorem bor32 {x y : Nat} (hx : x < 4294967296) (hy : y < 4294967296) : bits .or .u32 (x : Int) (y : Int) = ((x ||| y : Nat) : Int) := by
  have h : x ||| y < 2 ^ 32 := Nat.or_lt_two_pow (by omega) (by omega)
  have e : (BitVec.ofInt 32 (x : Int) ||| BitVec.ofInt 32 (y : Int)).toNat = x ||| y := by rw [BitVec.toNat_or, ofi hx, ofi hy]
  show IntKind.u32.wrap (((BitVec.ofInt 32 (x : Int) ||| BitVec.ofInt 32 (y : Int)).toNat : Nat) : Int) = _
  rw [e, wu32 (by omega)]
theorem sub32_d {x y c : Nat} (hx : x < 4294967296) (hy : y < 4294967296) (hc : c < 2) : IntKind.u32.wrap (IntKind.u32.wrap ((x : Int) - (y : Int)) - (c : Int)) = (((x + 8589934592 - y - c) % 4294967296 : Nat) : Int) := by
  simp [IntKind.wrap, IntKind.bits, IntKind.signed]; omega
theorem sub32_e2 {x y c : Nat} (hx : x < 4294967296) (hy : y < 4294967296) (hc : c < 2) : bits .or .u32 (bits .and .u32 (bits .xor .u32 4294967295 (x : Int)) (y : Int)) (bits .and .u32 (bits .xor .u32 4294967295 (bits .xor .u32 (x : Int) (y : Int))) (IntKind.u32.wrap (IntKind.u32.wrap ((x : Int) - (y : Int)) - (c : Int)))) / 2 ^ ((31 : Int).toNat) = (((if x < y + c then 1 else 0 : Nat)) : Int) := by
  have hl : ∀ {a b : Nat}, a < 4294967296 → b < 4294967296 → a ^^^ b < 4294967296 := fun ha hb => Nat.xor_lt_two_pow (n := 32) ha hb
  have hl' : ∀ {a b : Nat}, b < 4294967296 → a &&& b < 4294967296 := fun hb => Nat.and_lt_two_pow (n := 32) _ hb
  obtain ⟨d, hd⟩ : ∃ d, d = (x + 8589934592 - y - c) % 4294967296 := ⟨_, rfl⟩
  rw [sub32_d hx hy hc, ← hd]
  have hd' : d < 4294967296 := by omega
  rw [show (4294967295 : Int) = ((4294967295 : Nat) : Int) from rfl, bxor32 (by omega) hx, bxor32 hx hy, bxor32 (by omega) (hl hx hy), band32 (hl (by omega) hx) hy, band32 (hl (by omega) (hl hx hy)) hd', bor32 (hl' hy) (hl' hd')]
  refine (nshr (k := 31)).trans ?_
  congr 1
  rw [Nat.or_div_two_pow, Nat.and_div_two_pow, Nat.and_div_two_pow, Nat.xor_div_two_pow, Nat.xor_div_two_pow, Nat.xor_div_two_pow]
  have h1 : x / 2 ^ 31 = 0 ∨ x / 2 ^ 31 = 1 := by omega
  have h2 : y / 2 ^ 31 = 0 ∨ y / 2 ^ 31 = 1 := by omega
  have h3 : d / 2 ^ 31 = 0 ∨ d / 2 ^ 31 = 1 := by omega
  rcases h1 with h1 | h1 <;> rcases h2 with h2 | h2 <;> rcases h3 with h3 | h3 <;> rw [h1, h2, h3] <;> simp <;> omega
theorem follows_mixed : Try.prog.follows .mixedOrders = true := by kernel_rfl
end Go.Proofs.Ytgjolcbehcjhcaa
namespace Go.Proofs.Ytgjolcbehcjhcaa
open Go Go.RowKit

/-- limbs in a row that the call has made. -/
def MgN (l : List Nat) : As where
  n := 1
  ag := false
  p B cs w := okL l ∧ ∃ A c, cs = [.slice A l.length c] ∧ l.length ≤ c ∧ c ≤ maxLen ∧
    (0 < l.length → ∃ g ext, A = some ⟨g, 0, none⟩ ∧ B ≤ g ∧ w.heap[g]? = some (.cells ((l ++ ext).map fun (x : Nat) => Value.int .u32 x).toArray U32 (0, 0)))
  deps := [U32]
  len := by rintro B cs w ⟨_, A, c, rfl, _⟩; rfl
  one := by rintro B cs w ⟨_, A, c, rfl, _⟩ x hx; simp at hx; subst hx; rfl
  ag1 := fun _ => rfl
  grow := by
    rintro B cs w w' hg ⟨h0, A, c, rfl, h1, h2, h3⟩
    refine ⟨h0, A, c, rfl, h1, h2, fun hn => ?_⟩
    obtain ⟨g, ext, e1, e0, e2⟩ := h3 hn
    exact ⟨g, ext, e1, e0, hg.heap e2⟩
  wr := by
    rintro B cs w w' g c T fz hg hT hB hW ⟨h0, A, c', rfl, h1, h2, h3⟩
    refine ⟨h0, A, c', rfl, h1, h2, fun hn => ?_⟩
    obtain ⟨g', ext, e1, e0, e2⟩ := h3 hn
    refine ⟨g', ext, e1, e0, ?_⟩
    rw [hW.block g' fun hh => ?_]
    · exact e2
    · subst hh
      rw [hg] at e2
      simp only [Option.some.injEq, Obj.cells.injEq] at e2
      exact hT (by simp [e2.2.1])
/-- limbs that lay there when the call began. -/
abbrev MgO (l : List Nat) : As := SlO U32 [] (l.map fun (x : Nat) => NumA .u32 (x : Int)) (okL l)
def RIN (x : RI) : As := cat [BoA x.neg, MgN x.mag]
def RIO (x : RI) : As := cat [BoA x.neg, MgO x.mag]

/-- ways in which limbs may lie that 'trim' keeps. -/
structure Fam (M : List Nat → As) : Prop where
  n : ∀ l, (M l).n = 1
  ag : ∀ l, (M l).ag = false
  op : ∀ l B v w, (M l).va.p B v w → ∃ A c, v = .slice A l.length c ∧ Mag B w A c l ∧ ∀ k, (M (l.take k)).va.p B (.slice A (l.take k).length c) w
  nil : ∀ B w, (M []).p B [.slice none 0 0] w
theorem famA : Fam MgA := ⟨fun _ => rfl, fun _ => rfl, fun l B v w h => by
  obtain ⟨A, c, hv, hm⟩ := mg_open h
  exact ⟨A, c, hv, hm, fun k => mg_shut (hm.take k) rfl⟩, mag_nil_p⟩
theorem famN : Fam MgN := ⟨fun _ => rfl, fun _ => rfl, fun l B v w h => by
  obtain ⟨cs, ⟨h0, A, c, rfl, h1, h2, h3⟩, hv⟩ := h
  refine ⟨A, c, hv, ⟨h0, h1, h2, fun hn => ?_⟩, fun k => ⟨[.slice A (l.take k).length c], ⟨fun x hx => h0 x (List.mem_of_mem_take hx), A, c, rfl, by simp; omega, h2, fun hn => ?_⟩, rfl⟩⟩
  · obtain ⟨g, ext, rfl, _, e2⟩ := h3 hn
    exact (Mag.own e2 h0 h1 h2 (fun j hj => by rw [List.getElem?_toArray, List.getElem?_map, List.getElem?_append_left hj]; simp [hj])).at_ hn
  · obtain ⟨g, ext, e1, e0, e2⟩ := h3 (by simp at hn; omega)
    exact ⟨g, l.drop k ++ ext, e1, e0, by rw [← List.append_assoc, List.take_append_drop]; exact e2⟩,
  fun B w => ⟨okL_nil, none, 0, rfl, Nat.le_refl _, Nat.zero_le _, fun h => by simp at h⟩⟩
theorem fam_str {M : List Nat → As} (hM : Fam M) : Str Try.prog 24 [BoA false, M []] :=
  Str.of (z := .agg #[.bool false, .slice none 0 0]) (by kernel_rfl) Try.underlying24 (by rw [show placesOf [BoA false, M []] = placesOf [BoA false, MgA []] from by simp [placesOf, offs, hM.n, (famA).n, List.range_succ]]; kernel_rfl) fun B w => ⟨[[.bool false], [.slice none 0 0]], rfl, .cons rfl (.cons (hM.nil B w) .nil)⟩

theorem mgO_nil (B : Nat) (w : World) : (MgO []).p B [.slice none 0 0] w := ⟨okL_nil, nums_nd, none, 0, [], rfl, Nat.le_refl _, Nat.zero_le _, ⟨[], rfl, .nil⟩, fun h => by simp at h⟩
theorem str_intO : Str Try.prog 24 [BoA false, MgO []] :=
  Str.of (z := .agg #[.bool false, .slice none 0 0]) (by kernel_rfl) Try.underlying24 (by kernel_rfl) fun B w => ⟨[[.bool false], [.slice none 0 0]], rfl, .cons rfl (.cons (mgO_nil B w) .nil)⟩
theorem mgN_A {l : List Nat} {B : Nat} {v : Value} {w : World} (h : (MgN l).va.p B v w) : (MgA l).va.p B v w := by
  obtain ⟨A, c, rfl, hm, _⟩ := famN.op l B v w h
  exact mg_shut hm rfl

/-! which facts hold for a later bound, which for an earlier one -/
/-- held against the world as it is, all is old. -/
def Up (A A' : VA) : Prop := ∀ B v w, B ≤ w.heap.size → A.p B v w → A'.p w.heap.size v w
def UpA (A A' : As) : Prop := A'.n = A.n ∧ A'.ag = A.ag ∧ ∀ B cs w, B ≤ w.heap.size → A.p B cs w → A'.p w.heap.size cs w
/-- for each earlier bound. -/
def Free (A A' : VA) : Prop := ∀ B B' v w, B' ≤ B → A.p B v w → A'.p B' v w
def FreeA (A A' : As) : Prop := A'.n = A.n ∧ A'.ag = A.ag ∧ ∀ B B' cs w, B' ≤ B → A.p B cs w → A'.p B' cs w
theorem UpA.va {A A' : As} (h : UpA A A') : Up A.va A'.va := fun B v w hB ⟨cs, hp, hv⟩ => ⟨cs, h.2.2 B cs w hB hp, by rw [h.2.1]; exact hv⟩
theorem FreeA.va {A A' : As} (h : FreeA A A') : Free A.va A'.va := fun B B' v w hB ⟨cs, hp, hv⟩ => ⟨cs, h.2.2 B B' cs w hB hp, by rw [h.2.1]; exact hv⟩
theorem free_num (k : IntKind) (n : Int) : FreeA (NumA k n) (NumA k n) := ⟨rfl, rfl, fun _ _ _ _ _ h => h⟩
theorem up_num (k : IntKind) (n : Int) : UpA (NumA k n) (NumA k n) := ⟨rfl, rfl, fun _ _ _ _ h => h⟩
theorem up_bo (b : Bool) : UpA (BoA b) (BoA b) := ⟨rfl, rfl, fun _ _ _ _ h => h⟩
theorem free_bo (b : Bool) : FreeA (BoA b) (BoA b) := ⟨rfl, rfl, fun _ _ _ _ _ h => h⟩
theorem free_mgN (l : List Nat) : FreeA (MgN l) (MgN l) := ⟨rfl, rfl, fun B B' cs w hB h => by
  obtain ⟨h0, A, c, rfl, h1, h2, h3⟩ := h
  refine ⟨h0, A, c, rfl, h1, h2, fun hn => ?_⟩
  obtain ⟨g, ext, e1, e0, e2⟩ := h3 hn
  exact ⟨g, ext, e1, Nat.le_trans hB e0, e2⟩⟩
theorem up_mg (l : List Nat) : UpA (MgA l) (MgO l) := ⟨rfl, rfl, fun B cs w hB hp => by
  obtain ⟨ok, h0, A, c, ds, rfl, h1, h2, h3, h4⟩ := hp
  refine ⟨ok, h0, A, c, ds, rfl, h1, h2, ?_, fun hn => ?_⟩
  · exact cat_nums.2 (cat_nums.1 h3)
  · obtain ⟨b, o, e1, e2, e3, e4⟩ := h4 hn
    exact ⟨b, o, e1, e2, e2, e4⟩⟩
theorem free_mgNA (l : List Nat) : FreeA (MgN l) (MgA l) := ⟨rfl, rfl, fun B B' cs w hB h0 => by
  have h := (free_mgN l).2.2 B B' cs w hB h0
  obtain ⟨ds, hp, hv⟩ := mgN_A (l := l) (B := B') ⟨cs, h, rfl⟩
  have l1 := (MgN l).len _ _ _ h
  have l2 := (MgA l).len _ _ _ hp
  match cs, ds, l1, l2, hv, hp with
  | [x], [y], _, _, hv, hp =>
    have : x = y := hv
    rw [this]; exact hp⟩
theorem cat_free {l l' : List As} (h : All2 FreeA l l') : FreeA (cat l) (cat l') := by
  have key : ∀ {l l' : List As}, All2 FreeA l l' → (cat l').n = (cat l).n ∧ ∀ B B' ps w, B' ≤ B → All2 (fun (A : As) c => A.p B c w) l ps → All2 (fun (A : As) c => A.p B' c w) l' ps := by
    intro l l' h
    induction h with
    | nil => exact ⟨rfl, fun B B' ps w _ h => by cases h; exact .nil⟩
    | cons h1 _ ih =>
      refine ⟨?_, fun B B' ps w hB h => ?_⟩
      · have := ih.1
        simp only [cat, List.map_cons, List.sum_cons] at this ⊢
        rw [h1.1, this]
      · cases h with
        | cons h2 h3 => exact .cons (h1.2.2 _ _ _ _ hB h2) (ih.2 _ _ _ _ hB h3)
  refine ⟨(key h).1, rfl, fun B B' cs w hB hp => ?_⟩
  obtain ⟨ps, e1, e2⟩ := hp
  exact ⟨ps, e1, (key h).2 B B' ps w hB e2⟩
theorem cat_up {l l' : List As} (h : All2 UpA l l') : UpA (cat l) (cat l') := by
  have key : ∀ {l l' : List As}, All2 UpA l l' → (cat l').n = (cat l).n ∧ ∀ B ps w, B ≤ w.heap.size → All2 (fun (A : As) c => A.p B c w) l ps → All2 (fun (A : As) c => A.p w.heap.size c w) l' ps := by
    intro l l' h
    induction h with
    | nil => exact ⟨rfl, fun B ps w _ h => by cases h; exact .nil⟩
    | cons h1 _ ih =>
      refine ⟨?_, fun B ps w hB h => ?_⟩
      · have := ih.1
        simp only [cat, List.map_cons, List.sum_cons] at this ⊢
        rw [h1.1, this]
      · cases h with
        | cons h2 h3 => exact .cons (h1.2.2 _ _ _ hB h2) (ih.2 _ _ _ hB h3)
  refine ⟨(key h).1, rfl, fun B cs w hB hp => ?_⟩
  obtain ⟨ps, e1, e2⟩ := hp
  exact ⟨ps, e1, (key h).2 B ps w hB e2⟩
theorem up_ri (x : RI) : UpA (RIA x) (RIO x) := cat_up (.cons (up_bo _) (.cons (up_mg _) .nil))
theorem free_ri (x : RI) : FreeA (RIN x) (RIN x) := cat_free (.cons (free_bo _) (.cons (free_mgN _) .nil))
theorem free_riA (x : RI) : FreeA (RIN x) (RIA x) := cat_free (.cons (free_bo _) (.cons (free_mgNA _) .nil))
theorem all_free {l l' : List VA} (h : All2 Free l l') (B B' : Nat) (hB : B' ≤ B) (w : World) : ∀ {vs : List Value}, All2 (fun (A : VA) v => A.p B v w) l vs → All2 (fun (A : VA) v => A.p B' v w) l' vs := by
  induction h with
  | nil => intro vs hp; cases hp; exact .nil
  | cons h1 _ ih => intro vs hp; cases hp with | cons h2 h3 => exact .cons (h1 _ _ _ _ hB h2) (ih h3)
theorem all_up {l l' : List VA} (h : All2 Up l l') (B : Nat) (w : World) (hB : B ≤ w.heap.size) : ∀ {vs : List Value}, All2 (fun (A : VA) v => A.p B v w) l vs → All2 (fun (A : VA) v => A.p w.heap.size v w) l' vs := by
  induction h with
  | nil => intro vs hp; cases hp; exact .nil
  | cons h1 _ ih => intro vs hp; cases hp with | cons h2 h3 => exact .cons (h1 _ _ _ hB h2) (ih h3)
theorem tu_free {l l' : List VA} (h : All2 Free l l') : Free (Tu l) (Tu l') := fun B B' _ w hB ⟨vs, hv, hp⟩ => ⟨vs, hv, all_free h B B' hB w hp⟩

/-- the same contract, of a weaker answer, whatever the bound. -/
theorem Cn.free {P : Program} {f : FuncId} {pre : List VA} {post post' : VA} (h : Cn P f pre post) (hp : Free post post') : Cn P f pre post' := h.mono fun B v w => hp B B v w (Nat.le_refl _)

/-- INTO A FUNCTION THAT WRITES ROWS: all that it is handed is old. -/
theorem Cn.introW {P : Program} {f : FuncId} {fn : Func} {c : Code} {pre pre' : List VA} {post : VA} (hf : P.funcs[f]? = some fn) (hb : fn.body = some c) (hn : (fn.name == "runtime.NumGoroutine") = false) (hsz : pre.length ≤ fn.ntmps)
    (hup : All2 Up pre pre') (hfree : Free post post)
    (h : ∀ (B : Nat) (w0 : Bs) (a : Act), B = w0.w.heap.size → St B w0 fn.ntmps (argΓ pre') [] a w0.w → c.wp P (bodyPost P fn (RQ B w0 post)) a w0.w) : Cn P f pre post := by
  refine ⟨⟨fn, hf, hn, by rw [hb]; rfl⟩, fun B w args hB ha => (calls_of_wp hf hb (h w.heap.size ⟨w, fun _ => False⟩ _ rfl ?_)).mono fun _ _ ⟨v, he, hv, hk⟩ => ⟨v, he, hfree _ _ _ _ hB hv, hk.grow0⟩⟩
  have hl := ha.length
  have hl2 := hup.length
  have ha' : All2 (fun (A : VA) v => A.p w.heap.size v w) pre' args := all_up hup B w hB ha
  refine ⟨fun g hg => hg.resolve_right fun h => h, rfl, ?_, Kept.refl _, All2.args ha', (fun l hl => by cases hl), (fun l hl => by cases hl)⟩
  simp only [Array.size_append, List.size_toArray, Array.size_replicate]
  omega

/-! ### functions that return a new row -/
/-- 'called with such values it returns a new block's name; the block is as A says.' -/
def Cr (P : Program) (f : FuncId) (T : TypeId) (H : Hd) (A : As) (pre : List VA) : Prop :=
  (∃ fn, P.funcs[f]? = some fn ∧ (fn.name == "runtime.NumGoroutine") = false ∧ fn.body.isNone = false) ∧
  ∀ (B : Nat) (w : World) (args : List Value), B ≤ w.heap.size → All2 (fun A v => A.p B v w) pre args →
    Calls P f args.toArray w fun e w' => ∃ g cs, e = .returned (H.f g) ∧ w.heap.size ≤ g ∧ w'.heap[g]? = some (.cells (List.toArray cs) T (0, 0)) ∧ A.p B cs w' ∧ Grow w w'
def RQr (B : Nat) (w0 : Bs) (T : TypeId) (H : Hd) (A : As) : Ending → World → Prop := fun e w' => ∃ g cs, e = .returned (H.f g) ∧ w0.w.heap.size ≤ g ∧ w'.heap[g]? = some (.cells (List.toArray cs) T (0, 0)) ∧ A.p B cs w' ∧ Kept w0 w'
theorem Cr.introW {P : Program} {f : FuncId} {fn : Func} {c : Code} {T : TypeId} {H : Hd} {A : As} {pre pre' : List VA} (hf : P.funcs[f]? = some fn) (hb : fn.body = some c) (hn : (fn.name == "runtime.NumGoroutine") = false) (hsz : pre.length ≤ fn.ntmps)
    (hup : All2 Up pre pre') (hA : ∀ B B' cs w, A.p B cs w → A.p B' cs w)
    (h : ∀ (B : Nat) (w0 : Bs) (a : Act), B = w0.w.heap.size → St B w0 fn.ntmps (argΓ pre') [] a w0.w → c.wp P (bodyPost P fn (RQr B w0 T H A)) a w0.w) : Cr P f T H A pre := by
  refine ⟨⟨fn, hf, hn, by rw [hb]; rfl⟩, fun B w args hB ha => (calls_of_wp hf hb (h w.heap.size ⟨w, fun _ => False⟩ _ rfl ?_)).mono fun _ _ ⟨g, cs, he, h1, h2, h3, hk⟩ => ⟨g, cs, he, h1, h2, hA _ _ _ _ h3, hk.grow0⟩⟩
  have hl := ha.length
  have hl2 := hup.length
  have ha' : All2 (fun (A : VA) v => A.p w.heap.size v w) pre' args := all_up hup B w hB ha
  refine ⟨fun g hg => hg.resolve_right fun h => h, rfl, ?_, Kept.refl _, All2.args ha', (fun l hl => by cases hl), (fun l hl => by cases hl)⟩
  simp only [Array.size_append, List.size_toArray, Array.size_replicate]
  omega
theorem ret_rowr {P : Program} {fn : Func} {B t N : Nat} {w0 : Bs} {Γ : List (Nat × VA)} {Λ : List Lc} {a : Act} {w : World} {T : TypeId} {H : Hd} {A : As} (hr : fn.results = #[.tmp t]) (h : St B w0 N Γ Λ a w) (hB : B = w0.w.heap.size) (hm : (⟨t, T, H, A⟩ : Lc) ∈ Λ) : bodyPost P fn (RQr B w0 T H A) .ret a w := by
  obtain ⟨g, cs, h1, hgm, h3, h4⟩ := h.locs _ hm
  refine ⟨h.defers, _, results_tmp hr a.tmps P w, g, cs, ?_, by have := h.lo g hgm; omega, h3, h4, h.base⟩
  exact congrArg Ending.returned h1
section
variable {P : Program} {Q : Exit → Act → World → Prop} {R : Rg} {B : Nat} {w0 : Bs} {i : Nat}
theorem ob_calr {d e : Nat} {T : TypeId} {H : Hd} {A : As} {st : Option (Nat × As)} {f : FuncId} {xs : List Operand} {pre : List VA} {at_ : Array TypeId} {ty : TypeId} {ps : String} {af : Array Edge} (hs : R.sp[i]? = some (.alc e)) (he : R.les[e]? = some ⟨d, T, H, some i, A, st⟩)
    (ho : R.ops[i]? = some ⟨some d, .call ⟨.value (.func f), xs.toArray, at_⟩, ty, ps, af, none⟩) (hc : Cr P f T H A pre) (hx : HasL R B w0 i xs pre) : R.Ob P Q B w0 i := by
  unfold Rg.Ob
  simp only [hs, he]
  intro a w av K hK
  obtain ⟨⟨fn, hf, hn, hb⟩, hcall⟩ := hc
  refine wpOp_of ho rfl ?_
  have hrun : (execOp a.eval ⟨some d, .call ⟨.value (.func f), xs.toArray, at_⟩, ty, ps, af, none⟩).run P w = .ok (.enter f (xs.map a.eval).toArray) w := by
    simp only [execOp, resolve, Act.eval, Deferred.ofValue, Sem.run_bind, Sem.run_pure, Result.andThen_ok, invoke, run_callFunc hf hn hb]
    simp
  unfold Oper.wp
  rw [hrun]
  exact (hcall B w _ (Av.bw av) (hx.all av)).mono fun e w' ⟨g, cs, he, h1, h2, h3, hg⟩ => by subst he; exact hK g cs w' hg h1 h2 h3
end
/-- a new row in a slot becomes a local. -/
theorem St.own {B N : Nat} {w0 : Bs} {Γ : List (Nat × VA)} {Λ : List Lc} {a : Act} {w : World} (h : St B w0 N Γ Λ a w) (hB : B = w0.w.heap.size) {t : Nat} {l : List Nat} (k : Nat) (hm : Γ[k]? = some (t, (MgN l).va)) (hl : 0 < l.length) (hΛ : Λ.all (fun m => m.T != U32) = true) :
    ∃ c ext, l.length ≤ c ∧ c ≤ maxLen ∧ okL l ∧ St B w0 N Γ (⟨t, U32, slH l.length c, Nums .u32 (l ++ ext)⟩ :: Λ) a w := by
  obtain ⟨cs, ⟨ok, A, c, rfl, h1, h2, h3⟩, hv⟩ := h.vals _ (List.mem_of_getElem? hm)
  obtain ⟨g, ext, rfl, h4, h5⟩ := h3 hl
  have hd : ∀ m ∈ Λ, blk (a.eval (.tmp m.s)) ≠ some g := by
    intro m hm2 hh
    obtain ⟨g', cs, e1, _, e3, _⟩ := h.locs m hm2
    rw [e1, m.H.ok] at hh
    injection hh with hh
    subst hh
    rw [e3] at h5
    simp only [Option.some.injEq, Obj.cells.injEq] at h5
    have := List.all_eq_true.1 hΛ m hm2
    simp [h5.2.1] at this
  have hg : blk (a.eval (.tmp t)) = some g := by rw [hv]; rfl
  refine ⟨c, ext, h1, h2, ok, h.lo, h.defers, h.size, h.base, h.vals, fun x hx => ?_, fun x hx y hy hne => ?_⟩
  · rcases List.mem_cons.1 hx with rfl | hx
    · exact ⟨g, _, hv, .inl (by omega), h5, rfl⟩
    · exact h.locs x hx
  · rcases List.mem_cons.1 hx with rfl | hx <;> rcases List.mem_cons.1 hy with rfl | hy
    · exact absurd rfl hne
    · rw [hg]; exact fun e => hd y hy e.symm
    · rw [hg]; exact hd x hx
    · exact h.dis x hx y hy hne

/-! ### functions that write a variable of the caller's -/
/-- what an argument is: a value; THE variable that is written. -/
inductive Ar where
  | v (A : VA)
  | w (H : Hd)
def Ar.ok (B : Nat) (w : World) (g : Nat) : Ar → Value → Prop
  | .v A, x => A.p B x w
  | .w H, x => x = H.f g
/-- 'called with a variable of type T that is as A0 says, and values, it returns a value that is as post says, the variable is then as A1 says; nothing else turns.' -/
def Cm (P : Program) (f : FuncId) (T : TypeId) (A0 A1 : As) (pre : List Ar) (post : VA) : Prop :=
  (∃ fn, P.funcs[f]? = some fn ∧ (fn.name == "runtime.NumGoroutine") = false ∧ fn.body.isNone = false) ∧
  ∀ (B : Nat) (w : World) (g : Nat) (cs : List Value) (args : List Value), B ≤ g → w.heap[g]? = some (.cells cs.toArray T (0, 0)) → A0.p B cs w → All2 (fun A v => Ar.ok B w g A v) pre args →
    Calls P f args.toArray w fun e w' => ∃ v cs', e = .returned v ∧ post.p B v w' ∧ But g w w' ∧ w'.heap[g]? = some (.cells cs'.toArray T (0, 0)) ∧ A1.p B cs' w'

def RQm (B : Nat) (w0 : Bs) (g : Nat) (T : TypeId) (A1 : As) (post : VA) : Ending → World → Prop := fun e w' => ∃ v cs', e = .returned v ∧ post.p B v w' ∧ Kept w0 w' ∧ w'.heap[g]? = some (.cells (List.toArray cs') T (0, 0)) ∧ A1.p B cs' w'

def Ar.va (g : Nat) : Ar → VA
  | .v A => A
  | .w H => EqV (H.f g)

theorem Cm.intro {P : Program} {f : FuncId} {fn : Func} {c : Code} {T : TypeId} {A0 A1 : As} {H : Hd} {pre : List Ar} {post : VA} (hf : P.funcs[f]? = some fn) (hb : fn.body = some c) (hn : (fn.name == "runtime.NumGoroutine") = false) (hsz : pre.length + 1 ≤ fn.ntmps)
    (h : ∀ (B g : Nat) (w0 : Bs) (a : Act), St B w0 fn.ntmps (argΓ ((Ar.w H :: pre).map (Ar.va g))) [⟨0, T, H, A0⟩] a w0.w → c.wp P (bodyPost P fn (RQm B w0 g T A1 post)) a w0.w) : Cm P f T A0 A1 (.w H :: pre) post := by
  refine ⟨⟨fn, hf, hn, by rw [hb]; rfl⟩, fun B w g cs args hB hg hp ha => (calls_of_wp hf hb (h B g ⟨w, fun k => k = g⟩ _ ?_)).mono fun _ _ ⟨v, cs', he, hv, hk, h1, h2⟩ => ⟨v, cs', he, hv, hk, h1, h2⟩⟩
  have hl := ha.length
  have hgw := (Array.getElem?_eq_some_iff.1 hg).1
  have ha' : All2 (fun (A : VA) v => A.p B v w) ((Ar.w H :: pre).map (Ar.va g)) args := by
    generalize (Ar.w H :: pre) = pr at ha
    clear hl
    induction ha with
    | nil => exact .nil
    | @cons x y xs ys h1 _ ih =>
      refine .cons ?_ ih
      cases x with
      | v A => exact h1
      | w H => exact h1
  have h0 : (⟨args.toArray ++ Array.replicate (fn.ntmps - args.toArray.size) undef, []⟩ : Act).eval (.tmp 0) = H.f g := by
    have := All2.args (N := fn.ntmps - args.toArray.size) ha' (0, EqV (H.f g)) (by simp [argΓ, Ar.va])
    exact this
  refine ⟨fun k hk => ?_, rfl, ?_, Kept.refl _, All2.args ha', fun l hl => ?_, fun l hl m hm hne => ?_⟩
  · rcases hk with hk | hk
    · exact Nat.le_trans hB (Nat.le_trans (Nat.le_of_lt hgw) hk)
    · have : k = g := hk
      omega
  · simp only [Array.size_append, List.size_toArray, Array.size_replicate]
    simp at hl
    omega
  · simp at hl
    subst hl
    exact ⟨g, cs, h0, .inr rfl, hg, hp⟩
  · simp at hl hm
    subst hl hm
    exact absurd rfl hne

theorem ret_m {P : Program} {fn : Func} {B N g : Nat} {w0 : Bs} {Γ : List (Nat × VA)} {Λ : List Lc} {a : Act} {w : World} {T : TypeId} {H : Hd} {A1 : As} {post : VA} (h : St B w0 N Γ Λ a w) (hm : (0, EqV (H.f g)) ∈ Γ) (hl : (⟨0, T, H, A1⟩ : Lc) ∈ Λ)
    (hb : bodyPost P fn (RQ B w0 post) .ret a w) : bodyPost P fn (RQm B w0 g T A1 post) .ret a w := by
  obtain ⟨hd, v, hr, v', e1, e2, e3⟩ := hb
  obtain ⟨g', cs, f1, _, f3, f4⟩ := h.locs _ hl
  have f0 : a.eval (.tmp 0) = H.f g := h.vals _ hm
  have : g' = g := Rg.Hd.inj (H := H) (H' := H) (by rw [← f1, ← f0])
  subst this
  exact ⟨hd, v, hr, v', cs, e1, e2, e3, f3, f4⟩

theorem ri_know {x : RI} {B : Nat} {v : Value} {w : World} (h : (RIA x).va.p B v w) : okL x.mag ∧ x.mag.length ≤ 9223372036854775807 := by
  obtain ⟨cs, hp, _⟩ := h
  obtain ⟨ps, _, hps⟩ := hp
  cases hps with
  | cons _ h2 => cases h2 with
    | cons h3 _ =>
      obtain ⟨A, c, _, hg⟩ := mg_open ⟨_, h3, rfl⟩
      have h1 := hg.le
      have h2 := hg.max
      unfold maxLen at h2
      exact ⟨hg.ok, by omega⟩
theorem wi_pm {n : Nat} (h : 0 < n) (h2 : n ≤ 9223372036854775807) : IntKind.i64.wrap ((n : Int) - 1) = ((n - 1 : Nat) : Int) := by rw [wi64 (by omega) (by omega)]; omega
theorem wi_succ {n : Nat} (h : n < 4611686018427387904) : IntKind.i64.wrap ((n : Int) + 1) = ((n + 1 : Nat) : Int) := by rw [wi64 (by omega) (by omega)]; rfl
theorem wi_add {n m : Nat} (h : n + m < 4611686018427387904) : IntKind.i64.wrap ((n : Int) + (m : Int)) = ((n + m : Nat) : Int) := by rw [wi64 (by omega) (by omega)]; rfl
theorem wi_pred {n : Nat} (h : n + 1 < 4611686018427387904) : IntKind.i64.wrap (((n + 1 : Nat) : Int) - 1) = ((n : Nat) : Int) := by rw [wi64 (by omega) (by omega)]; omega
theorem u32_info : ∃ i0, Try.prog.info? U32 = some i0 ∧ i0.zero = some (.int .u32 0) ∧ i0.size = 1 ∧ i0.bytes = 4 := info_parts (by kernel_rfl)
theorem mk_u32 : MakeOk Try.prog 22 U32 .u32 := by
  have hi : (Try.prog.info? U32).map (fun it => decide (it.bytes ≤ 8)) = some true := by kernel_rfl
  exact ⟨by kernel_rfl, by kernel_rfl, by kernel_rfl, by kernel_rfl, fun it h => by rw [h] at hi; simpa using hi⟩
theorem St.selL {B N : Nat} {w0 : Bs} {Γ : List (Nat × VA)} {Λ : List Lc} {a : Act} {w : World} (h : St B w0 N Γ Λ a w) (l : List Nat) : St B w0 N Γ (l.filterMap fun k => Λ[k]?) a w := by
  have hm : ∀ x ∈ l.filterMap (fun k => Λ[k]?), x ∈ Λ := fun x hx => by
    obtain ⟨k, _, hk⟩ := List.mem_filterMap.1 hx
    exact List.mem_of_getElem? hk
  exact ⟨h.lo, h.defers, h.size, h.base, h.vals, fun x hx => h.locs x (hm x hx), fun x hx y hy => h.dis x (hm x hx) y (hm y hy)⟩
theorem cond_join {P : Program} {B N : Nat} {w0 : Bs} {Γ : List (Nat × VA)} {Λ : List Lc} {a : Act} {w : World} {Q : Exit → Act → World → Prop} {t : Nat} {b : Bool} {x y : Code} (J : Act → World → Prop) (h : St B w0 N Γ Λ a w) (hm : (t, Bo b) ∈ Γ)
    (ht : b = true → x.wp P (Exit.then J Q) a w) (hf : b = false → y.wp P (Exit.then J Q) a w) (hk : ∀ a w, J a w → Q .normal a w) : (Code.cond (.tmp t) x y).wp P Q a w := by
  have hJ : ∀ {z : Code}, z.wp P (Exit.then J Q) a w → z.wp P Q a w := fun hz => wp_mono hz fun e a' w' hq => by
    cases e with
    | normal => exact hk a' w' hq
    | _ => exact hq
  exact cond_of h hm (fun hb => hJ (ht hb)) (fun hb => hJ (hf hb))
theorem Cn.pre {P : Program} {f : FuncId} {pre pre' : List VA} {post : VA} (h : Cn P f pre post) (e : pre' = pre) : Cn P f pre' post := by subst e; exact h
theorem Cn.post {P : Program} {f : FuncId} {pre : List VA} {post post' : VA} (h : Cn P f pre post) (e : post = post') : Cn P f pre post' := by subst e; exact h
/-- 'append([]T{}, s...)': a row of one's own, noughts behind it. -/
theorem wpList_append_new {P : Program} {w : World} {ops : Array Oper} {rest : List Oper} {o : Oper} {a : Act} {Q : Exit → Act → World → Prop} (hgd : o.guard = none) (s x : Operand) (t : TypeId) (ho : o.op = .call { callee := .builtin .append, args := #[s, x], argTypes := #[t, t] })
    (e : TypeId) (i : TypeInfo) (z : Value) (ht : P.underlying t = some (.slice e)) (hi : P.info? e = some i) (hz : i.zero = some z) (hsize : i.size = 1) (hby : i.bytes = 4)
    (b : Addr) (hs : a.eval s = .slice (some b) 0 0) (ad : Addr) (m c : Nat) (news : List Value) (hx : a.eval x = .slice (some ad) m c) (hl : news.length = m) (hnews : ∀ j u, news[j]? = some u → w.cell? (ad.add j) = some u) (hm : 0 < m) (hbytes : m * 4 ≤ 140737488355328)
    (h : wpList P ops Q rest (a.put o.dst (.slice (some ⟨w.heap.size, 0, none⟩) m (grownCap w m 0 e))) (w.drew.alloc (.cells (news.toArray ++ Builtin.zeroCells z.cells (grownCap w m 0 e - m)) e))) : wpList P ops Q (o :: rest) a w := by
  refine wpList_plain hgd fun K hK => ?_
  have hr := run_append_grow (P := P) w t o.type e i z ht hi hz b 0 0 [] (by simp) (fun j v hj => by simp at hj) ad m c news (by rw [hl, hsize, Nat.mul_one]) hnews (by omega) (by omega) (growslice_fits (by omega) (by rw [hby]; omega))
  simp only [Nat.zero_add, Array.empty_append] at hr
  unfold Oper.wp execOp
  simp only [ho, resolve, invoke, builtin, Sem.run_bind, Sem.run_pure, Result.andThen_ok, List.map_toArray, List.map_cons, List.map_nil, hs, hx, hr]
  exact hK _ _ h
theorem zero_cells (k : Nat) : Builtin.zeroCells #[Value.int .u32 0] k = ((List.replicate k 0).map fun (x : Nat) => Value.int .u32 x).toArray := by
  apply Array.ext_getElem?
  intro j
  simp only [Builtin.zeroCells, List.map_replicate]
  by_cases hj : j < k
  · simp [hj, Nat.mod_one]
  · simp [hj]
/-- what a fact on limbs tells of them. -/
theorem St.mag {B N : Nat} {w0 : Bs} {Γ : List (Nat × VA)} {Λ : List Lc} {a : Act} {w : World} (h : St B w0 N Γ Λ a w) {t : Nat} {l : List Nat} (k : Nat) (hm : Γ[k]? = some (t, (MgA l).va)) : okL l ∧ l.length ≤ 9223372036854775807 := by
  obtain ⟨A, c, _, hg⟩ := mg_open (h.vals _ (List.mem_of_getElem? hm))
  have h1 := hg.le
  have h2 := hg.max
  unfold maxLen at h2
  exact ⟨hg.ok, by omega⟩
theorem St.magO {B N : Nat} {w0 : Bs} {Γ : List (Nat × VA)} {Λ : List Lc} {a : Act} {w : World} (h : St B w0 N Γ Λ a w) {t : Nat} {l : List Nat} (k : Nat) (hm : Γ[k]? = some (t, (MgO l).va)) : okL l ∧ l.length ≤ 9223372036854775807 := by
  obtain ⟨A, c, _, hg⟩ := mg_open (l := l) (SlO.use (h.vals _ (List.mem_of_getElem? hm)))
  have h1 := hg.le
  have h2 := hg.max
  unfold maxLen at h2
  exact ⟨hg.ok, by omega⟩
section
variable {P : Program} {Q : Exit → Act → World → Prop} {R : Rg} {B : Nat} {w0 : Bs} {i : Nat}
/-- a row of one's own, as it is. -/
theorem has_rowN {t b n c : Nat} {l : List Nat} (j : Nat) (hj : R.sp[j]? = some (.adr t b .none True)) (hji : (R.anc i).contains j = true) (hl : LocH R i b U32 (slH n c) (Nums .u32 l)) (h : n = l.length ∧ n ≤ c ∧ c ≤ maxLen ∧ okL l) : Has R B w0 i (.tmp t) (MgN l).va := fun a w av => by
  obtain ⟨g, cs, h1, hgm, h3, h4⟩ := hl.ok av
  have h2 := av.d j t b .none True hji hj trivial
  have h4' : cs = l.map fun (x : Nat) => Value.int .u32 x := h4
  obtain ⟨rfl, hc, hm, ok⟩ := h
  exact ⟨[.slice (some ⟨g, 0, none⟩) l.length c], ⟨ok, _, c, rfl, hc, hm, fun _ => ⟨g, [], rfl, av.lo g hgm, by rw [List.append_nil, ← h4']; exact h3⟩⟩, h2.trans h1⟩
theorem has_new {x : Operand} {l : List Nat} (h : Has R B w0 i x (MgN l).va) : Has R B w0 i x (MgA l).va := fun a w av => mgN_A (h a w av)
theorem r_idxmd {x y : Operand} {S : TypeId} {l : List Nat} {k : Nat} {kd : IntKind} (hS : Sl P S U32 1) (hx : Has R B w0 i x (MgA l).va) (hy : Has R B w0 i y (NumA kd k).va) (hk : k < l.length) : Wv P Q R B w0 i (.indexAddr S x y) (ElP U32 (NumA .u32 (l.getD k 0 : Nat))) := by
  have := r_idxm (P := P) (Q := Q) hS hx hy hk
  rwa [show l[k] = l.getD k 0 from by simp [List.getD, hk]] at this
theorem has_nat {k : IntKind} {z : Int} (n : Nat) (h : z = (n : Int)) : Has R B w0 i (.const (.int k z)) (NumA k (n : Nat)).va := fun _ w _ => by subst h; exact val_num k _ B w
theorem ret_row {fn : Func} {t N n c : Nat} {Γ : List (Nat × VA)} {Λ : List Lc} {a : Act} {w : World} {l : List Nat} (hr : fn.results = #[.tmp t]) (h : St B w0 N Γ Λ a w) (hm : (⟨t, U32, slH n c, Nums .u32 l⟩ : Lc) ∈ Λ) (hk : n = l.length ∧ n ≤ c ∧ c ≤ maxLen ∧ okL l) :
    bodyPost P fn (RQ B w0 (MgN l).va) .ret a w := by
  obtain ⟨g, cs, h1, hgm, h3, h4⟩ := h.locs _ hm
  have h4' : cs = l.map fun (x : Nat) => Value.int .u32 x := h4
  obtain ⟨rfl, hc, hm, ok⟩ := hk
  exact ⟨h.defers, _, results_tmp hr a.tmps P w, _, rfl, ⟨[.slice (some ⟨g, 0, none⟩) l.length c], ⟨ok, _, c, rfl, hc, hm, fun _ => ⟨g, [], rfl, h.lo g hgm, by rw [List.append_nil, ← h4']; exact h3⟩⟩, h1⟩, h.base⟩
/-- an argument at such a call: a value; the variable's own name. -/
def ArH (R : Rg) (B : Nat) (w0 : Bs) (i : Nat) (s : Nat) (H0 : Hd) : Ar → Operand → Prop
  | .v A, x => Has R B w0 i x A
  | .w H, x => H = H0 ∧ ∀ a w, R.Av B w0 i a w → a.eval x = a.eval (.tmp s)
theorem arw {s : Nat} {H : Hd} : ArH R B w0 i s H (.w H) (.tmp s) := ⟨rfl, fun _ _ _ => rfl⟩
theorem arw2 {s t : Nat} {H : Hd} (j : Nat) (hj : R.sp[j]? = some (.adr t s .none True)) (hji : (R.anc i).contains j = true) : ArH R B w0 i s H (.w H) (.tmp t) := ⟨rfl, fun _ _ av => av.d j t s .none True hji hj trivial⟩
theorem ob_cal {d s e : Nat} {T : TypeId} {H : Hd} {cr : Option Nat} {A0 A1 : As} {A : VA} {f : FuncId} {xs : List Operand} {pre : List Ar} {at_ : Array TypeId} {ty : TypeId} {ps : String} {af : Array Edge}
    (hs : R.sp[i]? = some (.cal d A e)) (he : R.les[e]? = some ⟨s, T, H, cr, A0, some (i, A1)⟩) (ho : R.ops[i]? = some ⟨some d, .call ⟨.value (.func f), xs.toArray, at_⟩, ty, ps, af, none⟩)
    (hc : Cm P f T A0 A1 pre A) (hx : All2 (ArH R B w0 i s H) pre xs) : R.Ob P Q B w0 i := by
  unfold Rg.Ob
  simp only [hs, he]
  intro a w av g cs h1 hB h3 h4 _ K hK
  obtain ⟨⟨fn, hf, hn, hb⟩, hcall⟩ := hc
  refine wpOp_of ho rfl ?_
  have hrun : (execOp a.eval ⟨some d, .call ⟨.value (.func f), xs.toArray, at_⟩, ty, ps, af, none⟩).run P w = .ok (.enter f (xs.map a.eval).toArray) w := by
    simp only [execOp, resolve, Act.eval, Deferred.ofValue, Sem.run_bind, Sem.run_pure, Result.andThen_ok, invoke, run_callFunc hf hn hb]
    simp
  unfold Oper.wp
  rw [hrun]
  refine (hcall B w g cs _ hB h3 h4 ?_).mono fun e w' ⟨v, cs', he, hv, hg, h5, h6⟩ => by subst he; exact hK v cs' w' hg h5 h6 hv
  clear hcall hrun ho
  induction hx with
  | nil => exact .nil
  | @cons x y _ _ h _ ih =>
    refine .cons ?_ ih
    cases x with
    | v A => exact h a w av
    | w H' =>
      obtain ⟨rfl, h2⟩ := h
      exact (h2 a w av).trans h1
end
end Go.Proofs.Ytgjolcbehcjhcaa
namespace Go.Proofs.Ytgjolcbehcjhcaa
open Go Go.RowKit
theorem St.expose {B N : Nat} {w0 : Bs} {Γ : List (Nat × VA)} {Λ : List Lc} {a : Act} {w : World} (h : St B w0 N Γ Λ a w) {s : Nat} {T : TypeId} {H : Hd} {A : As} (k : Nat) (hm : Λ[k]? = some ⟨s, T, H, A⟩) : ∃ g, B ≤ g ∧ St B w0 N ((s, EqV (H.f g)) :: Γ) Λ a w := by
  obtain ⟨g, cs, h1, h2, _⟩ := h.locs _ (List.mem_of_getElem? hm)
  refine ⟨g, h.lo g h2, h.lo, h.defers, h.size, h.base, fun x hx => ?_, h.locs, h.dis⟩
  rcases List.mem_cons.1 hx with rfl | hx
  · exact h1
  · exact h.vals x hx
/-- a local by another of its names. -/
theorem St.swap {B N : Nat} {w0 : Bs} {Γ : List (Nat × VA)} {Λ : List Lc} {a : Act} {w : World} (h : St B w0 N Γ Λ a w) {s s' g : Nat} {T : TypeId} {H H' : Hd} {A : As} (k : Nat) (hm : Λ[k]? = some ⟨s, T, H, A⟩) (h1 : (s, EqV (H.f g)) ∈ Γ) (h2 : (s', EqV (H'.f g)) ∈ Γ)
    (hs : (Λ.eraseIdx k).all (fun m => m.s != s) = true) : St B w0 N Γ (⟨s', T, H', A⟩ :: Λ.eraseIdx k) a w := by
  have e1 : a.eval (.tmp s) = H.f g := h.vals _ h1
  have e2 : a.eval (.tmp s') = H'.f g := h.vals _ h2
  have hin := List.mem_of_getElem? hm
  have hsub : ∀ m ∈ Λ.eraseIdx k, m ∈ Λ := fun m hm => List.mem_of_mem_eraseIdx hm
  have hb : ∀ m ∈ Λ.eraseIdx k, blk (a.eval (.tmp m.s)) ≠ blk (a.eval (.tmp s')) := by
    intro m hm2
    have hne : m.s ≠ s := by simpa using List.all_eq_true.1 hs m hm2
    have := h.dis m (hsub m hm2) _ hin hne
    rw [e2, H'.ok]
    rw [show a.eval (.tmp (⟨s, T, H, A⟩ : Lc).s) = H.f g from e1, H.ok] at this
    exact this
  refine ⟨h.lo, h.defers, h.size, h.base, h.vals, fun x hx => ?_, fun x hx y hy hne => ?_⟩
  · rcases List.mem_cons.1 hx with rfl | hx
    · obtain ⟨g', cs, f1, f2, f3, f4⟩ := h.locs _ hin
      have : g' = g := Rg.Hd.inj (H := H) (H' := H) (by rw [← f1, ← e1])
      subst this
      exact ⟨g', cs, e2, f2, f3, f4⟩
    · exact h.locs x (hsub x hx)
  · rcases List.mem_cons.1 hx with rfl | hx <;> rcases List.mem_cons.1 hy with rfl | hy
    · exact absurd rfl hne
    · exact fun e => hb y hy e.symm
    · exact hb x hx
    · exact h.dis x (hsub x hx) y (hsub y hy) hne
/-- a window of a row. -/
def winH (k n c : Nat) : Hd := ⟨fun g => .slice (some ⟨g, k, none⟩) n c, fun _ => rfl⟩
theorem scp_normal {Q : Exit → Act → World → Prop} {a : Act} {w : World} (h : Q .normal a w) : Exit.noGoto Q .normal a w := h
theorem scp_ret {Q : Exit → Act → World → Prop} {a : Act} {w : World} (h : Q .ret a w) : Exit.noGoto Q .ret a w := h
theorem scp_exit {Q : Exit → Act → World → Prop} {a : Act} {w : World} {id : Nat} (h : Q (.exit id) a w) : Exit.noGoto Q (.exit id) a w := h
/-- a block whose ways out meet again. -/
theorem block_join {P : Program} {Q : Exit → Act → World → Prop} {a : Act} {w : World} {id : Nat} {c : Code} (J : Act → World → Prop) (h : c.wp P (Exit.inBlock id (Exit.then J Q)) a w) (hk : ∀ a w, J a w → Q .normal a w) : (Code.block id c).wp P Q a w :=
  wp_mono (wp_block h) fun e a' w' hq => by
    cases e with
    | normal => exact hk a' w' hq
    | _ => exact hq
/-- what local number k holds, in other words. -/
theorem St.cvA {B N : Nat} {w0 : Bs} {Γ : List (Nat × VA)} {Λ : List Lc} {a : Act} {w : World} (h : St B w0 N Γ Λ a w) {s : Nat} {T : TypeId} {H : Hd} {A A' : As} (k : Nat) (hm : Λ[k]? = some ⟨s, T, H, A⟩) (e : A = A') : St B w0 N Γ (Λ.set k ⟨s, T, H, A'⟩) a w := by
  subst e
  obtain ⟨hk, he⟩ := List.getElem?_eq_some_iff.1 hm
  rw [← he, List.set_getElem_self]
  exact h
/-- a fact, in other words. -/
theorem St.cvG {B N : Nat} {w0 : Bs} {Γ : List (Nat × VA)} {Λ : List Lc} {a : Act} {w : World} (h : St B w0 N Γ Λ a w) {s : Nat} {A A' : VA} (k : Nat) (hm : Γ[k]? = some (s, A)) (e : A = A') : St B w0 N (Γ.set k (s, A')) Λ a w := by
  subst e
  obtain ⟨hk, he⟩ := List.getElem?_eq_some_iff.1 hm
  rw [← he, List.set_getElem_self]
  exact h
/-- a row known to the letter, as limbs. -/
theorem St.asN {B N : Nat} {w0 : Bs} {Γ : List (Nat × VA)} {Λ : List Lc} {a : Act} {w : World} (h : St B w0 N Γ Λ a w) {t s n c g : Nat} {H : Hd} (l ext : List Nat) {c' : List Nat} (k : Nat) (hm : Λ[k]? = some ⟨s, U32, H, Nums .u32 c'⟩) (h1 : (s, EqV (H.f g)) ∈ Γ) (h2 : (t, EqV (.slice (some ⟨g, 0, none⟩) n c)) ∈ Γ)
    (e : c' = l ++ ext) (hn : n = l.length) (hc : n ≤ c ∧ c ≤ maxLen) (ok : okL l) : St B w0 N ((t, (MgN l).va) :: Γ) Λ a w := by
  refine ⟨h.lo, h.defers, h.size, h.base, fun x hx => ?_, h.locs, h.dis⟩
  rcases List.mem_cons.1 hx with rfl | hx
  · obtain ⟨g', cs, f1, f2, f3, f4⟩ := h.locs _ (List.mem_of_getElem? hm)
    have e1 : a.eval (.tmp s) = H.f g := h.vals _ h1
    have hg : g' = g := Rg.Hd.inj (H := H) (H' := H) (by rw [← f1, ← e1])
    subst hg
    have f4' : cs = c'.map fun (x : Nat) => Value.int .u32 x := f4
    subst hn
    exact ⟨[.slice (some ⟨g', 0, none⟩) l.length c], ⟨ok, _, c, rfl, hc.1, hc.2, fun _ => ⟨g', ext, rfl, h.lo g' f2, by rw [← e, ← f4']; exact f3⟩⟩, h.vals _ h2⟩
  · exact h.vals x hx
section
variable {P : Program} {Q : Exit → Act → World → Prop} {R : Rg} {B : Nat} {w0 : Bs} {i : Nat}
/-- 's[l:h]', s known to the letter. -/
theorem r_winE {x y z : Operand} {S E : TypeId} {g o n c l h : Nat} (hS : Sl P S E 1) (hx : Has R B w0 i x (EqV (.slice (some ⟨g, o, none⟩) n c))) (hy : Has R B w0 i y (In l)) (hz : Has R B w0 i z (In h)) {o' n' c' : Nat} (hw : l ≤ h ∧ h ≤ c ∧ l < c ∧ o + l = o' ∧ h - l = n' ∧ c - l = c') :
    Wv P Q R B w0 i (.slice S x (some y) (some z) none) (EqV (.slice (some ⟨g, o', none⟩) n' c')) :=
  wv_run fun d T ps af gd a w av => by
    obtain ⟨hs1, hs2⟩ := hS
    obtain ⟨h1, h2, h3, rfl, rfl, rfl⟩ := hw
    have e1 : a.eval x = _ := hx a w av
    have e2 := num_val (hy a w av)
    have e3 := num_val (hz a w av)
    have hE : P.elem S = E := by simp [Program.elem, hs1]
    have hs1' : P.underlying S = some (.slice (P.elem S)) := by rw [hE]; exact hs1
    have hsz : ∀ w, (sizeOf E).run P w = .ok 1 w := fun w => by
      cases hi : P.info? E with
      | none => rw [hi] at hs2; simp at hs2
      | some it => rw [hi] at hs2; simp [sizeOf, typeInfo, hi]; simpa using hs2
    refine ⟨_, w, ?_, Grow.refl w, rfl⟩
    have hr := run_slice_lh (P := P) w S (some ⟨g, o, none⟩) n c hs1' .i64 .i64 (l : Int) (h : Int) (by omega) (by omega) (by omega)
    rw [hE, hsz] at hr
    have hne : ¬ c = l := by omega
    simp only [Result.andThen_ok, sliced, Int.toNat_natCast, hne, if_false, Nat.mul_one, Option.map_some] at hr
    simp only [execOp, e1, e2, e3, Option.map_some, run_sliceAt_slice _ _ _ _ _ _ hs1', Sem.run_bind, Sem.run_pure]
    erw [hr]
    simp [Addr.add]
/-- 's[:h]', s known to the letter. -/
theorem r_winE0 {x z : Operand} {S E : TypeId} {g o n c h : Nat} (hS : Sl P S E 1) (hx : Has R B w0 i x (EqV (.slice (some ⟨g, o, none⟩) n c))) (hz : Has R B w0 i z (In h)) (hw : h ≤ c ∧ 0 < c) :
    Wv P Q R B w0 i (.slice S x none (some z) none) (EqV (.slice (some ⟨g, o, none⟩) h c)) :=
  wv_run fun d T ps af gd a w av => by
    obtain ⟨hs1, hs2⟩ := hS
    obtain ⟨h2, h3⟩ := hw
    have e1 : a.eval x = _ := hx a w av
    have e3 := num_val (hz a w av)
    have hE : P.elem S = E := by simp [Program.elem, hs1]
    have hs1' : P.underlying S = some (.slice (P.elem S)) := by rw [hE]; exact hs1
    have hsz : ∀ w, (sizeOf E).run P w = .ok 1 w := fun w => by
      cases hi : P.info? E with
      | none => rw [hi] at hs2; simp at hs2
      | some it => rw [hi] at hs2; simp [sizeOf, typeInfo, hi]; simpa using hs2
    refine ⟨_, w, ?_, Grow.refl w, rfl⟩
    have hr := run_slice_h (P := P) w S (some ⟨g, o, none⟩) n c hs1' .i64 (h : Int) (by omega) (by omega)
    rw [hE, hsz] at hr
    have hne : ¬ c = 0 := by omega
    simp only [Result.andThen_ok, sliced, Int.toNat_natCast, hne, if_false, Nat.mul_one, Option.map_some, Nat.sub_zero] at hr
    simp only [execOp, e1, e3, Option.map_some, run_sliceAt_slice _ _ _ _ _ _ hs1', Sem.run_bind, Sem.run_pure]
    erw [hr]
    simp [Addr.add]
/-- 's[:m]' of a local row. -/
def cutV (m : Nat) : Value → Value
  | .slice A _ c => .slice A m c
  | v => v
theorem cut_slH (m n c g : Nat) : offP ((slH n c).f g) (.fn (cutV m)) = (slH m c).f g := rfl
theorem a_cut {b n c m : Nat} {S E T : TypeId} {A : As} {y : Operand} (hS : Sl P S E 1) (hl : LocH R i b T (slH n c) A) (hy : Has R B w0 i y (In m)) (hm : m ≤ c) (hc : 0 < c) : Ad P Q R B w0 i (.slice S (.tmp b) none (some y) none) b (.fn (cutV m)) := fun d T' ps af gd a w av K hK => by
  obtain ⟨hs1, hs2⟩ := hS
  obtain ⟨g, cs, e1, _⟩ := hl.ok av
  have e3 := num_val (hy a w av)
  have hE : P.elem S = E := by simp [Program.elem, hs1]
  have hs1' : P.underlying S = some (.slice (P.elem S)) := by rw [hE]; exact hs1
  have hsz : ∀ w, (sizeOf E).run P w = .ok 1 w := fun w => by
    cases hi : P.info? E with
    | none => rw [hi] at hs2; simp at hs2
    | some it => rw [hi] at hs2; simp [sizeOf, typeInfo, hi]; simpa using hs2
  have hr := run_slice_h (P := P) w S (some ⟨g, 0, none⟩) n c hs1' .i64 (m : Int) (by omega) (by omega)
  rw [hE, hsz] at hr
  rw [e1] at hK
  have hne : ¬ c = 0 := by omega
  simp only [Result.andThen_ok, sliced, Int.toNat_natCast, hne, if_false, Nat.mul_one, Option.map_some, Nat.sub_zero] at hr
  refine wp_value (w' := w) (v := (slH m c).f g) ?_ hK
  have e1' : a.eval (.tmp b) = .slice (some ⟨g, 0, none⟩) n c := e1
  simp only [execOp, e1', e3, Option.map_some, run_sliceAt_slice _ _ _ _ _ _ hs1', Sem.run_bind, Sem.run_pure]
  erw [hr]
  simp [Addr.add, slH]
/-- at the region's end, locals by new names. -/
structure Named (R : Rg) (e : Le) (l : Lc) : Prop where
  T : l.T = e.T
  A : l.A = Rg.last e
  nm : (l.s = e.s ∧ l.H = e.H) ∨ ∃ (j : Nat) (k : Ky), R.sp[j]? = some (.adr l.s e.s k True) ∧ ∀ g, offP (e.H.f g) k = l.H.f g
theorem fin_named {a : Act} {w : World} (hk : R.chk = true) (h : Rg.Fin R B w0 a w) (src : List Src) (hsrc : src.all (okS R) = true) (Λ' : List Lc) (hn : All2 (Named R) R.les Λ') : St B w0 R.N (src.filterMap (takeS R)) Λ' a w := by
  have st := fin_out hk h src hsrc
  have hev : ∀ e ∈ R.les, ∀ l, Named R e l → ∃ g cs, a.eval (.tmp e.s) = e.H.f g ∧ a.eval (.tmp l.s) = l.H.f g ∧ w0.may g ∧ w.heap[g]? = some (.cells (List.toArray cs) e.T (0, 0)) ∧ (Rg.last e).p B cs w := by
    intro e he l hl
    obtain ⟨g, cs, e1, e2, e3, e4⟩ := st.locs ⟨e.s, e.T, e.H, Rg.last e⟩ (List.mem_map.2 ⟨e, he, rfl⟩)
    refine ⟨g, cs, e1, ?_, e2, e3, e4⟩
    rcases hl.nm with ⟨h1, h2⟩ | ⟨j, k, h1, h2⟩
    · rw [h1, h2]; exact e1
    · have := h.inv.d j l.s e.s k True h1 (by simpa using Rg.chk_lt hk h1) trivial
      rw [this, show a.eval (.tmp e.s) = e.H.f g from e1, h2]
  have hget : ∀ l ∈ Λ', ∃ i : Nat, ∃ e, R.les[i]? = some e ∧ Λ'[i]? = some l ∧ Named R e l := by
    intro l hl
    obtain ⟨i, hi⟩ := List.getElem?_of_mem hl
    have hlen := hn.length
    have hi' : i < R.les.length := by have := (List.getElem?_eq_some_iff.1 hi).1; omega
    obtain ⟨l', h1, h2⟩ := hn.get (List.getElem?_eq_getElem hi')
    rw [hi] at h1
    injection h1 with h1
    subst h1
    exact ⟨i, _, List.getElem?_eq_getElem hi', hi, h2⟩
  refine ⟨st.lo, st.defers, st.size, st.base, st.vals, fun l hl => ?_, fun l hl m hm hne => ?_⟩
  · obtain ⟨i, e, h1, _, h3⟩ := hget l hl
    obtain ⟨g, cs, e1, e2, e3, e4, e5⟩ := hev e (List.mem_of_getElem? h1) l h3
    exact ⟨g, cs, e2, e3, by rw [h3.T]; exact e4, by rw [h3.A]; exact e5⟩
  · obtain ⟨i, e, h1, h2, h3⟩ := hget l hl
    obtain ⟨j, f, k1, k2, k3⟩ := hget m hm
    obtain ⟨g, _, e1, e2, _⟩ := hev e (List.mem_of_getElem? h1) l h3
    obtain ⟨g', _, f1, f2, _⟩ := hev f (List.mem_of_getElem? k1) m k3
    have hij : i ≠ j := fun hh => by subst hh; rw [h2] at k2; injection k2 with k2; exact hne (by rw [k2])
    have hs : e.s ≠ f.s := fun hh => (Rg.chk_le hk k1).2.2.2.1 i e h1 hij hh
    have := st.dis ⟨e.s, e.T, e.H, Rg.last e⟩ (List.mem_map.2 ⟨e, List.mem_of_getElem? h1, rfl⟩) ⟨f.s, f.T, f.H, Rg.last f⟩ (List.mem_map.2 ⟨f, List.mem_of_getElem? k1, rfl⟩) hs
    rw [show a.eval (.tmp (⟨e.s, e.T, e.H, Rg.last e⟩ : Lc).s) = e.H.f g from e1, show a.eval (.tmp (⟨f.s, f.T, f.H, Rg.last f⟩ : Lc).s) = f.H.f g' from f1, e.H.ok, f.H.ok] at this
    rw [e2, f2, l.H.ok, m.H.ok]
    exact this
theorem named_same {e : Le} {A : As} (h : A = Rg.last e) : Named R e ⟨e.s, e.T, e.H, A⟩ := ⟨rfl, h, .inl ⟨rfl, rfl⟩⟩
theorem go_drawR {N : Nat} {Γ : List (Nat × VA)} {Λ : List Lc} {a : Act} {w : World} {id : Nat} {ops : Array Oper} {sts : List (Option (Nat × As))} {news : List Le} {sp : List Sp} (anc : List (List Nat)) (src : List Src) (Λ' : List Lc) (hm : P.follows .mixedOrders = true) (h : St B w0 N Γ Λ a w)
    (hob : Obs P Q ⟨ops, N, Γ, lesOf Λ sts news, sp, fun i => anc.getD i []⟩ B w0 0 ops.size)
    (hn : news.all (fun e => e.cr.isSome) = true) (hanc : Rg.ancOk ⟨ops, N, Γ, lesOf Λ sts news, sp, fun i => anc.getD i []⟩ = true) (hk : Rg.chk ⟨ops, N, Γ, lesOf Λ sts news, sp, fun i => anc.getD i []⟩ = true) (hsrc : src.all (okS ⟨ops, N, Γ, lesOf Λ sts news, sp, fun i => anc.getD i []⟩) = true)
    (hnm : All2 (Named ⟨ops, N, Γ, lesOf Λ sts news, sp, fun i => anc.getD i []⟩) (lesOf Λ sts news) Λ')
    (hQ : ∀ a w, St B w0 N (src.filterMap (takeS ⟨ops, N, Γ, lesOf Λ sts news, sp, fun i => anc.getD i []⟩)) Λ' a w → Q .normal a w) : (Code.region id ops true).wp P Q a w :=
  Rg.draw (R := ⟨ops, N, Γ, lesOf Λ sts news, sp, fun i => anc.getD i []⟩) hm hanc hk h (lesOf_in hn) (fun i hi => hob.all i (by omega) (by simpa using hi)) fun a' w' hf => hQ a' w' (fin_named hk hf src hsrc Λ' hnm)
end
/-! ### a function that writes one row of the caller's and reads another -/
def Cm2 (P : Program) (f : FuncId) (T : TypeId) (H0 H1 : Hd) (A0 A1 : As) (kd : IntKind) (ld : List Nat) (pre : List VA) (post : VA) : Prop :=
  (∃ fn, P.funcs[f]? = some fn ∧ (fn.name == "runtime.NumGoroutine") = false ∧ fn.body.isNone = false) ∧
  ∀ (B : Nat) (w : World) (g0 g1 : Nat) (cs : List Value) (args : List Value), B ≤ g0 → B ≤ g1 → g0 ≠ g1 → w.heap[g0]? = some (.cells cs.toArray T (0, 0)) → w.heap[g1]? = some (.cells (ld.map fun (x : Nat) => Value.int kd x).toArray T (0, 0)) → A0.p B cs w → All2 (fun A v => A.p B v w) pre args →
    Calls P f (H0.f g0 :: H1.f g1 :: args).toArray w fun e w' => ∃ v cs', e = .returned v ∧ post.p B v w' ∧ But g0 w w' ∧ w'.heap[g0]? = some (.cells (List.toArray cs') T (0, 0)) ∧ A1.p B cs' w'
def RQm2 (B : Nat) (w0 : Bs) (g0 g1 : Nat) (T : TypeId) (A1 : As) (kd : IntKind) (ld : List Nat) (post : VA) : Ending → World → Prop := fun e w' => ∃ v cs', e = .returned v ∧ post.p B v w' ∧ Kept w0 w' ∧ w'.heap[g0]? = some (.cells (List.toArray cs') T (0, 0)) ∧ A1.p B cs' w' ∧
  w'.heap[g1]? = some (.cells (ld.map fun (x : Nat) => Value.int kd x).toArray T (0, 0))
theorem Cm2.intro {P : Program} {f : FuncId} {fn : Func} {c : Code} {T : TypeId} {A0 A1 : As} {H0 H1 : Hd} {kd : IntKind} {ld : List Nat} {pre : List VA} {post : VA} (hf : P.funcs[f]? = some fn) (hb : fn.body = some c) (hn : (fn.name == "runtime.NumGoroutine") = false) (hsz : pre.length + 2 ≤ fn.ntmps)
    (h : ∀ (B g0 g1 : Nat) (w0 : Bs) (a : Act), St B w0 fn.ntmps (argΓ (EqV (H0.f g0) :: EqV (H1.f g1) :: pre)) [⟨0, T, H0, A0⟩, ⟨1, T, H1, Nums kd ld⟩] a w0.w → c.wp P (bodyPost P fn (RQm2 B w0 g0 g1 T A1 kd ld post)) a w0.w) : Cm2 P f T H0 H1 A0 A1 kd ld pre post := by
  refine ⟨⟨fn, hf, hn, by rw [hb]; rfl⟩, fun B w g0 g1 cs args hB hB1 hne hg hg1 hp ha => (calls_of_wp hf hb (h B g0 g1 ⟨w, fun k => k = g0 ∨ k = g1⟩ _ ?_)).mono fun _ w' ⟨v, cs', he, hv, hk, h1, h2, h3⟩ => ⟨v, cs', he, hv, ⟨hk.os, hk.tape, hk.output, hk.size, fun k hk1 hk2 => ?_⟩, h1, h2⟩⟩
  · have hl := ha.length
    have hgw := (Array.getElem?_eq_some_iff.1 hg).1
    have ha' : All2 (fun (A : VA) v => A.p B v w) (EqV (H0.f g0) :: EqV (H1.f g1) :: pre) (H0.f g0 :: H1.f g1 :: args) := .cons rfl (.cons rfl ha)
    have hargs := All2.args (N := fn.ntmps - (H0.f g0 :: H1.f g1 :: args).toArray.size) ha'
    have e0 := hargs (0, EqV (H0.f g0)) (by simp [argΓ])
    have e1 := hargs (1, EqV (H1.f g1)) (by simp [argΓ])
    refine ⟨fun k hk => ?_, rfl, ?_, Kept.refl _, hargs, fun l hl => ?_, fun l hl m hm hne2 => ?_⟩
    · rcases hk with hk | hk | hk
      · exact Nat.le_trans hB (Nat.le_trans (Nat.le_of_lt hgw) hk)
      · have : k = g0 := hk
        omega
      · have : k = g1 := hk
        omega
    · simp only [Array.size_append, List.size_toArray, Array.size_replicate, List.length_cons]
      omega
    · simp at hl
      rcases hl with rfl | rfl
      · exact ⟨g0, cs, e0, .inr (.inl rfl), hg, hp⟩
      · exact ⟨g1, _, e1, .inr (.inr rfl), hg1, rfl⟩
    · have b0 : blk ((⟨(H0.f g0 :: H1.f g1 :: args).toArray ++ Array.replicate (fn.ntmps - (H0.f g0 :: H1.f g1 :: args).toArray.size) undef, []⟩ : Act).eval (.tmp 0)) = some g0 := by rw [show _ = H0.f g0 from e0, H0.ok]
      have b1 : blk ((⟨(H0.f g0 :: H1.f g1 :: args).toArray ++ Array.replicate (fn.ntmps - (H0.f g0 :: H1.f g1 :: args).toArray.size) undef, []⟩ : Act).eval (.tmp 1)) = some g1 := by rw [show _ = H1.f g1 from e1, H1.ok]
      simp only [List.mem_cons, List.not_mem_nil, or_false] at hl hm
      rcases hl with rfl | rfl <;> rcases hm with rfl | rfl
      · exact absurd rfl hne2
      · rw [b0, b1]; simpa using hne
      · rw [b0, b1]; simpa using fun e => hne e.symm
      · exact absurd rfl hne2
  · by_cases e : k = g1
    · subst e
      rw [h3]; exact hg1.symm
    · exact hk.block k hk1 (fun hh => hh.elim hk2 e)
theorem ret_m2 {P : Program} {fn : Func} {B N g0 g1 : Nat} {w0 : Bs} {Γ : List (Nat × VA)} {Λ : List Lc} {a : Act} {w : World} {T : TypeId} {H0 H1 : Hd} {A1 : As} {kd : IntKind} {ld : List Nat} {post : VA} (h : St B w0 N Γ Λ a w) (hm0 : (0, EqV (H0.f g0)) ∈ Γ) (hm1 : (1, EqV (H1.f g1)) ∈ Γ)
    (hl0 : (⟨0, T, H0, A1⟩ : Lc) ∈ Λ) (hl1 : (⟨1, T, H1, Nums kd ld⟩ : Lc) ∈ Λ) (hb : bodyPost P fn (RQ B w0 post) .ret a w) : bodyPost P fn (RQm2 B w0 g0 g1 T A1 kd ld post) .ret a w := by
  obtain ⟨hd, v, hr, v', e1, e2, e3⟩ := hb
  obtain ⟨g, cs, f1, _, f3, f4⟩ := h.locs _ hl0
  have f0 : a.eval (.tmp 0) = H0.f g0 := h.vals _ hm0
  have : g = g0 := Rg.Hd.inj (H := H0) (H' := H0) (by rw [← f1, ← f0])
  subst this
  obtain ⟨g', ds, q1, _, q3, q4⟩ := h.locs _ hl1
  have q0 : a.eval (.tmp 1) = H1.f g1 := h.vals _ hm1
  have : g' = g1 := Rg.Hd.inj (H := H1) (H' := H1) (by rw [← q1, ← q0])
  subst this
  have q4' : ds = ld.map fun (x : Nat) => Value.int kd x := q4
  subst q4'
  exact ⟨hd, v, hr, v', cs, e1, e2, e3, f3, f4, q3⟩
section
variable {P : Program} {Q : Exit → Act → World → Prop} {R : Rg} {B : Nat} {w0 : Bs} {i : Nat}
theorem ob_cal2 {d s s1 e : Nat} {T : TypeId} {H0 H1 : Hd} {cr : Option Nat} {A0 A1 : As} {A : VA} {kd : IntKind} {ld : List Nat} {f : FuncId} {x0 x1 : Operand} {xs : List Operand} {pre : List VA} {at_ : Array TypeId} {ty : TypeId} {ps : String} {af : Array Edge}
    (hs : R.sp[i]? = some (.cal d A e)) (he : R.les[e]? = some ⟨s, T, H0, cr, A0, some (i, A1)⟩) (ho : R.ops[i]? = some ⟨some d, .call ⟨.value (.func f), (x0 :: x1 :: xs).toArray, at_⟩, ty, ps, af, none⟩)
    (hc : Cm2 P f T H0 H1 A0 A1 kd ld pre A) (hx0 : ArH R B w0 i s H0 (.w H0) x0) (hl1 : LocH R i s1 T H1 (Nums kd ld)) (hne : s1 ≠ s) (hx1 : ArH R B w0 i s1 H1 (.w H1) x1) (hx : HasL R B w0 i xs pre) : R.Ob P Q B w0 i := by
  unfold Rg.Ob
  simp only [hs, he]
  intro a w av g cs h1 hB h3 h4 hdis K hK
  obtain ⟨⟨fn, hf, hn, hb⟩, hcall⟩ := hc
  refine wpOp_of ho rfl ?_
  have e0 : a.eval x0 = H0.f g := (hx0.2 a w av).trans h1
  obtain ⟨g1, ds, q1, q2, q3, q4⟩ := hl1.ok av
  have e1 : a.eval x1 = H1.f g1 := (hx1.2 a w av).trans q1
  have q4' : ds = ld.map fun (x : Nat) => Value.int kd x := q4
  subst q4'
  have hgg : g ≠ g1 := by
    obtain ⟨m, hm, rfl, _, rfl, hph⟩ := hl1
    have := hdis m hm hne (by rw [hph]; rfl)
    rw [q1, m.H.ok] at this
    exact fun hh => this (by rw [hh])
  have hrun : (execOp a.eval ⟨some d, .call ⟨.value (.func f), (x0 :: x1 :: xs).toArray, at_⟩, ty, ps, af, none⟩).run P w = .ok (.enter f ((x0 :: x1 :: xs).map a.eval).toArray) w := by
    simp only [execOp, resolve, Act.eval, Deferred.ofValue, Sem.run_bind, Sem.run_pure, Result.andThen_ok, invoke, run_callFunc hf hn hb]
    simp
  rw [List.map_cons, List.map_cons, e0, e1] at hrun
  unfold Oper.wp
  rw [hrun]
  exact (hcall B w g g1 cs _ hB (av.lo g1 q2) hgg h3 q3 h4 (hx.all av)).mono fun e w' ⟨v, cs', he, hv, hg, h5, h6⟩ => by subst he; exact hK v cs' w' hg h5 h6 hv
/-! elements of a window: place j of it is place o + j of the row -/
theorem winH_off (o n c k g : Nat) : offP ((winH o n c).f g) (.some k) = .pointer (some ⟨g, o + k, none⟩) := by simp [winH, offP, Addr.add]
theorem a_elmw {b t o k n c : Nat} {T S E : TypeId} {A : As} {y : Operand} {kd : IntKind} (j : Nat) (hj : R.sp[j]? = some (.adr t b .none True)) (hji : (R.anc i).contains j = true) (hl : LocH R i b T (winH o n c) A) (hS : Sl P S E 1) (hy : Has R B w0 i y (NumA kd k).va) (hk : k < n) :
    Ad P Q R B w0 i (.indexAddr S (.tmp t) y) b (.some k) := by
  intro d ty ps af gd a w av K hK
  obtain ⟨g, cs, h1, _⟩ := hl.ok av
  have h2 := av.d j t b .none True hji hj trivial
  have h3 : a.eval (.tmp t) = .slice (some ⟨g, o, none⟩) n c := h2.trans h1
  have e := num_val (hy a w av)
  obtain ⟨hs1, hs2⟩ := hS
  rw [h1] at hK
  refine wp_value (w' := w) (v := .pointer (some ⟨g, o + k, none⟩)) ?_ (by rw [winH_off] at hK; exact hK)
  cases hi : P.info? E with
  | none => rw [hi] at hs2; simp at hs2
  | some it =>
    rw [hi] at hs2
    have hsz : it.size = 1 := by simpa using hs2
    by_cases h0 : k = 0
    · subst h0; simp [execOp, h3, e, Instr.indexAt, asIntOf, run_underlying hs1, hk, sizeOf, typeInfo, hi, Addr.add]
    · simp [execOp, h3, e, Instr.indexAt, asIntOf, run_underlying hs1, hk, sizeOf, typeInfo, hi, hsz, Addr.add, h0]
theorem r_loadk {s t m : Nat} {K : Ky} {T : TypeId} {H : Hd} {A A' : As} {ty : TypeId} (j : Nat) (hj : R.sp[j]? = some (.adr t s K True)) (hji : (R.anc i).contains j = true) (hl : LocH R i s T H A) (hH : ∀ g, offP (H.f g) K = .pointer (some ⟨g, m, none⟩)) (hsub : Sub A m A') (ht : Ty P ty A'.n A'.ag) :
    Wv P Q R B w0 i (.load ty (.tmp t)) A'.va :=
  wv_run fun _ _ _ _ _ a w av => by
    obtain ⟨g, cs, h1, _, h3, h4⟩ := hl.ok av
    have h2 := av.d j t s K True hji hj trivial
    rw [h1, hH] at h2
    obtain ⟨p1, l1⟩ := hsub _ _ _ h4
    refine ⟨shape A'.ag ((cs.drop m).take A'.n), w, ?_, Grow.refl w, ⟨_, p1, rfl⟩⟩
    have := run_loadVar ht w g m _ (A'.len _ _ _ p1) A'.ag1 (cells_at h3 A'.n)
    simp [execOp, h2, Instr.loadAt, Instr.sureAddr, this]
theorem ob_stok {e s t m : Nat} {Ke : Ky} {T : TypeId} {H : Hd} {cr : Option Nat} {A0 A' A1 : As} {x : Operand} {ty ty' : TypeId} {ps : String} {af : Array Edge} (j : Nat) (hs : R.sp[i]? = some (.sto e)) (he : R.les[e]? = some ⟨s, T, H, cr, A0, some (i, A1)⟩)
    (ho : R.ops[i]? = some ⟨none, .store ty (.tmp t) x, ty', ps, af, none⟩) (hj : R.sp[j]? = some (.adr t s Ke True)) (hji : (R.anc i).contains j = true) (hH : ∀ g, offP (H.f g) Ke = .pointer (some ⟨g, m, none⟩)) (hx : Has R B w0 i x A'.va) (ht : Ty P ty A'.n A'.ag) (hput : Put A0 m A' A1) : R.Ob P Q B w0 i := by
  unfold Rg.Ob
  simp only [hs, he]
  intro a w av g cs h1 h3 h4 K hK
  obtain ⟨cs', hp, hv⟩ := hx a w av
  have h2 := av.d j t s Ke True hji hj trivial
  rw [h1, hH] at h2
  obtain ⟨hlen, hp1⟩ := hput B cs cs' w h4 hp
  have l1 := A'.len _ _ _ hp
  refine wpOp_of ho rfl (wp_skip' (w' := w.setRow g (splice cs m cs').toArray) ?_ (hK _ hp1))
  have := run_storeVar ht w g m T cs.toArray _ cs' (A'.cells_shape hp) l1 (by simpa using hlen) (A'.one _ _ _ hp) h3
  simp only at this
  simp [execOp, h2, hv, Instr.storeAt, Instr.sureAddr, this, splice, l1]
/-! rows whose names are known to the letter -/
theorem a_asgK {t b : Nat} {k : Ky} (j : Nat) (hj : R.sp[j]? = some (.adr t b k True)) (hji : (R.anc i).contains j = true) : Ad P Q R B w0 i (.assign (.tmp t)) b k := fun _ _ _ _ _ a w av _ hK => by
  have h3 : a.eval (.tmp t) = offP (a.eval (.tmp b)) k := av.d j t b k True hji hj trivial
  exact wp_value (w' := w) (v := a.eval (.tmp t)) rfl (by rw [h3]; exact hK)
theorem arwE {s : Nat} {x : Operand} {H : Hd} {v : Value} (h1 : Has R B w0 i x (EqV v)) (h2 : Has R B w0 i (.tmp s) (EqV v)) : ArH R B w0 i s H (.w H) x := ⟨rfl, fun a w av => (show a.eval x = v from h1 a w av).trans (show a.eval (.tmp s) = v from h2 a w av).symm⟩
theorem r_maxk {k : IntKind} {x y : Operand} {ts : Array TypeId} {m n c : Int} (hx : Has R B w0 i x (NumA k m).va) (hy : Has R B w0 i y (NumA k n).va) (h : max m n = c) : Wv P Q R B w0 i (.call ⟨.builtin .max, #[x, y], ts⟩) (NumA k c).va := h ▸ r_max hx hy

theorem r_lenE {x : Operand} {S E' : TypeId} {A : Option Addr} {n c : Nat} (hS : P.underlying S = some (.slice E')) (hx : Has R B w0 i x (EqV (.slice A n c))) : Wv P Q R B w0 i (.call ⟨.builtin .len, #[x], #[S]⟩) (In n) :=
  wv_run fun d T' ps af gd a w av => by
    have h3 : a.eval x = .slice A n c := hx a w av
    refine ⟨.int .i64 n, w, ?_, Grow.refl w, val_num _ _ _ _⟩
    simp [execOp, resolve, invoke, builtin, h3, Builtin.len_, run_underlying hS, goInt]
/-- 's[n]', s a text. -/
theorem r_index {x y : Operand} {T : TypeId} {s : ByteArray} {n : Nat} {b : UInt8} {kd : IntKind} (hT : P.underlying T = some .string) (hx : Has R B w0 i x (EqV (.string s))) (hy : Has R B w0 i y (NumA kd n).va) (h : s[n]? = some b) : Wv P Q R B w0 i (.index T x y) (NumA .u8 (b.toNat : Nat)).va :=
  wv_run fun d T' ps af gd a w av => by
    have e1 : a.eval x = .string s := hx a w av
    have e2 := num_val (hy a w av)
    refine ⟨_, w, ?_, Grow.refl w, val_num _ _ _ _⟩
    simp [execOp, e1, e2, Instr.index, asIntOf, run_underlying hT, h]
theorem nums_at' {k : IntKind} {l : List Nat} {j x : Nat} (h : l[j]? = some x) : Sub (Nums k l) j (NumA k (x : Nat)) := by
  obtain ⟨h1, h2⟩ := List.getElem?_eq_some_iff.1 h
  subst h2
  exact nums_at h1
theorem nums_put' {k : IntKind} {l : List Nat} {j x : Nat} (l' : List Nat) (h : j < l.length) (e : l.set j x = l') : Put (Nums k l) j (NumA k (x : Nat)) (Nums k l') := e ▸ nums_put h
theorem r_idxE {x y : Operand} {S E : TypeId} {g o n c k : Nat} {kd : IntKind} (hS : Sl P S E 1) (hx : Has R B w0 i x (EqV (.slice (some ⟨g, o, none⟩) n c))) (hy : Has R B w0 i y (NumA kd k).va) (hk : k < n) : Wv P Q R B w0 i (.indexAddr S x y) (EqV (.pointer (some ⟨g, o + k, none⟩))) :=
  wv_run fun d T' ps af gd a w av => by
    have h3 : a.eval x = .slice (some ⟨g, o, none⟩) n c := hx a w av
    have e := num_val (hy a w av)
    obtain ⟨hs1, hs2⟩ := hS
    refine ⟨_, w, ?_, Grow.refl w, rfl⟩
    cases hi : P.info? E with
    | none => rw [hi] at hs2; simp at hs2
    | some it =>
      rw [hi] at hs2
      have hsz : it.size = 1 := by simpa using hs2
      by_cases h0 : k = 0
      · subst h0; simp [execOp, h3, e, Instr.indexAt, asIntOf, run_underlying hs1, hk, sizeOf, typeInfo, hi, Addr.add]
      · simp [execOp, h3, e, Instr.indexAt, asIntOf, run_underlying hs1, hk, sizeOf, typeInfo, hi, hsz, Addr.add, h0]
theorem r_loadE {x : Operand} {s g m : Nat} {T : TypeId} {H : Hd} {A A' : As} {ty : TypeId} (hx : Has R B w0 i x (EqV (.pointer (some ⟨g, m, none⟩)))) (hl : LocH R i s T H A) (hs : Has R B w0 i (.tmp s) (EqV (H.f g))) (hsub : Sub A m A') (ht : Ty P ty A'.n A'.ag) :
    Wv P Q R B w0 i (.load ty x) A'.va :=
  wv_run fun _ _ _ _ _ a w av => by
    obtain ⟨g', cs, h1, _, h3, h4⟩ := hl.ok av
    have h2 : a.eval x = .pointer (some ⟨g, m, none⟩) := hx a w av
    have hg : g' = g := Rg.Hd.inj (H := H) (H' := H) (by rw [← h1, ← show a.eval (.tmp s) = H.f g from hs a w av])
    subst hg
    obtain ⟨p1, l1⟩ := hsub _ _ _ h4
    refine ⟨shape A'.ag ((cs.drop m).take A'.n), w, ?_, Grow.refl w, ⟨_, p1, rfl⟩⟩
    have := run_loadVar ht w g' m _ (A'.len _ _ _ p1) A'.ag1 (cells_at h3 A'.n)
    simp [execOp, h2, Instr.loadAt, Instr.sureAddr, this]
theorem ob_stoE {e s g m : Nat} {T : TypeId} {H : Hd} {cr : Option Nat} {A0 A' A1 : As} {x p : Operand} {ty ty' : TypeId} {ps : String} {af : Array Edge} (hs : R.sp[i]? = some (.sto e)) (he : R.les[e]? = some ⟨s, T, H, cr, A0, some (i, A1)⟩)
    (ho : R.ops[i]? = some ⟨none, .store ty p x, ty', ps, af, none⟩) (hp : Has R B w0 i p (EqV (.pointer (some ⟨g, m, none⟩)))) (hsg : Has R B w0 i (.tmp s) (EqV (H.f g))) (hx : Has R B w0 i x A'.va) (ht : Ty P ty A'.n A'.ag) (hput : Put A0 m A' A1) : R.Ob P Q B w0 i := by
  unfold Rg.Ob
  simp only [hs, he]
  intro a w av g' cs h1 h3 h4 K hK
  obtain ⟨cs', hp', hv⟩ := hx a w av
  have h2 : a.eval p = .pointer (some ⟨g, m, none⟩) := hp a w av
  have hg : g' = g := Rg.Hd.inj (H := H) (H' := H) (by rw [← h1, ← show a.eval (.tmp s) = H.f g from hsg a w av])
  subst hg
  obtain ⟨hlen, hp1⟩ := hput B cs cs' w h4 hp'
  have l1 := A'.len _ _ _ hp'
  refine wpOp_of ho rfl (wp_skip' (w' := w.setRow g' (splice cs m cs').toArray) ?_ (hK _ hp1))
  have := run_storeVar ht w g' m T cs.toArray _ cs' (A'.cells_shape hp') l1 (by simpa using hlen) (A'.one _ _ _ hp') h3
  simp only at this
  simp [execOp, h2, hv, Instr.storeAt, Instr.sureAddr, this, splice, l1]
end
end Go.Proofs.Ytgjolcbehcjhcaa
namespace Go.Proofs.Ytgjolcbehcjhcaa
open Go Go.RowKit
theorem All2.append {α β : Type} {R : α → β → Prop} {a a' : List α} {b b' : List β} (h : All2 R a b) (h' : All2 R a' b') : All2 R (a ++ a') (b ++ b') := by
  induction h with
  | nil => exact h'
  | cons h1 _ ih => exact .cons h1 ih
/-- a function value: called with what 'pre i' says it returns what 'post i' says, for each i. -/
def FnV (P : Program) (D : List TypeId) {ι : Type} (pre : ι → List VA) (post : ι → VA) : VA where
  p B v w := ∃ (f : FuncId) (fs cs : List Value) (F C : List VA), v = .func (.func f) fs.toArray cs.toArray ∧ (∀ A ∈ F ++ C, ∀ T ∈ A.deps, T ∈ D) ∧ All2 (fun (A : VA) v => A.p B v w) F fs ∧ All2 (fun (A : VA) v => A.p B v w) C cs ∧ ∀ i, Cn P f (F ++ pre i ++ C) (post i)
  deps := D
  grow := by
    rintro B v w w' hg ⟨f, fs, cs, F, C, hv, hD, h1, h2, h3⟩
    exact ⟨f, fs, cs, F, C, hv, hD, h1.mono fun A v h => A.grow _ _ _ _ hg h, h2.mono fun A v h => A.grow _ _ _ _ hg h, h3⟩
  wr := by
    rintro B v w w' g c T fz e1 hT e3 e4 ⟨f, fs, cs, F, C, hv, hD, h1, h2, h3⟩
    have key : ∀ {L : List VA} {xs : List Value}, (∀ A ∈ L, ∀ T ∈ A.deps, T ∈ D) → All2 (fun (A : VA) v => A.p B v w) L xs → All2 (fun (A : VA) v => A.p B v w') L xs := by
      intro L xs hL h
      induction h with
      | nil => exact .nil
      | @cons A x _ _ h _ ih => exact .cons (A.wr _ _ _ _ _ _ _ _ e1 (fun hm => hT (hL A (by simp) T hm)) e3 e4 h) (ih fun A' hA => hL A' (List.mem_cons_of_mem _ hA))
    exact ⟨f, fs, cs, F, C, hv, hD, key (fun A hA => hD A (List.mem_append_left _ hA)) h1, key (fun A hA => hD A (List.mem_append_right _ hA)) h2, h3⟩
/-- an integer; a truth. -/
def AnyIA : As where
  n := 1
  ag := false
  p _ cs _ := ∃ n : Int, cs = [.int .i64 n]
  deps := []
  len := by rintro B cs w ⟨n, rfl⟩; rfl
  one := by rintro B cs w ⟨n, rfl⟩ c hc; simp at hc; subst hc; rfl
  ag1 := fun _ => rfl
  grow := fun _ _ _ _ _ h => h
  wr := fun _ _ _ _ _ _ _ _ _ _ _ _ h => h
abbrev AnyI : VA := AnyIA.va
theorem anyI_val {B : Nat} {v : Value} {w : World} (h : AnyI.p B v w) : ∃ n : Int, v = .int .i64 n := by
  obtain ⟨cs, ⟨n, rfl⟩, hv⟩ := h
  exact ⟨n, hv⟩
theorem val_anyI (n : Int) (B : Nat) (w : World) : AnyI.p B (.int .i64 n) w := ⟨_, ⟨n, rfl⟩, rfl⟩
def AnyB : VA where
  p _ v _ := ∃ b : Bool, v = .bool b
  deps := []
  grow := fun _ _ _ _ _ h => h
  wr := fun _ _ _ _ _ _ _ _ _ _ _ _ h => h
theorem St.anyB {B N : Nat} {w0 : Bs} {Γ : List (Nat × VA)} {Λ : List Lc} {a : Act} {w : World} (h : St B w0 N Γ Λ a w) {t : Nat} (k : Nat) (hm : Γ[k]? = some (t, AnyB)) : ∃ b, St B w0 N (Γ.set k (t, Bo b)) Λ a w := by
  obtain ⟨hk, he⟩ := List.getElem?_eq_some_iff.1 hm
  obtain ⟨b, hb⟩ := h.vals _ (List.mem_of_getElem? hm)
  refine ⟨b, h.lo, h.defers, h.size, h.base, fun x hx => ?_, h.locs, h.dis⟩
  rcases List.mem_or_eq_of_mem_set hx with hx | rfl
  · exact h.vals x hx
  · show (BoA b).va.p _ _ _
    rw [show a.eval (.tmp t) = .bool b from hb]
    exact val_bo b _ _
theorem St.anyI {B N : Nat} {w0 : Bs} {Γ : List (Nat × VA)} {Λ : List Lc} {a : Act} {w : World} (h : St B w0 N Γ Λ a w) {t : Nat} (k : Nat) (hm : Γ[k]? = some (t, AnyI)) : ∃ n, St B w0 N (Γ.set k (t, In n)) Λ a w := by
  obtain ⟨hk, he⟩ := List.getElem?_eq_some_iff.1 hm
  obtain ⟨n, hb⟩ := anyI_val (h.vals _ (List.mem_of_getElem? hm))
  refine ⟨n, h.lo, h.defers, h.size, h.base, fun x hx => ?_, h.locs, h.dis⟩
  rcases List.mem_or_eq_of_mem_set hx with hx | rfl
  · exact h.vals x hx
  · show (NumA .i64 n).va.p _ _ _
    rw [show a.eval (.tmp t) = .int .i64 n from hb]
    exact val_num _ n _ _
/-- what condition stands with a fact. -/
theorem St.andc {B N : Nat} {w0 : Bs} {Γ : List (Nat × VA)} {Λ : List Lc} {a : Act} {w : World} (h : St B w0 N Γ Λ a w) {t : Nat} {A : As} {c : Prop} (k : Nat) (hm : Γ[k]? = some (t, (A.and c).va)) : c := by
  obtain ⟨cs, hp, _⟩ := h.vals _ (List.mem_of_getElem? hm)
  exact hp.1
/-- a contract that asks for what an argument's fact tells. -/
theorem Cn.know {P : Program} {f : FuncId} {pre : List VA} {post : VA} {c : Prop} (hex : ∃ fn, P.funcs[f]? = some fn ∧ (fn.name == "runtime.NumGoroutine") = false ∧ fn.body.isNone = false)
    (hc : ∀ (B : Nat) (w : World) (args : List Value), All2 (fun (A : VA) v => A.p B v w) pre args → c) (h : c → Cn P f pre post) : Cn P f pre post :=
  ⟨hex, fun B w args hB ha => (h (hc B w args ha)).2 B w args hB ha⟩
/-- the same contract, of arguments that are weaker. -/
theorem Cn.weak {P : Program} {f : FuncId} {pre pre' : List VA} {post : VA} (h : Cn P f pre post) (hw : ∀ B w args, All2 (fun (A : VA) v => A.p B v w) pre' args → All2 (fun (A : VA) v => A.p B v w) pre args) : Cn P f pre' post :=
  ⟨h.1, fun B w args hB ha => h.2 B w args hB (hw B w args ha)⟩
theorem nd_ok {l : List As} {D : List TypeId} (h : (l.all fun A => A.deps.all fun T => D.contains T) = true) : ∀ A ∈ l, ∀ T ∈ A.deps, T ∈ D := fun A hA T hT => by
  have := List.all_eq_true.1 (List.all_eq_true.1 h A hA) T hT
  simpa using this
theorem n_ok {l : List As} {m : Nat} (h : (l.all fun A => A.n == m) = true) : ∀ A ∈ l, A.n = m := fun A hA => by
  have := List.all_eq_true.1 h A hA
  simpa using this
theorem map_n {α : Type} {f : α → As} {l : List α} {m : Nat} (h : ∀ x, (f x).n = m) : ∀ A ∈ l.map f, A.n = m := fun A hA => by
  obtain ⟨x, _, rfl⟩ := List.mem_map.1 hA
  exact h x
theorem map_at {α : Type} {f : α → As} {l : List α} {k : Nat} (h : k < l.length) : (l.map f)[k]? = some (f (l[k])) := by simp [h]
/-- one fact tells another. -/
def Wk (A A' : VA) : Prop := ∀ B v w, A.p B v w → A'.p B v w
theorem wk_id {A : VA} : Wk A A := fun _ _ _ h => h
theorem wk_old {E : TypeId} {D : List TypeId} {l : List As} {p : Prop} : Wk (SlO E D l p).va ((SlA E D l).and p).va := fun _ _ _ h => SlO.use h
theorem wk_mgO {l : List Nat} : Wk (MgO l).va (MgA l).va := fun _ _ _ h => SlO.use h
theorem wk_mgN {l : List Nat} : Wk (MgN l).va (MgA l).va := fun _ _ _ h => mgN_A h
theorem wk_riN {x : RI} : Wk (RIN x).va (RIA x).va := fun B v w h => (free_riA x).va B B v w (Nat.le_refl _) h
theorem wk_riO {x : RI} : Wk (RIO x).va (RIA x).va := fun B v w ⟨cs, ⟨ps, e, h⟩, hv⟩ => by
  cases h with
  | cons h1 h2 => cases h2 with
    | @cons _ c _ cs' h3 h4 =>
      cases h4
      obtain ⟨ds, hp, he⟩ := wk_mgO (l := x.mag) B (shape false c) w ⟨c, h3, rfl⟩
      have l1 := (MgO x.mag).len _ _ _ h3
      have l2 := (MgA x.mag).len _ _ _ hp
      match c, ds, l1, l2, he, hp with
      | [a], [b], _, _, he, hp =>
        have : a = b := he
        subst this
        exact ⟨cs, ⟨_, e, .cons h1 (.cons hp .nil)⟩, hv⟩
theorem Cn.wk {P : Program} {f : FuncId} {pre pre' : List VA} {post : VA} (h : Cn P f pre post) (hw : All2 Wk pre' pre) : Cn P f pre' post := h.weak fun B w args ha => by
  clear h
  induction hw generalizing args with
  | nil => cases ha; exact .nil
  | cons h1 _ ih => cases ha with | cons h2 h3 => exact .cons (h1 _ _ _ h2) (ih _ h3)
theorem Cn.wkp {P : Program} {f : FuncId} {pre : List VA} {post post' : VA} (h : Cn P f pre post) (hw : Wk post post') : Cn P f pre post' := h.mono hw
theorem and_va {A : As} {c : Prop} {B : Nat} {v : Value} {w : World} (h : (A.and c).va.p B v w) : c ∧ A.va.p B v w := by
  obtain ⟨cs, hp, hv⟩ := h
  exact ⟨hp.1, cs, hp.2, hv⟩
theorem va_and {A : As} {c : Prop} {B : Nat} {v : Value} {w : World} (hc : c) (h : A.va.p B v w) : (A.and c).va.p B v w := by
  obtain ⟨cs, hp, hv⟩ := h
  exact ⟨cs, ⟨hc, hp⟩, hv⟩
theorem Cn.post_and {P : Program} {f : FuncId} {pre : List VA} {A : As} {c : Prop} (h : Cn P f pre A.va) (hc : c) : Cn P f pre (A.and c).va := h.mono fun _ _ _ hp => va_and hc hp
section
variable {P : Program} {Q : Exit → Act → World → Prop} {R : Rg} {B : Nat} {w0 : Bs} {i : Nat}
theorem has_func {f : FuncId} {D : List TypeId} {ι : Type} {pre : ι → List VA} {post : ι → VA} (h : ∀ i, Cn P f (pre i) (post i)) : Has R B w0 i (.func f) (FnV P D pre post) := fun a w _ =>
  ⟨f, [], [], [], [], rfl, fun A hA => (by cases hA), .nil, .nil, fun i => by simpa using h i⟩
theorem r_mkfunc {f : FuncId} {D : List TypeId} {ι : Type} {pre : ι → List VA} {post : ι → VA} {xs : List Operand} {C : List VA} (h : ∀ i, Cn P f (pre i ++ C) (post i)) (hD : ∀ A ∈ C, ∀ T ∈ A.deps, T ∈ D) (hx : HasL R B w0 i xs C) : Wv P Q R B w0 i (.makeFunc (.func f) #[] xs.toArray) (FnV P D pre post) :=
  wv_run fun _ _ _ _ _ a w av => by
    refine ⟨.func (.func f) #[] (xs.toArray.map a.eval), w, by simp [execOp, Instr.makeFunc], Grow.refl w, f, [], xs.map a.eval, [], C, by simp, by simpa using hD, .nil, hx.all av, fun i => by simpa using h i⟩
/-- A CALL OF A FUNCTION VALUE. -/
theorem r_callv {D : List TypeId} {ι : Type} {pre : ι → List VA} {post : ι → VA} {x : Operand} (j : ι) {xs : List Operand} {at_ : Array TypeId} (hf : Has R B w0 i x (FnV P D pre post)) (hx : HasL R B w0 i xs (pre j)) : Wv P Q R B w0 i (.call ⟨.value x, xs.toArray, at_⟩) (post j) := by
  intro d T ps af gd a w av K hK
  obtain ⟨f, fs, cs, F, C, hv, hD, h1, h2, h3⟩ := hf a w av
  obtain ⟨⟨fn, hf', hn, hb⟩, hcall⟩ := h3 j
  have hrun : (execOp a.eval ⟨some d, .call ⟨.value x, xs.toArray, at_⟩, T, ps, af, gd⟩).run P w = .ok (.enter f (fs ++ xs.map a.eval ++ cs).toArray) w := by
    simp only [execOp, resolve, hv, Deferred.ofValue, Sem.run_bind, Sem.run_pure, Result.andThen_ok, invoke, run_callFunc hf' hn hb]
    simp
  unfold Oper.wp
  rw [hrun]
  exact (hcall B w _ (Av.bw av) ((h1.append (hx.all av)).append h2)).mono fun e w' ⟨v, he, hv, hg⟩ => by subst he; exact hK v w' hg hv
theorem Wv.wk {op : Op} {A A' : VA} (h : Wv P Q R B w0 i op A) (hw : Wk A A') : Wv P Q R B w0 i op A' := h.mono fun v w hp => hw B v w hp
theorem r_ex0 {t : Nat} {A : VA} {l : List VA} (hx : Has R B w0 i (.tmp t) (Tu (A :: l))) : Wv P Q R B w0 i (.extract (.tmp t) 0) A := r_extract hx rfl
theorem r_ex1 {t : Nat} {A A' : VA} {l : List VA} (hx : Has R B w0 i (.tmp t) (Tu (A' :: A :: l))) : Wv P Q R B w0 i (.extract (.tmp t) 1) A := r_extract hx rfl
theorem r_ex2 {t : Nat} {A A' A'' : VA} {l : List VA} (hx : Has R B w0 i (.tmp t) (Tu (A'' :: A' :: A :: l))) : Wv P Q R B w0 i (.extract (.tmp t) 2) A := r_extract hx rfl
/-- a pointer to a variable of the call's own. -/
theorem has_ptr {s T : Nat} {A : As} (hl : Loc R i s T A) : Has R B w0 i (.tmp s) (ElP T A) := fun a w av => by
  obtain ⟨g, cs, h1, h2, h3, h4⟩ := hl.ok av
  exact ⟨g, 0, cs, h1, (Array.getElem?_eq_some_iff.1 h3).1, .inr ⟨_, _, h3⟩, h4, fun j u hu => by rw [Nat.zero_add, cell_of_row w g j cs.toArray T _ h3]; simpa using hu⟩
/-! integers of which nothing is said -/
theorem any_in {x : Operand} {n : Int} (h : Has R B w0 i x (In n)) : Has R B w0 i x AnyI := fun a w av => by rw [num_val (h a w av)]; exact val_anyI n B w
theorem any_numc {n : Int} : Has R B w0 i (.const (.int .i64 n)) AnyI := fun _ w _ => val_anyI n B w
section
variable {x y : Operand} {xt yt : TypeId} (hx : Has R B w0 i x AnyI) (hy : Has R B w0 i y AnyI)
include hx hy
theorem ri_num {op : BinOp} (h : ∀ m n w, ∃ c, (binOp op xt (.int .i64 m) (.int .i64 n)).run P w = .ok (.int .i64 c) w) : Wv P Q R B w0 i (.binOp op xt x y yt) AnyI :=
  wv_run fun _ _ _ _ _ a w av => by
    obtain ⟨m, e1⟩ := anyI_val (hx a w av)
    obtain ⟨n, e2⟩ := anyI_val (hy a w av)
    obtain ⟨c, hc⟩ := h m n w
    refine ⟨.int .i64 c, w, ?_, Grow.refl w, val_anyI c B w⟩
    have hg : (eqGuard op xt x y (.int .i64 m) (.int .i64 n)).run P w = .ok () w := by unfold eqGuard; split <;> rfl
    simp only [execOp, e1, e2, Sem.run_bind, hg, hc, Result.andThen_ok, Sem.run_pure]
theorem ri_rel {op : BinOp} (h : ∀ m n w, ∃ c, (binOp op xt (.int .i64 m) (.int .i64 n)).run P w = .ok (.bool c) w) : Wv P Q R B w0 i (.binOp op xt x y yt) AnyB :=
  wv_run fun _ _ _ _ _ a w av => by
    obtain ⟨m, e1⟩ := anyI_val (hx a w av)
    obtain ⟨n, e2⟩ := anyI_val (hy a w av)
    obtain ⟨c, hc⟩ := h m n w
    refine ⟨.bool c, w, ?_, Grow.refl w, c, rfl⟩
    have hg : (eqGuard op xt x y (.int .i64 m) (.int .i64 n)).run P w = .ok () w := by unfold eqGuard; split <;> rfl
    simp only [execOp, e1, e2, Sem.run_bind, hg, hc, Result.andThen_ok, Sem.run_pure]
theorem ri_add : Wv P Q R B w0 i (.binOp .add xt x y yt) AnyI := ri_num hx hy fun m n w => ⟨_, by rw [binOp_add]; rfl⟩
theorem ri_sub : Wv P Q R B w0 i (.binOp .sub xt x y yt) AnyI := ri_num hx hy fun m n w => ⟨_, by rw [binOp_sub]; rfl⟩
theorem ri_mul : Wv P Q R B w0 i (.binOp .mul xt x y yt) AnyI := ri_num hx hy fun m n w => ⟨_, by rw [binOp_mul]; rfl⟩
theorem ri_lss : Wv P Q R B w0 i (.binOp .lss xt x y yt) AnyB := ri_rel hx hy fun m n w => ⟨_, by rw [binOp_lss]; rfl⟩
theorem ri_leq : Wv P Q R B w0 i (.binOp .leq xt x y yt) AnyB := ri_rel hx hy fun m n w => ⟨_, by rw [binOp_leq]; rfl⟩
theorem ri_gtr : Wv P Q R B w0 i (.binOp .gtr xt x y yt) AnyB := ri_rel hx hy fun m n w => ⟨_, by rw [binOp_gtr]; rfl⟩
theorem ri_geq : Wv P Q R B w0 i (.binOp .geq xt x y yt) AnyB := ri_rel hx hy fun m n w => ⟨_, by rw [binOp_geq]; rfl⟩
theorem ri_eql : Wv P Q R B w0 i (.binOp .eql xt x y yt) AnyB := ri_rel hx hy fun m n w => ⟨_, by rw [binOp_eql]; rfl⟩
theorem ri_neq : Wv P Q R B w0 i (.binOp .neq xt x y yt) AnyB := ri_rel hx hy fun m n w => ⟨_, by rw [binOp_neq]; rfl⟩
theorem ri_min {ts : Array TypeId} : Wv P Q R B w0 i (.call ⟨.builtin .min, #[x, y], ts⟩) AnyI :=
  wv_run fun _ _ _ _ _ a w av => by
    obtain ⟨m, e1⟩ := anyI_val (hx a w av)
    obtain ⟨n, e2⟩ := anyI_val (hy a w av)
    exact ⟨.int .i64 (min m n), w, by simp [execOp, resolve, invoke, builtin, e1, e2, Lib.run_min_ints], Grow.refl w, val_anyI _ B w⟩
end
theorem ri_quo {x : Operand} {xt yt : TypeId} {n : Int} (hx : Has R B w0 i x AnyI) (h0 : n ≠ 0) : Wv P Q R B w0 i (.binOp .quo xt x (.const (.int .i64 n)) yt) AnyI :=
  wv_run fun _ _ _ _ _ a w av => by
    obtain ⟨m, e1⟩ := anyI_val (hx a w av)
    refine ⟨.int .i64 (IntKind.i64.wrap (m.tdiv n)), w, ?_, Grow.refl w, val_anyI _ B w⟩
    have hg : (eqGuard .quo xt x (.const (.int .i64 n)) (.int .i64 m) (.int .i64 n)).run P w = .ok () w := by unfold eqGuard; split <;> rfl
    have hr : (binOp .quo xt (.int .i64 m) (.int .i64 n)).run P w = .ok (.int .i64 (IntKind.i64.wrap (m.tdiv n))) w := by rw [binOp_quo]; simp [Op.intDiv, h0]
    have e2 : a.eval (.const (.int .i64 n)) = .int .i64 n := rfl
    simp only [execOp, e1, e2, Sem.run_bind, hg, hr, Result.andThen_ok, Sem.run_pure]
/-- a slice of limbs, written out: a row of one's own. -/
theorem r_slicemN {S : TypeId} {l : List Nat} {xs : List Operand} (hS : Sl P S U32 1) (hz : ((P.info? U32).bind (·.zero)).isSome = true) (hl0 : 0 < l.length) (hsmall : l.length ≤ 16777216) (ok : okL l)
    (hx : All2 (fun (A : As) x => Has R B w0 i x A.va) (l.map fun (x : Nat) => NumA .u32 x) xs) {ps' : Array (Nat × Operand)} (hps : ps'.toList = (xs.zipIdx 0).map fun x => (x.2, x.1)) {n : Nat} (hn : n = l.length) : Wv P Q R B w0 i (.buildSlice S n ps') (MgN l).va :=
  wv_run fun d T ps af gd a w av => by
    subst hn
    obtain ⟨hs1, hs2⟩ := hS
    cases hi : P.info? U32 with
    | none => rw [hi] at hs2; simp at hs2
    | some it =>
      rw [hi] at hs2 hz
      have hsz : it.size = 1 := by simpa using hs2
      obtain ⟨z, hzz⟩ := Option.isSome_iff_exists.1 hz
      simp only [Option.bind_some] at hzz
      have hvs : xs.map a.eval = l.map fun (x : Nat) => Value.int .u32 x := by
        clear hps hl0 hsmall ok
        generalize hL : l.map (fun (x : Nat) => NumA .u32 x) = L at hx
        induction hx generalizing l with
        | nil => cases l with | nil => rfl | cons _ _ => simp at hL
        | cons h _ ih =>
          cases l with
          | nil => simp at hL
          | cons y ys =>
            simp only [List.map_cons, List.cons.injEq] at hL ⊢
            obtain ⟨rfl, hL⟩ := hL
            exact ⟨num_val (h a w av), ih hL⟩
      have hxl : xs.length = l.length := by have := congrArg List.length hvs; simpa using this
      have hf := Great.fill_whole (s := 1) (by omega) (xs.map a.eval) ((Array.range (l.length * 1)).map (z.cells[· % z.cells.size]!)) (fun v hv => by rw [hvs] at hv; obtain ⟨x, _, rfl⟩ := List.mem_map.1 hv; rfl) (by simp [hxl])
      have hcells : ((xs.map a.eval).flatMap fun v => v.cells.toList) = l.map fun (x : Nat) => Value.int .u32 x := by
        rw [hvs]
        clear hvs hf hxl hl0 hsmall ok hps hx
        induction l with
        | nil => rfl
        | cons y ys ih => rw [List.map_cons, List.flatMap_cons, ih]; rfl
      have hrun := run_buildSlice (P := P) w S U32 l.length (ps'.map fun x => (x.1, a.eval x.2)) ((xs.map a.eval).flatMap fun v => v.cells.toList).toArray it z hs1 hi hzz (by rw [hsz]; omega) (by rw [hsz]; omega) (by
        rw [hsz, ← hf]
        congr 1
        rw [Array.toList_map, hps]
        simp [List.zipIdx_map, List.map_map, Function.comp_def])
      rw [hcells] at hrun
      refine ⟨.slice (some ⟨w.heap.size, 0, none⟩) l.length l.length, w.alloc (.cells (l.map fun (x : Nat) => Value.int .u32 x).toArray U32), by simp [execOp, hrun], Grow.alloc _ _, _, ⟨ok, _, _, rfl, Nat.le_refl _, by unfold maxLen; omega, fun _ => ?_⟩, rfl⟩
      exact ⟨w.heap.size, [], rfl, Av.bw av, by rw [List.append_nil]; exact heap_alloc_new w _⟩
theorem r_andA {c x : Operand} {p : Bool} (hc : Has R B w0 i c (Bo p)) (hx : Has R B w0 i x (Wh (p = true) AnyB)) : Wv P Q R B w0 i (.pick c x (.const (.bool false))) AnyB :=
  wv_run fun _ _ _ _ _ a w av => by
    have e := bo_val (hc a w av)
    cases p with
    | true =>
      obtain ⟨b, hb⟩ := (hx a w av).1 rfl
      exact ⟨.bool b, w, by simp [execOp, e, asBool, hb], Grow.refl w, b, rfl⟩
    | false =>
      have e2 : a.eval (.const (.bool false)) = .bool false := rfl
      exact ⟨.bool false, w, by simp [execOp, e, asBool, e2], Grow.refl w, false, rfl⟩
theorem rep_at {k j : Nat} {A : As} (h : j < k) : (List.replicate k A)[j]? = some A := by simp [h]
theorem rep_n {k m : Nat} {A : As} (h : A.n = m) : ∀ A' ∈ List.replicate k A, A'.n = m := fun A' hA => by rw [(List.mem_replicate.1 hA).2]; exact h
/-- a row of one's own, its end not looked at. -/
theorem has_rowX {t b n c : Nat} {l ext : List Nat} (j : Nat) (hj : R.sp[j]? = some (.adr t b .none True)) (hji : (R.anc i).contains j = true) (hl : LocH R i b U32 (slH n c) (Nums .u32 (l ++ ext))) (h : n = l.length ∧ n ≤ c ∧ c ≤ maxLen ∧ okL l) : Has R B w0 i (.tmp t) (MgN l).va := fun a w av => by
  obtain ⟨g, cs, h1, hgm, h3, h4⟩ := hl.ok av
  have h2 := av.d j t b .none True hji hj trivial
  have h4' : cs = (l ++ ext).map fun (x : Nat) => Value.int .u32 x := h4
  obtain ⟨rfl, hc, hm, ok⟩ := h
  exact ⟨[.slice (some ⟨g, 0, none⟩) l.length c], ⟨ok, _, c, rfl, hc, hm, fun _ => ⟨g, ext, rfl, av.lo g hgm, by rw [← h4']; exact h3⟩⟩, h2.trans h1⟩
end
end Go.Proofs.Ytgjolcbehcjhcaa
namespace Go.Proofs.Ytgjolcbehcjhcaa
open Go Go.RowKit

theorem trimL_pred {l : List Nat} {k : Nat} (hk : k < l.length) (h : l[k] = 0) : trimL (l.take (k + 1)) = trimL (l.take k) := by
  rw [List.take_succ_eq_append_getElem hk, h, trimL_snoc_zero]
theorem trimL_stop {l : List Nat} {k : Nat} (hk : k < l.length) (h : l[k] ≠ 0) : trimL (l.take (k + 1)) = l.take (k + 1) := by
  rw [List.take_succ_eq_append_getElem hk, trimL_snoc_pos _ h]

theorem trim_nil (A : Option Addr) (c : Nat) (w : World) : Calls Try.prog 177 #[.slice A 0 c] w fun e w' => e = .returned (.slice A 0 c) ∧ w = w' := by
  go_enter Try.func177, Try.ntmps177
  go_wp2
  go_loop [0] (fun v => v = .slice A 0 c) (fun _ => 0)
  case atStart => rfl
  case round =>
    subst hrel
    go_wp2
    go_ret
    exact ⟨rfl, rfl⟩

def lenOf : Value → Nat | .slice _ k _ => k | _ => 0
theorem trim_some (b o c : Nat) (l : List Nat) (w : World) (hc : ∀ j (h : j < l.length), w.cell? ⟨b, o + j, none⟩ = some (.int .u32 (l[j] : Nat))) (hm : l.length ≤ 9223372036854775807) (hnc : l.length ≤ c) :
    Calls Try.prog 177 #[.slice (some ⟨b, o, none⟩) l.length c] w fun e w' => e = .returned (.slice (some ⟨b, o, none⟩) (trimL l).length c) ∧ w = w' := by
  obtain ⟨n, hn⟩ : ∃ n, n = l.length := ⟨_, rfl⟩
  rw [← hn] at hm hnc ⊢
  have HN : Hid (n = l.length) := hn
  clear hn
  go_enter Try.func177, Try.ntmps177
  go_wp2
  go_loop [0] (fun v => ∃ k : Nat, k ≤ n ∧ v = .slice (some ⟨b, o, none⟩) k c ∧ trimL (l.take k) = trimL l) (fun v => lenOf v)
  case atStart => exact ⟨n, Nat.le_refl _, rfl, by rw [List.take_of_length_le (Nat.le_of_eq HN.out.symm)]⟩
  case round =>
    obtain ⟨k, hk, rfl, ht⟩ := hrel
    have HT : Hid (trimL (l.take k) = trimL l) := ht
    clear ht
    cases k with
    | zero =>
      go_wp2
      go_ret
      exact ⟨by rw [← HT.out]; simp [trimL], rfl⟩
    | succ k =>
      have hkl : k < l.length := by rw [← HN.out]; omega
      obtain ⟨x, hx⟩ : ∃ x, x = l[k] := ⟨_, rfl⟩
      have hcell := hc k hkl
      rw [← hx] at hcell
      clear hc
      have HX : Hid (x = l[k]) := hx
      clear hx
      by_cases hz : x = 0
      · subst hz
        go_wp2
        go_round
        case rel => exact ⟨k, by omega, rfl, by rw [← HT.out, trimL_pred hkl HX.out.symm]⟩
        case measure => simp [lenOf]
      · have hz' : ((x : Int) == 0) = false := by simp; omega
        go_wp2
        go_ret
        refine ⟨?_, rfl⟩
        rw [← HT.out, trimL_stop hkl (by rw [← HX.out]; exact hz), List.length_take, Nat.min_eq_left (by omega)]
        rfl

theorem closed_of {f : FuncId} {fn : Func} (hf : Try.prog.funcs[f]? = some fn) (hn : (fn.name == "runtime.NumGoroutine") = false) (hb : fn.body.isNone = false) : ∃ fn, Try.prog.funcs[f]? = some fn ∧ (fn.name == "runtime.NumGoroutine") = false ∧ fn.body.isNone = false := ⟨fn, hf, hn, hb⟩

theorem trim_c {M : List Nat → As} (hM : Fam M) (l : List Nat) : Cn Try.prog 177 [(M l).va] (M (trimL l)).va := by
  refine ⟨closed_of Try.func177 (by kernel_rfl) (by kernel_rfl), fun B w args hB ha => ?_⟩
  obtain ⟨v, rfl, hv⟩ := ha.one
  obtain ⟨A, c, rfl, hm, htk⟩ := hM.op _ _ _ _ hv
  have hsh : ∀ A', A' = A → (M (trimL l)).va.p B (.slice A' (trimL l).length c) w := by
    rintro _ rfl
    have := htk (trimL l).length
    rwa [← trimL_take] at this
  by_cases h0 : l.length = 0
  · have hl : l = [] := List.eq_nil_of_length_eq_zero h0
    subst hl
    refine (trim_nil A c w).mono fun e w' ⟨he, hw⟩ => ?_
    subst hw
    exact ⟨_, he, hsh A rfl, Grow.refl w⟩
  · obtain ⟨b, o, rfl, h1, h2, h3⟩ := hm.at_ (by omega)
    refine (trim_some b o c l w h3 (by have := hm.le; have := hm.max; unfold maxLen at this; omega) hm.le).mono fun e w' ⟨he, hw⟩ => ?_
    subst hw
    exact ⟨_, he, hsh _ rfl, Grow.refl w⟩

end Go.Proofs.Ytgjolcbehcjhcaa
