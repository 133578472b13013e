/- More rules: conversions, shifts, bits, quotients; min and max. -/
import Derived.Test.YtgjolcbehcjhcaaData
import Derived.Laws.Bits64b
import Derived.Lib.MinMax
import Derived.Laws.BitsLemmas
namespace Go.Proofs.Ytgjolcbehcjhcaa
open Go Go.RowKit
section
variable {P : Program} {Q : Exit → Act → World → Prop} {R : Rg} {B : Nat} {w0 : Bs} {i : Nat}
theorem r_num2 {k k2 k3 : IntKind} {op : BinOp} {x y : Operand} {xt yt : TypeId} {m n c : Int} (hx : Has R B w0 i x (NumA k m).va) (hy : Has R B w0 i y (NumA k2 n).va)
    (h : ∀ w, (binOp op xt (.int k m) (.int k2 n)).run P w = .ok (.int k3 c) w) : Wv P Q R B w0 i (.binOp op xt x y yt) (NumA k3 c).va :=
  wv_run fun _ _ _ _ _ a w av => by
    have e1 := num_val (hx a w av)
    have e2 := num_val (hy a w av)
    refine ⟨.int k3 c, w, ?_, Grow.refl w, val_num _ _ _ _⟩
    have hg : (eqGuard op xt x y (.int k m) (.int k2 n)).run P w = .ok () w := by unfold eqGuard; split <;> rfl
    simp only [execOp, e1, e2, Sem.run_bind, hg, h, Result.andThen_ok, Sem.run_pure]
theorem r_conv {k : IntKind} {x : Operand} {xt yt : TypeId} {n c : Int} (hs : (P.underlying xt).isSome = true) (hd : P.underlying yt = some (.int (P.intKind yt))) (hx : Has R B w0 i x (NumA k n).va) (h : (P.intKind yt).wrap n = c) : Wv P Q R B w0 i (.convert xt yt x) (NumA (P.intKind yt) c).va :=
  wv_run fun _ _ _ _ _ a w av => by
    refine ⟨_, w, ?_, Grow.refl w, val_num _ _ _ _⟩
    simp only [execOp, num_val (hx a w av), Sem.run_bind, run_convert_int _ _ _ _ _ hs hd, h, Result.andThen_ok, Sem.run_pure]
/-- the same, with the kind told. -/
theorem r_convk {k : IntKind} (k' : IntKind) {x : Operand} {xt yt : TypeId} {n c : Int} (hs : (P.underlying xt).isSome = true) (hd : P.underlying yt = some (.int k')) (hx : Has R B w0 i x (NumA k n).va) (h : k'.wrap n = c) : Wv P Q R B w0 i (.convert xt yt x) (NumA k' c).va := by
  have e : P.intKind yt = k' := by simp [Program.intKind, hd]
  subst e
  exact r_conv hs hd hx h
section
variable {k k2 : IntKind} {x y : Operand} {xt yt : TypeId} {m n : Int}
theorem r_shr {c : Int} (hx : Has R B w0 i x (NumA k m).va) (hy : Has R B w0 i y (NumA k2 n).va) (h0 : 0 ≤ n ∧ n ≤ k.bits) (h : m / 2 ^ n.toNat = c) : Wv P Q R B w0 i (.binOp .shr xt x y yt) (NumA k c).va := r_num2 hx hy fun w => by rw [binOp_shr, shift_shr _ _ _ _ h0.1 h0.2, h]; rfl
theorem r_shl {c : Int} (hx : Has R B w0 i x (NumA k m).va) (hy : Has R B w0 i y (NumA k2 n).va) (h0 : 0 ≤ n ∧ n ≤ k.bits) (h : k.wrap (m * 2 ^ n.toNat) = c) : Wv P Q R B w0 i (.binOp .shl xt x y yt) (NumA k c).va := r_num2 hx hy fun w => by rw [binOp_shl, shift_shl _ _ _ _ h0.1 h0.2, h]; rfl
variable (hx : Has R B w0 i x (NumA k m).va) (hy : Has R B w0 i y (NumA k n).va)
include hx hy
theorem r_quo {c : Int} (h0 : n ≠ 0) (h : k.wrap (m.tdiv n) = c) : Wv P Q R B w0 i (.binOp .quo xt x y yt) (NumA k c).va := r_num hx hy fun w => by rw [binOp_quo, ← h]; simp [Op.intDiv, h0]
theorem r_rem {c : Int} (h0 : n ≠ 0) (h : m.tmod n = c) : Wv P Q R B w0 i (.binOp .rem xt x y yt) (NumA k c).va := r_num hx hy fun w => by rw [binOp_rem, ← h]; simp [Op.intDiv, h0]
theorem r_band {c : Int} (h : bits .and k m n = c) : Wv P Q R B w0 i (.binOp .and xt x y yt) (NumA k c).va := r_num hx hy fun w => by rw [binOp_and, ← h]; rfl
theorem r_bor {c : Int} (h : bits .or k m n = c) : Wv P Q R B w0 i (.binOp .or xt x y yt) (NumA k c).va := r_num hx hy fun w => by rw [binOp_or, ← h]; rfl
theorem r_bxor {c : Int} (h : bits .xor k m n = c) : Wv P Q R B w0 i (.binOp .xor xt x y yt) (NumA k c).va := r_num hx hy fun w => by rw [binOp_xor, ← h]; rfl
end
theorem r_bnot {k : IntKind} {x : Operand} {T : TypeId} {n c : Int} (hx : Has R B w0 i x (NumA k n).va) (h : bits .xor k (if k.signed then -1 else k.max) n = c) : Wv P Q R B w0 i (.unOp .xor T x) (NumA k c).va :=
  wv_run fun _ _ _ _ _ a w av => ⟨.int k c, w, by simp [execOp, num_val (hx a w av), unary_xor, intBits_xor, h], Grow.refl w, val_num _ _ _ _⟩
theorem r_neg {k : IntKind} {x : Operand} {T : TypeId} {n c : Int} (hx : Has R B w0 i x (NumA k n).va) (h : k.wrap (0 - n) = c) : Wv P Q R B w0 i (.unOp .neg T x) (NumA k c).va :=
  wv_run fun _ _ _ _ _ a w av => ⟨.int k c, w, by simp only [execOp, num_val (hx a w av), Op.unary, ← h]; rfl, Grow.refl w, val_num _ _ _ _⟩
theorem Wv.mono {op : Op} {A A' : VA} (h : Wv P Q R B w0 i op A) (hm : ∀ v w, A.p B v w → A'.p B v w) : Wv P Q R B w0 i op A' := fun d T ps af gd a w av K hK => h d T ps af gd a w av K fun v w' hg hp => hK v w' hg (hm v w' hp)
theorem r_min {k : IntKind} {x y : Operand} {ts : Array TypeId} {m n : Int} (hx : Has R B w0 i x (NumA k m).va) (hy : Has R B w0 i y (NumA k n).va) : Wv P Q R B w0 i (.call ⟨.builtin .min, #[x, y], ts⟩) (NumA k (min m n)).va :=
  wv_run fun _ _ _ _ _ a w av => ⟨_, w, by simp [execOp, resolve, invoke, builtin, num_val (hx a w av), num_val (hy a w av), Lib.run_min_ints], Grow.refl w, val_num _ _ _ _⟩
theorem r_max {k : IntKind} {x y : Operand} {ts : Array TypeId} {m n : Int} (hx : Has R B w0 i x (NumA k m).va) (hy : Has R B w0 i y (NumA k n).va) : Wv P Q R B w0 i (.call ⟨.builtin .max, #[x, y], ts⟩) (NumA k (max m n)).va :=
  wv_run fun _ _ _ _ _ a w av => ⟨_, w, by simp [execOp, resolve, invoke, builtin, num_val (hx a w av), num_val (hy a w av), Lib.run_max_ints], Grow.refl w, val_num _ _ _ _⟩
theorem nums_nd' {l : List Nat} : ∀ A ∈ l.map (fun (x : Nat) => NumA .u32 x), ∀ T ∈ A.deps, T ∈ ([] : List TypeId) := nums_nd
/-- a slice of limbs, written out. -/
theorem r_slicem {S : TypeId} {l : List Nat} {xs : List Operand} (hS : Sl P S U32 1) (hz : ((P.info? U32).bind (·.zero)).isSome = true) (hl0 : 0 < l.length) (hsmall : l.length ≤ 16777216) (ok : okL l)
    (hx : All2 (fun (A : As) x => Has R B w0 i x A.va) (l.map fun (x : Nat) => NumA .u32 x) xs) {ps' : Array (Nat × Operand)} (hps : ps'.toList = (xs.zipIdx 0).map fun x => (x.2, x.1)) {n : Nat} (hn : n = l.length) : Wv P Q R B w0 i (.buildSlice S n ps') (MgA l).va :=
  (r_slice (D := []) nums_nd hS hz (fun A hA => by obtain ⟨_, _, rfl⟩ := List.mem_map.1 hA; rfl) (by decide) (by simpa using hl0) (by simpa using hsmall) hx hps (by simpa using hn)).mono fun v w ⟨cs, hp, hv⟩ => ⟨cs, ⟨ok, hp⟩, hv⟩
end
/-! wraps -/
theorem wu32 {x : Nat} (h : x < 4294967296) : IntKind.u32.wrap (x : Int) = (x : Int) := by simp [IntKind.wrap, IntKind.bits, IntKind.signed]; omega
theorem wu32' {x : Nat} : IntKind.u32.wrap (x : Int) = ((x % 4294967296 : Nat) : Int) := by simp [IntKind.wrap, IntKind.bits, IntKind.signed]
theorem wu64 {x : Nat} (h : x < 18446744073709551616) : IntKind.u64.wrap (x : Int) = (x : Int) := by simp [IntKind.wrap, IntKind.bits, IntKind.signed]; omega
theorem wi64 {x : Int} (h : -9223372036854775808 ≤ x) (h' : x < 9223372036854775808) : IntKind.i64.wrap x = x := by simp [IntKind.wrap, IntKind.bits, IntKind.signed]; omega
theorem wadd64 {x y : Nat} (h : x + y < 18446744073709551616) : IntKind.u64.wrap ((x : Int) + (y : Int)) = ((x + y : Nat) : Int) := by rw [← wu64 h]; simp
theorem wmul64 {x y : Nat} (h : x * y < 18446744073709551616) : IntKind.u64.wrap ((x : Int) * (y : Int)) = ((x * y : Nat) : Int) := by rw [← wu64 h]; simp
theorem nshr {x k : Nat} : (x : Int) / 2 ^ ((k : Int).toNat) = ((x / 2 ^ k : Nat) : Int) := by simp
theorem nquo {x y : Nat} (h : x / y < 18446744073709551616) : IntKind.u64.wrap ((x : Int).tdiv (y : Int)) = ((x / y : Nat) : Int) := by
  rw [Int.tdiv_eq_ediv_of_nonneg (by omega)]
  rw [← Int.natCast_ediv, wu64 h]
theorem nrem {x y : Nat} : (x : Int).tmod (y : Int) = ((x % y : Nat) : Int) := by
  rw [Int.tmod_eq_emod_of_nonneg (by omega)]; rfl
theorem wlow {x : Nat} : IntKind.u32.wrap ((x : Nat) : Int) = ((x % 4294967296 : Nat) : Int) := wu32'
theorem or64 {x y : Nat} (hx : x < 4294967296) (hy : y < 4294967296) : bits .or .u64 (((x * 4294967296 : Nat)) : Int) (y : Int) = ((x * 4294967296 + y : Nat) : Int) := by
  have := bits_join .u64 64 (by decide) (fun n h0 h1 => by simp [IntKind.wrap, IntKind.bits, IntKind.signed]; omega) 32 ((x * 4294967296 : Nat) : Int) (y : Int) (by omega) (by omega) (by omega) (by omega) (by omega) (by omega)
  rw [this]; simp
theorem wshl32 {x : Nat} (hx : x < 4294967296) : IntKind.u64.wrap ((x : Int) * 2 ^ ((32 : Int).toNat)) = ((x * 4294967296 : Nat) : Int) := by
  rw [← wu64 (x := x * 4294967296) (by omega)]; simp
theorem ofi {x : Nat} (h : x < 4294967296) : (BitVec.ofInt 32 (x : Int)).toNat = x := by
  rw [BitVec.ofInt_natCast, BitVec.toNat_ofNat]; exact Nat.mod_eq_of_lt (by omega)
theorem bxor32 {x y : Nat} (hx : x < 4294967296) (hy : y < 4294967296) : bits .xor .u32 (x : Int) (y : Int) = ((x ^^^ y : Nat) : Int) := by
  have h : x ^^^ y < 2 ^ 32 := Nat.xor_lt_two_pow (by omega) (by omega)
  have e : (BitVec.ofInt 32 (x : Int) ^^^ BitVec.ofInt 32 (y : Int)).toNat = x ^^^ y := by rw [BitVec.toNat_xor, ofi hx, ofi hy]
  show IntKind.u32.wrap (((BitVec.ofInt 32 (x : Int) ^^^ BitVec.ofInt 32 (y : Int)).toNat : Nat) : Int) = _
  rw [e, wu32 (by omega)]
theorem band32 {x y : Nat} (hx : x < 4294967296) (hy : y < 4294967296) : bits .and .u32 (x : Int) (y : Int) = ((x &&& y : Nat) : Int) := by
  have h : x &&& y < 2 ^ 32 := Nat.and_lt_two_pow _ (by omega)
  have e : (BitVec.ofInt 32 (x : Int) &&& BitVec.ofInt 32 (y : Int)).toNat = x &&& y := by rw [BitVec.toNat_and, ofi hx, ofi hy]
  show IntKind.u32.wrap (((BitVec.ofInt 32 (x : Int) &&& BitVec.ofInt 32 (y : Int)).toNat : Nat) : Int) = _
  rw [e, wu32 (by omega)]
theorem bor32 {x y : Nat} (hx : x < 4294967296) (hy : y < 4294967296) : bits .or .u32 (x : Int) (y : Int) = ((x ||| y : Nat) : Int) := by
  have h : x ||| y < 2 ^ 32 := Nat.or_lt_two_pow (by omega) (by omega)
  have e : (BitVec.ofInt 32 (x : Int) ||| BitVec.ofInt 32 (y : Int)).toNat = x ||| y := by rw [BitVec.toNat_or, ofi hx, ofi hy]
  show IntKind.u32.wrap (((BitVec.ofInt 32 (x : Int) ||| BitVec.ofInt 32 (y : Int)).toNat : Nat) : Int) = _
  rw [e, wu32 (by omega)]
theorem sub32_d {x y c : Nat} (hx : x < 4294967296) (hy : y < 4294967296) (hc : c < 2) : IntKind.u32.wrap (IntKind.u32.wrap ((x : Int) - (y : Int)) - (c : Int)) = (((x + 8589934592 - y - c) % 4294967296 : Nat) : Int) := by
  simp [IntKind.wrap, IntKind.bits, IntKind.signed]; omega
theorem sub32_e2 {x y c : Nat} (hx : x < 4294967296) (hy : y < 4294967296) (hc : c < 2) : bits .or .u32 (bits .and .u32 (bits .xor .u32 4294967295 (x : Int)) (y : Int)) (bits .and .u32 (bits .xor .u32 4294967295 (bits .xor .u32 (x : Int) (y : Int))) (IntKind.u32.wrap (IntKind.u32.wrap ((x : Int) - (y : Int)) - (c : Int)))) / 2 ^ ((31 : Int).toNat) = (((if x < y + c then 1 else 0 : Nat)) : Int) := by
  have hl : ∀ {a b : Nat}, a < 4294967296 → b < 4294967296 → a ^^^ b < 4294967296 := fun ha hb => Nat.xor_lt_two_pow (n := 32) ha hb
  have hl' : ∀ {a b : Nat}, b < 4294967296 → a &&& b < 4294967296 := fun hb => Nat.and_lt_two_pow (n := 32) _ hb
  obtain ⟨d, hd⟩ : ∃ d, d = (x + 8589934592 - y - c) % 4294967296 := ⟨_, rfl⟩
  rw [sub32_d hx hy hc, ← hd]
  have hd' : d < 4294967296 := by omega
  rw [show (4294967295 : Int) = ((4294967295 : Nat) : Int) from rfl, bxor32 (by omega) hx, bxor32 hx hy, bxor32 (by omega) (hl hx hy), band32 (hl (by omega) hx) hy, band32 (hl (by omega) (hl hx hy)) hd', bor32 (hl' hy) (hl' hd')]
  refine (nshr (k := 31)).trans ?_
  congr 1
  rw [Nat.or_div_two_pow, Nat.and_div_two_pow, Nat.and_div_two_pow, Nat.xor_div_two_pow, Nat.xor_div_two_pow, Nat.xor_div_two_pow]
  have h1 : x / 2 ^ 31 = 0 ∨ x / 2 ^ 31 = 1 := by omega
  have h2 : y / 2 ^ 31 = 0 ∨ y / 2 ^ 31 = 1 := by omega
  have h3 : d / 2 ^ 31 = 0 ∨ d / 2 ^ 31 = 1 := by omega
  rcases h1 with h1 | h1 <;> rcases h2 with h2 | h2 <;> rcases h3 with h3 | h3 <;> rw [h1, h2, h3] <;> simp <;> omega
theorem follows_mixed : Try.prog.follows .mixedOrders = true := by kernel_rfl
end Go.Proofs.Ytgjolcbehcjhcaa
