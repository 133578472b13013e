/- Twins of rows: a row in memory of its own, with a mark behind it; whether it is as it was. -/
import Derived.Test.YtmghfjcjcfaagaaGreatTwiC
import Derived.Test.YtmghfjcjcfaagaaGreatBenF
import Derived.Test.YtmghfjcjcfaagaaGreatRayE
namespace Go.Proofs.YtmghfjcjcfaagaaGreat
open Go Go.RowKit
namespace TwiD
theorem fld_24_0 : Fld Tryz.prog 24 0 0 1 := ⟨_, _, Tryz.underlying24, rfl, rfl, by kernel_rfl, by decide⟩
theorem fld_24_1 : Fld Tryz.prog 24 1 1 1 := ⟨_, _, Tryz.underlying24, rfl, rfl, by kernel_rfl, by decide⟩
theorem fld_26_0 : Fld Tryz.prog 26 0 0 2 := ⟨_, _, Tryz.underlying26, rfl, rfl, by kernel_rfl, by decide⟩
theorem fld_52_0 : Fld Tryz.prog 52 0 0 4 := ⟨_, _, Tryz.underlying52, rfl, rfl, by kernel_rfl, by decide⟩
theorem sl_53 : Sl Tryz.prog 53 52 8 := ⟨by kernel_rfl, by kernel_rfl⟩
theorem ty_22 : Ty Tryz.prog 22 1 false := ⟨by kernel_rfl, by kernel_rfl⟩
theorem ty_4 : Ty Tryz.prog 4 1 false := ⟨by kernel_rfl, by kernel_rfl⟩
theorem ty_52 : Ty Tryz.prog 52 8 true := ⟨by kernel_rfl, by kernel_rfl⟩
end TwiD
open TwiD
set_option linter.unusedVariables false
/-- a row of the call's own with l, and x in the room behind. -/
def TwK (g c : Nat) (E : TypeId) (m : Nat) (D : List TypeId) (l : List As) (x : As) : VA where
  p B v w := v = .slice (some ⟨g, 0, none⟩) l.length c ∧ B ≤ g ∧ (OwnR 0 E m D (l ++ [x])).p B (.slice (some ⟨g, 0, none⟩) (l.length + 1) c) w
  deps := E :: D
  cg := fun B v w w' hg h => ⟨h.1, h.2.1, (OwnR 0 E m D (l ++ [x])).cg _ _ _ _ hg h.2.2⟩
  wr := fun B v w w' g c T fz h1 h2 h3 h4 h => ⟨h.1, h.2.1, (OwnR 0 E m D (l ++ [x])).wr _ _ _ _ _ _ _ _ h1 h2 h3 h4 h.2.2⟩
def TwS (E : TypeId) (m : Nat) (D : List TypeId) (l : List As) (x : As) : VA where
  p B v w := ∃ g c, (TwK g c E m D l x).p B v w
  deps := E :: D
  cg := fun B v w w' hg ⟨g, c, h⟩ => ⟨g, c, (TwK g c E m D l x).cg _ _ _ _ hg h⟩
  wr := fun B v w w' g c T fz h1 h2 h3 h4 ⟨g', c', h⟩ => ⟨g', c', (TwK g' c' E m D l x).wr _ _ _ _ _ _ _ _ h1 h2 h3 h4 h⟩
theorem free_cat {l : List As} {B B' : Nat} {w : World} (hB : B' ≤ B) (hl : ∀ A ∈ l, FreeA A A) {ds : List Value} (h : (cat l).p B ds w) : (cat l).p B' ds w := by
  obtain ⟨ps, rfl, h⟩ := h
  refine ⟨ps, rfl, ?_⟩
  induction h with
  | nil => exact .nil
  | cons h _ ih => exact .cons ((hl _ (by simp)).2.2 _ _ _ _ hB h) (ih fun A hA => hl A (by simp [hA]))
theorem free_twS {E : TypeId} {m : Nat} {D : List TypeId} {l : List As} {x : As} (hl : ∀ A ∈ l ++ [x], FreeA A A) : Free (TwS E m D l x) (TwS E m D l x) := fun B B' v w hB ⟨g, c, h1, h2, h3, h4, ds, h5, h6⟩ => ⟨g, c, h1, Nat.le_trans hB h2, h3, h4, ds, free_cat hB hl h5, h6⟩
theorem St.exK {B N : Nat} {w0 : Bs} {Γ : List (Nat × VA)} {Λ : List Lc} {a : Act} {w : World} (h : St B w0 N Γ Λ a w) {s : Nat} {E : TypeId} {m : Nat} {D : List TypeId} {l : List As} {x : As} (k : Nat) (hm : Γ[k]? = some (s, TwS E m D l x)) : ∃ g c, St B w0 N (Γ.set k (s, TwK g c E m D l x)) Λ a w := by
  obtain ⟨g, c, hv⟩ := h.vals _ (List.mem_of_getElem? hm)
  exact ⟨g, c, h.lo, h.defers, h.size, h.base, fun y hy => by
    rcases List.mem_or_eq_of_mem_set hy with hy | rfl
    · exact h.vals y hy
    · exact hv, h.locs, h.dis⟩
theorem twK_own {g c : Nat} {E : TypeId} {m : Nat} {D : List TypeId} {l : List As} {x : As} {B : Nat} {v : Value} {w : World} (h : (TwK g c E m D l x).p B v w) : l.length + 1 ≤ c ∧ c ≤ maxLen := by
  obtain ⟨_, _, _, _, ds, _, _, h6⟩ := h
  rcases h6 with ⟨h6, _⟩ | ⟨g', cap, cur, e1, e2, e3, e4, e5, e6, e7⟩
  · cases h6
  · injection e1 with _ _ e1
    rw [List.length_append] at e4
    exact ⟨by rw [e1]; exact e4, by rw [e1]; exact e5⟩
theorem own_w {b : Nat} {E : TypeId} {m : Nat} {D : List TypeId} {l : List As} {B : Nat} {v : Value} {w : World} (h : (OwnR b E m D l).p B v w) : (SlA E D l).va.p B v w := own_sl _ _ _ h
theorem twK_sl {g c : Nat} {E : TypeId} {m : Nat} {D : List TypeId} {l : List As} {x : As} : Wk (TwK g c E m D l x) (SlA E D l).va := fun B v w h => by
  obtain ⟨h1, h2, h3, h4, ds, h5, h6, h7⟩ := h
  rcases h7 with ⟨h7, _⟩ | ⟨g', cap, cur, e1, e2, e3, e4, e5, e6, e7⟩
  · cases h7
  · injection e1 with eg _ e1
    injection eg with eg
    injection eg with eg
    subst eg e1 h1
    have hs := (cat_split h3 h5 l.length).1
    rw [List.take_left] at hs
    refine ⟨[.slice (some ⟨g, 0, none⟩) l.length c], ⟨fun A hA => h4 A (by simp [hA]), _, c, ds.take (l.length * m), rfl, by rw [List.length_append] at e4; exact Nat.le_of_lt e4, e5, hs, fun _ => ⟨g, 0, rfl, (Array.getElem?_eq_some_iff.1 e3).1, .inr ⟨_, _, e3⟩, fun j u hu => ?_⟩⟩, rfl⟩
    rw [cell_of_row w g (0 + j) cur E _ e3, Nat.zero_add]
    rw [List.getElem?_take] at hu
    split at hu
    · rw [← e7, List.getElem?_take] at hu
      split at hu
      · simpa using hu
      · cases hu
    · cases hu
theorem twS_sl {E : TypeId} {m : Nat} {D : List TypeId} {l : List As} {x : As} : Wk (TwS E m D l x) (SlA E D l).va := fun B v w ⟨g, c, h⟩ => twK_sl _ _ _ h
section
variable {P : Program} {R : Rg} {Q : Exit → Act → World → Prop} {B i : Nat} {w0 : Bs}
theorem r_capK {x : Operand} {S E E' : TypeId} {g c m : Nat} {D : List TypeId} {l : List As} {z : As} (hS : P.underlying S = some (.slice E')) (hx : Has R B w0 i x (TwK g c E m D l z)) : Wv P Q R B w0 i (.call ⟨.builtin .cap, #[x], #[S]⟩) (In (c : Int)) :=
  wv_run fun d T ps af gd a w av => by
    have hv := (hx a w av).1
    refine ⟨.int .i64 (c : Int), w, ?_, Grow.refl w, val_num _ _ _ _⟩
    simp [execOp, resolve, invoke, builtin, hv, Builtin.cap_, run_underlying hS, goInt]
theorem r_reslK {x y : Operand} {S E : TypeId} {g c m : Nat} {D : List TypeId} {l : List As} {z : As} (hS : Sl P S E m) (hx : Has R B w0 i x (TwK g c E m D l z)) (hy : Has R B w0 i y (In ((l.length + 1 : Nat) : Int))) : Wv P Q R B w0 i (.slice S x none (some y) none) (SlA E D (l ++ [z])).va :=
  wv_run fun d T ps af gd a w av => by
    have hk := hx a w av
    have hc := twK_own hk
    obtain ⟨hs1, hs2⟩ := hS
    have e1 := hk.1
    have e3 := num_val (hy a w av)
    have hE : P.elem S = E := by simp [Program.elem, hs1]
    have hs1' : P.underlying S = some (.slice (P.elem S)) := by rw [hE]; exact hs1
    have hsz : ∀ w, (sizeOf E).run P w = .ok m w := fun w => by
      cases hi : P.info? E with
      | none => rw [hi] at hs2; simp at hs2
      | some it => rw [hi] at hs2; simp [sizeOf, typeInfo, hi]; simpa using hs2
    refine ⟨.slice (some ⟨g, 0, none⟩) (l.length + 1) c, w, ?_, Grow.refl w, own_w hk.2.2⟩
    have hr := run_slice_h (P := P) w S (some ⟨g, 0, none⟩) l.length c hs1' .i64 ((l.length + 1 : Nat) : Int) (by omega) (by omega)
    rw [hE, hsz] at hr
    have hne : ¬ c = 0 := by omega
    simp only [Result.andThen_ok, sliced, Int.toNat_natCast, hne, if_false, Nat.zero_mul, Option.map_some, Nat.sub_zero] at hr
    simp only [execOp, e1, e3, Option.map_some, run_sliceAt_slice _ _ _ _ _ _ hs1', Sem.run_bind, Sem.run_pure]
    erw [hr]
    simp [Addr.add]
theorem r_makeR {S E : TypeId} {m bytes n : Nat} {D : List TypeId} {x y : Operand} {it : TypeInfo} {z : Value} (hS : P.underlying S = some (.slice E)) (hi : P.info? E = some it) (hz : it.zero = some z) (hsz : it.size = m) (hby : it.bytes = bytes) (hzs : z.cells.size = m) (hm0 : 0 < m) (hb6 : bytes ≤ 1000) (hB : B ≤ w0.w.heap.size) (hx : Has R B w0 i x (In 0)) (hy : Has R B w0 i y (In n)) (hn : n ≤ 17592186044) : Wv P Q R B w0 i (.makeSlice S x y) (OwnR w0.w.heap.size E m D []) :=
  wv_run fun d T ps af gd a w av => by
    have hbn : bytes * n ≤ 1000 * n := Nat.mul_le_mul_right _ hb6
    have hm := run_make (P := P) w S E it z hS hi hz .i64 .i64 0 n (by omega) (by omega) (by
      have h6 : ((it.bytes * n : Nat) : Int) ≤ 281474976710656 := by rw [hby]; omega
      rwa [Int.natCast_mul] at h6) (by omega)
    have e1 := num_val (hx a w av)
    have e2 := num_val (hy a w av)
    refine ⟨.slice (some ⟨w.heap.size, 0, none⟩) 0 n, w.alloc (.cells (madeCells z.cells (n * it.size)) E), ?_, Grow.alloc _ _, (fun A hA => by cases hA), (fun A hA => by cases hA), [], ⟨[], rfl, .nil⟩, by simp, .inr ⟨w.heap.size, n, madeCells z.cells (n * it.size), rfl, av.base.size, by simpa using heap_alloc_new w _, Nat.zero_le _, by unfold maxLen; omega, ?_, by simp⟩⟩
    · simp only [Int.toNat_natCast] at hm
      simp [execOp, e1, e2, hm]
    · rw [hsz]
      simp [madeCells]
end

open Rg in
theorem go_appSl {P : Program} {Q : Exit → Act → World → Prop} {B N : Nat} {w0 : Bs} {Γ : List (Nat × VA)} {Λ : List Lc} {a : Act} {w : World} {id : Nat} {ops : Array Oper} {sp : List Sp} (n : Nat) (src : List Nat) (i1 i2 : Nat) {S E T1 T2 T3 T4 T5 : TypeId} {s u d e f c0 c1 c2 m bytes : Nat} {ps1 ps2 ps3 ps4 ps5 : String} {af1 af2 af3 af4 af5 : Array Edge} {D D' : List TypeId} {l : List As} {x : As} {A2 X : VA} {it : TypeInfo} {z : Value}
    (h : St B w0 N Γ Λ a w) (hob : Obs P Q ⟨ops, N, Γ, lesN Λ, sp, fun i => List.range i⟩ B w0 0 n) (hn2 : ops.size = n + 5) (hk : Rg.chk ⟨ops, N, Γ, lesN Λ, sp, fun i => List.range i⟩ = true)
    (ho1 : ops[n]? = some ⟨some d, .call ⟨.builtin .append, #[.tmp s, .tmp u], #[S, S]⟩, T1, ps1, af1, none⟩) (ho2 : ops[n + 1]? = some ⟨some c1, .move (.tmp c0), T2, ps2, af2, none⟩)
    (ho3 : ops[n + 2]? = some ⟨some c2, .call ⟨.builtin .len, #[.tmp c1], #[S]⟩, T3, ps3, af3, none⟩) (ho4 : ops[n + 3]? = some ⟨some f, .slice S (.tmp d) none (some (.tmp c2)) none, T4, ps4, af4, none⟩) (ho5 : ops[n + 4]? = some ⟨some e, .assign (.tmp f), T5, ps5, af5, none⟩)
    (kx : Nat) (hkx : Γ[kx]? = some (c0, X)) (hX : ∀ B u w, X.p B u w → ∃ A c, u = .slice A l.length c) (hXo : Rg.outG ⟨ops, N, Γ, lesN Λ, sp, fun i => List.range i⟩ c0 = true)
    (hi1 : i1 < n) (h1 : sp[i1]? = some (.val s (OwnR w0.w.heap.size E m D l))) (hi2 : i2 < n) (h2 : sp[i2]? = some (.val u A2)) (hA2 : ∀ w u, A2.p B u w → Kept w0 w → (SlA E D' [x]).va.p B u w)
    (hS : P.underlying S = some (.slice E)) (hi : P.info? E = some it) (hz : it.zero = some z) (hsz : it.size = m) (hby : it.bytes = bytes) (hzs : z.cells.size = m) (hm0 : 0 < m) (hl : l.length + 1 ≤ 100000000000) (hb6 : bytes ≤ 1000)
    (hD' : ∀ T ∈ D', T ∈ D) (hED : E ∉ D) (hxm : x.n = m) (hnd : decide ([d, c1, c2, f, e, c0].Nodup) = true) (hd : d < N) (he : e < N) (hc1 : c1 < N) (hc2 : c2 < N) (hf : f < N)
    (hsrc : src.all (fun k => match Γ[k]? with | some y => !y.2.deps.contains E && Rg.outG ⟨ops, N, Γ, lesN Λ, sp, fun i => List.range i⟩ y.1 | none => false) = true)
    (hΛ : Λ.all (fun l => l.T != E && !l.A.deps.contains E && l.s != d && l.s != e && l.s != c1 && l.s != c2 && l.s != f) = true)
    (hQ : ∀ a w, St B w0 N ((e, TwS E m D l x) :: src.filterMap (fun k => Γ[k]?)) Λ a w → Q .normal a w) : (Code.region id ops false).wp P Q a w := by
  have hles0 : ∀ y ∈ lesN Λ, y.cr = none ∧ y.st = none ∧ (⟨y.s, y.T, y.H, y.A0⟩ : Lc) ∈ Λ := fun y hy => by
    obtain ⟨l', hl', rfl⟩ := List.mem_map.1 hy
    exact ⟨rfl, rfl, hl'⟩
  refine Rg.linK (R := ⟨ops, N, Γ, lesN Λ, sp, fun i => List.range i⟩) (m := 5) hn2 rfl hk h (fun y hy _ => (hles0 y hy).2.2) (fun i hi => hob.all i (by omega) (by omega)) fun a1 w1 hinv => ?_
  have hcl : ∀ deps, Rg.clash ⟨ops, N, Γ, lesN Λ, sp, fun i => List.range i⟩ (fun k => decide (k < n)) deps = false := fun deps => by
    unfold Rg.clash
    rw [List.any_eq_false]
    intro y hy
    rw [(hles0 y hy).2.1]
    simp
  have hv := hinv.v i1 _ s _ h1 rfl (decide_eq_true hi1) (hcl _)
  have hu := hA2 _ _ (hinv.v i2 _ u _ h2 rfl (decide_eq_true hi2) (hcl _)) hinv.base
  have hB : B ≤ w0.w.heap.size := hinv.lo _ (.inl (Nat.le_refl _))
  obtain ⟨v', w', hr, r1, r2, r3⟩ := run_ownM (xs := [x]) (T1 := T1) hS hi hz hsz hby hzs hm0 (by simpa using hl) hb6 hv hu hD' hED (fun y hy => by simp at hy; subst hy; exact hxm) hinv.base.size hB
  have hnd' := of_decide_eq_true hnd
  simp only [List.nodup_cons, List.mem_cons, List.not_mem_nil, or_false, not_or, List.nodup_nil, and_true, not_false_iff] at hnd'
  obtain ⟨⟨n1, n2, n3, n4, n5⟩, ⟨n6, n7, n8, n9⟩, ⟨n10, n11, n12⟩, ⟨n13, n14⟩, n15⟩ := hnd'
  have hgc : ∀ q, q < ops.size → Rg.dst ⟨ops, N, Γ, lesN Λ, sp, fun i => List.range i⟩ q ≠ some c0 := fun q hq => by
    have := List.all_eq_true.1 hXo q (by simpa using hq)
    simpa using this
  obtain ⟨Ax, cx, ex⟩ := hX _ _ _ (hinv.g (c0, X) (List.mem_of_getElem? hkx) (fun q hq hdq => absurd hdq (hgc q hq)) (hcl _))
  obtain ⟨q1, q2, ds, q3, q4, q5⟩ := r1
  rcases q5 with ⟨_, q5⟩ | ⟨g, cap, cur, e1, e2, e3, e4, e5, e6, e7⟩
  · simp at q5
  rw [List.length_append, List.length_singleton] at e1 e4
  subst e1
  have hsza : a1.tmps.size = N := hinv.size
  obtain ⟨a2, ha2⟩ : ∃ a2, a2 = a1.put (some d) (.slice (some ⟨g, 0, none⟩) (l.length + 1) cap) := ⟨_, rfl⟩
  obtain ⟨a3, ha3⟩ : ∃ a3, a3 = a2.put (some c1) (.slice Ax l.length cx) := ⟨_, rfl⟩
  obtain ⟨a4, ha4⟩ : ∃ a4, a4 = a3.put (some c2) (.int .i64 (l.length : Int)) := ⟨_, rfl⟩
  obtain ⟨a5, ha5⟩ : ∃ a5, a5 = a4.put (some f) (.slice (some ⟨g, 0, none⟩) l.length cap) := ⟨_, rfl⟩
  obtain ⟨a6, ha6⟩ : ∃ a6, a6 = a5.put (some e) (.slice (some ⟨g, 0, none⟩) l.length cap) := ⟨_, rfl⟩
  have s2 : a2.tmps.size = N := by rw [ha2, size_put]; exact hsza
  have s3 : a3.tmps.size = N := by rw [ha3, size_put]; exact s2
  have s4 : a4.tmps.size = N := by rw [ha4, size_put]; exact s3
  have s5 : a5.tmps.size = N := by rw [ha5, size_put]; exact s4
  have s6 : a6.tmps.size = N := by rw [ha6, size_put]; exact s5
  have hE : P.elem S = E := by simp [Program.elem, hS]
  have hs1' : P.underlying S = some (.slice (P.elem S)) := by rw [hE]; exact hS
  have hszo : ∀ w, (sizeOf E).run P w = .ok m w := fun w => by simp [sizeOf, typeInfo, hi, hsz]
  rw [List.range'_succ, wpOps_cons]
  refine wpOp_of (R := ⟨ops, N, Γ, lesN Λ, sp, fun i => List.range i⟩) ho1 rfl (wp_value (w' := w') (v := .slice (some ⟨g, 0, none⟩) (l.length + 1) cap) (by simp [execOp, resolve, invoke, builtin, hr, Result.andThen]) ?_)
  show wpOps P ops Q _ (a1.put (some d) _) w'
  rw [← ha2]
  rw [List.range'_succ, wpOps_cons]
  refine wpOp_of (R := ⟨ops, N, Γ, lesN Λ, sp, fun i => List.range i⟩) ho2 rfl (wp_value (w' := w') (v := .slice Ax l.length cx) (by
    have : a2.eval (.tmp c0) = .slice Ax l.length cx := by rw [ha2, eval_put_other _ _ _ _ (fun h => n5 h.symm)]; exact ex
    simp [execOp, this]) ?_)
  show wpOps P ops Q _ (a2.put (some c1) _) w'
  rw [← ha3]
  rw [List.range'_succ, wpOps_cons]
  refine wpOp_of (R := ⟨ops, N, Γ, lesN Λ, sp, fun i => List.range i⟩) ho3 rfl (wp_value (w' := w') (v := .int .i64 (l.length : Int)) (by
    have : a3.eval (.tmp c1) = .slice Ax l.length cx := by rw [ha3]; exact eval_put_same _ _ _ (by rw [s2]; exact hc1)
    simp [execOp, resolve, invoke, builtin, this, Builtin.len_, run_underlying hS, goInt]) ?_)
  show wpOps P ops Q _ (a3.put (some c2) _) w'
  rw [← ha4]
  have d4 : a4.eval (.tmp d) = .slice (some ⟨g, 0, none⟩) (l.length + 1) cap := by rw [ha4, eval_put_other _ _ _ _ n2, ha3, eval_put_other _ _ _ _ n1, ha2]; exact eval_put_same _ _ _ (by rw [hsza]; exact hd)
  have c4 : a4.eval (.tmp c2) = .int .i64 (l.length : Int) := by rw [ha4]; exact eval_put_same _ _ _ (by rw [s3]; exact hc2)
  rw [List.range'_succ, wpOps_cons]
  refine wpOp_of (R := ⟨ops, N, Γ, lesN Λ, sp, fun i => List.range i⟩) ho4 rfl (wp_value (w' := w') (v := .slice (some ⟨g, 0, none⟩) l.length cap) (by
    have hr2 := run_slice_h (P := P) w' S (some ⟨g, 0, none⟩) (l.length + 1) cap hs1' .i64 (l.length : Int) (by omega) (by omega)
    rw [hE, hszo] at hr2
    have hne : ¬ cap = 0 := by omega
    simp only [Result.andThen_ok, sliced, Int.toNat_natCast, hne, if_false, Nat.zero_mul, Option.map_some, Nat.sub_zero] at hr2
    simp only [execOp, d4, c4, Option.map_some, run_sliceAt_slice _ _ _ _ _ _ hs1', Sem.run_bind, Sem.run_pure]
    erw [hr2]
    simp [Addr.add]) ?_)
  show wpOps P ops Q _ (a4.put (some f) _) w'
  rw [← ha5]
  rw [List.range'_succ, wpOps_cons]
  refine wpOp_of (R := ⟨ops, N, Γ, lesN Λ, sp, fun i => List.range i⟩) ho5 rfl (wp_value (w' := w') (v := .slice (some ⟨g, 0, none⟩) l.length cap) ?_ ?_)
  · have : a5.eval (.tmp f) = .slice (some ⟨g, 0, none⟩) l.length cap := by rw [ha5]; exact eval_put_same _ _ _ (by rw [s4]; exact hf)
    simp [execOp, this]
  show wpOps P ops Q _ (a5.put (some e) _) w'
  rw [← ha6]
  refine hQ _ _ ?_
  have hother : ∀ t, t ≠ d → t ≠ c1 → t ≠ c2 → t ≠ f → t ≠ e → a6.eval (.tmp t) = a1.eval (.tmp t) := fun t h1 h2 h3 h4 h5 => by
    rw [ha6, eval_put_other _ _ _ _ h5, ha5, eval_put_other _ _ _ _ h4, ha4, eval_put_other _ _ _ _ h3, ha3, eval_put_other _ _ _ _ h2, ha2, eval_put_other _ _ _ _ h1]
  have hdf : a6.defers = a1.defers := by rw [ha6, ha5, ha4, ha3, ha2]; rfl
  have hlc : ∀ l' ∈ Λ, l'.T ≠ E ∧ E ∉ l'.A.deps ∧ a6.eval (.tmp l'.s) = a1.eval (.tmp l'.s) := fun l' hl' => by
    have := List.all_eq_true.1 hΛ l' hl'
    simp only [Bool.and_eq_true, bne_iff_ne, Bool.not_eq_true', List.contains_eq_mem, decide_eq_false_iff_not] at this
    exact ⟨this.1.1.1.1.1.1, this.1.1.1.1.1.2, hother _ this.1.1.1.1.2 this.1.1.2 this.1.2 this.2 this.1.1.1.2⟩
  have hcur : ∀ l' ∈ Λ, (⟨l'.s, l'.T, l'.H, none, l'.A, none⟩ : Le) ∈ lesN Λ := fun l' hl' => List.mem_map.2 ⟨l', hl', rfl⟩
  refine ⟨hinv.lo, hinv.defers.grown r2 r3 hdf, s6, ?_, ?_, ?_, ?_⟩
  · exact ⟨r2.os.trans hinv.base.os, r2.tape.trans hinv.base.tape, r2.output.trans hinv.base.output, Nat.le_trans hinv.base.size r2.size, fun k hk hf =>
      (r2.block k (Nat.lt_of_lt_of_le hk hinv.base.size) (fun e => by have := (r3 k e.symm).1; omega)).trans (hinv.base.block k hk hf)⟩
  · intro y hy
    rcases List.mem_cons.1 hy with rfl | hy
    · show (TwS E m D l x).p B (a6.eval (.tmp e)) w'
      rw [ha6, eval_put_same _ _ _ (by rw [s5]; exact he)]
      exact ⟨g, cap, rfl, Nat.le_trans hB e2, q1, q2, ds, q3, q4, .inr ⟨g, cap, cur, by rw [List.length_append]; rfl, Nat.zero_le _, e3, by rw [List.length_append]; exact e4, e5, e6, e7⟩⟩
    · obtain ⟨k, hk1, hk2⟩ := List.mem_filterMap.1 hy
      have hs := List.all_eq_true.1 hsrc k hk1
      simp only [hk2, Bool.and_eq_true, Bool.not_eq_true', List.contains_eq_mem, decide_eq_false_iff_not] at hs
      have hout : ∀ q, q < ops.size → Rg.dst ⟨ops, N, Γ, lesN Λ, sp, fun i => List.range i⟩ q ≠ some y.1 := fun q hq => by
        have := List.all_eq_true.1 hs.2 q (by simpa using hq)
        simpa using this
      rw [hother _ (fun e1 => hout n (by omega) (by unfold Rg.dst; rw [ho1, e1]; rfl)) (fun e1 => hout (n + 1) (by omega) (by unfold Rg.dst; rw [ho2, e1]; rfl)) (fun e1 => hout (n + 2) (by omega) (by unfold Rg.dst; rw [ho3, e1]; rfl)) (fun e1 => hout (n + 3) (by omega) (by unfold Rg.dst; rw [ho4, e1]; rfl)) (fun e1 => hout (n + 4) (by omega) (by unfold Rg.dst; rw [ho5, e1]; rfl))]
      exact VA.grown (hinv.g y (List.mem_of_getElem? hk2) (fun q hq hdq => absurd hdq (hout q hq)) (hcl _)) r2 r3 hB hs.1
  · intro l' hl'
    obtain ⟨g1, g2, g3⟩ := hlc l' hl'
    obtain ⟨g, cs, e1, e2, e3, e4⟩ := hinv.c _ (hcur l' hl') l'.A rfl
    refine ⟨g, cs, by rw [g3]; exact e1, e2, ?_, As.grown e4 r2 r3 hB g2⟩
    rw [r2.block g (Array.getElem?_eq_some_iff.1 e3).1 (fun e5 => by
      obtain ⟨_, c, fz, e6⟩ := r3 g e5.symm
      rw [e3] at e6
      injection e6 with e6
      injection e6 with _ e6 _
      exact g1 e6)]
    exact e3
  · intro l1 hl1 l2 hl2 hne'
    rw [(hlc l1 hl1).2.2, (hlc l2 hl2).2.2]
    exact hinv.x _ (hcur l1 hl1) _ (hcur l2 hl2) hne' rfl rfl

theorem row_nx {α : Type} {f : α → As} {xs : List α} {j : Nat} (h : j < xs.length) : (xs.take j).map f ++ [f xs[j]] = (xs.take (j + 1)).map f := by
  rw [List.take_succ_eq_append_getElem h, List.map_append]
  rfl
theorem free_rft (x : RF) : FreeA (RFT x) (RFT x) := cat_free (.cons (free_rit _) (.cons (free_rit _) .nil))
theorem mem_snoc {p : As → Prop} {l : List As} {z : As} (h1 : ∀ A ∈ l, p A) (h2 : p z) : ∀ A ∈ l ++ [z], p A := fun A hA => by
  rcases List.mem_append.1 hA with hA | hA
  · exact h1 A hA
  · obtain rfl := List.mem_singleton.1 hA
    exact h2
theorem map_all {α : Type} {p : As → Prop} {f : α → As} {xs : List α} (h : ∀ x, p (f x)) : ∀ A ∈ xs.map f, p A := fun A hA => by
  obtain ⟨x, _, rfl⟩ := List.mem_map.1 hA
  exact h x
theorem map_all2 {α : Type} {f k : α → As} (h : ∀ x, WkA (f x) (k x)) : ∀ {xs : List α}, All2 WkA (xs.map f) (xs.map k)
  | [] => .nil
  | x :: xs => .cons (h x) (map_all2 h)
theorem free_rgt (x : RG) : FreeA (RGT x) (RGT x) := cat_free (.cons (free_rft _) (.cons (free_rft _) .nil))
theorem free_mg0 : FreeA (MgA []) (MgA []) := ⟨rfl, rfl, fun B B' cs w hB ⟨ok, hD, A, c, ds, h0, h1, h2, ⟨ps, h3, h4⟩, h5⟩ => ⟨ok, hD, A, c, ds, h0, h1, h2, by cases h4; exact ⟨[], h3, .nil⟩, fun h => absurd h (by decide)⟩⟩
theorem free_rg0 {x : RG} (h : x.re.num.mag = [] ∧ x.re.den.mag = [] ∧ x.im.num.mag = [] ∧ x.im.den.mag = []) : FreeA (RGA x) (RGA x) := by
  obtain ⟨⟨⟨n0, m0⟩, ⟨n1, m1⟩⟩, ⟨⟨n2, m2⟩, ⟨n3, m3⟩⟩⟩ := x
  obtain ⟨h0, h1, h2, h3⟩ := h
  dsimp only at h0 h1 h2 h3
  subst h0 h1 h2 h3
  have k : ∀ b : Bool, FreeA (RIA ⟨b, []⟩) (RIA ⟨b, []⟩) := fun b => cat_free (.cons (free_bo _) (.cons free_mg0 .nil))
  exact cat_free (.cons (cat_free (.cons (k _) (.cons (k _) .nil))) (.cons (cat_free (.cons (k _) (.cons (k _) .nil))) .nil))
theorem wi_lm {α β : Type} {f : α → β} {xs : List α} (h : xs.length < 4611686018427387903) : IntKind.i64.wrap (((xs.map f).length : Int) + 1) = ((xs.length + 1 : Nat) : Int) := by rw [List.length_map]; exact wi_succ (by omega)
theorem sl_len {E : TypeId} {D : List TypeId} {l : List As} {p : Prop} : ∀ B u w, (SlO E D l p).va.p B u w → ∃ A c, u = .slice A l.length c := fun B u w ⟨cs, ⟨_, _, A, c, ds, h0, _⟩, hv⟩ => by
  subst h0
  exact ⟨A, c, hv⟩

theorem lens_eq {α β : Type} {f : α → As} {k : β → As} {xs : List α} {ys : List β} {c : Nat} (h : (((((xs.map f).length : Nat) : Int) != (((ys.map k).length : Nat) : Int)) || decide ((c : Int) ≤ (((ys.map k).length : Nat) : Int))) = false) : xs.length = ys.length := by
  simp only [Bool.or_eq_false_iff, List.length_map, bne_eq_false_iff_eq] at h
  have := h.1
  omega
theorem lens_ne {α : Type} [DecidableEq α] {f k : α → As} {xs ys : List α} {c : Nat} (hc : xs.length + 1 ≤ c) (h : (((((xs.map f).length : Nat) : Int) != (((ys.map k).length : Nat) : Int)) || decide ((c : Int) ≤ (((ys.map k).length : Nat) : Int))) = true) : false = decide (xs = ys) := by
  symm
  apply decide_eq_false
  rintro rfl
  simp at h
  omega
theorem take_eqA {α : Type} [DecidableEq α] {xs ys : List α} {j : Nat} (h2 : j < ys.length) (h1 : j < xs.length) (ht : xs.take j = ys.take j) (h : (!decide (xs[j] = ys[j])) = false) : xs.take (j + 1) = ys.take (j + 1) := by
  rw [List.take_succ_eq_append_getElem h1, List.take_succ_eq_append_getElem h2, ht]
  simp at h
  rw [h]
theorem take_neA {α : Type} [DecidableEq α] {xs ys : List α} {j : Nat} (h2 : j < ys.length) (h1 : j < xs.length) (h : (!decide (xs[j] = ys[j])) = true) : false = decide (xs = ys) := by
  symm
  apply decide_eq_false
  rintro rfl
  simp at h

theorem app_twGausses : ∃ it z, Tryz.prog.info? 52 = some it ∧ it.zero = some z ∧ it.size = 8 ∧ it.bytes = 128 ∧ z.cells.size = 8 := by
  have h : ((Tryz.prog.info? 52).bind fun it => it.zero.map fun z => (it.size, it.bytes, z.cells.size)) = some (8, 128, 8) := by kernel_rfl
  cases hi : Tryz.prog.info? 52 with
  | none => rw [hi] at h; simp at h
  | some it =>
    rw [hi] at h
    cases hz : it.zero with
    | none => simp [hz] at h
    | some z =>
      simp [hz] at h
      exact ⟨it, z, rfl, hz, h.1, h.2.1, h.2.2⟩

abbrev bdLGausses (xs : List RG) : Prop := ∀ x ∈ xs, bdF x.re ∧ bdF x.im

set_option maxRecDepth 100000 in
theorem twinGausses_c (xs : List RG) (hl : xs.length ≤ 10000000) (hx : bdLGausses xs) : Cn Tryz.prog 26 [(SlA 52 [U32] (xs.map RGA)).va] (TwS 52 8 [U32] (xs.map RGT) (RGA ⟨⟨⟨true, []⟩, ⟨false, []⟩⟩, rf0⟩)) := by
  obtain ⟨it, z, e1, e2, e3, e4, e5⟩ := app_twGausses
  refine Cn.introW Tryz.func26 rfl (by kernel_rfl) nq (.cons (up_sl (map_all upA_rg)).va .nil) (free_twS (mem_snoc (map_all free_rgt) (free_rg0 ⟨rfl, rfl, rfl, rfl⟩))) (fun B w0 a hB0 hst => ?_)
  have hst : St B w0 32 [(0, (SlO 52 [U32] (xs.map RGA) True).va)] [] a w0.w := hst
  refine wp_seq ?_
  refine gl (sts := []) (news := []) (sp := [.val 2 _]) [.g 0, .o 0] hst (oc (ob_v rfl rfl (r_assign has_const)) o0) (fun a w hst => ?_)
  have hst : St B w0 32 [(0, _), (2, _)] [] a w := hst
  refine thn_normal ?_
  refine wp_seq ?_
  refine gl (sts := []) (news := []) (sp := [.val 5 _, .val 6 _, .val 7 (In ((xs.length + 1 : Nat) : Int)), .val 8 (OwnR w0.w.heap.size 52 8 [U32] []), .val 3 _]) [.g 0, .o 4] hst (oc (ob_v rfl rfl (r_move (gq 0 rfl))) (oc (ob_v rfl rfl (r_len Tryz.underlying53 (has_and (has_old (vq 0 rfl))))) (oc (ob_v rfl rfl (r_add (vq 1 rfl) has_num (wi_lm (by omega)))) (oc (ob_v rfl rfl (r_makeR Tryz.underlying53 e1 e2 e3 e4 e5 (by decide) (by decide) (Nat.le_of_eq hB0) has_num (vq 2 rfl) (by omega))) (oc (ob_v rfl rfl (r_assign (vq 3 rfl))) o0))))) (fun a w hst => ?_)
  have hst : St B w0 32 [(0, _), (3, _)] [] a w := hst
  refine thn_normal ?_
  refine wp_seq ?_
  refine wp_seq ?_
  refine gl (sts := []) (news := []) (sp := [.val 4 _]) [.g 0, .g 1, .o 0] hst (oc (ob_v rfl rfl (r_assign has_num)) o0) (fun a w hst => ?_)
  have hst : St B w0 32 [(0, _), (3, _), (4, _)] [] a w := hst
  refine thn_normal ?_
  refine wp_block ?_
  have hst := St.sel hst [0, 1, 2]
  refine wp_loop_ghost (fun n a w => ∃ j : Nat, (n + j = xs.length) ∧ St B w0 32 [(0, (SlO 52 [U32] (xs.map RGA) True).va), (3, OwnR w0.w.heap.size 52 8 [U32] ((xs.take j).map RGT)), (4, In (j : Nat))] [] a w) (xs.length) ?_ ?_
  · exact ⟨0, by omega, hst⟩
  intro n a w hI
  obtain ⟨j, hn, hst⟩ := hI
  refine wp_seq ?_
  refine wp_seq ?_
  refine gl (sts := []) (news := []) (sp := [.val 9 _, .val 10 _, .val 11 _, .val 12 _]) [.g 0, .g 1, .g 2, .o 3] hst (oc (ob_v rfl rfl (r_move (gq 2 rfl))) (oc (ob_v rfl rfl (r_move (gq 0 rfl))) (oc (ob_v rfl rfl (r_len Tryz.underlying53 (has_and (has_old (vq 1 rfl))))) (oc (ob_v rfl rfl (r_lss (vq 0 rfl) (vq 2 rfl))) o0)))) (fun a w hst => ?_)
  have hst : St B w0 32 [(0, _), (3, _), (4, _), (12, _)] [] a w := hst
  refine thn_normal ?_
  refine cond_of hst (List.mem_of_getElem? (i := 3) rfl) (fun hb0 => ?_) (fun hb0 => ?_)
  · have hj : j < xs.length := by simp at hb0; omega
    refine wp_skip ?_
    refine thn_normal ?_
    refine wp_seq ?_
    refine wp_block ?_
    refine go_appL (sp := [.val 15 _, .val 16 _, .val 17 _, .val 18 _, .val 19 _, .val 20 _, .val 21 _, .val 22 VT, .val 3 VT]) 7 [0, 2] 0 6 hst (oc (ob_v rfl rfl (r_move (gq 1 rfl))) (oc (ob_v rfl rfl (r_move (gq 0 rfl))) (oc (ob_v rfl rfl (r_move (gq 2 rfl))) (oc (ob_v rfl rfl (r_idx sl_53 (map_n fun _ => rfl) (has_and (has_old (vq 1 rfl))) (vq 2 rfl) (map_at hj))) (oc (ob_v rfl rfl (r_loade (vq 3 rfl) ty_52)) (oc (ob_v rfl rfl (r_call (xs := [.tmp 19]) (twinGauss_c xs[j] (hx _ (List.getElem_mem hj))) (.cons (vq 4 rfl) .nil))) (oc (ob_v rfl rfl (r_slice (D := [U32]) (l := [_]) (xs := [.tmp 20]) (nd_ok (by kernel_rfl)) sl_53 (by kernel_rfl) (n_ok (by kernel_rfl)) nq nq nq (.cons (vq 5 rfl) .nil) rfl rfl)) o0))))))) rfl (by kernel_rfl) rfl rfl (by decide) rfl (by decide) rfl (fun _ _ h _ => h) Tryz.underlying53 e1 e2 e3 e4 e5 (by decide) (by simp only [List.length_map, List.length_take, List.length_singleton]; omega) (by decide) (fun T hT => hT) (by decide) (fun A hA => by obtain rfl := List.mem_singleton.1 hA; rfl) (by kernel_rfl) nq nq (by kernel_rfl) (by kernel_rfl) (fun a w hst => ?_)
    have hst : St B w0 32 [(3, _), (0, _), (4, _)] [] a w := hst
    refine blk_normal ?_
    refine thn_normal ?_
    refine gl (sts := []) (news := []) (sp := [.val 13 _, .val 14 _, .val 4 _]) [.g 0, .g 1, .o 2] hst (oc (ob_v rfl rfl (r_move (gq 2 rfl))) (oc (ob_v rfl rfl (r_add (vq 0 rfl) has_num (wi_succ (by omega)))) (oc (ob_v rfl rfl (r_assign (vq 1 rfl))) o0))) (fun a w hst => ?_)
    have hst : St B w0 32 [(3, _), (0, _), (4, _)] [] a w := hst
    refine thn_normal ?_
    have hst := St.sel hst [1, 0, 2]
    exact ⟨n - 1, by omega, j + 1, by omega, St.wkG (A' := OwnR w0.w.heap.size 52 8 [U32] ((xs.take (j + 1)).map RGT)) hst 1 rfl (wk_eq (congrArg (OwnR w0.w.heap.size 52 8 [U32]) (row_nx hj)))⟩
  · obtain rfl : j = xs.length := by simp at hb0; omega
    refine wp_exit ?_
    refine thn_exit ?_
    refine thn_exit ?_
    refine blk_exit ?_
    refine thn_normal ?_
    refine wp_seq ?_
    have hst := St.wkG (A' := OwnR w0.w.heap.size 52 8 [U32] (xs.map RGT)) hst 1 rfl (wk_eq (by rw [List.take_length]))
    refine go_appSl (sp := [.val 23 _, .val 24 _, .val 25 _, .val 26 _, .val 27 _, .val 28 VT, .val 29 VT, .val 30 VT, .val 31 VT, .val 2 VT]) 5 [] 0 4 hst (oc (ob_v rfl rfl (r_move (gq 1 rfl))) (oc (ob_v rfl rfl (r_build (xs := [(0, .const (.bool true))]) (qs := [(0, _)]) str_int (.cons ⟨rfl, has_bo, rfl⟩ .nil))) (oc (ob_v rfl rfl (r_build (xs := [(0, .tmp 24)]) (qs := [(0, _)]) str_frac (.cons ⟨rfl, (vq 1 rfl), rfl⟩ .nil))) (oc (ob_v rfl rfl (r_build (xs := [(0, .tmp 25)]) (qs := [(0, _)]) str_gauss (.cons ⟨rfl, (vq 2 rfl), rfl⟩ .nil))) (oc (ob_v rfl rfl (r_slice (D := [U32]) (l := [RGA ⟨⟨⟨true, []⟩, ⟨false, []⟩⟩, rf0⟩]) (xs := [.tmp 26]) (nd_ok (by kernel_rfl)) sl_53 (by kernel_rfl) (n_ok (by kernel_rfl)) nq nq nq (.cons (vq 3 rfl) .nil) rfl rfl)) (o0)))))) rfl (by kernel_rfl) rfl rfl rfl rfl rfl 0 rfl (fun B u w h => by have h2 := sl_len B u w h; rw [List.length_map] at h2; rw [List.length_map]; exact h2) (by kernel_rfl) (by decide) rfl (by decide) rfl (fun _ _ h _ => h) Tryz.underlying53 e1 e2 e3 e4 e5 (by decide) (by rw [List.length_map]; omega) (by decide) (fun T hT => hT) (by decide) (by kernel_rfl) (by decide) nq nq nq nq nq (by kernel_rfl) (by kernel_rfl) (fun a w hst => ?_)
    have hst : St B w0 32 [(2, _)] [] a w := hst
    refine thn_normal ?_
    refine wp_ret ?_
    refine ret_wk ?_ (ret_tmp rfl hst (List.mem_of_getElem? (i := 0) rfl))
    exact wk_id

set_option maxRecDepth 100000 in
theorem leftGausses_c (xs ys : List RG) (hl : ys.length ≤ 10000000) (hx : bdLGausses xs) : Cn Tryz.prog 30 [TwS 52 8 [U32] (xs.map RGT) (RGA ⟨⟨⟨true, []⟩, ⟨false, []⟩⟩, rf0⟩), (SlA 52 [U32] (ys.map RGA)).va] (Bo (decide (xs = ys))) := by
  refine Cn.intro Tryz.func30 rfl (by kernel_rfl) nq (fun B w0 a hst => ?_)
  have hst : St B w0 56 [(0, TwS 52 8 [U32] (xs.map RGT) (RGA ⟨⟨⟨true, []⟩, ⟨false, []⟩⟩, rf0⟩)), (1, (SlA 52 [U32] (ys.map RGA)).va)] [] a w0.w := hst
  obtain ⟨g, c, hst⟩ := St.exK hst 0 rfl
  have hcap := twK_own (hst.vals (0, _) (List.mem_of_getElem? (i := 0) rfl))
  rw [List.length_map] at hcap
  refine wp_seq ?_
  refine gl (sts := []) (news := []) (sp := [.val 4 _]) [.g 0, .g 1, .o 0] hst (oc (ob_v rfl rfl (r_assign has_bo)) o0) (fun a w hst => ?_)
  have hst : St B w0 56 [(0, _), (1, _), (4, _)] [] a w := hst
  refine thn_normal ?_
  refine wp_seq ?_
  refine wp_seq ?_
  refine gl (sts := []) (news := []) (sp := [.val 7 _, .val 8 _, .val 9 _, .val 10 _, .val 11 _, .val 12 _, .val 13 (Wh (_ = false) _), .val 14 (Wh (_ = false) _), .val 15 (Wh (_ = false) _), .val 16 (Wh (_ = false) _), .val 17 (Wh (_ = false) _), .val 18 _]) [.g 0, .g 1, .g 2, .o 11] hst (oc (ob_v rfl rfl (r_move (gq 0 rfl))) (oc (ob_v rfl rfl (r_len Tryz.underlying53 (has_wk' (vq 0 rfl) twK_sl))) (oc (ob_v rfl rfl (r_move (gq 1 rfl))) (oc (ob_v rfl rfl (r_len Tryz.underlying53 (vq 2 rfl))) (oc (ob_v rfl rfl (r_neq (vq 1 rfl) (vq 3 rfl))) (oc (ob_v rfl rfl (r_move (vq 4 rfl))) (oc (ob_gd rfl rfl rfl (vq 5 rfl) nq (fun hg => r_move (gq 0 rfl))) (oc (ob_gd rfl rfl rfl (vq 5 rfl) nq (fun hg => r_capK Tryz.underlying53 (has_wh (vq 6 rfl) hg))) (oc (ob_gd rfl rfl rfl (vq 5 rfl) nq (fun hg => r_move (gq 1 rfl))) (oc (ob_gd rfl rfl rfl (vq 5 rfl) nq (fun hg => r_len Tryz.underlying53 (has_wh (vq 8 rfl) hg))) (oc (ob_gd rfl rfl rfl (vq 5 rfl) nq (fun hg => r_leq (has_wh (vq 7 rfl) hg) (has_wh (vq 9 rfl) hg))) (oc (ob_v rfl rfl (r_or (vq 5 rfl) (vq 10 rfl))) o0)))))))))))) (fun a w hst => ?_)
  have hst : St B w0 56 [(0, _), (1, _), (4, _), (18, _)] [] a w := hst
  refine thn_normal ?_
  refine cond_of hst (List.mem_of_getElem? (i := 3) rfl) (fun hb0 => ?_) (fun hb0 => ?_)
  · refine wp_seq ?_
    refine gl (sts := []) (news := []) (sp := [.val 4 _]) [.g 0, .g 1, .o 0] hst (oc (ob_v rfl rfl (r_assign has_bo)) o0) (fun a w hst => ?_)
    have hst : St B w0 56 [(0, _), (1, _), (4, _)] [] a w := hst
    refine thn_normal ?_
    refine wp_ret ?_
    refine thn_ret ?_
    refine ret_wk ?_ (ret_tmp rfl hst (List.mem_of_getElem? (i := 2) rfl))
    exact wk_eq (congrArg Bo (lens_ne hcap.1 hb0))
  · have hlen := lens_eq hb0
    refine wp_skip ?_
    refine thn_normal ?_
    refine wp_seq ?_
    refine wp_seq ?_
    refine gl (sts := []) (news := []) (sp := [.val 5 _]) [.g 0, .g 1, .g 2, .o 0] hst (oc (ob_v rfl rfl (r_assign has_num)) o0) (fun a w hst => ?_)
    have hst : St B w0 56 [(0, _), (1, _), (4, _), (5, _)] [] a w := hst
    refine thn_normal ?_
    refine wp_block ?_
    have hst := St.sel hst [0, 1, 3]
    refine wp_loop_ghost (fun n a w => ∃ j : Nat, (n + j = ys.length ∧ xs.take j = ys.take j) ∧ St B w0 56 [(0, TwK g c 52 8 [U32] (xs.map RGT) (RGA ⟨⟨⟨true, []⟩, ⟨false, []⟩⟩, rf0⟩)), (1, (SlA 52 [U32] (ys.map RGA)).va), (5, In (j : Nat))] [] a w) (ys.length) ?_ ?_
    · exact ⟨0, ⟨by omega, rfl⟩, hst⟩
    intro n a w hI
    obtain ⟨j, ⟨hn, ht⟩, hst⟩ := hI
    refine wp_seq ?_
    refine wp_seq ?_
    refine gl (sts := []) (news := []) (sp := [.val 19 _, .val 20 _, .val 21 _, .val 22 _]) [.g 0, .g 1, .g 2, .o 3] hst (oc (ob_v rfl rfl (r_move (gq 2 rfl))) (oc (ob_v rfl rfl (r_move (gq 1 rfl))) (oc (ob_v rfl rfl (r_len Tryz.underlying53 (vq 1 rfl))) (oc (ob_v rfl rfl (r_lss (vq 0 rfl) (vq 2 rfl))) o0)))) (fun a w hst => ?_)
    have hst : St B w0 56 [(0, _), (1, _), (5, _), (22, _)] [] a w := hst
    refine thn_normal ?_
    refine cond_of hst (List.mem_of_getElem? (i := 3) rfl) (fun hb1 => ?_) (fun hb1 => ?_)
    · have hj2 : j < ys.length := by rw [List.length_map] at hb1; simp at hb1; omega
      have hj : j < xs.length := by omega
      refine wp_skip ?_
      refine thn_normal ?_
      refine wp_seq ?_
      refine wp_block ?_
      refine wp_seq ?_
      refine go_draw (anc := [[], [], [0, 1], [0, 1, 2], [], [], [4, 5], [4, 5, 6], [0, 1, 2, 3, 4, 5, 6, 7], [0, 1, 2, 3, 4, 5, 6, 7, 8]]) (sts := []) (news := []) (sp := [.val 25 _, .val 26 _, .val 27 _, .val 28 _, .val 29 _, .val 30 _, .val 31 _, .val 32 _, .val 33 _, .val 34 _]) [.g 0, .g 1, .g 2, .o 9] follows_mixed hst (oc (ob_v rfl rfl (r_move (gq 0 rfl))) (oc (ob_v rfl rfl (r_move (gq 2 rfl))) (oc (ob_v rfl rfl (r_idx sl_53 (map_n fun _ => rfl) (has_wk' (vq 0 rfl) twK_sl) (vq 1 rfl) (map_at hj))) (oc (ob_v rfl rfl (r_loade (vq 2 rfl) ty_52)) (oc (ob_v rfl rfl (r_move (gq 1 rfl))) (oc (ob_v rfl rfl (r_move (gq 2 rfl))) (oc (ob_v rfl rfl (r_idx sl_53 (map_n fun _ => rfl) (vq 4 rfl) (vq 5 rfl) (map_at hj2))) (oc (ob_v rfl rfl (r_loade (vq 6 rfl) ty_52)) (oc (ob_v rfl rfl (r_call (xs := [.tmp 28, .tmp 32]) (leftGauss_c xs[j] ys[j] (hx _ (List.getElem_mem hj))) (.cons (vq 3 rfl) (.cons (vq 7 rfl) .nil)))) (oc (ob_v rfl rfl (r_not (vq 8 rfl))) o0)))))))))) (by kernel_rfl) (by kernel_rfl) (by kernel_rfl) (by kernel_rfl) (fun a w hst => ?_)
      have hst : St B w0 56 [(0, _), (1, _), (5, _), (34, _)] [] a w := hst
      refine thn_normal ?_
      refine cond_of hst (List.mem_of_getElem? (i := 3) rfl) (fun hb2 => ?_) (fun hb2 => ?_)
      · refine wp_seq ?_
        refine gl (sts := []) (news := []) (sp := [.val 4 _]) [.g 0, .g 1, .g 2, .o 0] hst (oc (ob_v rfl rfl (r_assign has_bo)) o0) (fun a w hst => ?_)
        have hst : St B w0 56 [(0, _), (1, _), (5, _), (4, _)] [] a w := hst
        refine thn_normal ?_
        refine wp_ret ?_
        refine blk_ret ?_
        refine thn_ret ?_
        refine thn_ret ?_
        refine blk_ret ?_
        refine thn_ret ?_
        refine ret_wk ?_ (ret_tmp rfl hst (List.mem_of_getElem? (i := 3) rfl))
        exact wk_eq (congrArg Bo (take_neA hj2 hj hb2))
      · refine wp_skip ?_
        refine blk_normal ?_
        refine thn_normal ?_
        refine gl (sts := []) (news := []) (sp := [.val 23 _, .val 24 _, .val 5 _]) [.g 0, .g 1, .o 2] hst (oc (ob_v rfl rfl (r_move (gq 2 rfl))) (oc (ob_v rfl rfl (r_add (vq 0 rfl) has_num (wi_succ (by omega)))) (oc (ob_v rfl rfl (r_assign (vq 1 rfl))) o0))) (fun a w hst => ?_)
        have hst : St B w0 56 [(0, _), (1, _), (5, _)] [] a w := hst
        refine thn_normal ?_
        have hst := St.sel hst [0, 1, 2]
        exact ⟨n - 1, by omega, j + 1, ⟨by omega, take_eqA hj2 hj ht hb2⟩, hst⟩
    · obtain rfl : j = ys.length := by rw [List.length_map] at hb1; simp at hb1; omega
      refine wp_exit ?_
      refine thn_exit ?_
      refine thn_exit ?_
      refine blk_exit ?_
      refine thn_normal ?_
      refine wp_seq ?_
      refine gl (sts := []) (news := [⟨6, 52, ptrH, some 9, _, some (10, _)⟩]) (sp := [.val 35 _, .val 36 _, .val 37 _, .val 38 _, .val 39 _, .val 40 _, .val 41 _, .val 42 _, .val 43 _, .alc 0, .sto 0]) [] hst (oc (ob_v rfl rfl (r_move (gq 0 rfl))) (oc (ob_v rfl rfl (r_move (gq 1 rfl))) (oc (ob_v rfl rfl (r_len Tryz.underlying53 (vq 1 rfl))) (oc (ob_v rfl rfl (r_add (vq 2 rfl) has_num (wi_lm (by omega)))) (oc (ob_v rfl rfl (r_reslK sl_53 (vq 0 rfl) (has_wk' (vq 3 rfl) (wk_eq (congrArg (fun k : Nat => In ((k + 1 : Nat) : Int)) (hlen.symm.trans (List.length_map ..).symm)))))) (oc (ob_v rfl rfl (r_move (gq 1 rfl))) (oc (ob_v rfl rfl (r_len Tryz.underlying53 (vq 5 rfl))) (oc (ob_v rfl rfl (r_idx sl_53 (mem_snoc (map_all fun _ => rfl) rfl) (vq 4 rfl) (has_wk' (vq 6 rfl) (wk_eq (congrArg (fun k : Nat => In (k : Int)) (List.length_map ..)))) (k := ys.length) (by rw [List.getElem?_append_right (by rw [List.length_map]; omega), List.length_map, hlen, Nat.sub_self]; rfl))) (oc (ob_v rfl rfl (r_loade (vq 7 rfl) ty_52)) (oc (ob_alc rfl rfl rfl (Str.zero str_gauss)) (oc (ob_sto rfl rfl rfl (vq 8 rfl) ty_52 (Eq.trans (b := 8) rfl rfl)) o0))))))))))) (fun a w hst => ?_)
      have hst : St B w0 56 [] [⟨6, 52, ptrH, _⟩] a w := hst
      refine thn_normal ?_
      refine wp_seq ?_
      refine gl (sts := [none]) (news := []) (sp := [.adr 44 6 (.some 0) True, .adr 45 6 (.some (0 + 0)) True, .adr 46 6 (.some (0 + 0)) True, .val 47 _, .val 48 _, .adr 49 6 (.some 0) (_ = true), .adr 50 6 (.some (0 + 0)) (_ = true), .adr 51 6 (.some (0 + 1)) (_ = true), .val 52 (Wh (_ = true) _), .val 53 (Wh (_ = true) _), .val 54 (Wh (_ = true) _), .val 55 _, .val 4 _]) [.o 12] hst (oc (ob_a rfl rfl (a_fld (lz0 0 rfl) fld_52_0)) (oc (ob_a rfl rfl (a_fld2 0 rfl (by kernel_rfl) trivial (lz0 0 rfl) fld_26_0)) (oc (ob_a rfl rfl (a_fld2 1 rfl (by kernel_rfl) trivial (lz0 0 rfl) fld_24_0)) (oc (ob_v rfl rfl (r_loadf 2 rfl (by kernel_rfl) trivial (lz0 0 rfl) (Sub.trans (Sub.part 0 rfl rfl) (Sub.trans (Sub.part 0 rfl rfl) (Sub.part 0 rfl rfl) rfl) rfl) ty_4)) (oc (ob_v rfl rfl (r_move (vq 3 rfl))) (oc (ob_ag rfl rfl rfl (vq 4 rfl) nq (fun hg => a_fld (lz0 0 rfl) fld_52_0)) (oc (ob_ag rfl rfl rfl (vq 4 rfl) nq (fun hg => a_fld2 5 rfl (by kernel_rfl) hg (lz0 0 rfl) fld_26_0)) (oc (ob_ag rfl rfl rfl (vq 4 rfl) nq (fun hg => a_fld2 6 rfl (by kernel_rfl) hg (lz0 0 rfl) fld_24_1)) (oc (ob_gd rfl rfl rfl (vq 4 rfl) nq (fun hg => r_loadf 7 rfl (by kernel_rfl) hg (lz0 0 rfl) (Sub.trans (Sub.part 0 rfl rfl) (Sub.trans (Sub.part 0 rfl rfl) (Sub.part 1 rfl rfl) rfl) rfl) ty_22)) (oc (ob_gd rfl rfl rfl (vq 4 rfl) nq (fun hg => r_lenm Tryz.underlying22 (has_wh (vq 8 rfl) hg))) (oc (ob_gd rfl rfl rfl (vq 4 rfl) nq (fun hg => r_eql (has_wh (vq 9 rfl) hg) has_num)) (oc (ob_v rfl rfl (r_and (vq 4 rfl) (vq 10 rfl))) (oc (ob_v rfl rfl (r_assign (vq 11 rfl))) o0))))))))))))) (fun a w hst => ?_)
      have hst : St B w0 56 [(4, _)] [⟨6, 52, ptrH, _⟩] a w := hst
      refine thn_normal ?_
      refine wp_ret ?_
      refine ret_wk ?_ (ret_tmp rfl hst (List.mem_of_getElem? (i := 0) rfl))
      have e : xs = ys := by rw [List.take_of_length_le (by omega), List.take_length] at ht; exact ht
      refine wk_eq (congrArg Bo ?_); rw [decide_eq_true e]; rfl

end Go.Proofs.YtmghfjcjcfaagaaGreat
