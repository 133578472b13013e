/- Appending a slice to a row of its own, in a region whose order is given. Helpers of the laws of chapter 10: both, fits, small, alive. -/
import Derived.Test.YtgjolcbehcjhcaaBenC
import Derived.Laws.AppendOwn
import Derived.Laws.OwnMore
import Derived.Orders
namespace Go.Proofs.Ytgjolcbehcjhcaa
open Go Go.RowKit
namespace BenD
theorem sl_135 : Sl Try.prog 135 3 1 := ⟨by kernel_rfl, by kernel_rfl⟩
theorem sl_53 : Sl Try.prog 53 70 9 := ⟨by kernel_rfl, by kernel_rfl⟩
theorem ty_26 : Ty Try.prog 26 4 true := ⟨by kernel_rfl, by kernel_rfl⟩
theorem ty_28 : Ty Try.prog 28 16 true := ⟨by kernel_rfl, by kernel_rfl⟩
end BenD
open BenD
theorem run_app_zero {P : Program} {w : World} (base : Nat) (t ty e : TypeId) (i : TypeInfo) (size : Nat) (ht : P.underlying t = some (.slice e)) (hi : P.info? e = some i)
    (v : Value) (n c : Nat) (xs : List Value) (hown : w.ownsRow base e size v n xs) : (Builtin.append_ #[t, t] ty #[v, .slice none 0 c]).run P w = .ok v w := by
  rcases hown.2 with ⟨rfl, rfl⟩ | ⟨g, cap, cur, rfl, _, _, hnc, _⟩
  · simp [Builtin.append_, run_underlying ht, sizeOf, typeInfo, hi, Builtin.lenOf, Builtin.firstCells]
  · simp [Builtin.append_, run_underlying ht, sizeOf, typeInfo, hi, Builtin.lenOf, Builtin.firstCells, hnc, storeCells]
theorem cat_len {l : List As} {m : Nat} (hm : ∀ A ∈ l, A.n = m) : (cat l).n = l.length * m := by
  induction l with
  | nil => simp [cat]
  | cons A l ih =>
    have := ih fun A' h => hm A' (List.mem_cons_of_mem _ h)
    simp only [cat, List.map_cons, List.sum_cons, List.length_cons] at this ⊢
    rw [this, hm A (by simp), Nat.add_mul, Nat.one_mul, Nat.add_comm]
/-- what an append of a slice does. -/
theorem run_ownM {P : Program} {S E T1 : TypeId} {m bytes b B : Nat} {D D' : List TypeId} {l xs : List As} {w : World} {v u : Value} {it : TypeInfo} {z : Value}
    (hS : P.underlying S = some (.slice E)) (hi : P.info? E = some it) (hz : it.zero = some z) (hsz : it.size = m) (hby : it.bytes = bytes) (hzs : z.cells.size = m) (hm0 : 0 < m) (hl : l.length + xs.length ≤ 100000000000) (hb6 : bytes ≤ 1000)
    (hv : (OwnR b E m D l).p B v w) (hu : (SlA E D' xs).va.p B u w) (hD' : ∀ T ∈ D', T ∈ D) (hED : E ∉ D) (hxm : ∀ x ∈ xs, x.n = m) (hbw : b ≤ w.heap.size) (hB : B ≤ b) :
    ∃ v' w', (Builtin.append_ #[S, S] T1 #[v, u]).run P w = .ok v' w' ∧ (OwnR b E m D (l ++ xs)).p B v' w' ∧ w.grownBy w' v.ownBlock ∧ RowOk w b E v.ownBlock := by
  obtain ⟨h1, h2, ds, h3, h4⟩ := hv
  obtain ⟨cs, ⟨hD, Ad, c, ds1, rfl, _, _, h5, h6⟩, hu'⟩ := hu
  have hu2 : u = .slice Ad xs.length c := hu'
  subst hu2
  have hl1 : ds1.length = xs.length * m := by rw [(cat xs).len _ _ _ h5, cat_len hxm]
  have hro := own_row h4
  have hmx : l.length + xs.length ≤ maxLen := by unfold maxLen; omega
  have hbt : (l.length + xs.length) * bytes ≤ 140737488355328 := Nat.le_trans (Nat.mul_le_mul hl hb6) (by decide)
  have fin : ∀ v' w', w'.ownsRow b E m v' (l.length + xs.length) (ds ++ ds1) → w.grownBy w' v.ownBlock → (OwnR b E m D (l ++ xs)).p B v' w' := fun v' w' r1 r2 => by
    refine ⟨fun A hA => ?_, fun A hA => ?_, ds ++ ds1, cat_app (As.grown h3 r2 hro hB (cat_nd h2 hED)) (As.grown h5 r2 hro hB (cat_nd (fun A hA T hT => hD' T (hD A hA T hT)) hED)), by rw [List.length_append]; exact r1⟩
    · rcases List.mem_append.1 hA with hA | hA
      · exact h1 A hA
      · exact hxm A hA
    · rcases List.mem_append.1 hA with hA | hA
      · exact h2 A hA
      · exact fun T hT => hD' T (hD A hA T hT)
  have some_case : ∀ a : Addr, Ad = some a → (∀ (j : Nat) u, ds1[j]? = some u → w.cell? (a.add j) = some u) → ∃ v' w', (Builtin.append_ #[S, S] T1 #[v, .slice Ad xs.length c]).run P w = .ok v' w' ∧ (OwnR b E m D (l ++ xs)).p B v' w' ∧ w.grownBy w' v.ownBlock ∧ RowOk w b E v.ownBlock := fun a ha hc => by
    subst ha
    obtain ⟨v', w', hr, r1, r2, _⟩ := run_append_own (P := P) w b S T1 E it z m bytes hS hi hz hsz hby hzs hm0 v l.length ds h4 a xs.length c ds1 hl1 hc ((cat xs).one _ _ _ h5) hmx hbt hbw
    exact ⟨v', w', hr, fin v' w' r1 r2, r2, hro⟩
  by_cases hx : 0 < xs.length
  · obtain ⟨g1, o1, rfl, _, _, h8⟩ := h6 hx
    exact some_case _ rfl fun j u hj => by rw [add_k]; exact h8 j u hj
  · have h0 : xs.length = 0 := by omega
    have hds0 : ds1 = [] := List.length_eq_zero_iff.1 (by rw [hl1, h0, Nat.zero_mul])
    cases Ad with
    | some a => exact some_case a rfl fun j u hj => by rw [hds0] at hj; simp at hj
    | none =>
      rw [h0]
      refine ⟨v, w, run_app_zero b S T1 E it m hS hi v l.length c ds h4, fin v w ?_ ⟨rfl, rfl, rfl, Nat.le_refl _, fun _ _ _ => rfl⟩, ⟨rfl, rfl, rfl, Nat.le_refl _, fun _ _ _ => rfl⟩, hro⟩
      rw [h0, hds0, List.append_nil]
      exact h4
section
variable {P : Program} {R : Rg} {Q : Exit → Act → World → Prop} {B : Nat} {w0 : Bs} {a : Act} {w : World}
open Rg in
/-- a region whose order is given, its last operations shown apart. -/
theorem Rg.linK {id : Nat} {Λ : List Lc} {n m : Nat} (hsz : R.ops.size = n + m) (hanc : R.anc = fun i => List.range i) (hk : R.chk = true) (h : St B w0 R.N R.Γ Λ a w) (hles : ∀ e ∈ R.les, e.cr = none → (⟨e.s, e.T, e.H, e.A0⟩ : Lc) ∈ Λ)
    (hob : ∀ i, i < n → R.Ob P Q B w0 i) (hQ : ∀ a w, R.Inv B w0 (fun k => decide (k < n)) a w → wpOps P R.ops Q (List.range' n m) a w) : (Code.region id R.ops false).wp P Q a w := by
  refine wp_region ?_
  have key : ∀ q k, k + q = n → ∀ a w, R.Inv B w0 (fun j => decide (j < k)) a w → wpOps P R.ops Q (List.range' k (q + m)) a w := by
    intro q
    induction q with
    | zero =>
      intro k hkm a w hi
      have : k = n := by omega
      subst this
      rw [Nat.zero_add]
      exact hQ a w hi
    | succ q ih =>
      intro k hkm a w hi
      rw [show q + 1 + m = (q + m) + 1 by omega, List.range'_succ, wpOps_cons]
      refine step hk (hob k (by omega)) hi ?_ (by simp) ?_ _ fun a' w' hi' => ih (k + 1) (by omega) a' w' (hi'.congr fun j => ?_)
      · intro i hi j hj
        rw [hanc] at hj
        simp at hi hj ⊢
        omega
      · intro j hj
        rw [hanc] at hj
        simpa using hj
      · unfold upd
        by_cases h1 : j = k
        · subst h1; simp
        · have h2 : (j == k) = false := by simpa using h1
          rw [h2, Bool.false_or, decide_eq_decide]
          omega
  rw [List.range_eq_range', hsz]
  exact key n 0 (by omega) a w ((start h hles).congr fun j => by simp)
end
theorem again_w {B : Nat} {w0 : Bs} {A : VA} {v : Value} (hF : ∀ k, ¬ w0.F k) (hv : A.p B v w0.w) : ∀ w u, (EqV v).p B u w → Kept w0 w → A.p B u w := fun w u h hk => by
  have e : u = v := h
  subst e
  exact A.grow _ _ _ _ ⟨hk.os, hk.tape, hk.output, hk.size, fun k hlt => hk.block k hlt (hF k)⟩ hv
open Rg in
theorem go_appL {P : Program} {Q : Exit → Act → World → Prop} {B N : Nat} {w0 : Bs} {Γ : List (Nat × VA)} {Λ : List Lc} {a : Act} {w : World} {id : Nat} {ops : Array Oper} {sp : List Sp} (n : Nat) (src : List Nat) (i1 i2 : Nat) {S E T1 T2 : TypeId} {s u d e m bytes : Nat} {ps1 ps2 : String} {af1 af2 : Array Edge} {D D' : List TypeId} {l xs : List As} {A2 : VA} {it : TypeInfo} {z : Value}
    (h : St B w0 N Γ Λ a w) (hob : Obs P Q ⟨ops, N, Γ, lesN Λ, sp, fun i => List.range i⟩ B w0 0 n) (hn2 : ops.size = n + 2) (hk : Rg.chk ⟨ops, N, Γ, lesN Λ, sp, fun i => List.range i⟩ = true)
    (ho1 : ops[n]? = some ⟨some d, .call ⟨.builtin .append, #[.tmp s, .tmp u], #[S, S]⟩, T1, ps1, af1, none⟩) (ho2 : ops[n + 1]? = some ⟨some e, .assign (.tmp d), T2, ps2, af2, none⟩)
    (hi1 : i1 < n) (h1 : sp[i1]? = some (.val s (OwnR w0.w.heap.size E m D l))) (hi2 : i2 < n) (h2 : sp[i2]? = some (.val u A2)) (hA2 : ∀ w u, A2.p B u w → Kept w0 w → (SlA E D' xs).va.p B u w)
    (hS : P.underlying S = some (.slice E)) (hi : P.info? E = some it) (hz : it.zero = some z) (hsz : it.size = m) (hby : it.bytes = bytes) (hzs : z.cells.size = m) (hm0 : 0 < m) (hl : l.length + xs.length ≤ 100000000000) (hb6 : bytes ≤ 1000)
    (hD' : ∀ T ∈ D', T ∈ D) (hED : E ∉ D) (hxm : ∀ x ∈ xs, x.n = m) (hde : (d != e) = true) (hd : d < N) (he : e < N)
    (hsrc : src.all (fun k => match Γ[k]? with | some y => !y.2.deps.contains E && Rg.outG ⟨ops, N, Γ, lesN Λ, sp, fun i => List.range i⟩ y.1 | none => false) = true)
    (hΛ : Λ.all (fun l => l.T != E && !l.A.deps.contains E && l.s != d && l.s != e) = true)
    (hQ : ∀ a w, St B w0 N ((e, OwnR w0.w.heap.size E m D (l ++ xs)) :: src.filterMap (fun k => Γ[k]?)) Λ a w → Q .normal a w) : (Code.region id ops false).wp P Q a w := by
  have hles0 : ∀ y ∈ lesN Λ, y.cr = none ∧ y.st = none ∧ (⟨y.s, y.T, y.H, y.A0⟩ : Lc) ∈ Λ := fun y hy => by
    obtain ⟨l', hl', rfl⟩ := List.mem_map.1 hy
    exact ⟨rfl, rfl, hl'⟩
  refine Rg.linK (R := ⟨ops, N, Γ, lesN Λ, sp, fun i => List.range i⟩) (m := 2) hn2 rfl hk h (fun y hy _ => (hles0 y hy).2.2) (fun i hi => hob.all i (by omega) (by omega)) fun a1 w1 hinv => ?_
  have hcl : ∀ deps, Rg.clash ⟨ops, N, Γ, lesN Λ, sp, fun i => List.range i⟩ (fun k => decide (k < n)) deps = false := fun deps => by
    unfold Rg.clash
    rw [List.any_eq_false]
    intro y hy
    rw [(hles0 y hy).2.1]
    simp
  have hv := hinv.v i1 _ s _ h1 rfl (decide_eq_true hi1) (hcl _)
  have hu := hA2 _ _ (hinv.v i2 _ u _ h2 rfl (decide_eq_true hi2) (hcl _)) hinv.base
  have hB : B ≤ w0.w.heap.size := hinv.lo _ (.inl (Nat.le_refl _))
  obtain ⟨v', w', hr, r1, r2, r3⟩ := run_ownM (T1 := T1) hS hi hz hsz hby hzs hm0 hl hb6 hv hu hD' hED hxm hinv.base.size hB
  have hdsz : d < a1.tmps.size := by rw [hinv.size]; exact hd
  have hesz : e < (a1.put (some d) v').tmps.size := by rw [size_put, hinv.size]; exact he
  have hne : d ≠ e := by simpa using hde
  rw [List.range'_succ, wpOps_cons]
  refine wpOp_of (R := ⟨ops, N, Γ, lesN Λ, sp, fun i => List.range i⟩) ho1 rfl (wp_value (w' := w') (v := v') (by simp [execOp, resolve, invoke, builtin, hr, Result.andThen]) ?_)
  rw [List.range'_succ, wpOps_cons]
  refine wpOp_of (R := ⟨ops, N, Γ, lesN Λ, sp, fun i => List.range i⟩) ho2 rfl (wp_value (w' := w') (v := v') ?_ (hQ _ _ ?_))
  · have := eval_put_same a1 d v' hdsz
    simp [execOp, this]
  · have hother : ∀ t, t ≠ d → t ≠ e → ((a1.put (some d) v').put (some e) v').eval (.tmp t) = a1.eval (.tmp t) := fun t h3 h4 => by
      rw [eval_put_other _ _ _ _ h4, eval_put_other _ _ _ _ h3]
    have hlc : ∀ l' ∈ Λ, l'.T ≠ E ∧ E ∉ l'.A.deps ∧ l'.s ≠ d ∧ l'.s ≠ e := fun l' hl' => by
      have := List.all_eq_true.1 hΛ l' hl'
      simp only [Bool.and_eq_true, bne_iff_ne, Bool.not_eq_true', List.contains_eq_mem, decide_eq_false_iff_not] at this
      exact ⟨this.1.1.1, this.1.1.2, this.1.2, this.2⟩
    have hcur : ∀ l' ∈ Λ, (⟨l'.s, l'.T, l'.H, none, l'.A, none⟩ : Le) ∈ lesN Λ := fun l' hl' => List.mem_map.2 ⟨l', hl', rfl⟩
    refine ⟨hinv.lo, hinv.defers, by rw [size_put, size_put]; exact hinv.size, ?_, ?_, ?_, ?_⟩
    · exact ⟨r2.os.trans hinv.base.os, r2.tape.trans hinv.base.tape, r2.output.trans hinv.base.output, Nat.le_trans hinv.base.size r2.size, fun k hk hf =>
        (r2.block k (Nat.lt_of_lt_of_le hk hinv.base.size) (fun e => by have := (r3 k e.symm).1; omega)).trans (hinv.base.block k hk hf)⟩
    · intro y hy
      rcases List.mem_cons.1 hy with rfl | hy
      · show (OwnR w0.w.heap.size E m D (l ++ xs)).p B (((a1.put (some d) v').put (some e) v').eval (.tmp e)) w'
        rw [eval_put_same _ _ _ hesz]
        exact r1
      · obtain ⟨k, hk1, hk2⟩ := List.mem_filterMap.1 hy
        have hs := List.all_eq_true.1 hsrc k hk1
        simp only [hk2, Bool.and_eq_true, Bool.not_eq_true', List.contains_eq_mem, decide_eq_false_iff_not] at hs
        have hout : ∀ q, q < ops.size → Rg.dst ⟨ops, N, Γ, lesN Λ, sp, fun i => List.range i⟩ q ≠ some y.1 := fun q hq => by
          have := List.all_eq_true.1 hs.2 q (by simpa using hq)
          simpa using this
        have g1 : y.1 ≠ d := fun e1 => hout n (by omega) (by unfold Rg.dst; rw [ho1, e1]; rfl)
        have g2 : y.1 ≠ e := fun e1 => hout (n + 1) (by omega) (by unfold Rg.dst; rw [ho2, e1]; rfl)
        rw [hother _ g1 g2]
        exact VA.grown (hinv.g y (List.mem_of_getElem? hk2) (fun q hq hdq => absurd hdq (hout q hq)) (hcl _)) r2 r3 hB hs.1
    · intro l' hl'
      obtain ⟨g1, g2, g3, g4⟩ := hlc l' hl'
      obtain ⟨g, cs, e1, e2, e3, e4⟩ := hinv.c _ (hcur l' hl') l'.A rfl
      refine ⟨g, cs, by rw [hother _ g3 g4]; exact e1, e2, ?_, As.grown e4 r2 r3 hB g2⟩
      rw [r2.block g (Array.getElem?_eq_some_iff.1 e3).1 (fun e5 => by
        obtain ⟨_, c, fz, e6⟩ := r3 g e5.symm
        rw [e3] at e6
        injection e6 with e6
        injection e6 with _ e6 _
        exact g1 e6)]
      exact e3
    · intro l1 hl1 l2 hl2 hne'
      obtain ⟨_, _, g3, g4⟩ := hlc l1 hl1
      obtain ⟨_, _, g5, g6⟩ := hlc l2 hl2
      rw [hother _ g3 g4, hother _ g5 g6]
      exact hinv.x _ (hcur l1 hl1) _ (hcur l2 hl2) hne' rfl rfl
theorem app_elem : ∃ it z, Try.prog.info? 70 = some it ∧ it.zero = some z ∧ it.size = 9 ∧ it.bytes = 136 ∧ z.cells.size = 9 := by
  have h : ((Try.prog.info? 70).bind fun it => it.zero.map fun z => (it.size, it.bytes, z.cells.size)) = some (9, 136, 9) := by kernel_rfl
  cases hi : Try.prog.info? 70 with
  | none => rw [hi] at h; simp at h
  | some it =>
    rw [hi] at h
    cases hz : it.zero with
    | none => simp [hz] at h
    | some z =>
      simp [hz] at h
      exact ⟨it, z, rfl, hz, h.1, h.2.1, h.2.2⟩

set_option maxRecDepth 100000 in
theorem both10_c (xs ys : List RE) (hl : xs.length + ys.length ≤ 4096) : Cn Try.prog 32 [(SlA 70 [U32] (xs.map REA)).va, (SlA 70 [U32] (ys.map REA)).va] ((SlA 70 [U32] ((xs ++ ys).map REA)).va) := by
  obtain ⟨it, z, e1, e2, e3, e4, e5⟩ := app_elem
  refine Cn.introF Try.func32 rfl (by kernel_rfl) (Nat.le_of_ble_eq_true (by kernel_rfl)) (fun B w0 a hF hst => ?_)
  have hst : St B w0 12 [(0, (SlA 70 [U32] (xs.map REA)).va), (1, (SlA 70 [U32] (ys.map REA)).va)] [] a w0.w := hst
  obtain ⟨v0, hv0, hst⟩ := St.eqv hst 0 rfl
  obtain ⟨v1, hv1, hst⟩ := St.eqv hst 1 rfl
  refine wp_seq ?_
  refine go_lin (sts := []) (news := []) (sp := [.val 4 _]) [.g 0, .g 1, .o 0] hst (obs_cons (ob_v rfl rfl (r_assign has_const)) (obs_nil)) (by kernel_rfl) (by kernel_rfl) (by kernel_rfl) (fun a w hst => ?_)
  have hst : St B w0 12 [(0, _), (1, _), (4, _)] [] a w := hst
  refine thn_normal ?_
  refine wp_seq ?_
  refine go_lin (sts := []) (news := []) (sp := [.val 5 _]) [.g 0, .g 1, .g 2, .o 0] hst (obs_cons (ob_v rfl rfl (r_assign has_const)) (obs_nil)) (by kernel_rfl) (by kernel_rfl) (by kernel_rfl) (fun a w hst => ?_)
  have hst : St B w0 12 [(0, _), (1, _), (4, _), (5, _)] [] a w := hst
  refine thn_normal ?_
  refine wp_seq ?_
  have hst := St.wkG (A' := OwnR w0.w.heap.size 70 9 [U32] []) hst 3 rfl own_nil
  refine go_appL (sp := [.val 6 _, .val 7 _, .val 8 VT, .val 5 VT]) 2 [1, 2] 0 1 hst (obs_cons (ob_v rfl rfl (r_move (has_g 3 rfl (by kernel_rfl) (by kernel_rfl)))) (obs_cons (ob_v rfl rfl (r_move (has_g 0 rfl (by kernel_rfl) (by kernel_rfl)))) (obs_nil))) rfl (by kernel_rfl) rfl rfl (by decide) rfl (by decide) rfl (again_w hF hv0) Try.underlying53 e1 e2 e3 e4 e5 (by decide) (by simp only [List.length_nil, List.length_map]; omega) (by decide) (fun T hT => hT) (by decide) (map_n fun _ => rfl) (by kernel_rfl) (Nat.le_of_ble_eq_true (by kernel_rfl)) (Nat.le_of_ble_eq_true (by kernel_rfl)) (by kernel_rfl) (by kernel_rfl) (fun a w hst => ?_)
  have hst : St B w0 12 [(5, _), (1, _), (4, _)] [] a w := hst
  refine thn_normal ?_
  refine wp_seq ?_
  refine go_appL (sp := [.val 9 _, .val 10 _, .val 11 VT, .val 4 VT]) 2 [] 0 1 hst (obs_cons (ob_v rfl rfl (r_move (has_g 0 rfl (by kernel_rfl) (by kernel_rfl)))) (obs_cons (ob_v rfl rfl (r_move (has_g 1 rfl (by kernel_rfl) (by kernel_rfl)))) (obs_nil))) rfl (by kernel_rfl) rfl rfl (by decide) rfl (by decide) rfl (again_w hF hv1) Try.underlying53 e1 e2 e3 e4 e5 (by decide) (by simp only [List.nil_append, List.length_map]; omega) (by decide) (fun T hT => hT) (by decide) (map_n fun _ => rfl) (by kernel_rfl) (Nat.le_of_ble_eq_true (by kernel_rfl)) (Nat.le_of_ble_eq_true (by kernel_rfl)) (by kernel_rfl) (by kernel_rfl) (fun a w hst => ?_)
  have hst : St B w0 12 [(4, _)] [] a w := hst
  refine thn_normal ?_
  refine wp_ret ?_
  refine ret_wk ?_ (ret_tmp rfl hst (List.mem_of_getElem? (i := 0) rfl))
  rw [List.map_append]; exact own_sl

set_option maxRecDepth 100000 in
theorem small10_c {p q : Int} (hp : -9223372036854775808 ≤ p) (hp1 : p < 9223372036854775808) (hq0 : -9223372036854775808 ≤ q) (hq1 : q < 9223372036854775808) (hq : q ≠ 0) : Cn Try.prog 96 [In p, In q] ((RFA (rfOf (Rat.divInt p q))).va) := by
  refine Cn.intro Try.func96 rfl (by kernel_rfl) (Nat.le_of_ble_eq_true (by kernel_rfl)) (fun B w0 a hst => ?_)
  have hst : St B w0 17 [(0, In p), (1, In q)] [] a w0.w := hst
  refine wp_seq ?_
  refine go_lin (sts := []) (news := [⟨4, 26, ptrH, some 0, _, none⟩]) (sp := [.alc 0]) [.g 0, .g 1] hst (obs_cons (ob_alc rfl rfl rfl (Str.zero str_frac)) (obs_nil)) (by kernel_rfl) (by kernel_rfl) (by kernel_rfl) (fun a w hst => ?_)
  have hst : St B w0 17 [(0, _), (1, _)] [⟨4, 26, ptrH, _⟩] a w := hst
  refine thn_normal ?_
  refine wp_seq ?_
  refine go_lin (sts := [none]) (news := [⟨5, 26, ptrH, some 6, _, some (7, _)⟩]) (sp := [.val 8 _, .val 9 _, .val 10 _, .val 7 _, .val 11 _, .val 12 _, .alc 1, .sto 1, .val 6 _]) [.o 8] hst (obs_cons (ob_v rfl rfl (r_move (has_g 0 rfl (by kernel_rfl) (by kernel_rfl)))) (obs_cons (ob_v rfl rfl (r_move (has_g 1 rfl (by kernel_rfl) (by kernel_rfl)))) (obs_cons (ob_v rfl rfl (r_call (xs := [.tmp 8, .tmp 9]) (ofQ_c hp hp1 hq0 hq1 hq) (.cons (has_v 0 rfl (by kernel_rfl) (by kernel_rfl)) (.cons (has_v 1 rfl (by kernel_rfl) (by kernel_rfl)) .nil)))) (obs_cons (ob_v rfl rfl (r_move (has_v 2 rfl (by kernel_rfl) (by kernel_rfl)))) (obs_cons (ob_v rfl rfl (r_ex0 (has_v 3 rfl (by kernel_rfl) (by kernel_rfl)))) (obs_cons (ob_v rfl rfl (r_ex1 (has_v 3 rfl (by kernel_rfl) (by kernel_rfl)))) (obs_cons (ob_alc rfl rfl rfl (Str.zero str_frac)) (obs_cons (ob_sto rfl rfl rfl (has_v 4 rfl (by kernel_rfl) (by kernel_rfl)) ty_26 (Eq.trans (b := 4) rfl rfl)) (obs_cons (ob_v rfl rfl (r_assign (has_v 5 rfl (by kernel_rfl) (by kernel_rfl)))) (obs_nil)))))))))) (by kernel_rfl) (by kernel_rfl) (by kernel_rfl) (fun a w hst => ?_)
  have hst : St B w0 17 [(6, _)] [⟨4, 26, ptrH, _⟩, ⟨5, 26, ptrH, _⟩] a w := hst
  refine thn_normal ?_
  refine wp_seq ?_
  refine wp_seq ?_
  refine go_lin (sts := [none, none]) (news := []) (sp := [.val 13 _, .val 14 _]) [.o 1] hst (obs_cons (ob_v rfl rfl (r_move (has_g 0 rfl (by kernel_rfl) (by kernel_rfl)))) (obs_cons (ob_v rfl rfl (r_neq (has_v 0 rfl (by kernel_rfl) (by kernel_rfl)) has_num)) (obs_nil))) (by kernel_rfl) (by kernel_rfl) (by kernel_rfl) (fun a w hst => ?_)
  have hst : St B w0 17 [(14, _)] [⟨4, 26, ptrH, _⟩, ⟨5, 26, ptrH, _⟩] a w := hst
  refine thn_normal ?_
  refine cond_of hst (List.mem_of_getElem? (i := 0) rfl) (fun hb0 => ?_) (fun hb0 => ?_)
  · simp at hb0
  · refine wp_skip ?_
    refine thn_normal ?_
    refine wp_seq ?_
    refine go_lin (sts := [some (1, _), none]) (news := []) (sp := [.val 16 _, .sto 0]) [] hst (obs_cons (ob_v rfl rfl (r_load (loc_at0 1 rfl (by kernel_rfl)) ty_26)) (obs_cons (ob_sto rfl rfl rfl (has_v 0 rfl (by kernel_rfl) (by kernel_rfl)) ty_26 (Eq.trans (b := 4) rfl rfl)) (obs_nil))) (by kernel_rfl) (by kernel_rfl) (by kernel_rfl) (fun a w hst => ?_)
    have hst : St B w0 17 [] [⟨4, 26, ptrH, _⟩, ⟨5, 26, ptrH, _⟩] a w := hst
    refine thn_normal ?_
    refine wp_ret ?_
    refine ret_wk ?_ (ret_cell rfl hst (List.mem_of_getElem? (i := 0) rfl) ty_26)
    exact wk_id

def fiF (xs ys : List RE) : Bool := (((!bydF 0 [elsF (xs.length : Nat) xs, elsF (ys.length : Nat) ys]) && decide (IntKind.i64.wrap ((xs.length : Int) + (ys.length : Int)) ≤ 4096)) && (chF xs == 0)) && (chF ys == 0)
theorem fi_ok {xs ys : List RE} (h : fiF xs ys = true) : chF xs = 0 ∧ chF ys = 0 ∧ xs.length + ys.length ≤ 4096 := by
  unfold fiF at h
  simp only [Bool.and_eq_true, beq_iff_eq, decide_eq_true_eq] at h
  have h1 := (ch_ok h.1.2).1
  have h2 := (ch_ok h.2).1
  have h3 := h.1.1.2
  rw [wi64 (by omega) (by omega)] at h3
  exact ⟨h.1.2, h.2, by omega⟩

set_option maxRecDepth 100000 in
theorem fits10_c (xs ys : List RE) : Cn Try.prog 30 [(SlA 70 [U32] (xs.map REA)).va, (SlA 70 [U32] (ys.map REA)).va] (Bo (fiF xs ys)) := by
  refine Cn.intro Try.func30 rfl (by kernel_rfl) (Nat.le_of_ble_eq_true (by kernel_rfl)) (fun B w0 a hst => ?_)
  have hst : St B w0 30 [(0, (SlA 70 [U32] (xs.map REA)).va), (1, (SlA 70 [U32] (ys.map REA)).va)] [] a w0.w := hst
  refine wp_seq ?_
  refine go_lin (sts := []) (news := []) (sp := [.val 4 _]) [.g 0, .g 1, .o 0] hst (obs_cons (ob_v rfl rfl (r_assign has_bo)) (obs_nil)) (by kernel_rfl) (by kernel_rfl) (by kernel_rfl) (fun a w hst => ?_)
  have hst : St B w0 30 [(0, _), (1, _), (4, _)] [] a w := hst
  refine thn_normal ?_
  refine wp_seq ?_
  refine go_lin (sts := []) (news := []) (sp := ((.val 5 _ : Sp) :: (.val 6 _) :: (.val 7 _) :: (.val 8 _) :: (.val 9 _) :: (.val 10 _) :: (.val 11 _) :: (.val 12 _) :: (.val 13 (Wh (_ = true) _)) :: (.val 14 (Wh (_ = true) _)) :: (.val 15 (Wh (_ = true) _)) :: (.val 16 (Wh (_ = true) _)) :: (.val 17 (Wh (_ = true) _)) :: (.val 18 (Wh (_ = true) _)) :: (.val 19 _) :: (.val 20 _) :: (.val 21 (Wh (_ = true) _)) :: (.val 22 (Wh (_ = true) _)) :: (.val 23 (Wh (_ = true) _)) :: (.val 24 _) :: (.val 25 _) :: (.val 26 (Wh (_ = true) _)) :: (.val 27 (Wh (_ = true) _)) :: (.val 28 (Wh (_ = true) _)) :: (.val 29 _) :: (.val 4 _) :: [])) [.o 25] hst (obs_cons (ob_v rfl rfl (r_move (has_g 0 rfl (by kernel_rfl) (by kernel_rfl)))) (obs_cons (ob_v rfl rfl (r_call (xs := [.tmp 5]) (elsCost_c _) (.cons (has_v 0 rfl (by kernel_rfl) (by kernel_rfl)) .nil))) (obs_cons (ob_v rfl rfl (r_move (has_g 1 rfl (by kernel_rfl) (by kernel_rfl)))) (obs_cons (ob_v rfl rfl (r_call (xs := [.tmp 7]) (elsCost_c _) (.cons (has_v 2 rfl (by kernel_rfl) (by kernel_rfl)) .nil))) (obs_cons (ob_v rfl rfl (r_slice (D := []) (l := [_, _]) (xs := [.tmp 6, .tmp 8]) (nd_ok (by kernel_rfl)) sl_135 (by kernel_rfl) (n_ok (by kernel_rfl)) (Nat.le_of_ble_eq_true (by kernel_rfl)) (Nat.le_of_ble_eq_true (by kernel_rfl)) (Nat.le_of_ble_eq_true (by kernel_rfl)) (.cons (has_v 1 rfl (by kernel_rfl) (by kernel_rfl)) (.cons (has_v 3 rfl (by kernel_rfl) (by kernel_rfl)) .nil)) rfl rfl)) (obs_cons (ob_v rfl rfl (r_call (xs := [.tmp 9]) (beyond_c [_, _]) (.cons (has_v 4 rfl (by kernel_rfl) (by kernel_rfl)) .nil))) (obs_cons (ob_v rfl rfl (r_not (has_v 5 rfl (by kernel_rfl) (by kernel_rfl)))) (obs_cons (ob_v rfl rfl (r_move (has_v 6 rfl (by kernel_rfl) (by kernel_rfl)))) (obs_cons (ob_gd rfl rfl rfl (has_v 7 rfl (by kernel_rfl) (by kernel_rfl)) (Nat.le_of_ble_eq_true (by kernel_rfl)) (fun hg => r_move (has_g 0 rfl (by kernel_rfl) (by kernel_rfl)))) (obs_cons (ob_gd rfl rfl rfl (has_v 7 rfl (by kernel_rfl) (by kernel_rfl)) (Nat.le_of_ble_eq_true (by kernel_rfl)) (fun hg => r_len Try.underlying53 (has_wh (has_v 8 rfl (by kernel_rfl) (by kernel_rfl)) hg))) (obs_cons (ob_gd rfl rfl rfl (has_v 7 rfl (by kernel_rfl) (by kernel_rfl)) (Nat.le_of_ble_eq_true (by kernel_rfl)) (fun hg => r_move (has_g 1 rfl (by kernel_rfl) (by kernel_rfl)))) (obs_cons (ob_gd rfl rfl rfl (has_v 7 rfl (by kernel_rfl) (by kernel_rfl)) (Nat.le_of_ble_eq_true (by kernel_rfl)) (fun hg => r_len Try.underlying53 (has_wh (has_v 10 rfl (by kernel_rfl) (by kernel_rfl)) hg))) (obs_cons (ob_gd rfl rfl rfl (has_v 7 rfl (by kernel_rfl) (by kernel_rfl)) (Nat.le_of_ble_eq_true (by kernel_rfl)) (fun hg => r_add (has_wh (has_v 9 rfl (by kernel_rfl) (by kernel_rfl)) hg) (has_wh (has_v 11 rfl (by kernel_rfl) (by kernel_rfl)) hg) (rfl))) (obs_cons (ob_gd rfl rfl rfl (has_v 7 rfl (by kernel_rfl) (by kernel_rfl)) (Nat.le_of_ble_eq_true (by kernel_rfl)) (fun hg => r_leq (has_wh (has_v 12 rfl (by kernel_rfl) (by kernel_rfl)) hg) has_num)) (obs_cons (ob_v rfl rfl (r_and (has_v 7 rfl (by kernel_rfl) (by kernel_rfl)) (has_v 13 rfl (by kernel_rfl) (by kernel_rfl)))) (obs_cons (ob_v rfl rfl (r_move (has_v 14 rfl (by kernel_rfl) (by kernel_rfl)))) (obs_cons (ob_gd rfl rfl rfl (has_v 15 rfl (by kernel_rfl) (by kernel_rfl)) (Nat.le_of_ble_eq_true (by kernel_rfl)) (fun hg => r_move (has_g 0 rfl (by kernel_rfl) (by kernel_rfl)))) (obs_cons (ob_gd rfl rfl rfl (has_v 15 rfl (by kernel_rfl) (by kernel_rfl)) (Nat.le_of_ble_eq_true (by kernel_rfl)) (fun hg => r_call (xs := [.tmp 21]) (benCheck_c _) (.cons (has_wh (has_v 16 rfl (by kernel_rfl) (by kernel_rfl)) hg) .nil))) (obs_cons (ob_gd rfl rfl rfl (has_v 15 rfl (by kernel_rfl) (by kernel_rfl)) (Nat.le_of_ble_eq_true (by kernel_rfl)) (fun hg => r_eql (has_wh (has_v 17 rfl (by kernel_rfl) (by kernel_rfl)) hg) has_num)) (obs_cons (ob_v rfl rfl (r_and (has_v 15 rfl (by kernel_rfl) (by kernel_rfl)) (has_v 18 rfl (by kernel_rfl) (by kernel_rfl)))) (obs_cons (ob_v rfl rfl (r_move (has_v 19 rfl (by kernel_rfl) (by kernel_rfl)))) (obs_cons (ob_gd rfl rfl rfl (has_v 20 rfl (by kernel_rfl) (by kernel_rfl)) (Nat.le_of_ble_eq_true (by kernel_rfl)) (fun hg => r_move (has_g 1 rfl (by kernel_rfl) (by kernel_rfl)))) (obs_cons (ob_gd rfl rfl rfl (has_v 20 rfl (by kernel_rfl) (by kernel_rfl)) (Nat.le_of_ble_eq_true (by kernel_rfl)) (fun hg => r_call (xs := [.tmp 26]) (benCheck_c _) (.cons (has_wh (has_v 21 rfl (by kernel_rfl) (by kernel_rfl)) hg) .nil))) (obs_cons (ob_gd rfl rfl rfl (has_v 20 rfl (by kernel_rfl) (by kernel_rfl)) (Nat.le_of_ble_eq_true (by kernel_rfl)) (fun hg => r_eql (has_wh (has_v 22 rfl (by kernel_rfl) (by kernel_rfl)) hg) has_num)) (obs_cons (ob_v rfl rfl (r_and (has_v 20 rfl (by kernel_rfl) (by kernel_rfl)) (has_v 23 rfl (by kernel_rfl) (by kernel_rfl)))) (obs_cons (ob_v rfl rfl (r_assign (has_v 24 rfl (by kernel_rfl) (by kernel_rfl)))) (obs_nil))))))))))))))))))))))))))) (by kernel_rfl) (by kernel_rfl) (by kernel_rfl) (fun a w hst => ?_)
  have hst : St B w0 30 [(4, _)] [] a w := hst
  refine thn_normal ?_
  refine wp_ret ?_
  refine ret_wk ?_ (ret_tmp rfl hst (List.mem_of_getElem? (i := 0) rfl))
  simp only [List.length_map]; exact wk_id

theorem nil_el : Cn Try.prog 31 [EqV (.slice none 0 0)] (MR (benF [])) := (benMatrix_c []).wk (.cons nil_sl .nil)

set_option maxRecDepth 100000 in
set_option maxHeartbeats 4000000 in
theorem alive10_c  : Cn Try.prog 29 [] (Bo true) := by
  refine Cn.intro Try.func29 rfl (by kernel_rfl) (Nat.le_of_ble_eq_true (by kernel_rfl)) (fun B w0 a hst => ?_)
  have hst : St B w0 48 [] [] a w0.w := hst
  refine wp_seq ?_
  refine go_lin (sts := []) (news := []) (sp := [.val 0 _]) [.o 0] hst (obs_cons (ob_v rfl rfl (r_assign has_bo)) (obs_nil)) (by kernel_rfl) (by kernel_rfl) (by kernel_rfl) (fun a w hst => ?_)
  have hst : St B w0 48 [(0, _)] [] a w := hst
  refine thn_normal ?_
  refine wp_seq ?_
  refine go_lin (sts := []) (news := []) (sp := [.val 6 _, .val 7 _, .val 8 _, .val 9 _, .val 10 _, .val 11 _, .val 12 _, .val 1 _]) [.g 0, .o 7] hst (obs_cons (ob_v rfl rfl (r_call (xs := [.const (.int .i64 (1)), .const (.int .i64 (2))]) (small10_c (by decide) (by decide) (by decide) (by decide) (by decide)) (.cons has_num (.cons has_num .nil)))) (obs_cons (ob_v rfl rfl (r_call (xs := [.const (.int .i64 (0)), .const (.int .i64 (1))]) (small10_c (by decide) (by decide) (by decide) (by decide) (by decide)) (.cons has_num (.cons has_num .nil)))) (obs_cons (ob_v rfl rfl (r_build (xs := [(0, .const (.int .u8 (1))), (1, .tmp 6), (2, .tmp 7)]) (qs := [(0, _), (1, _), (2, _)]) str_elem (.cons ⟨rfl, has_num, rfl⟩ (.cons ⟨rfl, (has_v 0 rfl (by kernel_rfl) (by kernel_rfl)), rfl⟩ (.cons ⟨rfl, (has_v 1 rfl (by kernel_rfl) (by kernel_rfl)), rfl⟩ .nil))))) (obs_cons (ob_v rfl rfl (r_call (xs := [.const (.int .i64 (2)), .const (.int .i64 (1))]) (small10_c (by decide) (by decide) (by decide) (by decide) (by decide)) (.cons has_num (.cons has_num .nil)))) (obs_cons (ob_v rfl rfl (r_call (xs := [.const (.int .i64 (0)), .const (.int .i64 (1))]) (small10_c (by decide) (by decide) (by decide) (by decide) (by decide)) (.cons has_num (.cons has_num .nil)))) (obs_cons (ob_v rfl rfl (r_build (xs := [(0, .const (.int .u8 (2))), (1, .tmp 9), (2, .tmp 10)]) (qs := [(0, _), (1, _), (2, _)]) str_elem (.cons ⟨rfl, has_num, rfl⟩ (.cons ⟨rfl, (has_v 3 rfl (by kernel_rfl) (by kernel_rfl)), rfl⟩ (.cons ⟨rfl, (has_v 4 rfl (by kernel_rfl) (by kernel_rfl)), rfl⟩ .nil))))) (obs_cons (ob_v rfl rfl (r_slice (D := [U32]) (l := [_, _]) (xs := [.tmp 8, .tmp 11]) (nd_ok (by kernel_rfl)) sl_53 (by kernel_rfl) (n_ok (by kernel_rfl)) (Nat.le_of_ble_eq_true (by kernel_rfl)) (Nat.le_of_ble_eq_true (by kernel_rfl)) (Nat.le_of_ble_eq_true (by kernel_rfl)) (.cons (has_v 2 rfl (by kernel_rfl) (by kernel_rfl)) (.cons (has_v 5 rfl (by kernel_rfl) (by kernel_rfl)) .nil)) rfl rfl)) (obs_cons (ob_v rfl rfl (r_assign (has_v 6 rfl (by kernel_rfl) (by kernel_rfl)))) (obs_nil))))))))) (by kernel_rfl) (by kernel_rfl) (by kernel_rfl) (fun a w hst => ?_)
  have hst : St B w0 48 [(0, _), (1, _)] [] a w := hst
  refine thn_normal ?_
  refine wp_seq ?_
  refine go_lin (sts := []) (news := [⟨2, 28, ptrH, some 5, _, some (6, _)⟩]) (sp := [.val 14 _, .val 15 _, .val 13 _, .val 16 _, .val 17 _, .alc 0, .sto 0, .val 3 _]) [.g 0, .o 7] hst (obs_cons (ob_v rfl rfl (r_move (has_g 1 rfl (by kernel_rfl) (by kernel_rfl)))) (obs_cons (ob_v rfl rfl (r_call (xs := [.tmp 14]) (benMatrix_c [⟨_, _, _⟩, ⟨_, _, _⟩]) (.cons (has_v 0 rfl (by kernel_rfl) (by kernel_rfl)) .nil))) (obs_cons (ob_v rfl rfl (r_move (has_v 1 rfl (by kernel_rfl) (by kernel_rfl)))) (obs_cons (ob_v rfl rfl (r_ex0 (has_v 2 rfl (by kernel_rfl) (by kernel_rfl)))) (obs_cons (ob_v rfl rfl (r_ex1 (has_v 2 rfl (by kernel_rfl) (by kernel_rfl)))) (obs_cons (ob_alc rfl rfl rfl (Str.zero str_matrix)) (obs_cons (ob_sto rfl rfl rfl (has_v 3 rfl (by kernel_rfl) (by kernel_rfl)) ty_28 (Eq.trans (b := 16) rfl rfl)) (obs_cons (ob_v rfl rfl (r_assign (has_v 4 rfl (by kernel_rfl) (by kernel_rfl)))) (obs_nil))))))))) (by kernel_rfl) (by kernel_rfl) (by kernel_rfl) (fun a w hst => ?_)
  have hst : St B w0 48 [(0, _), (3, _)] [⟨2, 28, ptrH, _⟩] a w := hst
  refine thn_normal ?_
  refine wp_seq ?_
  refine go_lin (sts := [none]) (news := [⟨4, 28, ptrH, some 4, _, some (5, _)⟩]) (sp := [.val 19 _, .val 18 _, .val 20 _, .val 21 _, .alc 1, .sto 1, .val 5 _]) [.g 0, .g 1, .o 6] hst (obs_cons (ob_v rfl rfl (r_call (xs := [.const (.slice none 0 0)]) nil_el (.cons has_const .nil))) (obs_cons (ob_v rfl rfl (r_move (has_v 0 rfl (by kernel_rfl) (by kernel_rfl)))) (obs_cons (ob_v rfl rfl (r_ex0 (has_v 1 rfl (by kernel_rfl) (by kernel_rfl)))) (obs_cons (ob_v rfl rfl (r_ex1 (has_v 1 rfl (by kernel_rfl) (by kernel_rfl)))) (obs_cons (ob_alc rfl rfl rfl (Str.zero str_matrix)) (obs_cons (ob_sto rfl rfl rfl (has_v 2 rfl (by kernel_rfl) (by kernel_rfl)) ty_28 (Eq.trans (b := 16) rfl rfl)) (obs_cons (ob_v rfl rfl (r_assign (has_v 3 rfl (by kernel_rfl) (by kernel_rfl)))) (obs_nil)))))))) (by kernel_rfl) (by kernel_rfl) (by kernel_rfl) (fun a w hst => ?_)
  have hst : St B w0 48 [(0, _), (3, _), (5, _)] [⟨2, 28, ptrH, _⟩, ⟨4, 28, ptrH, _⟩] a w := hst
  refine thn_normal ?_
  refine wp_seq ?_
  refine go_draw (anc := [[], [0], [0, 1], [0, 1, 2], [0, 1, 2, 3], [0, 1, 2, 3, 4], [0, 1, 2, 3, 4, 5], [0, 1, 2, 3, 4, 5, 6], [0, 1, 2, 3, 4, 5, 6, 7], [0, 1, 2, 3, 4, 5, 6, 7, 8], [0, 1, 2, 3, 4, 5, 6, 7, 8, 9], [0, 1, 2, 3, 4, 5, 6, 7, 8, 9, 10], [0, 1, 2, 3, 4, 5, 6, 7, 8, 9, 10, 11], [0, 1, 2, 3, 4, 5, 6, 7, 8, 9, 10, 11, 12], [0, 1, 2, 3, 4, 5, 6, 7, 8, 9, 10, 11, 12], [0, 1, 2, 3, 4, 5, 6, 7, 8, 9, 10, 11, 12, 14], [0, 1, 2, 3, 4, 5, 6, 7, 8, 9, 10, 11, 12, 14, 15], [0, 1, 2, 3, 4, 5, 6, 7, 8, 9, 10, 11, 12, 14, 15, 16], [0, 1, 2, 3, 4, 5, 6, 7, 8, 9, 10, 11, 12, 14, 15, 16, 17], [0, 1, 2, 3, 4, 5, 6, 7, 8, 9, 10, 11, 12, 13, 14, 15, 16, 17, 18], [0, 1, 2, 3, 4, 5, 6, 7, 8, 9, 10, 11, 12, 13, 14, 15, 16, 17, 18, 19], [0, 1, 2, 3, 4, 5, 6, 7, 8, 9, 10, 11, 12, 13, 14, 15, 16, 17, 18, 19, 20], [0, 1, 2, 3, 4, 5, 6, 7, 8, 9, 10, 11, 12, 13, 14, 15, 16, 17, 18, 19, 20, 21], [0, 1, 2, 3, 4, 5, 6, 7, 8, 9, 10, 11, 12, 13, 14, 15, 16, 17, 18, 19, 20, 21], [0, 1, 2, 3, 4, 5, 6, 7, 8, 9, 10, 11, 12, 13, 14, 15, 16, 17, 18, 19, 20, 21, 22, 23], [0, 1, 2, 3, 4, 5, 6, 7, 8, 9, 10, 11, 12, 13, 14, 15, 16, 17, 18, 19, 20, 21, 22, 23, 24], [0, 1, 2, 3, 4, 5, 6, 7, 8, 9, 10, 11, 12, 13, 14, 15, 16, 17, 18, 19, 20, 21, 22, 23, 24, 25]]) (sts := [none, none]) (news := []) (sp := ((.val 22 _ : Sp) :: (.val 23 _) :: (.val 24 _) :: (.val 25 (Wh (_ = true) _)) :: (.val 26 (Wh (_ = true) _)) :: (.val 27 _) :: (.val 28 _) :: (.val 29 (Wh (_ = true) _)) :: (.val 30 (Wh (_ = true) _)) :: (.val 31 (Wh (_ = true) _)) :: (.val 32 (Wh (_ = true) _)) :: (.val 33 _) :: (.val 34 _) :: (.val 35 (Wh (_ = true) _)) :: (.val 36 (Wh (_ = true) _)) :: (.val 37 (Wh (_ = true) _)) :: (.val 38 (Wh (_ = true) _)) :: (.val 39 (Wh (_ = true) _)) :: (.val 40 (Wh (_ = true) _)) :: (.val 41 (Wh (_ = true) _)) :: (.val 42 _) :: (.val 43 _) :: (.val 44 (Wh (_ = true) _)) :: (.val 45 (Wh (_ = true) _)) :: (.val 46 (Wh (_ = true) _)) :: (.val 47 _) :: (.val 0 _) :: [])) [.o 26] follows_mixed hst (obs_cons (ob_v rfl rfl (r_move (has_g 1 rfl (by kernel_rfl) (by kernel_rfl)))) (obs_cons (ob_v rfl rfl (r_eql (has_v 0 rfl (by kernel_rfl) (by kernel_rfl)) has_num)) (obs_cons (ob_v rfl rfl (r_move (has_v 1 rfl (by kernel_rfl) (by kernel_rfl)))) (obs_cons (ob_gd rfl rfl rfl (has_v 2 rfl (by kernel_rfl) (by kernel_rfl)) (Nat.le_of_ble_eq_true (by kernel_rfl)) (fun hg => r_move (has_g 2 rfl (by kernel_rfl) (by kernel_rfl)))) (obs_cons (ob_gd rfl rfl rfl (has_v 2 rfl (by kernel_rfl) (by kernel_rfl)) (Nat.le_of_ble_eq_true (by kernel_rfl)) (fun hg => r_eql (has_wh (has_v 3 rfl (by kernel_rfl) (by kernel_rfl)) hg) has_num)) (obs_cons (ob_v rfl rfl (r_and (has_v 2 rfl (by kernel_rfl) (by kernel_rfl)) (has_v 4 rfl (by kernel_rfl) (by kernel_rfl)))) (obs_cons (ob_v rfl rfl (r_move (has_v 5 rfl (by kernel_rfl) (by kernel_rfl)))) (obs_cons (ob_gd rfl rfl rfl (has_v 6 rfl (by kernel_rfl) (by kernel_rfl)) (Nat.le_of_ble_eq_true (by kernel_rfl)) (fun hg => r_build (xs := []) (qs := []) str_elem .nil)) (obs_cons (ob_gd rfl rfl rfl (has_v 6 rfl (by kernel_rfl) (by kernel_rfl)) (Nat.le_of_ble_eq_true (by kernel_rfl)) (fun hg => r_slice (D := [U32]) (l := [_]) (xs := [.tmp 29]) (nd_ok (by kernel_rfl)) sl_53 (by kernel_rfl) (n_ok (by kernel_rfl)) (Nat.le_of_ble_eq_true (by kernel_rfl)) (Nat.le_of_ble_eq_true (by kernel_rfl)) (Nat.le_of_ble_eq_true (by kernel_rfl)) (.cons (has_wh (has_v 7 rfl (by kernel_rfl) (by kernel_rfl)) hg) .nil) rfl rfl)) (obs_cons (ob_gd rfl rfl rfl (has_v 6 rfl (by kernel_rfl) (by kernel_rfl)) (Nat.le_of_ble_eq_true (by kernel_rfl)) (fun hg => r_call (xs := [.tmp 30]) (benCheck_c [re0]) (.cons (has_wh (has_v 8 rfl (by kernel_rfl) (by kernel_rfl)) hg) .nil))) (obs_cons (ob_gd rfl rfl rfl (has_v 6 rfl (by kernel_rfl) (by kernel_rfl)) (Nat.le_of_ble_eq_true (by kernel_rfl)) (fun hg => r_eql (has_wh (has_v 9 rfl (by kernel_rfl) (by kernel_rfl)) hg) has_num)) (obs_cons (ob_v rfl rfl (r_and (has_v 6 rfl (by kernel_rfl) (by kernel_rfl)) (has_v 10 rfl (by kernel_rfl) (by kernel_rfl)))) (obs_cons (ob_v rfl rfl (r_move (has_v 11 rfl (by kernel_rfl) (by kernel_rfl)))) (obs_cons (ob_gd rfl rfl rfl (has_v 12 rfl (by kernel_rfl) (by kernel_rfl)) (Nat.le_of_ble_eq_true (by kernel_rfl)) (fun hg => r_load (loc_at0 0 rfl (by kernel_rfl)) ty_28)) (obs_cons (ob_gd rfl rfl rfl (has_v 12 rfl (by kernel_rfl) (by kernel_rfl)) (Nat.le_of_ble_eq_true (by kernel_rfl)) (fun hg => r_call (xs := [.const (.int .i64 (1)), .const (.int .i64 (1))]) (small10_c (by decide) (by decide) (by decide) (by decide) (by decide)) (.cons has_num (.cons has_num .nil)))) (obs_cons (ob_gd rfl rfl rfl (has_v 12 rfl (by kernel_rfl) (by kernel_rfl)) (Nat.le_of_ble_eq_true (by kernel_rfl)) (fun hg => r_call (xs := [.const (.int .i64 (1)), .const (.int .i64 (2))]) (small10_c (by decide) (by decide) (by decide) (by decide) (by decide)) (.cons has_num (.cons has_num .nil)))) (obs_cons (ob_gd rfl rfl rfl (has_v 12 rfl (by kernel_rfl) (by kernel_rfl)) (Nat.le_of_ble_eq_true (by kernel_rfl)) (fun hg => r_call (xs := [.const (.int .i64 (-2)), .const (.int .i64 (1))]) (small10_c (by decide) (by decide) (by decide) (by decide) (by decide)) (.cons has_num (.cons has_num .nil)))) (obs_cons (ob_gd rfl rfl rfl (has_v 12 rfl (by kernel_rfl) (by kernel_rfl)) (Nat.le_of_ble_eq_true (by kernel_rfl)) (fun hg => r_call (xs := [.const (.int .i64 (0)), .const (.int .i64 (1))]) (small10_c (by decide) (by decide) (by decide) (by decide) (by decide)) (.cons has_num (.cons has_num .nil)))) (obs_cons (ob_gd rfl rfl rfl (has_v 12 rfl (by kernel_rfl) (by kernel_rfl)) (Nat.le_of_ble_eq_true (by kernel_rfl)) (fun hg => r_build (xs := [(0, .tmp 36), (1, .tmp 37), (2, .tmp 38), (3, .tmp 39)]) (qs := [(0, _), (1, _), (2, _), (3, _)]) str_matrix (.cons ⟨rfl, (has_wh (has_v 14 rfl (by kernel_rfl) (by kernel_rfl)) hg), rfl⟩ (.cons ⟨rfl, (has_wh (has_v 15 rfl (by kernel_rfl) (by kernel_rfl)) hg), rfl⟩ (.cons ⟨rfl, (has_wh (has_v 16 rfl (by kernel_rfl) (by kernel_rfl)) hg), rfl⟩ (.cons ⟨rfl, (has_wh (has_v 17 rfl (by kernel_rfl) (by kernel_rfl)) hg), rfl⟩ .nil)))))) (obs_cons (ob_gd rfl rfl rfl (has_v 12 rfl (by kernel_rfl) (by kernel_rfl)) (Nat.le_of_ble_eq_true (by kernel_rfl)) (fun hg => r_call (xs := [.tmp 35, .tmp 40]) (sameMatrix_c _ ⟨_, _, _, _⟩) (.cons (has_wh (has_v 13 rfl (by kernel_rfl) (by kernel_rfl)) hg) (.cons (has_wh (has_v 18 rfl (by kernel_rfl) (by kernel_rfl)) hg) .nil)))) (obs_cons (ob_v rfl rfl (r_and (has_v 12 rfl (by kernel_rfl) (by kernel_rfl)) (has_v 19 rfl (by kernel_rfl) (by kernel_rfl)))) (obs_cons (ob_v rfl rfl (r_move (has_v 20 rfl (by kernel_rfl) (by kernel_rfl)))) (obs_cons (ob_gd rfl rfl rfl (has_v 21 rfl (by kernel_rfl) (by kernel_rfl)) (Nat.le_of_ble_eq_true (by kernel_rfl)) (fun hg => r_load (loc_at0 1 rfl (by kernel_rfl)) ty_28)) (obs_cons (ob_gd rfl rfl rfl (has_v 21 rfl (by kernel_rfl) (by kernel_rfl)) (Nat.le_of_ble_eq_true (by kernel_rfl)) (fun hg => r_call (xs := []) (one09_q.wkp qmA.va) .nil)) (obs_cons (ob_gd rfl rfl rfl (has_v 21 rfl (by kernel_rfl) (by kernel_rfl)) (Nat.le_of_ble_eq_true (by kernel_rfl)) (fun hg => r_call (xs := [.tmp 44, .tmp 45]) (sameMatrix_c _ _) (.cons (has_wh (has_v 22 rfl (by kernel_rfl) (by kernel_rfl)) hg) (.cons (has_wh (has_v 23 rfl (by kernel_rfl) (by kernel_rfl)) hg) .nil)))) (obs_cons (ob_v rfl rfl (r_and (has_v 21 rfl (by kernel_rfl) (by kernel_rfl)) (has_v 24 rfl (by kernel_rfl) (by kernel_rfl)))) (obs_cons (ob_v rfl rfl (r_assign (has_v 25 rfl (by kernel_rfl) (by kernel_rfl)))) (obs_nil)))))))))))))))))))))))))))) (by kernel_rfl) (by kernel_rfl) (by kernel_rfl) (by kernel_rfl) (fun a w hst => ?_)
  have hst : St B w0 48 [(0, _)] [⟨2, 28, ptrH, _⟩, ⟨4, 28, ptrH, _⟩] a w := hst
  refine thn_normal ?_
  refine wp_ret ?_
  refine ret_wk ?_ (ret_tmp rfl hst (List.mem_of_getElem? (i := 0) rfl))
  exact wk_eq (congrArg Bo (by kernel_rfl))

end Go.Proofs.Ytgjolcbehcjhcaa
