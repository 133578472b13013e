/- Rows apart from an iterator's own variables; a store beside such rows; orbit.walk: a pair; the iterator. -/
import Derived.Test.YtmghfjcjcfaagaaGreatOrbA
import Derived.Laws.AppendOwn
import Derived.Laws.OwnMore
import Derived.Orders
import Derived.Great.BuildSlice
namespace Go.Proofs.YtmghfjcjcfaagaaGreat
open Go Go.RowKit
namespace OrbB
theorem sl_126 : Sl Tryz.prog 126 24 2 := ⟨by kernel_rfl, by kernel_rfl⟩
theorem ty_126 : Ty Tryz.prog 126 1 false := ⟨by kernel_rfl, by kernel_rfl⟩
theorem ty_24 : Ty Tryz.prog 24 2 true := ⟨by kernel_rfl, by kernel_rfl⟩
theorem ty_78 : Ty Tryz.prog 78 4 true := ⟨by kernel_rfl, by kernel_rfl⟩
theorem ty_79 : Ty Tryz.prog 79 1 false := ⟨by kernel_rfl, by kernel_rfl⟩
end OrbB
open OrbB
/-- a row that lies in none of the blocks gs. -/
def SlN (gs : List Nat) (E : TypeId) (D : List TypeId) (l : List As) : As where
  n := 1
  ag := false
  p B cs w := (SlA E D l).p B cs w ∧ ∀ v ∈ cs, ∀ g, blk v = some g → g ∉ gs
  deps := E :: D
  len := fun B cs w h => (SlA E D l).len B cs w h.1
  one := fun B cs w h => (SlA E D l).one B cs w h.1
  ag1 := fun _ => rfl
  cg := fun B cs w w' hg h => ⟨(SlA E D l).cg B cs w w' hg h.1, h.2⟩
  wr := fun B cs w w' g c T fz h1 h2 h3 h4 h => ⟨(SlA E D l).wr B cs w w' g c T fz h1 h2 h3 h4 h.1, h.2⟩
theorem slN_sl {gs : List Nat} {E : TypeId} {D : List TypeId} {l : List As} : Wk (SlN gs E D l).va (SlA E D l).va := fun _ _ _ ⟨cs, h, e⟩ => ⟨cs, h.1, e⟩
theorem has_sln {R : Rg} {B i : Nat} {w0 : Bs} {x : Operand} {gs : List Nat} {E : TypeId} {D : List TypeId} {l : List As} (h : Has R B w0 i x (SlN gs E D l).va) : Has R B w0 i x (SlA E D l).va := fun a w av => slN_sl _ _ _ (h a w av)
/-- a write to one of the blocks gs. -/
theorem slN_wr {gs : List Nat} {E T : TypeId} {D : List TypeId} {l : List As} {B g : Nat} {cs : List Value} {w w' : World} {c : Array Value} {fz : Nat × Nat} (h : (SlN gs E D l).p B cs w) (hg : g ∈ gs) (hc : w.heap[g]? = some (.cells c T fz)) (hT : T ∉ D) (hB : B ≤ g) (hW : Wr g w w') : (SlN gs E D l).p B cs w' := by
  obtain ⟨⟨hD, A, cp, ds, rfl, h1, h2, h3, h4⟩, hn⟩ := h
  refine ⟨⟨hD, A, cp, ds, rfl, h1, h2, (cat l).wr _ _ _ _ _ _ _ _ hc (cat_nd hD hT) hB hW h3, fun h0 => ?_⟩, hn⟩
  obtain ⟨b, o, rfl, h6, h7, h8⟩ := h4 h0
  have hne : b ≠ g := fun e => hn _ (List.mem_singleton.2 rfl) b rfl (e ▸ hg)
  refine ⟨b, o, rfl, by rw [hW.size]; exact h6, ?_, fun j v hv => ?_⟩
  · rcases h7 with h7 | ⟨c', fz', h7⟩
    · exact .inl h7
    · exact .inr ⟨c', fz', (hW.block b hne).trans h7⟩
  · rw [← h8 j v hv]
    simp only [World.cell?, hW.block b hne]
section
variable {P : Program} {R : Rg} {Q : Exit → Act → World → Prop} {B i : Nat} {w0 : Bs}
/-- a call of a function value that has captured one pointer. -/
theorem r_callF1 {c s : Nat} {g : Nat} {f : FuncId} {xs : List Operand} {As' : List VA} {A PT : VA} {at_ : Array TypeId} (hc : Cn P f (As' ++ [PT]) A) (hv : Has R B w0 i (.tmp c) (EqA (.func (.func f) #[] #[ptr g])).va) (hs : Has R B w0 i (.tmp s) (EqV (ptr g))) (hp : Has R B w0 i (.tmp s) PT) (hx : HasL R B w0 i xs As') : Wv P Q R B w0 i (.call ⟨.value (.tmp c), xs.toArray, at_⟩) A := by
  intro d T ps af gd a w av K hK
  obtain ⟨⟨fn, hf, hn, hb⟩, hcall⟩ := hc
  have ev : a.eval (.tmp c) = .func (.func f) #[] #[ptr g] := eqA_va (hv a w av)
  have es : a.eval (.tmp s) = ptr g := hs a w av
  have hrun : (execOp a.eval ⟨some d, .call ⟨.value (.tmp c), xs.toArray, at_⟩, T, ps, af, gd⟩).run P w = .ok (.enter f (xs.map a.eval ++ [ptr g]).toArray) w := by
    simp only [execOp, resolve, ev, Deferred.ofValue, Sem.run_bind, Sem.run_pure, Result.andThen_ok, invoke, run_callFunc hf hn hb]
    simp
  have hall : All2 (fun (A : VA) v => A.p B v w) (As' ++ [PT]) (xs.map a.eval ++ [ptr g]) := by
    have h1 := hx.all av
    have h2 : PT.p B (ptr g) w := by rw [← es]; exact hp a w av
    clear hcall hx hrun
    generalize xs.map a.eval = vs at *
    induction h1 with
    | nil => exact .cons h2 .nil
    | cons h _ ih => exact .cons h ih
  unfold Oper.wp
  rw [hrun]
  exact (hcall B w _ (Av.bw av) hall).mono fun e w' ⟨v, he, hv, hg⟩ => by subst he; exact hK v w' hg hv
end

section
variable {P : Program} {R : Rg} {Q : Exit → Act → World → Prop} {B i : Nat} {w0 : Bs}
theorem r_sliceX {gs : List Nat} {S E : TypeId} {D : List TypeId} {l : List As} {m : Nat} {xs : List Operand} (hgs : ∀ g ∈ gs, g < w0.w.heap.size) (hD : ∀ A ∈ l, ∀ T ∈ A.deps, T ∈ D) (hS : Sl P S E m) (hz : ((P.info? E).bind (·.zero)).isSome = true) (hm : ∀ A ∈ l, A.n = m) (hm0 : 0 < m) (hl0 : 0 < l.length) (hsmall : l.length * m ≤ 16777216)
    (hx : All2 (fun (A : As) x => Has R B w0 i x A.va) l xs) {ps' : Array (Nat × Operand)} (hps : ps'.toList = (xs.zipIdx 0).map fun x => (x.2, x.1)) {n : Nat} (hn : n = l.length) : Wv P Q R B w0 i (.buildSlice S n ps') (SlN gs E D l).va :=
  wv_run fun d T ps af gd a w av => by
    subst hn
    obtain ⟨hs1, hs2⟩ := hS
    cases hi : P.info? E with
    | none => rw [hi] at hs2; simp at hs2
    | some it =>
      rw [hi] at hs2 hz
      have hsz : it.size = m := by simpa using hs2
      obtain ⟨z, hzz⟩ := Option.isSome_iff_exists.1 hz
      simp only [Option.bind_some] at hzz
      have hvs : All2 (fun (A : As) v => A.va.p B v w) l (xs.map a.eval) := by
        clear hps hm hl0 hsmall hD
        induction hx with
        | nil => exact .nil
        | cons h _ ih => exact .cons (h a w av) ih
      have hlen := hvs.length
      have hvn : ∀ v ∈ xs.map a.eval, v.cells.size = m := by
        intro v hv
        obtain ⟨k, hk⟩ := List.getElem?_of_mem hv
        have hkl : k < l.length := by rw [hlen]; exact (List.getElem?_eq_some_iff.1 hk).1
        obtain ⟨v', hv', cs, hp, he⟩ := hvs.get (List.getElem?_eq_getElem hkl)
        rw [hk] at hv'
        injection hv' with hv'
        subst hv'
        rw [he, As.cells_shape _ hp]
        have := As.len _ _ _ _ hp
        simp [this]
        exact hm _ (by simp)
      have hf := Great.fill_whole hm0 (xs.map a.eval) ((Array.range (l.length * m)).map (z.cells[· % z.cells.size]!)) hvn (by simp [hlen])
      have hrun := run_buildSlice (P := P) w S E l.length (ps'.map fun x => (x.1, a.eval x.2)) ((xs.map a.eval).flatMap fun v => v.cells.toList).toArray it z hs1 hi hzz (by rw [hsz]; omega) (by rw [hsz]; exact Nat.ne_of_gt (Nat.mul_pos hl0 hm0)) (by
        rw [hsz, ← hf]
        congr 1
        rw [Array.toList_map, hps]
        simp [List.zipIdx_map, List.map_map, Function.comp_def])
      refine ⟨.slice (some ⟨w.heap.size, 0, none⟩) l.length l.length, w.alloc (.cells ((xs.map a.eval).flatMap fun v => v.cells.toList).toArray E), ?_, Grow.alloc _ _, _, ⟨⟨hD, _, _, _, rfl, Nat.le_refl _, ?_, (cat l).grow _ _ _ _ (Grow.alloc _ _) (flatMap_va hvs), fun _ => ?_⟩, fun v hv g hg hm => ?_⟩, rfl⟩
      · simp [execOp, hrun]
      · have : l.length ≤ l.length * m := Nat.le_mul_of_pos_right _ hm0
        unfold maxLen
        omega
      · refine ⟨w.heap.size, 0, rfl, by simp, .inr ⟨_, _, heap_alloc_new w _⟩, fun j v hv => ?_⟩
        rw [Nat.zero_add, cell_of_row _ _ _ _ _ _ (heap_alloc_new w _)]
        simpa using hv
      · obtain rfl := List.mem_singleton.1 hv
        have e0 : w.heap.size = g := by simpa [blk] using hg
        have h1 := hgs g hm
        have h2 := av.base.size
        omega
end

/-- a pointer to a variable, and what that holds. -/
def CellV (T : TypeId) (A : As) : VA where
  p B v w := ∃ g cs, v = ptr g ∧ w.heap[g]? = some (.cells (List.toArray cs) T (0, 0)) ∧ A.p B cs w
  deps := T :: A.deps
  cg := fun B v w w' hg ⟨g, cs, e, h1, h2⟩ => ⟨g, cs, e, hg.heap h1, A.cg _ _ _ _ hg h2⟩
  wr := by
    rintro B v w w' g c T' fz hc hT hB hW ⟨g', cs, e, h1, h2⟩
    simp only [List.mem_cons, not_or] at hT
    refine ⟨g', cs, e, ?_, A.wr _ _ _ _ _ _ _ _ hc hT.2 hB hW h2⟩
    rw [hW.block g' (fun e => by subst e; rw [hc] at h1; injection h1 with h1; injection h1 with _ h1 _; exact hT.1 h1)]
    exact h1
/-- the names of variables, ahead of a region and behind. -/
def NmIx (G G2 : List (Nat × VA)) : List Lc → List (Nat × Nat) → Prop
  | [], [] => True
  | m :: ms, (x, y) :: ix => (∃ g, G[x]? = some (m.s, EqV (ptr g)) ∧ G2[y]? = some (m.s, EqV (ptr g))) ∧ NmIx G G2 ms ix
  | _, _ => False
theorem NmIx.eq {G G2 : List (Nat × VA)} {L : List Lc} {ix : List (Nat × Nat)} (h : NmIx G G2 L ix) {B N : Nat} {w0 : Bs} {L1 L2 : List Lc} {a a' : Act} {w w' : World} (h1 : St B w0 N G L1 a w) (h2 : St B w0 N G2 L2 a' w') : ∀ m ∈ L, a'.eval (.tmp m.s) = a.eval (.tmp m.s) := by
  induction L generalizing ix with
  | nil => intro m hm; cases hm
  | cons m L ih =>
    cases ix with
    | nil => exact h.elim
    | cons p ix =>
      obtain ⟨⟨g, e1, e2⟩, h3⟩ := h
      intro m' hm
      rcases List.mem_cons.1 hm with rfl | hm
      · have q1 : a.eval (.tmp m'.s) = ptr g := h1.vals _ (List.mem_of_getElem? e1)
        have q2 : a'.eval (.tmp m'.s) = ptr g := h2.vals _ (List.mem_of_getElem? e2)
        rw [q1, q2]
      · exact ih h3 m' hm
section
open Rg
variable {P : Program} {Q : Exit → Act → World → Prop} {B N : Nat} {w0 : Bs} {Γ : List (Nat × VA)} {Λ : List Lc} {a : Act} {w : World}
/-- some operations, then a store into a variable beside two rows that surely lie elsewhere. -/
theorem go_stXF {id : Nat} {ops : Array Oper} {o : Option Nat} {sp : List Sp} (n : Nat) (src : List Src) (kl : List Nat) (i1 i2 e kd k1 k2 ks : Nat) (src2 : List Nat) (ix : List (Nat × Nat)) {sx d gx s1 s2 : Nat} {T ty T' T1 T2 : TypeId} {A0 A A1 A2 : As} {ps : String} {af : Array Edge} (hnd : noDefer ops = true) (hQ0 : ¬ LetsOut Q)
    (h : St B w0 N Γ Λ a w) (hl1 : Λ[i1]? = some ⟨s1, T1, ptrH, A1⟩) (hl2 : Λ[i2]? = some ⟨s2, T2, ptrH, A2⟩)
    (hob : Obs P Q ⟨ops, N, Γ ++ [(s1, CellV T1 A1), (s2, CellV T2 A2)], lesS (kl.filterMap fun k => Λ[k]?) e n A, sp, fun i => List.range i⟩ B w0 0 n) (hsz : ops.size = n + 1) (hk : Rg.chk ⟨ops, N, Γ ++ [(s1, CellV T1 A1), (s2, CellV T2 A2)], lesS (kl.filterMap fun k => Λ[k]?) e n A, sp, fun i => List.range i⟩ = true)
    (hsrc : src.all (fun s => match s with | .g k => (match (Γ ++ [(s1, CellV T1 A1), (s2, CellV T2 A2)])[k]? with | some x => Rg.outG ⟨ops, N, Γ ++ [(s1, CellV T1 A1), (s2, CellV T2 A2)], lesS (kl.filterMap fun k => Λ[k]?) e n A, sp, fun i => List.range i⟩ x.1 | none => false) | .o i => decide (i < n)) = true)
    (ho : ops[n]? = some ⟨none, .store ty (.tmp sx) (.tmp d), T', ps, af, none⟩) {G2 : List (Nat × VA)} (hG2 : src.filterMap (takeS ⟨ops, N, Γ ++ [(s1, CellV T1 A1), (s2, CellV T2 A2)], lesS (kl.filterMap fun k => Λ[k]?) e n A, sp, fun i => List.range i⟩) = G2)
    (hd : G2[kd]? = some (d, A.va)) (hl : (kl.filterMap fun k => Λ[k]?)[e]? = some ⟨sx, T, ptrH, A0⟩) (ht : Ty P ty A.n A.ag) (hn : A0.n = A.n) (hT : A.deps.contains T = false)
    (hsrc2 : src2.all (fun k => match G2[k]? with | some y => !y.2.deps.contains T | none => false) = true) (hΛ : (kl.filterMap fun k => Λ[k]?).zipIdx.all (fun x => x.2 == e || (x.1.s != sx && !x.1.A.deps.contains T)) = true)
    (hks : G2[ks]? = some (sx, EqV (ptr gx))) (hk1 : G2[k1]? = some (s1, CellV T1 A1)) (hk2 : G2[k2]? = some (s2, CellV T2 A2)) (hix : NmIx Γ G2 Λ ix)
    (hs : (kl.filterMap fun k => Λ[k]?).all (fun m => m.s != s1 && m.s != s2) = true)
    (hr1 : ∀ cs w w' c fz, A1.p B cs w → w.heap[gx]? = some (.cells c T fz) → B ≤ gx → Wr gx w w' → A1.p B cs w') (hr2 : ∀ cs w w' c fz, A2.p B cs w → w.heap[gx]? = some (.cells c T fz) → B ≤ gx → Wr gx w w' → A2.p B cs w')
    (hQ : ∀ a' w', St B w0 N (src2.filterMap fun k => G2[k]?) ((kl.filterMap fun k => Λ[k]?).set e ⟨sx, T, ptrH, A⟩ ++ [⟨s1, T1, ptrH, A1⟩, ⟨s2, T2, ptrH, A2⟩]) a' w' → Q .normal a' w') : (Code.region id ops false).wpIn (fw o) 0 P Q a w := by
  have m1 := List.mem_of_getElem? hl1
  have m2 := List.mem_of_getElem? hl2
  obtain ⟨L2, hL2⟩ : ∃ L2, (kl.filterMap fun k => Λ[k]?) = L2 := ⟨_, rfl⟩
  have hsub : ∀ l ∈ L2, l ∈ Λ := fun l hl => by
    rw [← hL2] at hl
    obtain ⟨k, _, hk⟩ := List.mem_filterMap.1 hl
    exact List.mem_of_getElem? hk
  rw [hL2] at hob hk hsrc hG2 hl hΛ hs hQ
  obtain ⟨R, hR⟩ : ∃ R : Rg, (⟨ops, N, Γ ++ [(s1, CellV T1 A1), (s2, CellV T2 A2)], lesS L2 e n A, sp, fun i => List.range i⟩ : Rg) = R := ⟨_, rfl⟩
  have hx : St B w0 N (Γ ++ [(s1, CellV T1 A1), (s2, CellV T2 A2)]) L2 a w := by
    refine ⟨h.lo, h.defers, h.size, h.base, fun x hx => ?_, fun l hl => h.locs l (hsub l hl), fun l hl m hm => h.dis l (hsub l hl) m (hsub m hm)⟩
    rcases List.mem_append.1 hx with hx | hx
    · exact h.vals x hx
    · rcases List.mem_cons.1 hx with rfl | hx
      · obtain ⟨g, cs, f1, _, f3, f4⟩ := h.locs _ m1
        exact ⟨g, cs, f1, f3, f4⟩
      · obtain rfl := List.mem_singleton.1 hx
        obtain ⟨g, cs, f1, _, f3, f4⟩ := h.locs _ m2
        exact ⟨g, cs, f1, f3, f4⟩
  refine Rg.linKF (R := ⟨ops, N, Γ ++ [(s1, CellV T1 A1), (s2, CellV T2 A2)], lesS L2 e n A, sp, fun i => List.range i⟩) (m := 1) hnd hQ0 hsz rfl hk hx (fun y hy _ => (lesS_of y hy).2.1) (fun i hi => hob.all i (by omega) (by omega)) fun a1 w1 hinv => ?_
  rw [show List.range' n 1 = [n] from rfl, wpOpsIn_cons]
  have hst := inv_st (Λ := L2) (fun l' hl' => by
      obtain ⟨j, hj⟩ := List.getElem?_of_mem hl'
      exact ⟨_, List.mem_map.2 ⟨(l', j), List.mem_zipIdx_iff_getElem?.2 hj, rfl⟩⟩) (fun y hy i B' h1 => Nat.le_of_eq ((lesS_of y hy).2.2 i B' h1).symm) hinv src hsrc
  rw [hG2] at hst
  have heq := hix.eq h hst
  have hg : a1.eval (.tmp sx) = ptr gx := hst.vals _ (List.mem_of_getElem? hks)
  obtain ⟨g1, c1, p1, p2, p3⟩ := hst.vals _ (List.mem_of_getElem? hk1)
  obtain ⟨g2, c2, r1, r2, r3⟩ := hst.vals _ (List.mem_of_getElem? hk2)
  have p1' : a1.eval (.tmp s1) = ptr g1 := p1
  have r1' : a1.eval (.tmp s2) = ptr g2 := r1
  have hdis : ∀ l ∈ Λ, ∀ m ∈ Λ, l.s ≠ m.s → blk (a1.eval (.tmp l.s)) ≠ blk (a1.eval (.tmp m.s)) := fun l hl m hm hne => by
    rw [heq l hl, heq m hm]
    exact h.dis l hl m hm hne
  have msx := hsub _ (List.mem_of_getElem? hl)
  have hsx := List.all_eq_true.1 hs _ (List.mem_of_getElem? hl)
  simp only [Bool.and_eq_true, bne_iff_ne] at hsx
  have n1 : g1 ≠ gx := fun e => hdis _ m1 _ msx (Ne.symm hsx.1) (by rw [p1', hg, e])
  have n2 : g2 ≠ gx := fun e => hdis _ m2 _ msx (Ne.symm hsx.2) (by rw [r1', hg, e])
  have hmay : ∀ l ∈ Λ, ∀ g, a1.eval (.tmp l.s) = ptr g → l.H = ptrH → w0.may g := fun l hl g e hH => by
    obtain ⟨g', _, f1, f2, _⟩ := h.locs l hl
    rw [heq l hl, f1, hH] at e
    have : g' = g := by injection e with e; injection e with e; injection e with e
    rw [← this]
    exact f2
  refine wpOpIn_of hnd hQ0 (op_store (kd := kd) (e := e) src2 ho hst hd hl ht hn hT hsrc2 hΛ _ fun w' ⟨g, c, fz, q1, q2, q3, q4⟩ hst' => hQ _ _ ⟨hst'.lo, hst'.defers, hst'.size, hst'.base, hst'.vals, fun m hm => ?_, fun m hm m' hm' hne => ?_⟩)
  · have eg : g = gx := by rw [hg] at q1; injection q1 with q1; exact q1.symm
    subst eg
    rcases List.mem_append.1 hm with hm | hm
    · exact hst'.locs m hm
    · rcases List.mem_cons.1 hm with rfl | hm
      · exact ⟨g1, c1, p1', hmay _ m1 _ p1' rfl, (q4.block _ n1).trans p2, hr1 _ _ _ _ _ p3 q3 q2 q4⟩
      · obtain rfl := List.mem_singleton.1 hm
        exact ⟨g2, c2, r1', hmay _ m2 _ r1' rfl, (q4.block _ n2).trans r2, hr2 _ _ _ _ _ r3 q3 q2 q4⟩
  · have hin : ∀ m ∈ L2.set e ⟨sx, T, ptrH, A⟩ ++ [(⟨s1, T1, ptrH, A1⟩ : Lc), ⟨s2, T2, ptrH, A2⟩], ∃ l ∈ Λ, l.s = m.s := fun m hm => by
      rcases List.mem_append.1 hm with hm | hm
      · rcases List.mem_or_eq_of_mem_set hm with hm | rfl
        · exact ⟨m, hsub m hm, rfl⟩
        · exact ⟨_, msx, rfl⟩
      · rcases List.mem_cons.1 hm with rfl | hm
        · exact ⟨_, m1, rfl⟩
        · obtain rfl := List.mem_singleton.1 hm
          exact ⟨_, m2, rfl⟩
    obtain ⟨l, h1, h2⟩ := hin m hm
    obtain ⟨l', h3, h4⟩ := hin m' hm'
    rw [← h2, ← h4]
    exact hdis l h1 l' h3 (by rw [h2, h4]; exact hne)
end

set_option maxRecDepth 100000 in
theorem pair_c {g9 : List Nat} {c1 c2 d1 d2 : Nat} {x y u v : Int} (h1 : c1 + d1 ≤ 549755813888) (h2 : c2 + d2 ≤ 549755813888) : Cn Tryz.prog 98 [Zs c1 x, Zs c2 y, ElP 126 (SlN g9 24 [U32] [ZA d1 u, ZA d2 v])] (Zs (max (c1 + d1) (c2 + d2) + 1) (x * u + y * v)) := by
  refine Cn.intro Tryz.func98 rfl (by kernel_rfl) nq (fun B w0 a hst => ?_)
  have hst : St B w0 17 [(0, Zs c1 x), (1, Zs c2 y), (2, ElP 126 (SlN g9 24 [U32] [ZA d1 u, ZA d2 v]))] [] a w0.w := hst
  refine wp_seq ?_
  refine gl (sts := []) (news := [⟨3, 24, ptrH, some 0, _, none⟩, ⟨4, 24, ptrH, some 1, _, none⟩, ⟨5, 24, ptrH, some 2, _, none⟩]) (sp := [.alc 0, .alc 1, .alc 2]) [.g 2] hst (oc (ob_box rfl rfl rfl (gq 0 rfl)) (oc (ob_box rfl rfl rfl (gq 1 rfl)) (oc (ob_alc rfl rfl rfl (Str.zero str_int)) o0))) (fun a w hst => ?_)
  have hst : St B w0 17 [(2, _)] [⟨3, 24, ptrH, _⟩, ⟨4, 24, ptrH, _⟩, ⟨5, 24, ptrH, _⟩] a w := hst
  refine thn_normal ?_
  refine wp_seq ?_
  refine go_draw (anc := [[], [], [1], [1, 2], [0, 1, 2, 3], [], [], [6], [6, 7], [0, 1, 2, 3, 4, 5, 6, 7, 8], [0, 1, 2, 3, 4, 5, 6, 7, 8, 9], [0, 1, 2, 3, 4, 5, 6, 7, 8, 9, 10]]) (sts := [none, none, some (11, _)]) (news := []) (sp := [.val 6 _, .val 7 _, .val 8 _, .val 9 _, .val 10 _, .val 11 _, .val 12 _, .val 13 _, .val 14 _, .val 15 _, .val 16 _, .sto 2]) [] follows_mixed hst (oc (ob_v rfl rfl (r_load (lz0 0 rfl) ty_24)) (oc (ob_v rfl rfl (r_loade (gq 0 rfl) ty_126)) (oc (ob_v rfl rfl (r_idx sl_126 (n_ok (by kernel_rfl)) (has_sln (vq 1 rfl)) (has_nat 0 rfl) rfl)) (oc (ob_v rfl rfl (r_loade (vq 2 rfl) ty_24)) (oc (ob_v rfl rfl (r_call (xs := [.tmp 6, .tmp 9]) (times_z (by omega) (by omega)) (.cons (vq 0 rfl) (.cons (vq 3 rfl) .nil)))) (oc (ob_v rfl rfl (r_load (lz0 1 rfl) ty_24)) (oc (ob_v rfl rfl (r_loade (gq 0 rfl) ty_126)) (oc (ob_v rfl rfl (r_idx sl_126 (n_ok (by kernel_rfl)) (has_sln (vq 6 rfl)) (has_nat 1 rfl) rfl)) (oc (ob_v rfl rfl (r_loade (vq 7 rfl) ty_24)) (oc (ob_v rfl rfl (r_call (xs := [.tmp 11, .tmp 14]) (times_z (by omega) (by omega)) (.cons (vq 5 rfl) (.cons (vq 8 rfl) .nil)))) (oc (ob_v rfl rfl (r_call (xs := [.tmp 10, .tmp 15]) (plus_z (by omega) (by omega)) (.cons (vq 4 rfl) (.cons (vq 9 rfl) .nil)))) (oc (ob_sto rfl rfl rfl (vq 10 rfl) ty_24 (Eq.trans (b := 2) rfl rfl)) o0)))))))))))) (by kernel_rfl) (by kernel_rfl) (by kernel_rfl) (by kernel_rfl) (fun a w hst => ?_)
  have hst : St B w0 17 [] [⟨3, 24, ptrH, _⟩, ⟨4, 24, ptrH, _⟩, ⟨5, 24, ptrH, _⟩] a w := hst
  refine thn_normal ?_
  refine wp_ret ?_
  refine ret_wk ?_ (ret_cell rfl hst (List.mem_of_getElem? (i := 2) rfl) ty_24)
  exact wk_id

abbrev I4 := Int × Int × Int × Int
def stepI (m : I4) (p : Int × Int) : Int × Int := (m.1 * p.1 + m.2.1 * p.2, m.2.2.1 * p.1 + m.2.2.2 * p.2)
def wkL (m : I4) (p : Int × Int) : Nat → Int × Int
  | 0 => p
  | k + 1 => stepI m (wkL m p k)
def wkD (q d : Int) : Nat → Int
  | 0 => d
  | k + 1 => wkD q d k * q
def bL (k : Nat) : Nat := 10242 + 10243 * k
def bD (k : Nat) : Nat := 8194 + 8194 * k
theorem sln_wk {gs : List Nat} {E : TypeId} {D : List TypeId} {l l' : List As} (h : All2 WkA l l') (hD : ∀ A ∈ l', ∀ T ∈ A.deps, T ∈ D) : WkA (SlN gs E D l) (SlN gs E D l') := ⟨rfl, rfl, fun B cs w hp => ⟨(sl_wk h hD).2.2 B cs w hp.1, hp.2⟩⟩
theorem wk_gs {P : Program} {l B : Nat} {Db Tc : List TypeId} {gs : List Nat} {Y : Nat → List VA} {inf : Bool} {M k : Nat} {J : Nat → World → Prop} {Jx : World → Prop} {w0 : Bs} (hIt : ItH P l B Db Tc gs Y inf M J Jx) (hG : ItG B gs Tc J k w0) : ∀ g ∈ gs, g < w0.w.heap.size := fun g hg => by
  obtain ⟨c, T, fz, h1, _⟩ := hIt.ct k _ hG.j g hg
  exact (Array.getElem?_eq_some_iff.1 h1).1

set_option maxRecDepth 100000 in
theorem walk_it (gs : List Nat) (m : I4) (p : Int × Int) (q d : Int) : ItCg Tryz.prog 100 [(126, SlN [gs.getD 1 0] 24 [U32] [ZA 10242 p.1, ZA 10242 p.2]), (24, ZA 8194 d), (79, EqA (.func (.func 98) #[] #[ptr (gs.getD 0 0)])), (126, SlN [gs.getD 1 0] 24 [U32] [ZA 10242 m.1, ZA 10242 m.2.1, ZA 10242 m.2.2.1, ZA 10242 m.2.2.2]), (24, ZA 8194 q)] gs (fun k => [(cat [ZA (bL k) (wkL m p k).1, ZA (bL k) (wkL m p k).2]).va, Zs (bD k) (wkD q d k)]) true (4100) [24, U32] := by
  refine ItCg.intro Tryz.func100 rfl (by kernel_rfl) nq (fun l B Db J Jx w0 a hgl hoff hIt hG hst => ?_)
  have hst : St B w0 33 [(0, EqV (.func (.yield l) #[] #[])), (1, EqV (ptr (gs.getD 0 0))), (2, EqV (ptr (gs.getD 1 0))), (3, EqV (ptr (gs.getD 2 0))), (4, EqV (ptr (gs.getD 3 0))), (5, EqV (ptr (gs.getD 4 0)))] [⟨1, 126, ptrH, SlN [gs.getD 1 0] 24 [U32] [ZA 10242 p.1, ZA 10242 p.2]⟩, ⟨2, 24, ptrH, ZA 8194 d⟩, ⟨3, 79, ptrH, EqA (.func (.func 98) #[] #[ptr (gs.getD 0 0)])⟩, ⟨4, 126, ptrH, SlN [gs.getD 1 0] 24 [U32] [ZA 10242 m.1, ZA 10242 m.2.1, ZA 10242 m.2.2.1, ZA 10242 m.2.2.2]⟩, ⟨5, 24, ptrH, ZA 8194 q⟩] a w0.w := hst
  have hg0 : gs.getD 1 0 ∈ gs := by
    have h5 : gs.length = 5 := hgl
    have e : gs.getD 1 0 = gs[1] := by simp [List.getD, h5]
    rw [e]
    exact List.getElem_mem _
  have hg1 : gs.getD 1 0 ∈ [gs.getD 1 0] := List.mem_singleton.2 rfl
  refine wpIn_block ?_
  have hst := St.sel hst [0, 1, 2, 3, 4, 5]
  refine wpIn_loop_ghost (fun n a w => ∃ (k : Nat) (w0 : Bs), (n + k = 4100 ∧ ItG B gs [126, 24, 79, 126, 24] J k w0) ∧ St B w0 33 [(0, EqV (.func (.yield l) #[] #[])), (1, EqV (ptr (gs.getD 0 0))), (2, EqV (ptr (gs.getD 1 0))), (3, EqV (ptr (gs.getD 2 0))), (4, EqV (ptr (gs.getD 3 0))), (5, EqV (ptr (gs.getD 4 0)))] [⟨1, 126, ptrH, SlN [gs.getD 1 0] 24 [U32] [ZA (bL k) (wkL m p k).1, ZA (bL k) (wkL m p k).2]⟩, ⟨2, 24, ptrH, ZA (bD k) (wkD q d k)⟩, ⟨3, 79, ptrH, EqA (.func (.func 98) #[] #[ptr (gs.getD 0 0)])⟩, ⟨4, 126, ptrH, SlN [gs.getD 1 0] 24 [U32] [ZA 10242 m.1, ZA 10242 m.2.1, ZA 10242 m.2.2.1, ZA 10242 m.2.2.2]⟩, ⟨5, 24, ptrH, ZA 8194 q⟩] a w) (4100) ?_ ?_
  · exact ⟨0, w0, ⟨rfl, hG⟩, hst⟩
  intro n a w hI
  obtain ⟨k, w0, ⟨hn, hG⟩, hst⟩ := hI
  have hk : k < 4100 := by
    rcases Nat.lt_or_ge k 4100 with h | h
    · exact h
    · have e : k = 4100 := by omega
      subst e
      exact (hIt.inf' rfl _ hG.j).elim
  have hgs : ∀ g ∈ [gs.getD 1 0], g < w0.w.heap.size := fun g hg => by
    obtain rfl := List.mem_singleton.1 hg
    exact wk_gs hIt hG _ hg0
  refine wpIn_seq ?_
  refine wpIn_seq ?_
  refine go_yieldD1 (sp := [.val 7 _, .val 8 _, .val 9 _, .val 10 _, .val 11 _, .val 12 VT]) [[], [], [1], [1, 2], [], [0, 1, 2, 3, 4]] 5 [0, 1, 2, 3, 4, 5] [(1, 0), (2, 1), (3, 2), (4, 3), (5, 4)] follows_mixed hst (oc (ob_v rfl rfl (r_move (gq 0 rfl))) (oc (ob_v rfl rfl (r_load (lz0 0 rfl) ty_126)) (oc (ob_v rfl rfl (r_arrp Tryz.underlying78 (has_sln (vq 1 rfl)) rfl nq)) (oc (ob_v rfl rfl (r_loade (vq 2 rfl) ty_78)) (oc (ob_v rfl rfl (r_load (lz0 1 rfl) ty_24)) o0))))) rfl (by kernel_rfl) (anc_all (by kernel_rfl)) (by kernel_rfl) (by kernel_rfl) rfl (vq 0 rfl) (.cons (vq 3 rfl) (.cons (vq 4 rfl) .nil)) hoff hIt hG hk ⟨rfl, ⟨_, rfl⟩, ⟨rfl, ⟨_, rfl⟩, ⟨rfl, ⟨_, rfl⟩, ⟨rfl, ⟨_, rfl⟩, ⟨rfl, ⟨_, rfl⟩, trivial⟩⟩⟩⟩⟩ hgl (by kernel_rfl) (by kernel_rfl) (by kernel_rfl) (by kernel_rfl) (no_out fun _ _ h => h) nq (fun w0 a w hG hst hw0 => ?_) (fun w0 a w hw0 hJx hst => ?_)
  · have hst : St B w0 33 [(12, Bo true), (0, _), (1, _), (2, _), (3, _), (4, _), (5, _)] [⟨1, 126, ptrH, _⟩, ⟨2, 24, ptrH, _⟩, ⟨3, 79, ptrH, _⟩, ⟨4, 126, ptrH, _⟩, ⟨5, 24, ptrH, _⟩] a w := hst
    -- behind yield
    refine thn_normal ?_
    refine cond_ofF hst (List.mem_of_getElem? (i := 0) rfl) (fun hb0 => ?_) (fun hb0 => ?_)
    · have hgs : ∀ g ∈ [gs.getD 1 0], g < w0.w.heap.size := fun g hg => by
        obtain rfl := List.mem_singleton.1 hg
        exact wk_gs hIt hG _ hg0
      refine wpIn_skip ?_
      refine thn_normal ?_
      refine wpIn_block ?_
      refine wpIn_seq ?_
      refine go_drawF (anc := [[], [], [1], [1, 2], [], [4], [4, 5], [0, 1, 2, 3, 4, 5, 6], [], [], [9], [9, 10], [], [12], [12, 13], [0, 1, 2, 3, 4, 5, 6, 7, 8, 9, 10, 11, 12, 13, 14], [0, 1, 2, 3, 4, 5, 6, 7, 8, 9, 10, 11, 12, 13, 14, 15], [0, 1, 2, 3, 4, 5, 6, 7, 8, 9, 10, 11, 12, 13, 14, 15, 16]]) (sts := [some (17, _), none, none, none, none]) (news := []) (sp := [.val 13 _, .val 14 _, .val 15 _, .val 16 _, .val 17 _, .val 18 _, .val 19 _, .val 20 _, .val 21 _, .val 22 _, .val 23 _, .val 24 _, .val 25 _, .val 26 _, .val 27 _, .val 28 _, .val 29 _, .sto 0]) [.g 1, .g 2, .g 3, .g 4, .g 5, .g 6] follows_mixed (by kernel_rfl) (no_out fun _ _ h => h) hst (oc (ob_v rfl rfl (r_load (lz0 2 rfl) ty_79)) (oc (ob_v rfl rfl (r_load (lz0 3 rfl) ty_126)) (oc (ob_v rfl rfl (r_idx sl_126 (n_ok (by kernel_rfl)) (has_sln (vq 1 rfl)) (has_nat 0 rfl) rfl)) (oc (ob_v rfl rfl (r_loade (vq 2 rfl) ty_24)) (oc (ob_v rfl rfl (r_load (lz0 3 rfl) ty_126)) (oc (ob_v rfl rfl (r_idx sl_126 (n_ok (by kernel_rfl)) (has_sln (vq 4 rfl)) (has_nat 1 rfl) rfl)) (oc (ob_v rfl rfl (r_loade (vq 5 rfl) ty_24)) (oc (ob_v rfl rfl (r_callF1 (s := 1) (xs := [.tmp 16, .tmp 19]) (pair_c (by unfold bL; omega) (by unfold bL; omega)) (vq 0 rfl) (gq 2 rfl) (has_ptr (lz0 0 rfl)) (.cons (vq 3 rfl) (.cons (vq 6 rfl) .nil)))) (oc (ob_v rfl rfl (r_load (lz0 2 rfl) ty_79)) (oc (ob_v rfl rfl (r_load (lz0 3 rfl) ty_126)) (oc (ob_v rfl rfl (r_idx sl_126 (n_ok (by kernel_rfl)) (has_sln (vq 9 rfl)) (has_nat 2 rfl) rfl)) (oc (ob_v rfl rfl (r_loade (vq 10 rfl) ty_24)) (oc (ob_v rfl rfl (r_load (lz0 3 rfl) ty_126)) (oc (ob_v rfl rfl (r_idx sl_126 (n_ok (by kernel_rfl)) (has_sln (vq 12 rfl)) (has_nat 3 rfl) rfl)) (oc (ob_v rfl rfl (r_loade (vq 13 rfl) ty_24)) (oc (ob_v rfl rfl (r_callF1 (s := 1) (xs := [.tmp 24, .tmp 27]) (pair_c (by unfold bL; omega) (by unfold bL; omega)) (vq 8 rfl) (gq 2 rfl) (has_ptr (lz0 0 rfl)) (.cons (vq 11 rfl) (.cons (vq 14 rfl) .nil)))) (oc (ob_v rfl rfl (r_sliceX (D := [U32]) (l := [_, _]) (xs := [.tmp 20, .tmp 28]) hgs (nd_ok (by kernel_rfl)) sl_126 (by kernel_rfl) (n_ok (by kernel_rfl)) nq nq nq (.cons (vq 7 rfl) (.cons (vq 15 rfl) .nil)) rfl rfl)) (oc (ob_sto rfl rfl rfl (vq 16 rfl) ty_126 (Eq.trans (b := 1) rfl rfl)) o0)))))))))))))))))) (by kernel_rfl) (by kernel_rfl) (by kernel_rfl) (by kernel_rfl) (fun a w hst => ?_)
      have hst : St B w0 33 [(0, _), (1, _), (2, _), (3, _), (4, _), (5, _)] [⟨1, 126, ptrH, _⟩, ⟨2, 24, ptrH, _⟩, ⟨3, 79, ptrH, _⟩, ⟨4, 126, ptrH, _⟩, ⟨5, 24, ptrH, _⟩] a w := hst
      refine thn_normal ?_
      refine go_stXF (sp := [.val 30 _, .val 31 _, .val 32 _, .sto 0]) 3 [.o 2, .g 0, .g 1, .g 2, .g 3, .g 4, .g 5, .g 6, .g 7] [1, 2, 4] 0 3 0 0 7 8 3 [1, 2, 3, 4, 5, 6] [(1, 2), (2, 3), (3, 4), (4, 5), (5, 6)] (by kernel_rfl) (no_out fun _ _ h => h) hst rfl rfl (oc (ob_v rfl rfl (r_load (lz0 0 rfl) ty_24)) (oc (ob_v rfl rfl (r_load (lz0 2 rfl) ty_24)) (oc (ob_v rfl rfl (r_call (xs := [.tmp 30, .tmp 31]) (times_z (by unfold bD; omega) (by omega)) (.cons (vq 0 rfl) (.cons (vq 1 rfl) .nil)))) o0))) rfl (by kernel_rfl) (by kernel_rfl) rfl rfl rfl rfl ty_24 rfl rfl (by kernel_rfl) (by kernel_rfl) rfl rfl rfl ⟨⟨_, rfl, rfl⟩, ⟨_, rfl, rfl⟩, ⟨_, rfl, rfl⟩, ⟨_, rfl, rfl⟩, ⟨_, rfl, rfl⟩, trivial⟩ (by kernel_rfl) (fun cs w w' c fz q1 q2 q3 q4 => slN_wr q1 hg1 q2 (by decide) q3 q4) (fun cs w w' c fz q1 q2 q3 q4 => slN_wr q1 hg1 q2 (by decide) q3 q4) (fun a w hst => ?_)
      have hst := St.selL hst [3, 0, 1, 4, 2]
      have hst : St B w0 33 [(0, _), (1, _), (2, _), (3, _), (4, _), (5, _)] [⟨1, 126, ptrH, _⟩, ⟨2, 24, ptrH, _⟩, ⟨3, 79, ptrH, _⟩, ⟨4, 126, ptrH, _⟩, ⟨5, 24, ptrH, _⟩] a w := hst
      refine blk_normal ?_
      refine thn_normal ?_
      have hst := St.sel hst [0, 1, 2, 3, 4, 5]
      exact ⟨n - 1, by omega, k + 1, w0, ⟨by omega, hG⟩, St.wkL (St.wkL hst 0 rfl (sln_wk (.cons (za_mono (by unfold bL; omega)) (.cons (za_mono (by unfold bL; omega)) .nil)) (nd_ok (by kernel_rfl)))) 1 rfl (za_mono (by unfold bD; omega))⟩
    · cases hb0
  · have hst : St B w0 33 [(12, Bo false)] [] a w := hst
    -- behind yield
    refine thn_normal ?_
    refine cond_ofF hst (List.mem_of_getElem? (i := 0) rfl) (fun hb1 => ?_) (fun hb1 => ?_)
    · cases hb1
    · refine wpIn_exit ?_
      refine thn_exit ?_
      refine thn_exit ?_
      refine blk_exit ?_
      refine nrm_ret ?_
      exact it_stop rfl hst hw0 hIt hJx

end Go.Proofs.YtmghfjcjcfaagaaGreat
