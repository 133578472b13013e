/- Rows that a call makes for itself and reads, whatever else it writes; parts of a slice; appending to an empty row; calls of known function values. -/
import Derived.Test.YtaplgnjnhfljnaaGreatRayL
import Derived.ArgAppend
import Derived.Laws.AppendOwn
import Derived.Great.BuildSlice
namespace Go.Proofs.YtaplgnjnhfljnaaGreat
open Go Go.RowKit
namespace BenF

end BenF
open BenF
def EqA (v : Value) : As where
  n := 1
  ag := false
  p _ cs _ := cs = [v] ∧ v.oneCell' = true
  deps := []
  len := by rintro B cs w ⟨rfl, _⟩; rfl
  one := by rintro B cs w ⟨rfl, h⟩ c hc; simp at hc; subst hc; exact h
  ag1 := fun _ => rfl
  cg := fun _ _ _ _ _ h => h
  wr := fun _ _ _ _ _ _ _ _ _ _ _ _ h => h
theorem va_eqA {v : Value} (h : v.oneCell' = true) {B : Nat} {w : World} : (EqA v).va.p B v w := ⟨[v], ⟨rfl, h⟩, rfl⟩
theorem eqA_va {v u : Value} {B : Nat} {w : World} (h : (EqA v).va.p B u w) : u = v := by
  obtain ⟨cs, ⟨rfl, _⟩, h2⟩ := h
  exact h2
theorem St.nm {B N : Nat} {w0 : Bs} {Γ : List (Nat × VA)} {Λ : List Lc} {a : Act} {w : World} (h : St B w0 N Γ Λ a w) {s T : Nat} {A : As} (k : Nat) (hm : Λ[k]? = some ⟨s, T, ptrH, A⟩) : ∃ g, St B w0 N ((s, EqV (ptr g)) :: Γ) Λ a w := by
  obtain ⟨g, cs, e, _⟩ := h.locs _ (List.mem_of_getElem? hm)
  refine ⟨g, h.lo, h.defers, h.size, h.base, fun x hx => ?_, h.locs, h.dis⟩
  rcases List.mem_cons.1 hx with rfl | hx
  · exact e
  · exact h.vals x hx
section
variable {P : Program} {R : Rg} {Q : Exit → Act → World → Prop} {B i : Nat} {w0 : Bs}
theorem eqs_all {xs : List Operand} {vs : List Value} (hx : HasL R B w0 i xs (vs.map EqV)) {a : Act} {w : World} (av : R.Av B w0 i a w) : xs.map a.eval = vs := by
  induction vs generalizing xs with
  | nil => cases hx; rfl
  | cons v vs ih =>
    cases hx with
    | cons h1 h2 =>
      rw [List.map_cons, ih h2]
      have : _ = v := h1 a w av
      rw [this]
theorem r_mkE {f : FuncId} {xs : List Operand} {vs : List Value} (hx : HasL R B w0 i xs (vs.map EqV)) : Wv P Q R B w0 i (.makeFunc (.func f) #[] xs.toArray) (EqA (.func (.func f) #[] vs.toArray)).va :=
  wv_run fun _ _ _ _ _ a w av => by
    have e := eqs_all hx av
    refine ⟨.func (.func f) #[] vs.toArray, w, ?_, Grow.refl w, va_eqA rfl⟩
    simp [execOp, Instr.makeFunc, e]
theorem has_fnE {f : FuncId} : Has R B w0 i (.func f) (EqA (.func (.func f) #[] #[])).va := fun _ _ _ => va_eqA rfl
end

/-- a row that is new since world size b, and whole. -/
def NewR (b : Nat) (E : TypeId) (l : List As) : VA where
  p B v w := ∃ g ds, v = .slice (some ⟨g, 0, none⟩) l.length l.length ∧ b ≤ g ∧ w.heap[g]? = some (.cells (List.toArray ds) E (0, 0)) ∧ (cat l).p B ds w
  deps := E :: (cat l).deps
  cg := by
    rintro B v w w' hg ⟨g, ds, e, h1, h2, h3⟩
    exact ⟨g, ds, e, h1, hg.heap h2, (cat l).cg _ _ _ _ hg h3⟩
  wr := by
    rintro B v w w' g c T fz hgc hT hB hW ⟨g0, ds, e, h1, h2, h3⟩
    simp only [List.mem_cons, not_or] at hT
    have n1 : g0 ≠ g := by
      rintro rfl
      rw [hgc] at h2
      injection h2 with h2
      injection h2 with _ h2 _
      exact hT.1 h2
    exact ⟨g0, ds, e, h1, by rw [hW.block g0 n1]; exact h2, (cat l).wr _ _ _ _ _ _ _ _ hgc hT.2 hB hW h3⟩
/-- the same, new since the bound. -/
def NewB (E : TypeId) (l : List As) : VA where
  p B v w := (NewR B E l).p B v w
  deps := E :: (cat l).deps
  cg := fun B v w w' => (NewR B E l).cg B v w w'
  wr := fun B v w w' g c T fz => (NewR B E l).wr B v w w' g c T fz
theorem St.toLoc {B N : Nat} {w0 : Bs} {Γ : List (Nat × VA)} {Λ : List Lc} {a : Act} {w : World} (h : St B w0 N Γ Λ a w) {s : Nat} {E : TypeId} {l : List As} (k : Nat) (hm : Γ[k]? = some (s, NewR w0.w.heap.size E l)) (hT : Λ.all (fun l' => l'.T != E) = true) :
    St B w0 N (Γ.eraseIdx k) (Λ ++ [⟨s, E, slH l.length l.length, cat l⟩]) a w := by
  obtain ⟨g, ds, e, h1, h2, h3⟩ := h.vals _ (List.mem_of_getElem? hm)
  have hblk : blk (a.eval (.tmp s)) = some g := by
    have e' : a.eval (.tmp s) = .slice (some ⟨g, 0, none⟩) l.length l.length := e
    rw [e']; rfl
  have hdiff : ∀ l' ∈ Λ, blk (a.eval (.tmp l'.s)) ≠ some g := fun l' hl' hb => by
    obtain ⟨g', cs, f1, f2, f3, f4⟩ := h.locs l' hl'
    have : g' = g := by rw [f1, l'.H.ok] at hb; injection hb
    subst this
    rw [h2] at f3
    injection f3 with f3
    injection f3 with _ f3 _
    have := List.all_eq_true.1 hT l' hl'
    simp only [bne_iff_ne] at this
    exact this f3.symm
  refine ⟨h.lo, h.defers, h.size, h.base, fun x hx => h.vals x (List.mem_of_mem_eraseIdx hx), fun l' hl' => ?_, fun l' hl' m' hm' hne => ?_⟩
  · rcases List.mem_append.1 hl' with hl' | hl'
    · exact h.locs l' hl'
    · obtain rfl := List.mem_singleton.1 hl'
      exact ⟨g, ds, e, .inl h1, h2, h3⟩
  · rcases List.mem_append.1 hl' with hl' | hl' <;> rcases List.mem_append.1 hm' with hm' | hm'
    · exact h.dis l' hl' m' hm' hne
    · obtain rfl := List.mem_singleton.1 hm'
      show blk (a.eval (.tmp l'.s)) ≠ blk (a.eval (.tmp s))
      rw [hblk]
      exact hdiff l' hl'
    · obtain rfl := List.mem_singleton.1 hl'
      show blk (a.eval (.tmp s)) ≠ blk (a.eval (.tmp m'.s))
      rw [hblk]
      exact fun e => hdiff m' hm' e.symm
    · obtain rfl := List.mem_singleton.1 hl'
      obtain rfl := List.mem_singleton.1 hm'
      exact absurd rfl hne
theorem cat_split {l : List As} {m B : Nat} {ds : List Value} {w : World} (hm : ∀ A ∈ l, A.n = m) (h : (cat l).p B ds w) : ∀ k, (cat (l.take k)).p B (ds.take (k * m)) w ∧ (cat (l.drop k)).p B (ds.drop (k * m)) w := by
  obtain ⟨ps, rfl, h⟩ := h
  induction h with
  | nil => intro k; simp only [List.take_nil, List.drop_nil, List.flatten_nil]; exact ⟨⟨[], rfl, .nil⟩, ⟨[], rfl, .nil⟩⟩
  | @cons A c ls bs h1 h2 ih =>
    intro k
    cases k with
    | zero =>
      simp only [List.take_zero, Nat.zero_mul, List.drop_zero]
      exact ⟨⟨[], rfl, .nil⟩, ⟨c :: bs, rfl, .cons h1 h2⟩⟩
    | succ k =>
      obtain ⟨i1, i2⟩ := ih (fun A' hA => hm A' (List.mem_cons_of_mem _ hA)) k
      have hl : c.length = m := (A.len _ _ _ h1).trans (hm A (by simp))
      have e1 : (c :: bs).flatten.take ((k + 1) * m) = c ++ bs.flatten.take (k * m) := by
        rw [List.flatten_cons, List.take_append, List.take_of_length_le (by rw [hl, Nat.add_mul]; omega), hl]
        congr 2
        rw [Nat.add_mul]
        omega
      have e2 : (c :: bs).flatten.drop ((k + 1) * m) = bs.flatten.drop (k * m) := by
        rw [List.flatten_cons, List.drop_append, List.drop_of_length_le (by rw [hl, Nat.add_mul]; omega), List.nil_append, hl]
        congr 1
        rw [Nat.add_mul]
        omega
      rw [e1, e2, List.take_succ_cons, List.drop_succ_cons]
      refine ⟨?_, i2⟩
      obtain ⟨qs, e, hq⟩ := i1
      exact ⟨c :: qs, by rw [List.flatten_cons, ← e], .cons h1 hq⟩
def EmpV : VA where
  p _ v _ := ∃ g, v = .slice (some ⟨g, 0, none⟩) 0 0
  deps := []
  cg := fun _ _ _ _ _ h => h
  wr := fun _ _ _ _ _ _ _ _ _ _ _ _ h => h
section
variable {P : Program} {R : Rg} {Q : Exit → Act → World → Prop} {B i : Nat} {w0 : Bs}
theorem r_sliceN {S E : TypeId} {l : List As} {m : Nat} {xs : List Operand} (hS : Sl P S E m) (hz : ((P.info? E).bind (·.zero)).isSome = true) (hm : ∀ A ∈ l, A.n = m) (hm0 : 0 < m) (hl0 : 0 < l.length) (hsmall : l.length * m ≤ 16777216)
    (hx : All2 (fun (A : As) x => Has R B w0 i x A.va) l xs) {ps' : Array (Nat × Operand)} (hps : ps'.toList = (xs.zipIdx 0).map fun x => (x.2, x.1)) {n : Nat} (hn : n = l.length) : Wv P Q R B w0 i (.buildSlice S n ps') (NewR w0.w.heap.size E l) :=
  wv_run fun d T ps af gd a w av => by
    subst hn
    obtain ⟨hs1, hs2⟩ := hS
    cases hi : P.info? E with
    | none => rw [hi] at hs2; simp at hs2
    | some it =>
      rw [hi] at hs2 hz
      have hsz : it.size = m := by simpa using hs2
      obtain ⟨z, hzz⟩ := Option.isSome_iff_exists.1 hz
      simp only [Option.bind_some] at hzz
      have hvs : All2 (fun (A : As) v => A.va.p B v w) l (xs.map a.eval) := by
        clear hps hm hl0 hsmall
        induction hx with
        | nil => exact .nil
        | cons h _ ih => exact .cons (h a w av) ih
      have hlen := hvs.length
      have hvn : ∀ v ∈ xs.map a.eval, v.cells.size = m := by
        intro v hv
        obtain ⟨k, hk⟩ := List.getElem?_of_mem hv
        have hkl : k < l.length := by rw [hlen]; exact (List.getElem?_eq_some_iff.1 hk).1
        obtain ⟨v', hv', cs, hp, he⟩ := hvs.get (List.getElem?_eq_getElem hkl)
        rw [hk] at hv'
        injection hv' with hv'
        subst hv'
        rw [he, As.cells_shape _ hp]
        have := As.len _ _ _ _ hp
        simp [this]
        exact hm _ (by simp)
      have hf := Great.fill_whole hm0 (xs.map a.eval) ((Array.range (l.length * m)).map (z.cells[· % z.cells.size]!)) hvn (by simp [hlen])
      have hrun := run_buildSlice (P := P) w S E l.length (ps'.map fun x => (x.1, a.eval x.2)) ((xs.map a.eval).flatMap fun v => v.cells.toList).toArray it z hs1 hi hzz (by rw [hsz]; omega) (by rw [hsz]; exact Nat.ne_of_gt (Nat.mul_pos hl0 hm0)) (by
        rw [hsz, ← hf]
        congr 1
        rw [Array.toList_map, hps]
        simp [List.zipIdx_map, List.map_map, Function.comp_def])
      refine ⟨.slice (some ⟨w.heap.size, 0, none⟩) l.length l.length, w.alloc (.cells ((xs.map a.eval).flatMap fun v => v.cells.toList).toArray E), ?_, Grow.alloc _ _, w.heap.size, _, rfl, av.base.size, heap_alloc_new w _, (cat l).grow _ _ _ _ (Grow.alloc _ _) (flatMap_va hvs)⟩
      simp [execOp, hrun]
theorem r_callN {f : FuncId} {E : TypeId} {l : List As} {at_ : Array TypeId} (hc : Cn P f [] (NewB E l)) (hfree : FreeA (cat l) (cat l)) : Wv P Q R B w0 i (.call ⟨.value (.func f), #[], at_⟩) (NewR w0.w.heap.size E l) := by
  intro d T ps af gd a w av K hK
  obtain ⟨⟨fn, hf, hn, hb⟩, hcall⟩ := hc
  have hrun : (execOp a.eval ⟨some d, .call ⟨.value (.func f), #[], at_⟩, T, ps, af, gd⟩).run P w = .ok (.enter f #[]) w := by
    simp only [execOp, resolve, Act.eval, Deferred.ofValue, Sem.run_bind, Sem.run_pure, Result.andThen_ok, invoke, run_callFunc hf hn hb]
    simp
  unfold Oper.wp
  rw [hrun]
  refine (hcall w.heap.size w [] (Nat.le_refl _) .nil).mono fun e w' ⟨v, he, ⟨g, ds, h1, h2, h3, h4⟩, hg⟩ => ?_
  subst he
  exact hK v w' hg ⟨g, ds, h1, Nat.le_trans av.base.size h2, h3, hfree.2.2 _ _ _ _ (Av.bw av) h4⟩
theorem r_callE {x : Operand} {f : FuncId} {xs : List Operand} {As' : List VA} {A : VA} {at_ : Array TypeId} (hc : Cn P f As' A) (hv : Has R B w0 i x (EqA (.func (.func f) #[] #[])).va) (hx : HasL R B w0 i xs As') : Wv P Q R B w0 i (.call ⟨.value x, xs.toArray, at_⟩) A := by
  intro d T ps af gd a w av K hK
  obtain ⟨⟨fn, hf, hn, hb⟩, hcall⟩ := hc
  have ev : a.eval x = .func (.func f) #[] #[] := eqA_va (hv a w av)
  have hrun : (execOp a.eval ⟨some d, .call ⟨.value x, xs.toArray, at_⟩, T, ps, af, gd⟩).run P w = .ok (.enter f (xs.map a.eval).toArray) w := by
    simp only [execOp, resolve, ev, Deferred.ofValue, Sem.run_bind, Sem.run_pure, Result.andThen_ok, invoke, run_callFunc hf hn hb]
    simp
  unfold Oper.wp
  rw [hrun]
  exact (hcall B w _ (Av.bw av) (hx.all av)).mono fun e w' ⟨v, he, hv, hg⟩ => by subst he; exact hK v w' hg hv
theorem r_lenL {b n c T : Nat} {S E' : TypeId} {A : As} (hl : LocH R i b T (slH n c) A) (hS : P.underlying S = some (.slice E')) : Wv P Q R B w0 i (.call ⟨.builtin .len, #[.tmp b], #[S]⟩) (In n) :=
  wv_run fun d T' ps af gd a w av => by
    obtain ⟨g, cs, h1, _⟩ := hl.ok av
    have h3 : a.eval (.tmp b) = .slice (some ⟨g, 0, none⟩) n c := h1
    refine ⟨.int .i64 n, w, ?_, Grow.refl w, val_num _ _ _ _⟩
    simp [execOp, resolve, invoke, builtin, h3, Builtin.len_, run_underlying hS, goInt]
theorem r_rowv {b k m n c : Nat} {S T E : TypeId} {l : List As} {y : Operand} {A : As} {kd : IntKind} (hl : LocH R i b T (slH n c) (cat l)) (hS : Sl P S E m) (hm : ∀ A ∈ l, A.n = m) (hy : Has R B w0 i y (NumA kd k).va) (hk : l[k]? = some A) (hn : n = l.length) :
    Wv P Q R B w0 i (.indexAddr S (.tmp b) y) (ElP T A) :=
  wv_run fun d T' ps af gd a w av => by
    subst hn
    obtain ⟨g, cs, h1, hmay, h3, h4⟩ := hl.ok av
    have h1' : a.eval (.tmp b) = .slice (some ⟨g, 0, none⟩) l.length c := h1
    have hlt : k < l.length := (List.getElem?_eq_some_iff.1 hk).1
    obtain ⟨p1, l1⟩ := cat_part h4 hk
    have ho := offs_all hm (k := k) (by omega)
    unfold offs at ho
    rw [ho] at p1 l1
    refine ⟨.pointer (some ⟨g, k * m, none⟩), w, ?_, Grow.refl w, g, k * m, _, rfl, (Array.getElem?_eq_some_iff.1 h3).1, .inr ⟨_, _, h3⟩, p1, fun j u hu => ?_⟩
    · obtain ⟨hs1, hs2⟩ := hS
      cases hi : P.info? E with
      | none => rw [hi] at hs2; simp at hs2
      | some it =>
        rw [hi] at hs2
        have hsz : it.size = m := by simpa using hs2
        have e := num_val (hy a w av)
        have hk2 : ¬ l.length ≤ k := by omega
        simp [execOp, h1', e, Instr.indexAt, asIntOf, run_underlying hs1, hk2, sizeOf, typeInfo, hi, hsz, add_k]
    · rw [List.getElem?_take] at hu
      split at hu
      · rw [List.getElem?_drop] at hu
        rw [cell_of_row w g (k * m + j) cs.toArray T _ h3]
        simpa using hu
      · cases hu
theorem r_build0 {S E : TypeId} {m : Nat} (hS : Sl P S E m) : Wv P Q R B w0 i (.buildSlice S 0 #[]) EmpV :=
  wv_run fun d T ps af gd a w av => by
    obtain ⟨hs1, hs2⟩ := hS
    cases hi : P.info? E with
    | none => rw [hi] at hs2; simp at hs2
    | some it =>
      refine ⟨.slice (some ⟨w.heap.size, 0, none⟩) 0 0, w.alloc (.cells #[] E), ?_, Grow.alloc _ _, _, rfl⟩
      simp [execOp, Instr.buildSlice, run_underlying hs1, sizeOf, typeInfo, hi, Instr.fill, newRow, show Array.range 0 = #[] from rfl]
theorem r_slL {x y : Operand} {S E : TypeId} {D : List TypeId} {l : List As} {m k : Nat} {kd : IntKind} (hS : Sl P S E m) (hm : ∀ A ∈ l, A.n = m) (hx : Has R B w0 i x (SlA E D l).va) (hy : Has R B w0 i y (NumA kd k).va) (hk : k ≤ l.length) : Wv P Q R B w0 i (.slice S x (some y) none none) (SlA E D (l.drop k)).va :=
  wv_run fun d T ps af gd a w av => by
    obtain ⟨cs, ⟨hD, Ad, c, ds, rfl, h1, h2, h3, h4⟩, hv⟩ := hx a w av
    have hv' : a.eval x = .slice Ad l.length c := hv
    obtain ⟨hs1, hs2⟩ := hS
    have e := num_val (hy a w av)
    have hE : P.elem S = E := by simp [Program.elem, hs1]
    have hs1' : P.underlying S = some (.slice (P.elem S)) := by rw [hE]; exact hs1
    have hr := run_slice_l (P := P) w S Ad l.length c hs1' kd (k : Int) (by omega) (by omega)
    have hsz : (sizeOf (P.elem S)).run P w = .ok m w := by
      rw [hE]
      cases hi : P.info? E with
      | none => rw [hi] at hs2; simp at hs2
      | some it => rw [hi] at hs2; simp [sizeOf, typeInfo, hi]; simpa using hs2
    rw [hsz] at hr
    have hlen : (l.drop k).length = l.length - k := List.length_drop
    refine ⟨_, w, ?_, Grow.refl w, [.slice (if c = k then Ad else Ad.map (·.add (k * m))) (l.length - k) (c - k)], ⟨fun A hA => hD A (List.mem_of_mem_drop hA), _, c - k, ds.drop (k * m), by rw [hlen], by rw [hlen]; omega, by omega, (cat_split hm h3 k).2, fun hpos => ?_⟩, rfl⟩
    · simp only [execOp, hv', e, Option.map_some, Option.map_none, run_sliceAt_slice _ _ _ _ _ _ hs1', Sem.run_bind, Sem.run_pure]
      erw [hr]
      simp [sliced, shape]
      rfl
    · rw [hlen] at hpos
      obtain ⟨b, o, rfl, h6, h7, h8⟩ := h4 (by omega)
      have hne : ¬ c = k := by omega
      refine ⟨b, o + k * m, by rw [if_neg hne]; simp [add_k], h6, h7, fun j v hj => ?_⟩
      rw [List.getElem?_drop] at hj
      rw [← h8 _ v hj]
      congr 2
      omega
theorem r_slH {x y : Operand} {S E : TypeId} {D : List TypeId} {l : List As} {m k : Nat} {kd : IntKind} (hS : Sl P S E m) (hm : ∀ A ∈ l, A.n = m) (hx : Has R B w0 i x (SlA E D l).va) (hy : Has R B w0 i y (NumA kd k).va) (hk : k ≤ l.length) : Wv P Q R B w0 i (.slice S x none (some y) none) (SlA E D (l.take k)).va :=
  wv_run fun d T ps af gd a w av => by
    obtain ⟨cs, ⟨hD, Ad, c, ds, rfl, h1, h2, h3, h4⟩, hv⟩ := hx a w av
    have hv' : a.eval x = .slice Ad l.length c := hv
    obtain ⟨hs1, hs2⟩ := hS
    have e := num_val (hy a w av)
    have hE : P.elem S = E := by simp [Program.elem, hs1]
    have hs1' : P.underlying S = some (.slice (P.elem S)) := by rw [hE]; exact hs1
    have hr := run_slice_h (P := P) w S Ad l.length c hs1' kd (k : Int) (by omega) (by omega)
    have hsz : (sizeOf (P.elem S)).run P w = .ok m w := by
      rw [hE]
      cases hi : P.info? E with
      | none => rw [hi] at hs2; simp at hs2
      | some it => rw [hi] at hs2; simp [sizeOf, typeInfo, hi]; simpa using hs2
    rw [hsz] at hr
    have hlen : (l.take k).length = k := by rw [List.length_take]; omega
    refine ⟨_, w, ?_, Grow.refl w, [.slice (if c = 0 then Ad else Ad.map (·.add 0)) k c], ⟨fun A hA => hD A (List.mem_of_mem_take hA), _, c, ds.take (k * m), by rw [hlen], by rw [hlen]; omega, h2, (cat_split hm h3 k).1, fun hpos => ?_⟩, rfl⟩
    · simp only [execOp, hv', e, Option.map_some, Option.map_none, run_sliceAt_slice _ _ _ _ _ _ hs1', Sem.run_bind, Sem.run_pure]
      erw [hr]
      simp [sliced, shape]
      rfl
    · rw [hlen] at hpos
      obtain ⟨b, o, rfl, h6, h7, h8⟩ := h4 (by omega)
      have hne : ¬ c = 0 := by omega
      refine ⟨b, o, by rw [if_neg hne]; simp [add_k], h6, h7, fun j v hj => ?_⟩
      rw [List.getElem?_take] at hj
      split at hj
      · exact h8 _ v hj
      · cases hj
/-- what is appended to an empty row goes into a new one. -/
theorem r_app0 {x y : Operand} {S E : TypeId} {D D' : List TypeId} {l : List As} {m bytes : Nat} {it : TypeInfo} {z : Value} (hx : Has R B w0 i x EmpV) (hy : Has R B w0 i y (SlA E D' l).va)
    (hS : P.underlying S = some (.slice E)) (hi : P.info? E = some it) (hz : it.zero = some z) (hsz : it.size = m) (hby : it.bytes = bytes) (hzs : z.cells.size = m) (hm0 : 0 < m) (hl : l.length ≤ 100000000000) (hb6 : bytes ≤ 1000) (hD' : ∀ T ∈ D', T ∈ D) (hxm : ∀ x ∈ l, x.n = m) (hpos : 0 < l.length) (hlen : (cat l).n = l.length * m) :
    Wv P Q R B w0 i (.call ⟨.builtin .append, #[x, y], #[S, S]⟩) (OwnR w0.w.heap.size E m D l) :=
  wv_run fun d T ps af gd a w av => by
    obtain ⟨g, hv⟩ := hx a w av
    obtain ⟨cs, ⟨hD, Ad, c, ds1, rfl, _, _, h5, h6⟩, hu'⟩ := hy a w av
    have hu2 : a.eval y = .slice Ad l.length c := hu'
    obtain ⟨g1, o1, rfl, _, _, h8⟩ := h6 hpos
    have hl1 : ds1.length = l.length * m := by rw [(cat l).len _ _ _ h5, hlen]
    obtain ⟨v', w', hr, r1, r2⟩ := run_append_arg_grows (P := P) w S T E it z m bytes hS hi hz hsz hby hzs hm0 ⟨g, 0, none⟩ 0 0 [] (by simp) (fun j u hj => by simp at hj) ⟨g1, o1, none⟩ l.length c ds1 hl1 (fun j u hj => by rw [add_k]; exact h8 j u hj) (by omega) (by unfold maxLen; omega)
      (by rw [Nat.zero_add]; exact Nat.le_trans (Nat.mul_le_mul hl hb6) (by decide))
    have hg : Grow w w' := ⟨r2.os, r2.tape, r2.output, r2.size, fun k hk => r2.block k hk (by simp)⟩
    rw [Nat.zero_add, List.nil_append] at r1
    refine ⟨v', w', by simp [execOp, resolve, invoke, builtin, hv, hu2, hr, Result.andThen], hg, fun A hA => hxm A hA, fun A hA T hT => hD' T (hD A hA T hT), ds1, (cat l).grow _ _ _ _ hg h5, r1.1, ?_⟩
    rcases r1.2 with ⟨_, h0⟩ | ⟨g', cap, cur, e1, e2, e3⟩
    · omega
    · exact .inr ⟨g', cap, cur, e1, Nat.le_trans av.base.size e2, e3⟩
end

end Go.Proofs.YtaplgnjnhfljnaaGreat
