/- New rows, old rows; functions that write rows of their own; functions that write a caller's variable. -/
import Derived.Test.YtgjolcbehcjhcaaOps
import Derived.OwnWalk
import Derived.Maps.AppendAt
import Derived.WalkKit
import Derived.Lib.Walk
import Derived.Lib.SliceRun
namespace Go.Proofs.Ytgjolcbehcjhcaa
open Go Go.RowKit

/-- limbs in a row that the call has made. -/
def MgN (l : List Nat) : As where
  n := 1
  ag := false
  p B cs w := okL l ∧ ∃ A c, cs = [.slice A l.length c] ∧ l.length ≤ c ∧ c ≤ maxLen ∧
    (0 < l.length → ∃ g ext, A = some ⟨g, 0, none⟩ ∧ B ≤ g ∧ w.heap[g]? = some (.cells ((l ++ ext).map fun (x : Nat) => Value.int .u32 x).toArray U32 (0, 0)))
  deps := [U32]
  len := by rintro B cs w ⟨_, A, c, rfl, _⟩; rfl
  one := by rintro B cs w ⟨_, A, c, rfl, _⟩ x hx; simp at hx; subst hx; rfl
  ag1 := fun _ => rfl
  grow := by
    rintro B cs w w' hg ⟨h0, A, c, rfl, h1, h2, h3⟩
    refine ⟨h0, A, c, rfl, h1, h2, fun hn => ?_⟩
    obtain ⟨g, ext, e1, e0, e2⟩ := h3 hn
    exact ⟨g, ext, e1, e0, hg.heap e2⟩
  wr := by
    rintro B cs w w' g c T fz hg hT hB hW ⟨h0, A, c', rfl, h1, h2, h3⟩
    refine ⟨h0, A, c', rfl, h1, h2, fun hn => ?_⟩
    obtain ⟨g', ext, e1, e0, e2⟩ := h3 hn
    refine ⟨g', ext, e1, e0, ?_⟩
    rw [hW.block g' fun hh => ?_]
    · exact e2
    · subst hh
      rw [hg] at e2
      simp only [Option.some.injEq, Obj.cells.injEq] at e2
      exact hT (by simp [e2.2.1])
/-- limbs that lay there when the call began. -/
abbrev MgO (l : List Nat) : As := SlO U32 [] (l.map fun (x : Nat) => NumA .u32 (x : Int)) (okL l)
def RIN (x : RI) : As := cat [BoA x.neg, MgN x.mag]
def RIO (x : RI) : As := cat [BoA x.neg, MgO x.mag]

/-- ways in which limbs may lie that 'trim' keeps. -/
structure Fam (M : List Nat → As) : Prop where
  n : ∀ l, (M l).n = 1
  ag : ∀ l, (M l).ag = false
  op : ∀ l B v w, (M l).va.p B v w → ∃ A c, v = .slice A l.length c ∧ Mag B w A c l ∧ ∀ k, (M (l.take k)).va.p B (.slice A (l.take k).length c) w
  nil : ∀ B w, (M []).p B [.slice none 0 0] w
theorem famA : Fam MgA := ⟨fun _ => rfl, fun _ => rfl, fun l B v w h => by
  obtain ⟨A, c, hv, hm⟩ := mg_open h
  exact ⟨A, c, hv, hm, fun k => mg_shut (hm.take k) rfl⟩, mag_nil_p⟩
theorem famN : Fam MgN := ⟨fun _ => rfl, fun _ => rfl, fun l B v w h => by
  obtain ⟨cs, ⟨h0, A, c, rfl, h1, h2, h3⟩, hv⟩ := h
  refine ⟨A, c, hv, ⟨h0, h1, h2, fun hn => ?_⟩, fun k => ⟨[.slice A (l.take k).length c], ⟨fun x hx => h0 x (List.mem_of_mem_take hx), A, c, rfl, by simp; omega, h2, fun hn => ?_⟩, rfl⟩⟩
  · obtain ⟨g, ext, rfl, _, e2⟩ := h3 hn
    exact (Mag.own e2 h0 h1 h2 (fun j hj => by rw [List.getElem?_toArray, List.getElem?_map, List.getElem?_append_left hj]; simp [hj])).at_ hn
  · obtain ⟨g, ext, e1, e0, e2⟩ := h3 (by simp at hn; omega)
    exact ⟨g, l.drop k ++ ext, e1, e0, by rw [← List.append_assoc, List.take_append_drop]; exact e2⟩,
  fun B w => ⟨okL_nil, none, 0, rfl, Nat.le_refl _, Nat.zero_le _, fun h => by simp at h⟩⟩
theorem fam_str {M : List Nat → As} (hM : Fam M) : Str Try.prog 24 [BoA false, M []] :=
  Str.of (z := .agg #[.bool false, .slice none 0 0]) (by kernel_rfl) Try.underlying24 (by rw [show placesOf [BoA false, M []] = placesOf [BoA false, MgA []] from by simp [placesOf, offs, hM.n, (famA).n, List.range_succ]]; kernel_rfl) fun B w => ⟨[[.bool false], [.slice none 0 0]], rfl, .cons rfl (.cons (hM.nil B w) .nil)⟩

theorem mgO_nil (B : Nat) (w : World) : (MgO []).p B [.slice none 0 0] w := ⟨okL_nil, nums_nd, none, 0, [], rfl, Nat.le_refl _, Nat.zero_le _, ⟨[], rfl, .nil⟩, fun h => by simp at h⟩
theorem str_intO : Str Try.prog 24 [BoA false, MgO []] :=
  Str.of (z := .agg #[.bool false, .slice none 0 0]) (by kernel_rfl) Try.underlying24 (by kernel_rfl) fun B w => ⟨[[.bool false], [.slice none 0 0]], rfl, .cons rfl (.cons (mgO_nil B w) .nil)⟩
theorem mgN_A {l : List Nat} {B : Nat} {v : Value} {w : World} (h : (MgN l).va.p B v w) : (MgA l).va.p B v w := by
  obtain ⟨A, c, rfl, hm, _⟩ := famN.op l B v w h
  exact mg_shut hm rfl

/-! which facts hold for a later bound, which for an earlier one -/
/-- held against the world as it is, all is old. -/
def Up (A A' : VA) : Prop := ∀ B v w, B ≤ w.heap.size → A.p B v w → A'.p w.heap.size v w
def UpA (A A' : As) : Prop := A'.n = A.n ∧ A'.ag = A.ag ∧ ∀ B cs w, B ≤ w.heap.size → A.p B cs w → A'.p w.heap.size cs w
/-- for each earlier bound. -/
def Free (A A' : VA) : Prop := ∀ B B' v w, B' ≤ B → A.p B v w → A'.p B' v w
def FreeA (A A' : As) : Prop := A'.n = A.n ∧ A'.ag = A.ag ∧ ∀ B B' cs w, B' ≤ B → A.p B cs w → A'.p B' cs w
theorem UpA.va {A A' : As} (h : UpA A A') : Up A.va A'.va := fun B v w hB ⟨cs, hp, hv⟩ => ⟨cs, h.2.2 B cs w hB hp, by rw [h.2.1]; exact hv⟩
theorem FreeA.va {A A' : As} (h : FreeA A A') : Free A.va A'.va := fun B B' v w hB ⟨cs, hp, hv⟩ => ⟨cs, h.2.2 B B' cs w hB hp, by rw [h.2.1]; exact hv⟩
theorem free_num (k : IntKind) (n : Int) : FreeA (NumA k n) (NumA k n) := ⟨rfl, rfl, fun _ _ _ _ _ h => h⟩
theorem up_num (k : IntKind) (n : Int) : UpA (NumA k n) (NumA k n) := ⟨rfl, rfl, fun _ _ _ _ h => h⟩
theorem up_bo (b : Bool) : UpA (BoA b) (BoA b) := ⟨rfl, rfl, fun _ _ _ _ h => h⟩
theorem free_bo (b : Bool) : FreeA (BoA b) (BoA b) := ⟨rfl, rfl, fun _ _ _ _ _ h => h⟩
theorem free_mgN (l : List Nat) : FreeA (MgN l) (MgN l) := ⟨rfl, rfl, fun B B' cs w hB h => by
  obtain ⟨h0, A, c, rfl, h1, h2, h3⟩ := h
  refine ⟨h0, A, c, rfl, h1, h2, fun hn => ?_⟩
  obtain ⟨g, ext, e1, e0, e2⟩ := h3 hn
  exact ⟨g, ext, e1, Nat.le_trans hB e0, e2⟩⟩
theorem up_mg (l : List Nat) : UpA (MgA l) (MgO l) := ⟨rfl, rfl, fun B cs w hB hp => by
  obtain ⟨ok, h0, A, c, ds, rfl, h1, h2, h3, h4⟩ := hp
  refine ⟨ok, h0, A, c, ds, rfl, h1, h2, ?_, fun hn => ?_⟩
  · exact cat_nums.2 (cat_nums.1 h3)
  · obtain ⟨b, o, e1, e2, e3, e4⟩ := h4 hn
    exact ⟨b, o, e1, e2, e2, e4⟩⟩
theorem free_mgNA (l : List Nat) : FreeA (MgN l) (MgA l) := ⟨rfl, rfl, fun B B' cs w hB h0 => by
  have h := (free_mgN l).2.2 B B' cs w hB h0
  obtain ⟨ds, hp, hv⟩ := mgN_A (l := l) (B := B') ⟨cs, h, rfl⟩
  have l1 := (MgN l).len _ _ _ h
  have l2 := (MgA l).len _ _ _ hp
  match cs, ds, l1, l2, hv, hp with
  | [x], [y], _, _, hv, hp =>
    have : x = y := hv
    rw [this]; exact hp⟩
theorem cat_free {l l' : List As} (h : All2 FreeA l l') : FreeA (cat l) (cat l') := by
  have key : ∀ {l l' : List As}, All2 FreeA l l' → (cat l').n = (cat l).n ∧ ∀ B B' ps w, B' ≤ B → All2 (fun (A : As) c => A.p B c w) l ps → All2 (fun (A : As) c => A.p B' c w) l' ps := by
    intro l l' h
    induction h with
    | nil => exact ⟨rfl, fun B B' ps w _ h => by cases h; exact .nil⟩
    | cons h1 _ ih =>
      refine ⟨?_, fun B B' ps w hB h => ?_⟩
      · have := ih.1
        simp only [cat, List.map_cons, List.sum_cons] at this ⊢
        rw [h1.1, this]
      · cases h with
        | cons h2 h3 => exact .cons (h1.2.2 _ _ _ _ hB h2) (ih.2 _ _ _ _ hB h3)
  refine ⟨(key h).1, rfl, fun B B' cs w hB hp => ?_⟩
  obtain ⟨ps, e1, e2⟩ := hp
  exact ⟨ps, e1, (key h).2 B B' ps w hB e2⟩
theorem cat_up {l l' : List As} (h : All2 UpA l l') : UpA (cat l) (cat l') := by
  have key : ∀ {l l' : List As}, All2 UpA l l' → (cat l').n = (cat l).n ∧ ∀ B ps w, B ≤ w.heap.size → All2 (fun (A : As) c => A.p B c w) l ps → All2 (fun (A : As) c => A.p w.heap.size c w) l' ps := by
    intro l l' h
    induction h with
    | nil => exact ⟨rfl, fun B ps w _ h => by cases h; exact .nil⟩
    | cons h1 _ ih =>
      refine ⟨?_, fun B ps w hB h => ?_⟩
      · have := ih.1
        simp only [cat, List.map_cons, List.sum_cons] at this ⊢
        rw [h1.1, this]
      · cases h with
        | cons h2 h3 => exact .cons (h1.2.2 _ _ _ hB h2) (ih.2 _ _ _ hB h3)
  refine ⟨(key h).1, rfl, fun B cs w hB hp => ?_⟩
  obtain ⟨ps, e1, e2⟩ := hp
  exact ⟨ps, e1, (key h).2 B ps w hB e2⟩
theorem up_ri (x : RI) : UpA (RIA x) (RIO x) := cat_up (.cons (up_bo _) (.cons (up_mg _) .nil))
theorem free_ri (x : RI) : FreeA (RIN x) (RIN x) := cat_free (.cons (free_bo _) (.cons (free_mgN _) .nil))
theorem free_riA (x : RI) : FreeA (RIN x) (RIA x) := cat_free (.cons (free_bo _) (.cons (free_mgNA _) .nil))
theorem all_free {l l' : List VA} (h : All2 Free l l') (B B' : Nat) (hB : B' ≤ B) (w : World) : ∀ {vs : List Value}, All2 (fun (A : VA) v => A.p B v w) l vs → All2 (fun (A : VA) v => A.p B' v w) l' vs := by
  induction h with
  | nil => intro vs hp; cases hp; exact .nil
  | cons h1 _ ih => intro vs hp; cases hp with | cons h2 h3 => exact .cons (h1 _ _ _ _ hB h2) (ih h3)
theorem all_up {l l' : List VA} (h : All2 Up l l') (B : Nat) (w : World) (hB : B ≤ w.heap.size) : ∀ {vs : List Value}, All2 (fun (A : VA) v => A.p B v w) l vs → All2 (fun (A : VA) v => A.p w.heap.size v w) l' vs := by
  induction h with
  | nil => intro vs hp; cases hp; exact .nil
  | cons h1 _ ih => intro vs hp; cases hp with | cons h2 h3 => exact .cons (h1 _ _ _ hB h2) (ih h3)
theorem tu_free {l l' : List VA} (h : All2 Free l l') : Free (Tu l) (Tu l') := fun B B' _ w hB ⟨vs, hv, hp⟩ => ⟨vs, hv, all_free h B B' hB w hp⟩

/-- the same contract, of a weaker answer, whatever the bound. -/
theorem Cn.free {P : Program} {f : FuncId} {pre : List VA} {post post' : VA} (h : Cn P f pre post) (hp : Free post post') : Cn P f pre post' := h.mono fun B v w => hp B B v w (Nat.le_refl _)

/-- INTO A FUNCTION THAT WRITES ROWS: all that it is handed is old. -/
theorem Cn.introW {P : Program} {f : FuncId} {fn : Func} {c : Code} {pre pre' : List VA} {post : VA} (hf : P.funcs[f]? = some fn) (hb : fn.body = some c) (hn : (fn.name == "runtime.NumGoroutine") = false) (hsz : pre.length ≤ fn.ntmps)
    (hup : All2 Up pre pre') (hfree : Free post post)
    (h : ∀ (B : Nat) (w0 : Bs) (a : Act), B = w0.w.heap.size → St B w0 fn.ntmps (argΓ pre') [] a w0.w → c.wp P (bodyPost P fn (RQ B w0 post)) a w0.w) : Cn P f pre post := by
  refine ⟨⟨fn, hf, hn, by rw [hb]; rfl⟩, fun B w args hB ha => (calls_of_wp hf hb (h w.heap.size ⟨w, fun _ => False⟩ _ rfl ?_)).mono fun _ _ ⟨v, he, hv, hk⟩ => ⟨v, he, hfree _ _ _ _ hB hv, hk.grow0⟩⟩
  have hl := ha.length
  have hl2 := hup.length
  have ha' : All2 (fun (A : VA) v => A.p w.heap.size v w) pre' args := all_up hup B w hB ha
  refine ⟨fun g hg => hg.resolve_right fun h => h, rfl, ?_, Kept.refl _, All2.args ha', (fun l hl => by cases hl), (fun l hl => by cases hl)⟩
  simp only [Array.size_append, List.size_toArray, Array.size_replicate]
  omega

/-! ### functions that return a new row -/
/-- 'called with such values it returns a new block's name; the block is as A says.' -/
def Cr (P : Program) (f : FuncId) (T : TypeId) (H : Hd) (A : As) (pre : List VA) : Prop :=
  (∃ fn, P.funcs[f]? = some fn ∧ (fn.name == "runtime.NumGoroutine") = false ∧ fn.body.isNone = false) ∧
  ∀ (B : Nat) (w : World) (args : List Value), B ≤ w.heap.size → All2 (fun A v => A.p B v w) pre args →
    Calls P f args.toArray w fun e w' => ∃ g cs, e = .returned (H.f g) ∧ w.heap.size ≤ g ∧ w'.heap[g]? = some (.cells (List.toArray cs) T (0, 0)) ∧ A.p B cs w' ∧ Grow w w'
def RQr (B : Nat) (w0 : Bs) (T : TypeId) (H : Hd) (A : As) : Ending → World → Prop := fun e w' => ∃ g cs, e = .returned (H.f g) ∧ w0.w.heap.size ≤ g ∧ w'.heap[g]? = some (.cells (List.toArray cs) T (0, 0)) ∧ A.p B cs w' ∧ Kept w0 w'
theorem Cr.introW {P : Program} {f : FuncId} {fn : Func} {c : Code} {T : TypeId} {H : Hd} {A : As} {pre pre' : List VA} (hf : P.funcs[f]? = some fn) (hb : fn.body = some c) (hn : (fn.name == "runtime.NumGoroutine") = false) (hsz : pre.length ≤ fn.ntmps)
    (hup : All2 Up pre pre') (hA : ∀ B B' cs w, A.p B cs w → A.p B' cs w)
    (h : ∀ (B : Nat) (w0 : Bs) (a : Act), B = w0.w.heap.size → St B w0 fn.ntmps (argΓ pre') [] a w0.w → c.wp P (bodyPost P fn (RQr B w0 T H A)) a w0.w) : Cr P f T H A pre := by
  refine ⟨⟨fn, hf, hn, by rw [hb]; rfl⟩, fun B w args hB ha => (calls_of_wp hf hb (h w.heap.size ⟨w, fun _ => False⟩ _ rfl ?_)).mono fun _ _ ⟨g, cs, he, h1, h2, h3, hk⟩ => ⟨g, cs, he, h1, h2, hA _ _ _ _ h3, hk.grow0⟩⟩
  have hl := ha.length
  have hl2 := hup.length
  have ha' : All2 (fun (A : VA) v => A.p w.heap.size v w) pre' args := all_up hup B w hB ha
  refine ⟨fun g hg => hg.resolve_right fun h => h, rfl, ?_, Kept.refl _, All2.args ha', (fun l hl => by cases hl), (fun l hl => by cases hl)⟩
  simp only [Array.size_append, List.size_toArray, Array.size_replicate]
  omega
theorem ret_rowr {P : Program} {fn : Func} {B t N : Nat} {w0 : Bs} {Γ : List (Nat × VA)} {Λ : List Lc} {a : Act} {w : World} {T : TypeId} {H : Hd} {A : As} (hr : fn.results = #[.tmp t]) (h : St B w0 N Γ Λ a w) (hB : B = w0.w.heap.size) (hm : (⟨t, T, H, A⟩ : Lc) ∈ Λ) : bodyPost P fn (RQr B w0 T H A) .ret a w := by
  obtain ⟨g, cs, h1, hgm, h3, h4⟩ := h.locs _ hm
  refine ⟨h.defers, _, results_tmp hr a.tmps P w, g, cs, ?_, by have := h.lo g hgm; omega, h3, h4, h.base⟩
  exact congrArg Ending.returned h1
section
variable {P : Program} {Q : Exit → Act → World → Prop} {R : Rg} {B : Nat} {w0 : Bs} {i : Nat}
theorem ob_calr {d e : Nat} {T : TypeId} {H : Hd} {A : As} {st : Option (Nat × As)} {f : FuncId} {xs : List Operand} {pre : List VA} {at_ : Array TypeId} {ty : TypeId} {ps : String} {af : Array Edge} (hs : R.sp[i]? = some (.alc e)) (he : R.les[e]? = some ⟨d, T, H, some i, A, st⟩)
    (ho : R.ops[i]? = some ⟨some d, .call ⟨.value (.func f), xs.toArray, at_⟩, ty, ps, af, none⟩) (hc : Cr P f T H A pre) (hx : HasL R B w0 i xs pre) : R.Ob P Q B w0 i := by
  unfold Rg.Ob
  simp only [hs, he]
  intro a w av K hK
  obtain ⟨⟨fn, hf, hn, hb⟩, hcall⟩ := hc
  refine wpOp_of ho rfl ?_
  have hrun : (execOp a.eval ⟨some d, .call ⟨.value (.func f), xs.toArray, at_⟩, ty, ps, af, none⟩).run P w = .ok (.enter f (xs.map a.eval).toArray) w := by
    simp only [execOp, resolve, Act.eval, Deferred.ofValue, Sem.run_bind, Sem.run_pure, Result.andThen_ok, invoke, run_callFunc hf hn hb]
    simp
  unfold Oper.wp
  rw [hrun]
  exact (hcall B w _ (Av.bw av) (hx.all av)).mono fun e w' ⟨g, cs, he, h1, h2, h3, hg⟩ => by subst he; exact hK g cs w' hg h1 h2 h3
end
/-- a new row in a slot becomes a local. -/
theorem St.own {B N : Nat} {w0 : Bs} {Γ : List (Nat × VA)} {Λ : List Lc} {a : Act} {w : World} (h : St B w0 N Γ Λ a w) (hB : B = w0.w.heap.size) {t : Nat} {l : List Nat} (k : Nat) (hm : Γ[k]? = some (t, (MgN l).va)) (hl : 0 < l.length) (hΛ : Λ.all (fun m => m.T != U32) = true) :
    ∃ c ext, l.length ≤ c ∧ c ≤ maxLen ∧ okL l ∧ St B w0 N Γ (⟨t, U32, slH l.length c, Nums .u32 (l ++ ext)⟩ :: Λ) a w := by
  obtain ⟨cs, ⟨ok, A, c, rfl, h1, h2, h3⟩, hv⟩ := h.vals _ (List.mem_of_getElem? hm)
  obtain ⟨g, ext, rfl, h4, h5⟩ := h3 hl
  have hd : ∀ m ∈ Λ, blk (a.eval (.tmp m.s)) ≠ some g := by
    intro m hm2 hh
    obtain ⟨g', cs, e1, _, e3, _⟩ := h.locs m hm2
    rw [e1, m.H.ok] at hh
    injection hh with hh
    subst hh
    rw [e3] at h5
    simp only [Option.some.injEq, Obj.cells.injEq] at h5
    have := List.all_eq_true.1 hΛ m hm2
    simp [h5.2.1] at this
  have hg : blk (a.eval (.tmp t)) = some g := by rw [hv]; rfl
  refine ⟨c, ext, h1, h2, ok, h.lo, h.defers, h.size, h.base, h.vals, fun x hx => ?_, fun x hx y hy hne => ?_⟩
  · rcases List.mem_cons.1 hx with rfl | hx
    · exact ⟨g, _, hv, .inl (by omega), h5, rfl⟩
    · exact h.locs x hx
  · rcases List.mem_cons.1 hx with rfl | hx <;> rcases List.mem_cons.1 hy with rfl | hy
    · exact absurd rfl hne
    · rw [hg]; exact fun e => hd y hy e.symm
    · rw [hg]; exact hd x hx
    · exact h.dis x hx y hy hne

/-! ### functions that write a variable of the caller's -/
/-- what an argument is: a value; THE variable that is written. -/
inductive Ar where
  | v (A : VA)
  | w (H : Hd)
def Ar.ok (B : Nat) (w : World) (g : Nat) : Ar → Value → Prop
  | .v A, x => A.p B x w
  | .w H, x => x = H.f g
/-- 'called with a variable of type T that is as A0 says, and values, it returns a value that is as post says, the variable is then as A1 says; nothing else turns.' -/
def Cm (P : Program) (f : FuncId) (T : TypeId) (A0 A1 : As) (pre : List Ar) (post : VA) : Prop :=
  (∃ fn, P.funcs[f]? = some fn ∧ (fn.name == "runtime.NumGoroutine") = false ∧ fn.body.isNone = false) ∧
  ∀ (B : Nat) (w : World) (g : Nat) (cs : List Value) (args : List Value), B ≤ g → w.heap[g]? = some (.cells cs.toArray T (0, 0)) → A0.p B cs w → All2 (fun A v => Ar.ok B w g A v) pre args →
    Calls P f args.toArray w fun e w' => ∃ v cs', e = .returned v ∧ post.p B v w' ∧ But g w w' ∧ w'.heap[g]? = some (.cells cs'.toArray T (0, 0)) ∧ A1.p B cs' w'

def RQm (B : Nat) (w0 : Bs) (g : Nat) (T : TypeId) (A1 : As) (post : VA) : Ending → World → Prop := fun e w' => ∃ v cs', e = .returned v ∧ post.p B v w' ∧ Kept w0 w' ∧ w'.heap[g]? = some (.cells (List.toArray cs') T (0, 0)) ∧ A1.p B cs' w'

def Ar.va (g : Nat) : Ar → VA
  | .v A => A
  | .w H => EqV (H.f g)

theorem Cm.intro {P : Program} {f : FuncId} {fn : Func} {c : Code} {T : TypeId} {A0 A1 : As} {H : Hd} {pre : List Ar} {post : VA} (hf : P.funcs[f]? = some fn) (hb : fn.body = some c) (hn : (fn.name == "runtime.NumGoroutine") = false) (hsz : pre.length + 1 ≤ fn.ntmps)
    (h : ∀ (B g : Nat) (w0 : Bs) (a : Act), St B w0 fn.ntmps (argΓ ((Ar.w H :: pre).map (Ar.va g))) [⟨0, T, H, A0⟩] a w0.w → c.wp P (bodyPost P fn (RQm B w0 g T A1 post)) a w0.w) : Cm P f T A0 A1 (.w H :: pre) post := by
  refine ⟨⟨fn, hf, hn, by rw [hb]; rfl⟩, fun B w g cs args hB hg hp ha => (calls_of_wp hf hb (h B g ⟨w, fun k => k = g⟩ _ ?_)).mono fun _ _ ⟨v, cs', he, hv, hk, h1, h2⟩ => ⟨v, cs', he, hv, hk, h1, h2⟩⟩
  have hl := ha.length
  have hgw := (Array.getElem?_eq_some_iff.1 hg).1
  have ha' : All2 (fun (A : VA) v => A.p B v w) ((Ar.w H :: pre).map (Ar.va g)) args := by
    generalize (Ar.w H :: pre) = pr at ha
    clear hl
    induction ha with
    | nil => exact .nil
    | @cons x y xs ys h1 _ ih =>
      refine .cons ?_ ih
      cases x with
      | v A => exact h1
      | w H => exact h1
  have h0 : (⟨args.toArray ++ Array.replicate (fn.ntmps - args.toArray.size) undef, []⟩ : Act).eval (.tmp 0) = H.f g := by
    have := All2.args (N := fn.ntmps - args.toArray.size) ha' (0, EqV (H.f g)) (by simp [argΓ, Ar.va])
    exact this
  refine ⟨fun k hk => ?_, rfl, ?_, Kept.refl _, All2.args ha', fun l hl => ?_, fun l hl m hm hne => ?_⟩
  · rcases hk with hk | hk
    · exact Nat.le_trans hB (Nat.le_trans (Nat.le_of_lt hgw) hk)
    · have : k = g := hk
      omega
  · simp only [Array.size_append, List.size_toArray, Array.size_replicate]
    simp at hl
    omega
  · simp at hl
    subst hl
    exact ⟨g, cs, h0, .inr rfl, hg, hp⟩
  · simp at hl hm
    subst hl hm
    exact absurd rfl hne

theorem ret_m {P : Program} {fn : Func} {B N g : Nat} {w0 : Bs} {Γ : List (Nat × VA)} {Λ : List Lc} {a : Act} {w : World} {T : TypeId} {H : Hd} {A1 : As} {post : VA} (h : St B w0 N Γ Λ a w) (hm : (0, EqV (H.f g)) ∈ Γ) (hl : (⟨0, T, H, A1⟩ : Lc) ∈ Λ)
    (hb : bodyPost P fn (RQ B w0 post) .ret a w) : bodyPost P fn (RQm B w0 g T A1 post) .ret a w := by
  obtain ⟨hd, v, hr, v', e1, e2, e3⟩ := hb
  obtain ⟨g', cs, f1, _, f3, f4⟩ := h.locs _ hl
  have f0 : a.eval (.tmp 0) = H.f g := h.vals _ hm
  have : g' = g := Rg.Hd.inj (H := H) (H' := H) (by rw [← f1, ← f0])
  subst this
  exact ⟨hd, v, hr, v', cs, e1, e2, e3, f3, f4⟩

theorem ri_know {x : RI} {B : Nat} {v : Value} {w : World} (h : (RIA x).va.p B v w) : okL x.mag ∧ x.mag.length ≤ 9223372036854775807 := by
  obtain ⟨cs, hp, _⟩ := h
  obtain ⟨ps, _, hps⟩ := hp
  cases hps with
  | cons _ h2 => cases h2 with
    | cons h3 _ =>
      obtain ⟨A, c, _, hg⟩ := mg_open ⟨_, h3, rfl⟩
      have h1 := hg.le
      have h2 := hg.max
      unfold maxLen at h2
      exact ⟨hg.ok, by omega⟩
theorem wi_pm {n : Nat} (h : 0 < n) (h2 : n ≤ 9223372036854775807) : IntKind.i64.wrap ((n : Int) - 1) = ((n - 1 : Nat) : Int) := by rw [wi64 (by omega) (by omega)]; omega
theorem wi_succ {n : Nat} (h : n < 4611686018427387904) : IntKind.i64.wrap ((n : Int) + 1) = ((n + 1 : Nat) : Int) := by rw [wi64 (by omega) (by omega)]; rfl
theorem wi_add {n m : Nat} (h : n + m < 4611686018427387904) : IntKind.i64.wrap ((n : Int) + (m : Int)) = ((n + m : Nat) : Int) := by rw [wi64 (by omega) (by omega)]; rfl
theorem wi_pred {n : Nat} (h : n + 1 < 4611686018427387904) : IntKind.i64.wrap (((n + 1 : Nat) : Int) - 1) = ((n : Nat) : Int) := by rw [wi64 (by omega) (by omega)]; omega
theorem u32_info : ∃ i0, Try.prog.info? U32 = some i0 ∧ i0.zero = some (.int .u32 0) ∧ i0.size = 1 ∧ i0.bytes = 4 := info_parts (by kernel_rfl)
theorem mk_u32 : MakeOk Try.prog 22 U32 .u32 := by
  have hi : (Try.prog.info? U32).map (fun it => decide (it.bytes ≤ 8)) = some true := by kernel_rfl
  exact ⟨by kernel_rfl, by kernel_rfl, by kernel_rfl, by kernel_rfl, fun it h => by rw [h] at hi; simpa using hi⟩
theorem St.selL {B N : Nat} {w0 : Bs} {Γ : List (Nat × VA)} {Λ : List Lc} {a : Act} {w : World} (h : St B w0 N Γ Λ a w) (l : List Nat) : St B w0 N Γ (l.filterMap fun k => Λ[k]?) a w := by
  have hm : ∀ x ∈ l.filterMap (fun k => Λ[k]?), x ∈ Λ := fun x hx => by
    obtain ⟨k, _, hk⟩ := List.mem_filterMap.1 hx
    exact List.mem_of_getElem? hk
  exact ⟨h.lo, h.defers, h.size, h.base, h.vals, fun x hx => h.locs x (hm x hx), fun x hx y hy => h.dis x (hm x hx) y (hm y hy)⟩
theorem cond_join {P : Program} {B N : Nat} {w0 : Bs} {Γ : List (Nat × VA)} {Λ : List Lc} {a : Act} {w : World} {Q : Exit → Act → World → Prop} {t : Nat} {b : Bool} {x y : Code} (J : Act → World → Prop) (h : St B w0 N Γ Λ a w) (hm : (t, Bo b) ∈ Γ)
    (ht : b = true → x.wp P (Exit.then J Q) a w) (hf : b = false → y.wp P (Exit.then J Q) a w) (hk : ∀ a w, J a w → Q .normal a w) : (Code.cond (.tmp t) x y).wp P Q a w := by
  have hJ : ∀ {z : Code}, z.wp P (Exit.then J Q) a w → z.wp P Q a w := fun hz => wp_mono hz fun e a' w' hq => by
    cases e with
    | normal => exact hk a' w' hq
    | _ => exact hq
  exact cond_of h hm (fun hb => hJ (ht hb)) (fun hb => hJ (hf hb))
theorem Cn.pre {P : Program} {f : FuncId} {pre pre' : List VA} {post : VA} (h : Cn P f pre post) (e : pre' = pre) : Cn P f pre' post := by subst e; exact h
theorem Cn.post {P : Program} {f : FuncId} {pre : List VA} {post post' : VA} (h : Cn P f pre post) (e : post = post') : Cn P f pre post' := by subst e; exact h
/-- 'append([]T{}, s...)': a row of one's own, noughts behind it. -/
theorem wpList_append_new {P : Program} {w : World} {ops : Array Oper} {rest : List Oper} {o : Oper} {a : Act} {Q : Exit → Act → World → Prop} (hgd : o.guard = none) (s x : Operand) (t : TypeId) (ho : o.op = .call { callee := .builtin .append, args := #[s, x], argTypes := #[t, t] })
    (e : TypeId) (i : TypeInfo) (z : Value) (ht : P.underlying t = some (.slice e)) (hi : P.info? e = some i) (hz : i.zero = some z) (hsize : i.size = 1) (hby : i.bytes = 4)
    (b : Addr) (hs : a.eval s = .slice (some b) 0 0) (ad : Addr) (m c : Nat) (news : List Value) (hx : a.eval x = .slice (some ad) m c) (hl : news.length = m) (hnews : ∀ j u, news[j]? = some u → w.cell? (ad.add j) = some u) (hm : 0 < m) (hbytes : m * 4 ≤ 140737488355328)
    (h : wpList P ops Q rest (a.put o.dst (.slice (some ⟨w.heap.size, 0, none⟩) m (grownCap w m 0 e))) (w.drew.alloc (.cells (news.toArray ++ Builtin.zeroCells z.cells (grownCap w m 0 e - m)) e))) : wpList P ops Q (o :: rest) a w := by
  refine wpList_plain hgd fun K hK => ?_
  have hr := run_append_grow (P := P) w t o.type e i z ht hi hz b 0 0 [] (by simp) (fun j v hj => by simp at hj) ad m c news (by rw [hl, hsize, Nat.mul_one]) hnews (by omega) (by omega) (growslice_fits (by omega) (by rw [hby]; omega))
  simp only [Nat.zero_add, Array.empty_append] at hr
  unfold Oper.wp execOp
  simp only [ho, resolve, invoke, builtin, Sem.run_bind, Sem.run_pure, Result.andThen_ok, List.map_toArray, List.map_cons, List.map_nil, hs, hx, hr]
  exact hK _ _ h
theorem zero_cells (k : Nat) : Builtin.zeroCells #[Value.int .u32 0] k = ((List.replicate k 0).map fun (x : Nat) => Value.int .u32 x).toArray := by
  apply Array.ext_getElem?
  intro j
  simp only [Builtin.zeroCells, List.map_replicate]
  by_cases hj : j < k
  · simp [hj, Nat.mod_one]
  · simp [hj]
/-- what a fact on limbs tells of them. -/
theorem St.mag {B N : Nat} {w0 : Bs} {Γ : List (Nat × VA)} {Λ : List Lc} {a : Act} {w : World} (h : St B w0 N Γ Λ a w) {t : Nat} {l : List Nat} (k : Nat) (hm : Γ[k]? = some (t, (MgA l).va)) : okL l ∧ l.length ≤ 9223372036854775807 := by
  obtain ⟨A, c, _, hg⟩ := mg_open (h.vals _ (List.mem_of_getElem? hm))
  have h1 := hg.le
  have h2 := hg.max
  unfold maxLen at h2
  exact ⟨hg.ok, by omega⟩
theorem St.magO {B N : Nat} {w0 : Bs} {Γ : List (Nat × VA)} {Λ : List Lc} {a : Act} {w : World} (h : St B w0 N Γ Λ a w) {t : Nat} {l : List Nat} (k : Nat) (hm : Γ[k]? = some (t, (MgO l).va)) : okL l ∧ l.length ≤ 9223372036854775807 := by
  obtain ⟨A, c, _, hg⟩ := mg_open (l := l) (SlO.use (h.vals _ (List.mem_of_getElem? hm)))
  have h1 := hg.le
  have h2 := hg.max
  unfold maxLen at h2
  exact ⟨hg.ok, by omega⟩
section
variable {P : Program} {Q : Exit → Act → World → Prop} {R : Rg} {B : Nat} {w0 : Bs} {i : Nat}
/-- a row of one's own, as it is. -/
theorem has_rowN {t b n c : Nat} {l : List Nat} (j : Nat) (hj : R.sp[j]? = some (.adr t b .none True)) (hji : (R.anc i).contains j = true) (hl : LocH R i b U32 (slH n c) (Nums .u32 l)) (h : n = l.length ∧ n ≤ c ∧ c ≤ maxLen ∧ okL l) : Has R B w0 i (.tmp t) (MgN l).va := fun a w av => by
  obtain ⟨g, cs, h1, hgm, h3, h4⟩ := hl.ok av
  have h2 := av.d j t b .none True hji hj trivial
  have h4' : cs = l.map fun (x : Nat) => Value.int .u32 x := h4
  obtain ⟨rfl, hc, hm, ok⟩ := h
  exact ⟨[.slice (some ⟨g, 0, none⟩) l.length c], ⟨ok, _, c, rfl, hc, hm, fun _ => ⟨g, [], rfl, av.lo g hgm, by rw [List.append_nil, ← h4']; exact h3⟩⟩, h2.trans h1⟩
theorem has_new {x : Operand} {l : List Nat} (h : Has R B w0 i x (MgN l).va) : Has R B w0 i x (MgA l).va := fun a w av => mgN_A (h a w av)
theorem r_idxmd {x y : Operand} {S : TypeId} {l : List Nat} {k : Nat} {kd : IntKind} (hS : Sl P S U32 1) (hx : Has R B w0 i x (MgA l).va) (hy : Has R B w0 i y (NumA kd k).va) (hk : k < l.length) : Wv P Q R B w0 i (.indexAddr S x y) (ElP U32 (NumA .u32 (l.getD k 0 : Nat))) := by
  have := r_idxm (P := P) (Q := Q) hS hx hy hk
  rwa [show l[k] = l.getD k 0 from by simp [List.getD, hk]] at this
theorem has_nat {k : IntKind} {z : Int} (n : Nat) (h : z = (n : Int)) : Has R B w0 i (.const (.int k z)) (NumA k (n : Nat)).va := fun _ w _ => by subst h; exact val_num k _ B w
theorem ret_row {fn : Func} {t N n c : Nat} {Γ : List (Nat × VA)} {Λ : List Lc} {a : Act} {w : World} {l : List Nat} (hr : fn.results = #[.tmp t]) (h : St B w0 N Γ Λ a w) (hm : (⟨t, U32, slH n c, Nums .u32 l⟩ : Lc) ∈ Λ) (hk : n = l.length ∧ n ≤ c ∧ c ≤ maxLen ∧ okL l) :
    bodyPost P fn (RQ B w0 (MgN l).va) .ret a w := by
  obtain ⟨g, cs, h1, hgm, h3, h4⟩ := h.locs _ hm
  have h4' : cs = l.map fun (x : Nat) => Value.int .u32 x := h4
  obtain ⟨rfl, hc, hm, ok⟩ := hk
  exact ⟨h.defers, _, results_tmp hr a.tmps P w, _, rfl, ⟨[.slice (some ⟨g, 0, none⟩) l.length c], ⟨ok, _, c, rfl, hc, hm, fun _ => ⟨g, [], rfl, h.lo g hgm, by rw [List.append_nil, ← h4']; exact h3⟩⟩, h1⟩, h.base⟩
/-- an argument at such a call: a value; the variable's own name. -/
def ArH (R : Rg) (B : Nat) (w0 : Bs) (i : Nat) (s : Nat) (H0 : Hd) : Ar → Operand → Prop
  | .v A, x => Has R B w0 i x A
  | .w H, x => H = H0 ∧ ∀ a w, R.Av B w0 i a w → a.eval x = a.eval (.tmp s)
theorem arw {s : Nat} {H : Hd} : ArH R B w0 i s H (.w H) (.tmp s) := ⟨rfl, fun _ _ _ => rfl⟩
theorem arw2 {s t : Nat} {H : Hd} (j : Nat) (hj : R.sp[j]? = some (.adr t s .none True)) (hji : (R.anc i).contains j = true) : ArH R B w0 i s H (.w H) (.tmp t) := ⟨rfl, fun _ _ av => av.d j t s .none True hji hj trivial⟩
theorem ob_cal {d s e : Nat} {T : TypeId} {H : Hd} {cr : Option Nat} {A0 A1 : As} {A : VA} {f : FuncId} {xs : List Operand} {pre : List Ar} {at_ : Array TypeId} {ty : TypeId} {ps : String} {af : Array Edge}
    (hs : R.sp[i]? = some (.cal d A e)) (he : R.les[e]? = some ⟨s, T, H, cr, A0, some (i, A1)⟩) (ho : R.ops[i]? = some ⟨some d, .call ⟨.value (.func f), xs.toArray, at_⟩, ty, ps, af, none⟩)
    (hc : Cm P f T A0 A1 pre A) (hx : All2 (ArH R B w0 i s H) pre xs) : R.Ob P Q B w0 i := by
  unfold Rg.Ob
  simp only [hs, he]
  intro a w av g cs h1 hB h3 h4 _ K hK
  obtain ⟨⟨fn, hf, hn, hb⟩, hcall⟩ := hc
  refine wpOp_of ho rfl ?_
  have hrun : (execOp a.eval ⟨some d, .call ⟨.value (.func f), xs.toArray, at_⟩, ty, ps, af, none⟩).run P w = .ok (.enter f (xs.map a.eval).toArray) w := by
    simp only [execOp, resolve, Act.eval, Deferred.ofValue, Sem.run_bind, Sem.run_pure, Result.andThen_ok, invoke, run_callFunc hf hn hb]
    simp
  unfold Oper.wp
  rw [hrun]
  refine (hcall B w g cs _ hB h3 h4 ?_).mono fun e w' ⟨v, cs', he, hv, hg, h5, h6⟩ => by subst he; exact hK v cs' w' hg h5 h6 hv
  clear hcall hrun ho
  induction hx with
  | nil => exact .nil
  | @cons x y _ _ h _ ih =>
    refine .cons ?_ ih
    cases x with
    | v A => exact h a w av
    | w H' =>
      obtain ⟨rfl, h2⟩ := h
      exact (h2 a w av).trans h1
end
end Go.Proofs.Ytgjolcbehcjhcaa
