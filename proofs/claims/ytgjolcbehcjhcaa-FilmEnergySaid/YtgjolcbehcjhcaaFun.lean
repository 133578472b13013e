/- Function values, calls of them, pointers to variables that nobody writes; integers and truths of which nothing is said. -/
import Derived.Test.YtgjolcbehcjhcaaWin
namespace Go.Proofs.Ytgjolcbehcjhcaa
open Go Go.RowKit
theorem All2.append {α β : Type} {R : α → β → Prop} {a a' : List α} {b b' : List β} (h : All2 R a b) (h' : All2 R a' b') : All2 R (a ++ a') (b ++ b') := by
  induction h with
  | nil => exact h'
  | cons h1 _ ih => exact .cons h1 ih
/-- a function value: called with what 'pre i' says it returns what 'post i' says, for each i. -/
def FnV (P : Program) (D : List TypeId) {ι : Type} (pre : ι → List VA) (post : ι → VA) : VA where
  p B v w := ∃ (f : FuncId) (fs cs : List Value) (F C : List VA), v = .func (.func f) fs.toArray cs.toArray ∧ (∀ A ∈ F ++ C, ∀ T ∈ A.deps, T ∈ D) ∧ All2 (fun (A : VA) v => A.p B v w) F fs ∧ All2 (fun (A : VA) v => A.p B v w) C cs ∧ ∀ i, Cn P f (F ++ pre i ++ C) (post i)
  deps := D
  grow := by
    rintro B v w w' hg ⟨f, fs, cs, F, C, hv, hD, h1, h2, h3⟩
    exact ⟨f, fs, cs, F, C, hv, hD, h1.mono fun A v h => A.grow _ _ _ _ hg h, h2.mono fun A v h => A.grow _ _ _ _ hg h, h3⟩
  wr := by
    rintro B v w w' g c T fz e1 hT e3 e4 ⟨f, fs, cs, F, C, hv, hD, h1, h2, h3⟩
    have key : ∀ {L : List VA} {xs : List Value}, (∀ A ∈ L, ∀ T ∈ A.deps, T ∈ D) → All2 (fun (A : VA) v => A.p B v w) L xs → All2 (fun (A : VA) v => A.p B v w') L xs := by
      intro L xs hL h
      induction h with
      | nil => exact .nil
      | @cons A x _ _ h _ ih => exact .cons (A.wr _ _ _ _ _ _ _ _ e1 (fun hm => hT (hL A (by simp) T hm)) e3 e4 h) (ih fun A' hA => hL A' (List.mem_cons_of_mem _ hA))
    exact ⟨f, fs, cs, F, C, hv, hD, key (fun A hA => hD A (List.mem_append_left _ hA)) h1, key (fun A hA => hD A (List.mem_append_right _ hA)) h2, h3⟩
/-- an integer; a truth. -/
def AnyIA : As where
  n := 1
  ag := false
  p _ cs _ := ∃ n : Int, cs = [.int .i64 n]
  deps := []
  len := by rintro B cs w ⟨n, rfl⟩; rfl
  one := by rintro B cs w ⟨n, rfl⟩ c hc; simp at hc; subst hc; rfl
  ag1 := fun _ => rfl
  grow := fun _ _ _ _ _ h => h
  wr := fun _ _ _ _ _ _ _ _ _ _ _ _ h => h
abbrev AnyI : VA := AnyIA.va
theorem anyI_val {B : Nat} {v : Value} {w : World} (h : AnyI.p B v w) : ∃ n : Int, v = .int .i64 n := by
  obtain ⟨cs, ⟨n, rfl⟩, hv⟩ := h
  exact ⟨n, hv⟩
theorem val_anyI (n : Int) (B : Nat) (w : World) : AnyI.p B (.int .i64 n) w := ⟨_, ⟨n, rfl⟩, rfl⟩
def AnyB : VA where
  p _ v _ := ∃ b : Bool, v = .bool b
  deps := []
  grow := fun _ _ _ _ _ h => h
  wr := fun _ _ _ _ _ _ _ _ _ _ _ _ h => h
theorem St.anyB {B N : Nat} {w0 : Bs} {Γ : List (Nat × VA)} {Λ : List Lc} {a : Act} {w : World} (h : St B w0 N Γ Λ a w) {t : Nat} (k : Nat) (hm : Γ[k]? = some (t, AnyB)) : ∃ b, St B w0 N (Γ.set k (t, Bo b)) Λ a w := by
  obtain ⟨hk, he⟩ := List.getElem?_eq_some_iff.1 hm
  obtain ⟨b, hb⟩ := h.vals _ (List.mem_of_getElem? hm)
  refine ⟨b, h.lo, h.defers, h.size, h.base, fun x hx => ?_, h.locs, h.dis⟩
  rcases List.mem_or_eq_of_mem_set hx with hx | rfl
  · exact h.vals x hx
  · show (BoA b).va.p _ _ _
    rw [show a.eval (.tmp t) = .bool b from hb]
    exact val_bo b _ _
theorem St.anyI {B N : Nat} {w0 : Bs} {Γ : List (Nat × VA)} {Λ : List Lc} {a : Act} {w : World} (h : St B w0 N Γ Λ a w) {t : Nat} (k : Nat) (hm : Γ[k]? = some (t, AnyI)) : ∃ n, St B w0 N (Γ.set k (t, In n)) Λ a w := by
  obtain ⟨hk, he⟩ := List.getElem?_eq_some_iff.1 hm
  obtain ⟨n, hb⟩ := anyI_val (h.vals _ (List.mem_of_getElem? hm))
  refine ⟨n, h.lo, h.defers, h.size, h.base, fun x hx => ?_, h.locs, h.dis⟩
  rcases List.mem_or_eq_of_mem_set hx with hx | rfl
  · exact h.vals x hx
  · show (NumA .i64 n).va.p _ _ _
    rw [show a.eval (.tmp t) = .int .i64 n from hb]
    exact val_num _ n _ _
/-- what condition stands with a fact. -/
theorem St.andc {B N : Nat} {w0 : Bs} {Γ : List (Nat × VA)} {Λ : List Lc} {a : Act} {w : World} (h : St B w0 N Γ Λ a w) {t : Nat} {A : As} {c : Prop} (k : Nat) (hm : Γ[k]? = some (t, (A.and c).va)) : c := by
  obtain ⟨cs, hp, _⟩ := h.vals _ (List.mem_of_getElem? hm)
  exact hp.1
/-- a contract that asks for what an argument's fact tells. -/
theorem Cn.know {P : Program} {f : FuncId} {pre : List VA} {post : VA} {c : Prop} (hex : ∃ fn, P.funcs[f]? = some fn ∧ (fn.name == "runtime.NumGoroutine") = false ∧ fn.body.isNone = false)
    (hc : ∀ (B : Nat) (w : World) (args : List Value), All2 (fun (A : VA) v => A.p B v w) pre args → c) (h : c → Cn P f pre post) : Cn P f pre post :=
  ⟨hex, fun B w args hB ha => (h (hc B w args ha)).2 B w args hB ha⟩
/-- the same contract, of arguments that are weaker. -/
theorem Cn.weak {P : Program} {f : FuncId} {pre pre' : List VA} {post : VA} (h : Cn P f pre post) (hw : ∀ B w args, All2 (fun (A : VA) v => A.p B v w) pre' args → All2 (fun (A : VA) v => A.p B v w) pre args) : Cn P f pre' post :=
  ⟨h.1, fun B w args hB ha => h.2 B w args hB (hw B w args ha)⟩
theorem nd_ok {l : List As} {D : List TypeId} (h : (l.all fun A => A.deps.all fun T => D.contains T) = true) : ∀ A ∈ l, ∀ T ∈ A.deps, T ∈ D := fun A hA T hT => by
  have := List.all_eq_true.1 (List.all_eq_true.1 h A hA) T hT
  simpa using this
theorem n_ok {l : List As} {m : Nat} (h : (l.all fun A => A.n == m) = true) : ∀ A ∈ l, A.n = m := fun A hA => by
  have := List.all_eq_true.1 h A hA
  simpa using this
theorem map_n {α : Type} {f : α → As} {l : List α} {m : Nat} (h : ∀ x, (f x).n = m) : ∀ A ∈ l.map f, A.n = m := fun A hA => by
  obtain ⟨x, _, rfl⟩ := List.mem_map.1 hA
  exact h x
theorem map_at {α : Type} {f : α → As} {l : List α} {k : Nat} (h : k < l.length) : (l.map f)[k]? = some (f (l[k])) := by simp [h]
/-- one fact tells another. -/
def Wk (A A' : VA) : Prop := ∀ B v w, A.p B v w → A'.p B v w
theorem wk_id {A : VA} : Wk A A := fun _ _ _ h => h
theorem wk_old {E : TypeId} {D : List TypeId} {l : List As} {p : Prop} : Wk (SlO E D l p).va ((SlA E D l).and p).va := fun _ _ _ h => SlO.use h
theorem wk_mgO {l : List Nat} : Wk (MgO l).va (MgA l).va := fun _ _ _ h => SlO.use h
theorem wk_mgN {l : List Nat} : Wk (MgN l).va (MgA l).va := fun _ _ _ h => mgN_A h
theorem wk_riN {x : RI} : Wk (RIN x).va (RIA x).va := fun B v w h => (free_riA x).va B B v w (Nat.le_refl _) h
theorem wk_riO {x : RI} : Wk (RIO x).va (RIA x).va := fun B v w ⟨cs, ⟨ps, e, h⟩, hv⟩ => by
  cases h with
  | cons h1 h2 => cases h2 with
    | @cons _ c _ cs' h3 h4 =>
      cases h4
      obtain ⟨ds, hp, he⟩ := wk_mgO (l := x.mag) B (shape false c) w ⟨c, h3, rfl⟩
      have l1 := (MgO x.mag).len _ _ _ h3
      have l2 := (MgA x.mag).len _ _ _ hp
      match c, ds, l1, l2, he, hp with
      | [a], [b], _, _, he, hp =>
        have : a = b := he
        subst this
        exact ⟨cs, ⟨_, e, .cons h1 (.cons hp .nil)⟩, hv⟩
theorem Cn.wk {P : Program} {f : FuncId} {pre pre' : List VA} {post : VA} (h : Cn P f pre post) (hw : All2 Wk pre' pre) : Cn P f pre' post := h.weak fun B w args ha => by
  clear h
  induction hw generalizing args with
  | nil => cases ha; exact .nil
  | cons h1 _ ih => cases ha with | cons h2 h3 => exact .cons (h1 _ _ _ h2) (ih _ h3)
theorem Cn.wkp {P : Program} {f : FuncId} {pre : List VA} {post post' : VA} (h : Cn P f pre post) (hw : Wk post post') : Cn P f pre post' := h.mono hw
theorem and_va {A : As} {c : Prop} {B : Nat} {v : Value} {w : World} (h : (A.and c).va.p B v w) : c ∧ A.va.p B v w := by
  obtain ⟨cs, hp, hv⟩ := h
  exact ⟨hp.1, cs, hp.2, hv⟩
theorem va_and {A : As} {c : Prop} {B : Nat} {v : Value} {w : World} (hc : c) (h : A.va.p B v w) : (A.and c).va.p B v w := by
  obtain ⟨cs, hp, hv⟩ := h
  exact ⟨cs, ⟨hc, hp⟩, hv⟩
theorem Cn.post_and {P : Program} {f : FuncId} {pre : List VA} {A : As} {c : Prop} (h : Cn P f pre A.va) (hc : c) : Cn P f pre (A.and c).va := h.mono fun _ _ _ hp => va_and hc hp
section
variable {P : Program} {Q : Exit → Act → World → Prop} {R : Rg} {B : Nat} {w0 : Bs} {i : Nat}
theorem has_func {f : FuncId} {D : List TypeId} {ι : Type} {pre : ι → List VA} {post : ι → VA} (h : ∀ i, Cn P f (pre i) (post i)) : Has R B w0 i (.func f) (FnV P D pre post) := fun a w _ =>
  ⟨f, [], [], [], [], rfl, fun A hA => (by cases hA), .nil, .nil, fun i => by simpa using h i⟩
theorem r_mkfunc {f : FuncId} {D : List TypeId} {ι : Type} {pre : ι → List VA} {post : ι → VA} {xs : List Operand} {C : List VA} (h : ∀ i, Cn P f (pre i ++ C) (post i)) (hD : ∀ A ∈ C, ∀ T ∈ A.deps, T ∈ D) (hx : HasL R B w0 i xs C) : Wv P Q R B w0 i (.makeFunc (.func f) #[] xs.toArray) (FnV P D pre post) :=
  wv_run fun _ _ _ _ _ a w av => by
    refine ⟨.func (.func f) #[] (xs.toArray.map a.eval), w, by simp [execOp, Instr.makeFunc], Grow.refl w, f, [], xs.map a.eval, [], C, by simp, by simpa using hD, .nil, hx.all av, fun i => by simpa using h i⟩
/-- A CALL OF A FUNCTION VALUE. -/
theorem r_callv {D : List TypeId} {ι : Type} {pre : ι → List VA} {post : ι → VA} {x : Operand} (j : ι) {xs : List Operand} {at_ : Array TypeId} (hf : Has R B w0 i x (FnV P D pre post)) (hx : HasL R B w0 i xs (pre j)) : Wv P Q R B w0 i (.call ⟨.value x, xs.toArray, at_⟩) (post j) := by
  intro d T ps af gd a w av K hK
  obtain ⟨f, fs, cs, F, C, hv, hD, h1, h2, h3⟩ := hf a w av
  obtain ⟨⟨fn, hf', hn, hb⟩, hcall⟩ := h3 j
  have hrun : (execOp a.eval ⟨some d, .call ⟨.value x, xs.toArray, at_⟩, T, ps, af, gd⟩).run P w = .ok (.enter f (fs ++ xs.map a.eval ++ cs).toArray) w := by
    simp only [execOp, resolve, hv, Deferred.ofValue, Sem.run_bind, Sem.run_pure, Result.andThen_ok, invoke, run_callFunc hf' hn hb]
    simp
  unfold Oper.wp
  rw [hrun]
  exact (hcall B w _ (Av.bw av) ((h1.append (hx.all av)).append h2)).mono fun e w' ⟨v, he, hv, hg⟩ => by subst he; exact hK v w' hg hv
theorem Wv.wk {op : Op} {A A' : VA} (h : Wv P Q R B w0 i op A) (hw : Wk A A') : Wv P Q R B w0 i op A' := h.mono fun v w hp => hw B v w hp
theorem r_ex0 {t : Nat} {A : VA} {l : List VA} (hx : Has R B w0 i (.tmp t) (Tu (A :: l))) : Wv P Q R B w0 i (.extract (.tmp t) 0) A := r_extract hx rfl
theorem r_ex1 {t : Nat} {A A' : VA} {l : List VA} (hx : Has R B w0 i (.tmp t) (Tu (A' :: A :: l))) : Wv P Q R B w0 i (.extract (.tmp t) 1) A := r_extract hx rfl
theorem r_ex2 {t : Nat} {A A' A'' : VA} {l : List VA} (hx : Has R B w0 i (.tmp t) (Tu (A'' :: A' :: A :: l))) : Wv P Q R B w0 i (.extract (.tmp t) 2) A := r_extract hx rfl
/-- a pointer to a variable of the call's own. -/
theorem has_ptr {s T : Nat} {A : As} (hl : Loc R i s T A) : Has R B w0 i (.tmp s) (ElP T A) := fun a w av => by
  obtain ⟨g, cs, h1, h2, h3, h4⟩ := hl.ok av
  exact ⟨g, 0, cs, h1, (Array.getElem?_eq_some_iff.1 h3).1, .inr ⟨_, _, h3⟩, h4, fun j u hu => by rw [Nat.zero_add, cell_of_row w g j cs.toArray T _ h3]; simpa using hu⟩
/-! integers of which nothing is said -/
theorem any_in {x : Operand} {n : Int} (h : Has R B w0 i x (In n)) : Has R B w0 i x AnyI := fun a w av => by rw [num_val (h a w av)]; exact val_anyI n B w
theorem any_numc {n : Int} : Has R B w0 i (.const (.int .i64 n)) AnyI := fun _ w _ => val_anyI n B w
section
variable {x y : Operand} {xt yt : TypeId} (hx : Has R B w0 i x AnyI) (hy : Has R B w0 i y AnyI)
include hx hy
theorem ri_num {op : BinOp} (h : ∀ m n w, ∃ c, (binOp op xt (.int .i64 m) (.int .i64 n)).run P w = .ok (.int .i64 c) w) : Wv P Q R B w0 i (.binOp op xt x y yt) AnyI :=
  wv_run fun _ _ _ _ _ a w av => by
    obtain ⟨m, e1⟩ := anyI_val (hx a w av)
    obtain ⟨n, e2⟩ := anyI_val (hy a w av)
    obtain ⟨c, hc⟩ := h m n w
    refine ⟨.int .i64 c, w, ?_, Grow.refl w, val_anyI c B w⟩
    have hg : (eqGuard op xt x y (.int .i64 m) (.int .i64 n)).run P w = .ok () w := by unfold eqGuard; split <;> rfl
    simp only [execOp, e1, e2, Sem.run_bind, hg, hc, Result.andThen_ok, Sem.run_pure]
theorem ri_rel {op : BinOp} (h : ∀ m n w, ∃ c, (binOp op xt (.int .i64 m) (.int .i64 n)).run P w = .ok (.bool c) w) : Wv P Q R B w0 i (.binOp op xt x y yt) AnyB :=
  wv_run fun _ _ _ _ _ a w av => by
    obtain ⟨m, e1⟩ := anyI_val (hx a w av)
    obtain ⟨n, e2⟩ := anyI_val (hy a w av)
    obtain ⟨c, hc⟩ := h m n w
    refine ⟨.bool c, w, ?_, Grow.refl w, c, rfl⟩
    have hg : (eqGuard op xt x y (.int .i64 m) (.int .i64 n)).run P w = .ok () w := by unfold eqGuard; split <;> rfl
    simp only [execOp, e1, e2, Sem.run_bind, hg, hc, Result.andThen_ok, Sem.run_pure]
theorem ri_add : Wv P Q R B w0 i (.binOp .add xt x y yt) AnyI := ri_num hx hy fun m n w => ⟨_, by rw [binOp_add]; rfl⟩
theorem ri_sub : Wv P Q R B w0 i (.binOp .sub xt x y yt) AnyI := ri_num hx hy fun m n w => ⟨_, by rw [binOp_sub]; rfl⟩
theorem ri_mul : Wv P Q R B w0 i (.binOp .mul xt x y yt) AnyI := ri_num hx hy fun m n w => ⟨_, by rw [binOp_mul]; rfl⟩
theorem ri_lss : Wv P Q R B w0 i (.binOp .lss xt x y yt) AnyB := ri_rel hx hy fun m n w => ⟨_, by rw [binOp_lss]; rfl⟩
theorem ri_leq : Wv P Q R B w0 i (.binOp .leq xt x y yt) AnyB := ri_rel hx hy fun m n w => ⟨_, by rw [binOp_leq]; rfl⟩
theorem ri_gtr : Wv P Q R B w0 i (.binOp .gtr xt x y yt) AnyB := ri_rel hx hy fun m n w => ⟨_, by rw [binOp_gtr]; rfl⟩
theorem ri_geq : Wv P Q R B w0 i (.binOp .geq xt x y yt) AnyB := ri_rel hx hy fun m n w => ⟨_, by rw [binOp_geq]; rfl⟩
theorem ri_eql : Wv P Q R B w0 i (.binOp .eql xt x y yt) AnyB := ri_rel hx hy fun m n w => ⟨_, by rw [binOp_eql]; rfl⟩
theorem ri_neq : Wv P Q R B w0 i (.binOp .neq xt x y yt) AnyB := ri_rel hx hy fun m n w => ⟨_, by rw [binOp_neq]; rfl⟩
theorem ri_min {ts : Array TypeId} : Wv P Q R B w0 i (.call ⟨.builtin .min, #[x, y], ts⟩) AnyI :=
  wv_run fun _ _ _ _ _ a w av => by
    obtain ⟨m, e1⟩ := anyI_val (hx a w av)
    obtain ⟨n, e2⟩ := anyI_val (hy a w av)
    exact ⟨.int .i64 (min m n), w, by simp [execOp, resolve, invoke, builtin, e1, e2, Lib.run_min_ints], Grow.refl w, val_anyI _ B w⟩
end
theorem ri_quo {x : Operand} {xt yt : TypeId} {n : Int} (hx : Has R B w0 i x AnyI) (h0 : n ≠ 0) : Wv P Q R B w0 i (.binOp .quo xt x (.const (.int .i64 n)) yt) AnyI :=
  wv_run fun _ _ _ _ _ a w av => by
    obtain ⟨m, e1⟩ := anyI_val (hx a w av)
    refine ⟨.int .i64 (IntKind.i64.wrap (m.tdiv n)), w, ?_, Grow.refl w, val_anyI _ B w⟩
    have hg : (eqGuard .quo xt x (.const (.int .i64 n)) (.int .i64 m) (.int .i64 n)).run P w = .ok () w := by unfold eqGuard; split <;> rfl
    have hr : (binOp .quo xt (.int .i64 m) (.int .i64 n)).run P w = .ok (.int .i64 (IntKind.i64.wrap (m.tdiv n))) w := by rw [binOp_quo]; simp [Op.intDiv, h0]
    have e2 : a.eval (.const (.int .i64 n)) = .int .i64 n := rfl
    simp only [execOp, e1, e2, Sem.run_bind, hg, hr, Result.andThen_ok, Sem.run_pure]
/-- a slice of limbs, written out: a row of one's own. -/
theorem r_slicemN {S : TypeId} {l : List Nat} {xs : List Operand} (hS : Sl P S U32 1) (hz : ((P.info? U32).bind (·.zero)).isSome = true) (hl0 : 0 < l.length) (hsmall : l.length ≤ 16777216) (ok : okL l)
    (hx : All2 (fun (A : As) x => Has R B w0 i x A.va) (l.map fun (x : Nat) => NumA .u32 x) xs) {ps' : Array (Nat × Operand)} (hps : ps'.toList = (xs.zipIdx 0).map fun x => (x.2, x.1)) {n : Nat} (hn : n = l.length) : Wv P Q R B w0 i (.buildSlice S n ps') (MgN l).va :=
  wv_run fun d T ps af gd a w av => by
    subst hn
    obtain ⟨hs1, hs2⟩ := hS
    cases hi : P.info? U32 with
    | none => rw [hi] at hs2; simp at hs2
    | some it =>
      rw [hi] at hs2 hz
      have hsz : it.size = 1 := by simpa using hs2
      obtain ⟨z, hzz⟩ := Option.isSome_iff_exists.1 hz
      simp only [Option.bind_some] at hzz
      have hvs : xs.map a.eval = l.map fun (x : Nat) => Value.int .u32 x := by
        clear hps hl0 hsmall ok
        generalize hL : l.map (fun (x : Nat) => NumA .u32 x) = L at hx
        induction hx generalizing l with
        | nil => cases l with | nil => rfl | cons _ _ => simp at hL
        | cons h _ ih =>
          cases l with
          | nil => simp at hL
          | cons y ys =>
            simp only [List.map_cons, List.cons.injEq] at hL ⊢
            obtain ⟨rfl, hL⟩ := hL
            exact ⟨num_val (h a w av), ih hL⟩
      have hxl : xs.length = l.length := by have := congrArg List.length hvs; simpa using this
      have hf := Great.fill_whole (s := 1) (by omega) (xs.map a.eval) ((Array.range (l.length * 1)).map (z.cells[· % z.cells.size]!)) (fun v hv => by rw [hvs] at hv; obtain ⟨x, _, rfl⟩ := List.mem_map.1 hv; rfl) (by simp [hxl])
      have hcells : ((xs.map a.eval).flatMap fun v => v.cells.toList) = l.map fun (x : Nat) => Value.int .u32 x := by
        rw [hvs]
        clear hvs hf hxl hl0 hsmall ok hps hx
        induction l with
        | nil => rfl
        | cons y ys ih => rw [List.map_cons, List.flatMap_cons, ih]; rfl
      have hrun := run_buildSlice (P := P) w S U32 l.length (ps'.map fun x => (x.1, a.eval x.2)) ((xs.map a.eval).flatMap fun v => v.cells.toList).toArray it z hs1 hi hzz (by rw [hsz]; omega) (by rw [hsz]; omega) (by
        rw [hsz, ← hf]
        congr 1
        rw [Array.toList_map, hps]
        simp [List.zipIdx_map, List.map_map, Function.comp_def])
      rw [hcells] at hrun
      refine ⟨.slice (some ⟨w.heap.size, 0, none⟩) l.length l.length, w.alloc (.cells (l.map fun (x : Nat) => Value.int .u32 x).toArray U32), by simp [execOp, hrun], Grow.alloc _ _, _, ⟨ok, _, _, rfl, Nat.le_refl _, by unfold maxLen; omega, fun _ => ?_⟩, rfl⟩
      exact ⟨w.heap.size, [], rfl, Av.bw av, by rw [List.append_nil]; exact heap_alloc_new w _⟩
theorem r_andA {c x : Operand} {p : Bool} (hc : Has R B w0 i c (Bo p)) (hx : Has R B w0 i x (Wh (p = true) AnyB)) : Wv P Q R B w0 i (.pick c x (.const (.bool false))) AnyB :=
  wv_run fun _ _ _ _ _ a w av => by
    have e := bo_val (hc a w av)
    cases p with
    | true =>
      obtain ⟨b, hb⟩ := (hx a w av).1 rfl
      exact ⟨.bool b, w, by simp [execOp, e, asBool, hb], Grow.refl w, b, rfl⟩
    | false =>
      have e2 : a.eval (.const (.bool false)) = .bool false := rfl
      exact ⟨.bool false, w, by simp [execOp, e, asBool, e2], Grow.refl w, false, rfl⟩
theorem rep_at {k j : Nat} {A : As} (h : j < k) : (List.replicate k A)[j]? = some A := by simp [h]
theorem rep_n {k m : Nat} {A : As} (h : A.n = m) : ∀ A' ∈ List.replicate k A, A'.n = m := fun A' hA => by rw [(List.mem_replicate.1 hA).2]; exact h
/-- a row of one's own, its end not looked at. -/
theorem has_rowX {t b n c : Nat} {l ext : List Nat} (j : Nat) (hj : R.sp[j]? = some (.adr t b .none True)) (hji : (R.anc i).contains j = true) (hl : LocH R i b U32 (slH n c) (Nums .u32 (l ++ ext))) (h : n = l.length ∧ n ≤ c ∧ c ≤ maxLen ∧ okL l) : Has R B w0 i (.tmp t) (MgN l).va := fun a w av => by
  obtain ⟨g, cs, h1, hgm, h3, h4⟩ := hl.ok av
  have h2 := av.d j t b .none True hji hj trivial
  have h4' : cs = (l ++ ext).map fun (x : Nat) => Value.int .u32 x := h4
  obtain ⟨rfl, hc, hm, ok⟩ := h
  exact ⟨[.slice (some ⟨g, 0, none⟩) l.length c], ⟨ok, _, c, rfl, hc, hm, fun _ => ⟨g, ext, rfl, av.lo g hgm, by rw [← h4']; exact h3⟩⟩, h2.trans h1⟩
end
end Go.Proofs.Ytgjolcbehcjhcaa
