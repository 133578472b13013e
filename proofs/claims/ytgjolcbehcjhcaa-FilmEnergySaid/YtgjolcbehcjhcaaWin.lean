/- Windows of rows: names of locals, in other words. -/
import Derived.Test.YtgjolcbehcjhcaaMade
import Derived.Scope
namespace Go.Proofs.Ytgjolcbehcjhcaa
open Go Go.RowKit
theorem St.expose {B N : Nat} {w0 : Bs} {Γ : List (Nat × VA)} {Λ : List Lc} {a : Act} {w : World} (h : St B w0 N Γ Λ a w) {s : Nat} {T : TypeId} {H : Hd} {A : As} (k : Nat) (hm : Λ[k]? = some ⟨s, T, H, A⟩) : ∃ g, B ≤ g ∧ St B w0 N ((s, EqV (H.f g)) :: Γ) Λ a w := by
  obtain ⟨g, cs, h1, h2, _⟩ := h.locs _ (List.mem_of_getElem? hm)
  refine ⟨g, h.lo g h2, h.lo, h.defers, h.size, h.base, fun x hx => ?_, h.locs, h.dis⟩
  rcases List.mem_cons.1 hx with rfl | hx
  · exact h1
  · exact h.vals x hx
/-- a local by another of its names. -/
theorem St.swap {B N : Nat} {w0 : Bs} {Γ : List (Nat × VA)} {Λ : List Lc} {a : Act} {w : World} (h : St B w0 N Γ Λ a w) {s s' g : Nat} {T : TypeId} {H H' : Hd} {A : As} (k : Nat) (hm : Λ[k]? = some ⟨s, T, H, A⟩) (h1 : (s, EqV (H.f g)) ∈ Γ) (h2 : (s', EqV (H'.f g)) ∈ Γ)
    (hs : (Λ.eraseIdx k).all (fun m => m.s != s) = true) : St B w0 N Γ (⟨s', T, H', A⟩ :: Λ.eraseIdx k) a w := by
  have e1 : a.eval (.tmp s) = H.f g := h.vals _ h1
  have e2 : a.eval (.tmp s') = H'.f g := h.vals _ h2
  have hin := List.mem_of_getElem? hm
  have hsub : ∀ m ∈ Λ.eraseIdx k, m ∈ Λ := fun m hm => List.mem_of_mem_eraseIdx hm
  have hb : ∀ m ∈ Λ.eraseIdx k, blk (a.eval (.tmp m.s)) ≠ blk (a.eval (.tmp s')) := by
    intro m hm2
    have hne : m.s ≠ s := by simpa using List.all_eq_true.1 hs m hm2
    have := h.dis m (hsub m hm2) _ hin hne
    rw [e2, H'.ok]
    rw [show a.eval (.tmp (⟨s, T, H, A⟩ : Lc).s) = H.f g from e1, H.ok] at this
    exact this
  refine ⟨h.lo, h.defers, h.size, h.base, h.vals, fun x hx => ?_, fun x hx y hy hne => ?_⟩
  · rcases List.mem_cons.1 hx with rfl | hx
    · obtain ⟨g', cs, f1, f2, f3, f4⟩ := h.locs _ hin
      have : g' = g := Rg.Hd.inj (H := H) (H' := H) (by rw [← f1, ← e1])
      subst this
      exact ⟨g', cs, e2, f2, f3, f4⟩
    · exact h.locs x (hsub x hx)
  · rcases List.mem_cons.1 hx with rfl | hx <;> rcases List.mem_cons.1 hy with rfl | hy
    · exact absurd rfl hne
    · exact fun e => hb y hy e.symm
    · exact hb x hx
    · exact h.dis x (hsub x hx) y (hsub y hy) hne
/-- a window of a row. -/
def winH (k n c : Nat) : Hd := ⟨fun g => .slice (some ⟨g, k, none⟩) n c, fun _ => rfl⟩
theorem scp_normal {Q : Exit → Act → World → Prop} {a : Act} {w : World} (h : Q .normal a w) : Exit.noGoto Q .normal a w := h
theorem scp_ret {Q : Exit → Act → World → Prop} {a : Act} {w : World} (h : Q .ret a w) : Exit.noGoto Q .ret a w := h
theorem scp_exit {Q : Exit → Act → World → Prop} {a : Act} {w : World} {id : Nat} (h : Q (.exit id) a w) : Exit.noGoto Q (.exit id) a w := h
/-- a block whose ways out meet again. -/
theorem block_join {P : Program} {Q : Exit → Act → World → Prop} {a : Act} {w : World} {id : Nat} {c : Code} (J : Act → World → Prop) (h : c.wp P (Exit.inBlock id (Exit.then J Q)) a w) (hk : ∀ a w, J a w → Q .normal a w) : (Code.block id c).wp P Q a w :=
  wp_mono (wp_block h) fun e a' w' hq => by
    cases e with
    | normal => exact hk a' w' hq
    | _ => exact hq
/-- what local number k holds, in other words. -/
theorem St.cvA {B N : Nat} {w0 : Bs} {Γ : List (Nat × VA)} {Λ : List Lc} {a : Act} {w : World} (h : St B w0 N Γ Λ a w) {s : Nat} {T : TypeId} {H : Hd} {A A' : As} (k : Nat) (hm : Λ[k]? = some ⟨s, T, H, A⟩) (e : A = A') : St B w0 N Γ (Λ.set k ⟨s, T, H, A'⟩) a w := by
  subst e
  obtain ⟨hk, he⟩ := List.getElem?_eq_some_iff.1 hm
  rw [← he, List.set_getElem_self]
  exact h
/-- a fact, in other words. -/
theorem St.cvG {B N : Nat} {w0 : Bs} {Γ : List (Nat × VA)} {Λ : List Lc} {a : Act} {w : World} (h : St B w0 N Γ Λ a w) {s : Nat} {A A' : VA} (k : Nat) (hm : Γ[k]? = some (s, A)) (e : A = A') : St B w0 N (Γ.set k (s, A')) Λ a w := by
  subst e
  obtain ⟨hk, he⟩ := List.getElem?_eq_some_iff.1 hm
  rw [← he, List.set_getElem_self]
  exact h
/-- a row known to the letter, as limbs. -/
theorem St.asN {B N : Nat} {w0 : Bs} {Γ : List (Nat × VA)} {Λ : List Lc} {a : Act} {w : World} (h : St B w0 N Γ Λ a w) {t s n c g : Nat} {H : Hd} (l ext : List Nat) {c' : List Nat} (k : Nat) (hm : Λ[k]? = some ⟨s, U32, H, Nums .u32 c'⟩) (h1 : (s, EqV (H.f g)) ∈ Γ) (h2 : (t, EqV (.slice (some ⟨g, 0, none⟩) n c)) ∈ Γ)
    (e : c' = l ++ ext) (hn : n = l.length) (hc : n ≤ c ∧ c ≤ maxLen) (ok : okL l) : St B w0 N ((t, (MgN l).va) :: Γ) Λ a w := by
  refine ⟨h.lo, h.defers, h.size, h.base, fun x hx => ?_, h.locs, h.dis⟩
  rcases List.mem_cons.1 hx with rfl | hx
  · obtain ⟨g', cs, f1, f2, f3, f4⟩ := h.locs _ (List.mem_of_getElem? hm)
    have e1 : a.eval (.tmp s) = H.f g := h.vals _ h1
    have hg : g' = g := Rg.Hd.inj (H := H) (H' := H) (by rw [← f1, ← e1])
    subst hg
    have f4' : cs = c'.map fun (x : Nat) => Value.int .u32 x := f4
    subst hn
    exact ⟨[.slice (some ⟨g', 0, none⟩) l.length c], ⟨ok, _, c, rfl, hc.1, hc.2, fun _ => ⟨g', ext, rfl, h.lo g' f2, by rw [← e, ← f4']; exact f3⟩⟩, h.vals _ h2⟩
  · exact h.vals x hx
section
variable {P : Program} {Q : Exit → Act → World → Prop} {R : Rg} {B : Nat} {w0 : Bs} {i : Nat}
/-- 's[l:h]', s known to the letter. -/
theorem r_winE {x y z : Operand} {S E : TypeId} {g o n c l h : Nat} (hS : Sl P S E 1) (hx : Has R B w0 i x (EqV (.slice (some ⟨g, o, none⟩) n c))) (hy : Has R B w0 i y (In l)) (hz : Has R B w0 i z (In h)) {o' n' c' : Nat} (hw : l ≤ h ∧ h ≤ c ∧ l < c ∧ o + l = o' ∧ h - l = n' ∧ c - l = c') :
    Wv P Q R B w0 i (.slice S x (some y) (some z) none) (EqV (.slice (some ⟨g, o', none⟩) n' c')) :=
  wv_run fun d T ps af gd a w av => by
    obtain ⟨hs1, hs2⟩ := hS
    obtain ⟨h1, h2, h3, rfl, rfl, rfl⟩ := hw
    have e1 : a.eval x = _ := hx a w av
    have e2 := num_val (hy a w av)
    have e3 := num_val (hz a w av)
    have hE : P.elem S = E := by simp [Program.elem, hs1]
    have hs1' : P.underlying S = some (.slice (P.elem S)) := by rw [hE]; exact hs1
    have hsz : ∀ w, (sizeOf E).run P w = .ok 1 w := fun w => by
      cases hi : P.info? E with
      | none => rw [hi] at hs2; simp at hs2
      | some it => rw [hi] at hs2; simp [sizeOf, typeInfo, hi]; simpa using hs2
    refine ⟨_, w, ?_, Grow.refl w, rfl⟩
    have hr := run_slice_lh (P := P) w S (some ⟨g, o, none⟩) n c hs1' .i64 .i64 (l : Int) (h : Int) (by omega) (by omega) (by omega)
    rw [hE, hsz] at hr
    have hne : ¬ c = l := by omega
    simp only [Result.andThen_ok, sliced, Int.toNat_natCast, hne, if_false, Nat.mul_one, Option.map_some] at hr
    simp only [execOp, e1, e2, e3, Option.map_some, run_sliceAt_slice _ _ _ _ _ _ hs1', Sem.run_bind, Sem.run_pure]
    erw [hr]
    simp [Addr.add]
/-- 's[:h]', s known to the letter. -/
theorem r_winE0 {x z : Operand} {S E : TypeId} {g o n c h : Nat} (hS : Sl P S E 1) (hx : Has R B w0 i x (EqV (.slice (some ⟨g, o, none⟩) n c))) (hz : Has R B w0 i z (In h)) (hw : h ≤ c ∧ 0 < c) :
    Wv P Q R B w0 i (.slice S x none (some z) none) (EqV (.slice (some ⟨g, o, none⟩) h c)) :=
  wv_run fun d T ps af gd a w av => by
    obtain ⟨hs1, hs2⟩ := hS
    obtain ⟨h2, h3⟩ := hw
    have e1 : a.eval x = _ := hx a w av
    have e3 := num_val (hz a w av)
    have hE : P.elem S = E := by simp [Program.elem, hs1]
    have hs1' : P.underlying S = some (.slice (P.elem S)) := by rw [hE]; exact hs1
    have hsz : ∀ w, (sizeOf E).run P w = .ok 1 w := fun w => by
      cases hi : P.info? E with
      | none => rw [hi] at hs2; simp at hs2
      | some it => rw [hi] at hs2; simp [sizeOf, typeInfo, hi]; simpa using hs2
    refine ⟨_, w, ?_, Grow.refl w, rfl⟩
    have hr := run_slice_h (P := P) w S (some ⟨g, o, none⟩) n c hs1' .i64 (h : Int) (by omega) (by omega)
    rw [hE, hsz] at hr
    have hne : ¬ c = 0 := by omega
    simp only [Result.andThen_ok, sliced, Int.toNat_natCast, hne, if_false, Nat.mul_one, Option.map_some, Nat.sub_zero] at hr
    simp only [execOp, e1, e3, Option.map_some, run_sliceAt_slice _ _ _ _ _ _ hs1', Sem.run_bind, Sem.run_pure]
    erw [hr]
    simp [Addr.add]
/-- 's[:m]' of a local row. -/
def cutV (m : Nat) : Value → Value
  | .slice A _ c => .slice A m c
  | v => v
theorem cut_slH (m n c g : Nat) : offP ((slH n c).f g) (.fn (cutV m)) = (slH m c).f g := rfl
theorem a_cut {b n c m : Nat} {S E T : TypeId} {A : As} {y : Operand} (hS : Sl P S E 1) (hl : LocH R i b T (slH n c) A) (hy : Has R B w0 i y (In m)) (hm : m ≤ c) (hc : 0 < c) : Ad P Q R B w0 i (.slice S (.tmp b) none (some y) none) b (.fn (cutV m)) := fun d T' ps af gd a w av K hK => by
  obtain ⟨hs1, hs2⟩ := hS
  obtain ⟨g, cs, e1, _⟩ := hl.ok av
  have e3 := num_val (hy a w av)
  have hE : P.elem S = E := by simp [Program.elem, hs1]
  have hs1' : P.underlying S = some (.slice (P.elem S)) := by rw [hE]; exact hs1
  have hsz : ∀ w, (sizeOf E).run P w = .ok 1 w := fun w => by
    cases hi : P.info? E with
    | none => rw [hi] at hs2; simp at hs2
    | some it => rw [hi] at hs2; simp [sizeOf, typeInfo, hi]; simpa using hs2
  have hr := run_slice_h (P := P) w S (some ⟨g, 0, none⟩) n c hs1' .i64 (m : Int) (by omega) (by omega)
  rw [hE, hsz] at hr
  rw [e1] at hK
  have hne : ¬ c = 0 := by omega
  simp only [Result.andThen_ok, sliced, Int.toNat_natCast, hne, if_false, Nat.mul_one, Option.map_some, Nat.sub_zero] at hr
  refine wp_value (w' := w) (v := (slH m c).f g) ?_ hK
  have e1' : a.eval (.tmp b) = .slice (some ⟨g, 0, none⟩) n c := e1
  simp only [execOp, e1', e3, Option.map_some, run_sliceAt_slice _ _ _ _ _ _ hs1', Sem.run_bind, Sem.run_pure]
  erw [hr]
  simp [Addr.add, slH]
/-- at the region's end, locals by new names. -/
structure Named (R : Rg) (e : Le) (l : Lc) : Prop where
  T : l.T = e.T
  A : l.A = Rg.last e
  nm : (l.s = e.s ∧ l.H = e.H) ∨ ∃ (j : Nat) (k : Ky), R.sp[j]? = some (.adr l.s e.s k True) ∧ ∀ g, offP (e.H.f g) k = l.H.f g
theorem fin_named {a : Act} {w : World} (hk : R.chk = true) (h : Rg.Fin R B w0 a w) (src : List Src) (hsrc : src.all (okS R) = true) (Λ' : List Lc) (hn : All2 (Named R) R.les Λ') : St B w0 R.N (src.filterMap (takeS R)) Λ' a w := by
  have st := fin_out hk h src hsrc
  have hev : ∀ e ∈ R.les, ∀ l, Named R e l → ∃ g cs, a.eval (.tmp e.s) = e.H.f g ∧ a.eval (.tmp l.s) = l.H.f g ∧ w0.may g ∧ w.heap[g]? = some (.cells (List.toArray cs) e.T (0, 0)) ∧ (Rg.last e).p B cs w := by
    intro e he l hl
    obtain ⟨g, cs, e1, e2, e3, e4⟩ := st.locs ⟨e.s, e.T, e.H, Rg.last e⟩ (List.mem_map.2 ⟨e, he, rfl⟩)
    refine ⟨g, cs, e1, ?_, e2, e3, e4⟩
    rcases hl.nm with ⟨h1, h2⟩ | ⟨j, k, h1, h2⟩
    · rw [h1, h2]; exact e1
    · have := h.inv.d j l.s e.s k True h1 (by simpa using Rg.chk_lt hk h1) trivial
      rw [this, show a.eval (.tmp e.s) = e.H.f g from e1, h2]
  have hget : ∀ l ∈ Λ', ∃ i : Nat, ∃ e, R.les[i]? = some e ∧ Λ'[i]? = some l ∧ Named R e l := by
    intro l hl
    obtain ⟨i, hi⟩ := List.getElem?_of_mem hl
    have hlen := hn.length
    have hi' : i < R.les.length := by have := (List.getElem?_eq_some_iff.1 hi).1; omega
    obtain ⟨l', h1, h2⟩ := hn.get (List.getElem?_eq_getElem hi')
    rw [hi] at h1
    injection h1 with h1
    subst h1
    exact ⟨i, _, List.getElem?_eq_getElem hi', hi, h2⟩
  refine ⟨st.lo, st.defers, st.size, st.base, st.vals, fun l hl => ?_, fun l hl m hm hne => ?_⟩
  · obtain ⟨i, e, h1, _, h3⟩ := hget l hl
    obtain ⟨g, cs, e1, e2, e3, e4, e5⟩ := hev e (List.mem_of_getElem? h1) l h3
    exact ⟨g, cs, e2, e3, by rw [h3.T]; exact e4, by rw [h3.A]; exact e5⟩
  · obtain ⟨i, e, h1, h2, h3⟩ := hget l hl
    obtain ⟨j, f, k1, k2, k3⟩ := hget m hm
    obtain ⟨g, _, e1, e2, _⟩ := hev e (List.mem_of_getElem? h1) l h3
    obtain ⟨g', _, f1, f2, _⟩ := hev f (List.mem_of_getElem? k1) m k3
    have hij : i ≠ j := fun hh => by subst hh; rw [h2] at k2; injection k2 with k2; exact hne (by rw [k2])
    have hs : e.s ≠ f.s := fun hh => (Rg.chk_le hk k1).2.2.2.1 i e h1 hij hh
    have := st.dis ⟨e.s, e.T, e.H, Rg.last e⟩ (List.mem_map.2 ⟨e, List.mem_of_getElem? h1, rfl⟩) ⟨f.s, f.T, f.H, Rg.last f⟩ (List.mem_map.2 ⟨f, List.mem_of_getElem? k1, rfl⟩) hs
    rw [show a.eval (.tmp (⟨e.s, e.T, e.H, Rg.last e⟩ : Lc).s) = e.H.f g from e1, show a.eval (.tmp (⟨f.s, f.T, f.H, Rg.last f⟩ : Lc).s) = f.H.f g' from f1, e.H.ok, f.H.ok] at this
    rw [e2, f2, l.H.ok, m.H.ok]
    exact this
theorem named_same {e : Le} {A : As} (h : A = Rg.last e) : Named R e ⟨e.s, e.T, e.H, A⟩ := ⟨rfl, h, .inl ⟨rfl, rfl⟩⟩
theorem go_drawR {N : Nat} {Γ : List (Nat × VA)} {Λ : List Lc} {a : Act} {w : World} {id : Nat} {ops : Array Oper} {sts : List (Option (Nat × As))} {news : List Le} {sp : List Sp} (anc : List (List Nat)) (src : List Src) (Λ' : List Lc) (hm : P.follows .mixedOrders = true) (h : St B w0 N Γ Λ a w)
    (hob : Obs P Q ⟨ops, N, Γ, lesOf Λ sts news, sp, fun i => anc.getD i []⟩ B w0 0 ops.size)
    (hn : news.all (fun e => e.cr.isSome) = true) (hanc : Rg.ancOk ⟨ops, N, Γ, lesOf Λ sts news, sp, fun i => anc.getD i []⟩ = true) (hk : Rg.chk ⟨ops, N, Γ, lesOf Λ sts news, sp, fun i => anc.getD i []⟩ = true) (hsrc : src.all (okS ⟨ops, N, Γ, lesOf Λ sts news, sp, fun i => anc.getD i []⟩) = true)
    (hnm : All2 (Named ⟨ops, N, Γ, lesOf Λ sts news, sp, fun i => anc.getD i []⟩) (lesOf Λ sts news) Λ')
    (hQ : ∀ a w, St B w0 N (src.filterMap (takeS ⟨ops, N, Γ, lesOf Λ sts news, sp, fun i => anc.getD i []⟩)) Λ' a w → Q .normal a w) : (Code.region id ops true).wp P Q a w :=
  Rg.draw (R := ⟨ops, N, Γ, lesOf Λ sts news, sp, fun i => anc.getD i []⟩) hm hanc hk h (lesOf_in hn) (fun i hi => hob.all i (by omega) (by simpa using hi)) fun a' w' hf => hQ a' w' (fin_named hk hf src hsrc Λ' hnm)
end
/-! ### a function that writes one row of the caller's and reads another -/
def Cm2 (P : Program) (f : FuncId) (T : TypeId) (H0 H1 : Hd) (A0 A1 : As) (kd : IntKind) (ld : List Nat) (pre : List VA) (post : VA) : Prop :=
  (∃ fn, P.funcs[f]? = some fn ∧ (fn.name == "runtime.NumGoroutine") = false ∧ fn.body.isNone = false) ∧
  ∀ (B : Nat) (w : World) (g0 g1 : Nat) (cs : List Value) (args : List Value), B ≤ g0 → B ≤ g1 → g0 ≠ g1 → w.heap[g0]? = some (.cells cs.toArray T (0, 0)) → w.heap[g1]? = some (.cells (ld.map fun (x : Nat) => Value.int kd x).toArray T (0, 0)) → A0.p B cs w → All2 (fun A v => A.p B v w) pre args →
    Calls P f (H0.f g0 :: H1.f g1 :: args).toArray w fun e w' => ∃ v cs', e = .returned v ∧ post.p B v w' ∧ But g0 w w' ∧ w'.heap[g0]? = some (.cells (List.toArray cs') T (0, 0)) ∧ A1.p B cs' w'
def RQm2 (B : Nat) (w0 : Bs) (g0 g1 : Nat) (T : TypeId) (A1 : As) (kd : IntKind) (ld : List Nat) (post : VA) : Ending → World → Prop := fun e w' => ∃ v cs', e = .returned v ∧ post.p B v w' ∧ Kept w0 w' ∧ w'.heap[g0]? = some (.cells (List.toArray cs') T (0, 0)) ∧ A1.p B cs' w' ∧
  w'.heap[g1]? = some (.cells (ld.map fun (x : Nat) => Value.int kd x).toArray T (0, 0))
theorem Cm2.intro {P : Program} {f : FuncId} {fn : Func} {c : Code} {T : TypeId} {A0 A1 : As} {H0 H1 : Hd} {kd : IntKind} {ld : List Nat} {pre : List VA} {post : VA} (hf : P.funcs[f]? = some fn) (hb : fn.body = some c) (hn : (fn.name == "runtime.NumGoroutine") = false) (hsz : pre.length + 2 ≤ fn.ntmps)
    (h : ∀ (B g0 g1 : Nat) (w0 : Bs) (a : Act), St B w0 fn.ntmps (argΓ (EqV (H0.f g0) :: EqV (H1.f g1) :: pre)) [⟨0, T, H0, A0⟩, ⟨1, T, H1, Nums kd ld⟩] a w0.w → c.wp P (bodyPost P fn (RQm2 B w0 g0 g1 T A1 kd ld post)) a w0.w) : Cm2 P f T H0 H1 A0 A1 kd ld pre post := by
  refine ⟨⟨fn, hf, hn, by rw [hb]; rfl⟩, fun B w g0 g1 cs args hB hB1 hne hg hg1 hp ha => (calls_of_wp hf hb (h B g0 g1 ⟨w, fun k => k = g0 ∨ k = g1⟩ _ ?_)).mono fun _ w' ⟨v, cs', he, hv, hk, h1, h2, h3⟩ => ⟨v, cs', he, hv, ⟨hk.os, hk.tape, hk.output, hk.size, fun k hk1 hk2 => ?_⟩, h1, h2⟩⟩
  · have hl := ha.length
    have hgw := (Array.getElem?_eq_some_iff.1 hg).1
    have ha' : All2 (fun (A : VA) v => A.p B v w) (EqV (H0.f g0) :: EqV (H1.f g1) :: pre) (H0.f g0 :: H1.f g1 :: args) := .cons rfl (.cons rfl ha)
    have hargs := All2.args (N := fn.ntmps - (H0.f g0 :: H1.f g1 :: args).toArray.size) ha'
    have e0 := hargs (0, EqV (H0.f g0)) (by simp [argΓ])
    have e1 := hargs (1, EqV (H1.f g1)) (by simp [argΓ])
    refine ⟨fun k hk => ?_, rfl, ?_, Kept.refl _, hargs, fun l hl => ?_, fun l hl m hm hne2 => ?_⟩
    · rcases hk with hk | hk | hk
      · exact Nat.le_trans hB (Nat.le_trans (Nat.le_of_lt hgw) hk)
      · have : k = g0 := hk
        omega
      · have : k = g1 := hk
        omega
    · simp only [Array.size_append, List.size_toArray, Array.size_replicate, List.length_cons]
      omega
    · simp at hl
      rcases hl with rfl | rfl
      · exact ⟨g0, cs, e0, .inr (.inl rfl), hg, hp⟩
      · exact ⟨g1, _, e1, .inr (.inr rfl), hg1, rfl⟩
    · have b0 : blk ((⟨(H0.f g0 :: H1.f g1 :: args).toArray ++ Array.replicate (fn.ntmps - (H0.f g0 :: H1.f g1 :: args).toArray.size) undef, []⟩ : Act).eval (.tmp 0)) = some g0 := by rw [show _ = H0.f g0 from e0, H0.ok]
      have b1 : blk ((⟨(H0.f g0 :: H1.f g1 :: args).toArray ++ Array.replicate (fn.ntmps - (H0.f g0 :: H1.f g1 :: args).toArray.size) undef, []⟩ : Act).eval (.tmp 1)) = some g1 := by rw [show _ = H1.f g1 from e1, H1.ok]
      simp only [List.mem_cons, List.not_mem_nil, or_false] at hl hm
      rcases hl with rfl | rfl <;> rcases hm with rfl | rfl
      · exact absurd rfl hne2
      · rw [b0, b1]; simpa using hne
      · rw [b0, b1]; simpa using fun e => hne e.symm
      · exact absurd rfl hne2
  · by_cases e : k = g1
    · subst e
      rw [h3]; exact hg1.symm
    · exact hk.block k hk1 (fun hh => hh.elim hk2 e)
theorem ret_m2 {P : Program} {fn : Func} {B N g0 g1 : Nat} {w0 : Bs} {Γ : List (Nat × VA)} {Λ : List Lc} {a : Act} {w : World} {T : TypeId} {H0 H1 : Hd} {A1 : As} {kd : IntKind} {ld : List Nat} {post : VA} (h : St B w0 N Γ Λ a w) (hm0 : (0, EqV (H0.f g0)) ∈ Γ) (hm1 : (1, EqV (H1.f g1)) ∈ Γ)
    (hl0 : (⟨0, T, H0, A1⟩ : Lc) ∈ Λ) (hl1 : (⟨1, T, H1, Nums kd ld⟩ : Lc) ∈ Λ) (hb : bodyPost P fn (RQ B w0 post) .ret a w) : bodyPost P fn (RQm2 B w0 g0 g1 T A1 kd ld post) .ret a w := by
  obtain ⟨hd, v, hr, v', e1, e2, e3⟩ := hb
  obtain ⟨g, cs, f1, _, f3, f4⟩ := h.locs _ hl0
  have f0 : a.eval (.tmp 0) = H0.f g0 := h.vals _ hm0
  have : g = g0 := Rg.Hd.inj (H := H0) (H' := H0) (by rw [← f1, ← f0])
  subst this
  obtain ⟨g', ds, q1, _, q3, q4⟩ := h.locs _ hl1
  have q0 : a.eval (.tmp 1) = H1.f g1 := h.vals _ hm1
  have : g' = g1 := Rg.Hd.inj (H := H1) (H' := H1) (by rw [← q1, ← q0])
  subst this
  have q4' : ds = ld.map fun (x : Nat) => Value.int kd x := q4
  subst q4'
  exact ⟨hd, v, hr, v', cs, e1, e2, e3, f3, f4, q3⟩
section
variable {P : Program} {Q : Exit → Act → World → Prop} {R : Rg} {B : Nat} {w0 : Bs} {i : Nat}
theorem ob_cal2 {d s s1 e : Nat} {T : TypeId} {H0 H1 : Hd} {cr : Option Nat} {A0 A1 : As} {A : VA} {kd : IntKind} {ld : List Nat} {f : FuncId} {x0 x1 : Operand} {xs : List Operand} {pre : List VA} {at_ : Array TypeId} {ty : TypeId} {ps : String} {af : Array Edge}
    (hs : R.sp[i]? = some (.cal d A e)) (he : R.les[e]? = some ⟨s, T, H0, cr, A0, some (i, A1)⟩) (ho : R.ops[i]? = some ⟨some d, .call ⟨.value (.func f), (x0 :: x1 :: xs).toArray, at_⟩, ty, ps, af, none⟩)
    (hc : Cm2 P f T H0 H1 A0 A1 kd ld pre A) (hx0 : ArH R B w0 i s H0 (.w H0) x0) (hl1 : LocH R i s1 T H1 (Nums kd ld)) (hne : s1 ≠ s) (hx1 : ArH R B w0 i s1 H1 (.w H1) x1) (hx : HasL R B w0 i xs pre) : R.Ob P Q B w0 i := by
  unfold Rg.Ob
  simp only [hs, he]
  intro a w av g cs h1 hB h3 h4 hdis K hK
  obtain ⟨⟨fn, hf, hn, hb⟩, hcall⟩ := hc
  refine wpOp_of ho rfl ?_
  have e0 : a.eval x0 = H0.f g := (hx0.2 a w av).trans h1
  obtain ⟨g1, ds, q1, q2, q3, q4⟩ := hl1.ok av
  have e1 : a.eval x1 = H1.f g1 := (hx1.2 a w av).trans q1
  have q4' : ds = ld.map fun (x : Nat) => Value.int kd x := q4
  subst q4'
  have hgg : g ≠ g1 := by
    obtain ⟨m, hm, rfl, _, rfl, hph⟩ := hl1
    have := hdis m hm hne (by rw [hph]; rfl)
    rw [q1, m.H.ok] at this
    exact fun hh => this (by rw [hh])
  have hrun : (execOp a.eval ⟨some d, .call ⟨.value (.func f), (x0 :: x1 :: xs).toArray, at_⟩, ty, ps, af, none⟩).run P w = .ok (.enter f ((x0 :: x1 :: xs).map a.eval).toArray) w := by
    simp only [execOp, resolve, Act.eval, Deferred.ofValue, Sem.run_bind, Sem.run_pure, Result.andThen_ok, invoke, run_callFunc hf hn hb]
    simp
  rw [List.map_cons, List.map_cons, e0, e1] at hrun
  unfold Oper.wp
  rw [hrun]
  exact (hcall B w g g1 cs _ hB (av.lo g1 q2) hgg h3 q3 h4 (hx.all av)).mono fun e w' ⟨v, cs', he, hv, hg, h5, h6⟩ => by subst he; exact hK v cs' w' hg h5 h6 hv
/-! elements of a window: place j of it is place o + j of the row -/
theorem winH_off (o n c k g : Nat) : offP ((winH o n c).f g) (.some k) = .pointer (some ⟨g, o + k, none⟩) := by simp [winH, offP, Addr.add]
theorem a_elmw {b t o k n c : Nat} {T S E : TypeId} {A : As} {y : Operand} {kd : IntKind} (j : Nat) (hj : R.sp[j]? = some (.adr t b .none True)) (hji : (R.anc i).contains j = true) (hl : LocH R i b T (winH o n c) A) (hS : Sl P S E 1) (hy : Has R B w0 i y (NumA kd k).va) (hk : k < n) :
    Ad P Q R B w0 i (.indexAddr S (.tmp t) y) b (.some k) := by
  intro d ty ps af gd a w av K hK
  obtain ⟨g, cs, h1, _⟩ := hl.ok av
  have h2 := av.d j t b .none True hji hj trivial
  have h3 : a.eval (.tmp t) = .slice (some ⟨g, o, none⟩) n c := h2.trans h1
  have e := num_val (hy a w av)
  obtain ⟨hs1, hs2⟩ := hS
  rw [h1] at hK
  refine wp_value (w' := w) (v := .pointer (some ⟨g, o + k, none⟩)) ?_ (by rw [winH_off] at hK; exact hK)
  cases hi : P.info? E with
  | none => rw [hi] at hs2; simp at hs2
  | some it =>
    rw [hi] at hs2
    have hsz : it.size = 1 := by simpa using hs2
    by_cases h0 : k = 0
    · subst h0; simp [execOp, h3, e, Instr.indexAt, asIntOf, run_underlying hs1, hk, sizeOf, typeInfo, hi, Addr.add]
    · simp [execOp, h3, e, Instr.indexAt, asIntOf, run_underlying hs1, hk, sizeOf, typeInfo, hi, hsz, Addr.add, h0]
theorem r_loadk {s t m : Nat} {K : Ky} {T : TypeId} {H : Hd} {A A' : As} {ty : TypeId} (j : Nat) (hj : R.sp[j]? = some (.adr t s K True)) (hji : (R.anc i).contains j = true) (hl : LocH R i s T H A) (hH : ∀ g, offP (H.f g) K = .pointer (some ⟨g, m, none⟩)) (hsub : Sub A m A') (ht : Ty P ty A'.n A'.ag) :
    Wv P Q R B w0 i (.load ty (.tmp t)) A'.va :=
  wv_run fun _ _ _ _ _ a w av => by
    obtain ⟨g, cs, h1, _, h3, h4⟩ := hl.ok av
    have h2 := av.d j t s K True hji hj trivial
    rw [h1, hH] at h2
    obtain ⟨p1, l1⟩ := hsub _ _ _ h4
    refine ⟨shape A'.ag ((cs.drop m).take A'.n), w, ?_, Grow.refl w, ⟨_, p1, rfl⟩⟩
    have := run_loadVar ht w g m _ (A'.len _ _ _ p1) A'.ag1 (cells_at h3 A'.n)
    simp [execOp, h2, Instr.loadAt, Instr.sureAddr, this]
theorem ob_stok {e s t m : Nat} {Ke : Ky} {T : TypeId} {H : Hd} {cr : Option Nat} {A0 A' A1 : As} {x : Operand} {ty ty' : TypeId} {ps : String} {af : Array Edge} (j : Nat) (hs : R.sp[i]? = some (.sto e)) (he : R.les[e]? = some ⟨s, T, H, cr, A0, some (i, A1)⟩)
    (ho : R.ops[i]? = some ⟨none, .store ty (.tmp t) x, ty', ps, af, none⟩) (hj : R.sp[j]? = some (.adr t s Ke True)) (hji : (R.anc i).contains j = true) (hH : ∀ g, offP (H.f g) Ke = .pointer (some ⟨g, m, none⟩)) (hx : Has R B w0 i x A'.va) (ht : Ty P ty A'.n A'.ag) (hput : Put A0 m A' A1) : R.Ob P Q B w0 i := by
  unfold Rg.Ob
  simp only [hs, he]
  intro a w av g cs h1 h3 h4 K hK
  obtain ⟨cs', hp, hv⟩ := hx a w av
  have h2 := av.d j t s Ke True hji hj trivial
  rw [h1, hH] at h2
  obtain ⟨hlen, hp1⟩ := hput B cs cs' w h4 hp
  have l1 := A'.len _ _ _ hp
  refine wpOp_of ho rfl (wp_skip' (w' := w.setRow g (splice cs m cs').toArray) ?_ (hK _ hp1))
  have := run_storeVar ht w g m T cs.toArray _ cs' (A'.cells_shape hp) l1 (by simpa using hlen) (A'.one _ _ _ hp) h3
  simp only at this
  simp [execOp, h2, hv, Instr.storeAt, Instr.sureAddr, this, splice, l1]
/-! rows whose names are known to the letter -/
theorem a_asgK {t b : Nat} {k : Ky} (j : Nat) (hj : R.sp[j]? = some (.adr t b k True)) (hji : (R.anc i).contains j = true) : Ad P Q R B w0 i (.assign (.tmp t)) b k := fun _ _ _ _ _ a w av _ hK => by
  have h3 : a.eval (.tmp t) = offP (a.eval (.tmp b)) k := av.d j t b k True hji hj trivial
  exact wp_value (w' := w) (v := a.eval (.tmp t)) rfl (by rw [h3]; exact hK)
theorem arwE {s : Nat} {x : Operand} {H : Hd} {v : Value} (h1 : Has R B w0 i x (EqV v)) (h2 : Has R B w0 i (.tmp s) (EqV v)) : ArH R B w0 i s H (.w H) x := ⟨rfl, fun a w av => (show a.eval x = v from h1 a w av).trans (show a.eval (.tmp s) = v from h2 a w av).symm⟩
theorem r_maxk {k : IntKind} {x y : Operand} {ts : Array TypeId} {m n c : Int} (hx : Has R B w0 i x (NumA k m).va) (hy : Has R B w0 i y (NumA k n).va) (h : max m n = c) : Wv P Q R B w0 i (.call ⟨.builtin .max, #[x, y], ts⟩) (NumA k c).va := h ▸ r_max hx hy

theorem r_lenE {x : Operand} {S E' : TypeId} {A : Option Addr} {n c : Nat} (hS : P.underlying S = some (.slice E')) (hx : Has R B w0 i x (EqV (.slice A n c))) : Wv P Q R B w0 i (.call ⟨.builtin .len, #[x], #[S]⟩) (In n) :=
  wv_run fun d T' ps af gd a w av => by
    have h3 : a.eval x = .slice A n c := hx a w av
    refine ⟨.int .i64 n, w, ?_, Grow.refl w, val_num _ _ _ _⟩
    simp [execOp, resolve, invoke, builtin, h3, Builtin.len_, run_underlying hS, goInt]
/-- 's[n]', s a text. -/
theorem r_index {x y : Operand} {T : TypeId} {s : ByteArray} {n : Nat} {b : UInt8} {kd : IntKind} (hT : P.underlying T = some .string) (hx : Has R B w0 i x (EqV (.string s))) (hy : Has R B w0 i y (NumA kd n).va) (h : s[n]? = some b) : Wv P Q R B w0 i (.index T x y) (NumA .u8 (b.toNat : Nat)).va :=
  wv_run fun d T' ps af gd a w av => by
    have e1 : a.eval x = .string s := hx a w av
    have e2 := num_val (hy a w av)
    refine ⟨_, w, ?_, Grow.refl w, val_num _ _ _ _⟩
    simp [execOp, e1, e2, Instr.index, asIntOf, run_underlying hT, h]
theorem nums_at' {k : IntKind} {l : List Nat} {j x : Nat} (h : l[j]? = some x) : Sub (Nums k l) j (NumA k (x : Nat)) := by
  obtain ⟨h1, h2⟩ := List.getElem?_eq_some_iff.1 h
  subst h2
  exact nums_at h1
theorem nums_put' {k : IntKind} {l : List Nat} {j x : Nat} (l' : List Nat) (h : j < l.length) (e : l.set j x = l') : Put (Nums k l) j (NumA k (x : Nat)) (Nums k l') := e ▸ nums_put h
theorem r_idxE {x y : Operand} {S E : TypeId} {g o n c k : Nat} {kd : IntKind} (hS : Sl P S E 1) (hx : Has R B w0 i x (EqV (.slice (some ⟨g, o, none⟩) n c))) (hy : Has R B w0 i y (NumA kd k).va) (hk : k < n) : Wv P Q R B w0 i (.indexAddr S x y) (EqV (.pointer (some ⟨g, o + k, none⟩))) :=
  wv_run fun d T' ps af gd a w av => by
    have h3 : a.eval x = .slice (some ⟨g, o, none⟩) n c := hx a w av
    have e := num_val (hy a w av)
    obtain ⟨hs1, hs2⟩ := hS
    refine ⟨_, w, ?_, Grow.refl w, rfl⟩
    cases hi : P.info? E with
    | none => rw [hi] at hs2; simp at hs2
    | some it =>
      rw [hi] at hs2
      have hsz : it.size = 1 := by simpa using hs2
      by_cases h0 : k = 0
      · subst h0; simp [execOp, h3, e, Instr.indexAt, asIntOf, run_underlying hs1, hk, sizeOf, typeInfo, hi, Addr.add]
      · simp [execOp, h3, e, Instr.indexAt, asIntOf, run_underlying hs1, hk, sizeOf, typeInfo, hi, hsz, Addr.add, h0]
theorem r_loadE {x : Operand} {s g m : Nat} {T : TypeId} {H : Hd} {A A' : As} {ty : TypeId} (hx : Has R B w0 i x (EqV (.pointer (some ⟨g, m, none⟩)))) (hl : LocH R i s T H A) (hs : Has R B w0 i (.tmp s) (EqV (H.f g))) (hsub : Sub A m A') (ht : Ty P ty A'.n A'.ag) :
    Wv P Q R B w0 i (.load ty x) A'.va :=
  wv_run fun _ _ _ _ _ a w av => by
    obtain ⟨g', cs, h1, _, h3, h4⟩ := hl.ok av
    have h2 : a.eval x = .pointer (some ⟨g, m, none⟩) := hx a w av
    have hg : g' = g := Rg.Hd.inj (H := H) (H' := H) (by rw [← h1, ← show a.eval (.tmp s) = H.f g from hs a w av])
    subst hg
    obtain ⟨p1, l1⟩ := hsub _ _ _ h4
    refine ⟨shape A'.ag ((cs.drop m).take A'.n), w, ?_, Grow.refl w, ⟨_, p1, rfl⟩⟩
    have := run_loadVar ht w g' m _ (A'.len _ _ _ p1) A'.ag1 (cells_at h3 A'.n)
    simp [execOp, h2, Instr.loadAt, Instr.sureAddr, this]
theorem ob_stoE {e s g m : Nat} {T : TypeId} {H : Hd} {cr : Option Nat} {A0 A' A1 : As} {x p : Operand} {ty ty' : TypeId} {ps : String} {af : Array Edge} (hs : R.sp[i]? = some (.sto e)) (he : R.les[e]? = some ⟨s, T, H, cr, A0, some (i, A1)⟩)
    (ho : R.ops[i]? = some ⟨none, .store ty p x, ty', ps, af, none⟩) (hp : Has R B w0 i p (EqV (.pointer (some ⟨g, m, none⟩)))) (hsg : Has R B w0 i (.tmp s) (EqV (H.f g))) (hx : Has R B w0 i x A'.va) (ht : Ty P ty A'.n A'.ag) (hput : Put A0 m A' A1) : R.Ob P Q B w0 i := by
  unfold Rg.Ob
  simp only [hs, he]
  intro a w av g' cs h1 h3 h4 K hK
  obtain ⟨cs', hp', hv⟩ := hx a w av
  have h2 : a.eval p = .pointer (some ⟨g, m, none⟩) := hp a w av
  have hg : g' = g := Rg.Hd.inj (H := H) (H' := H) (by rw [← h1, ← show a.eval (.tmp s) = H.f g from hsg a w av])
  subst hg
  obtain ⟨hlen, hp1⟩ := hput B cs cs' w h4 hp'
  have l1 := A'.len _ _ _ hp'
  refine wpOp_of ho rfl (wp_skip' (w' := w.setRow g' (splice cs m cs').toArray) ?_ (hK _ hp1))
  have := run_storeVar ht w g' m T cs.toArray _ cs' (A'.cells_shape hp') l1 (by simpa using hlen) (A'.one _ _ _ hp') h3
  simp only at this
  simp [execOp, h2, hv, Instr.storeAt, Instr.sureAddr, this, splice, l1]
end
end Go.Proofs.Ytgjolcbehcjhcaa
