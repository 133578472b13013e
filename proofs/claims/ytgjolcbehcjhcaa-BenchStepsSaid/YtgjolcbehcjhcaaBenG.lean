/- Contract of bench.Trace: a ray behind each element; rays compared. -/
import Derived.Test.YtgjolcbehcjhcaaBenE
import Derived.Test.YtgjolcbehcjhcaaCavB
import Derived.Test.YtgjolcbehcjhcaaBenF
import Derived.Test.YtgjolcbehcjhcaaRayL
import Derived.Laws.AppendOwn
import Derived.Laws.OwnMore
import Derived.Orders
namespace Go.Proofs.Ytgjolcbehcjhcaa
open Go Go.RowKit
namespace BenG
theorem fld_62_0 : Fld Try.prog 62 0 0 4 := ⟨_, _, Try.underlying62, rfl, rfl, by kernel_rfl, by decide⟩
theorem fld_62_1 : Fld Try.prog 62 1 4 4 := ⟨_, _, Try.underlying62, rfl, rfl, by kernel_rfl, by decide⟩
theorem sl_111 : Sl Try.prog 111 26 4 := ⟨by kernel_rfl, by kernel_rfl⟩
theorem sl_53 : Sl Try.prog 53 70 9 := ⟨by kernel_rfl, by kernel_rfl⟩
theorem sl_65 : Sl Try.prog 65 62 8 := ⟨by kernel_rfl, by kernel_rfl⟩
theorem ty_26 : Ty Try.prog 26 4 true := ⟨by kernel_rfl, by kernel_rfl⟩
theorem ty_62 : Ty Try.prog 62 8 true := ⟨by kernel_rfl, by kernel_rfl⟩
theorem ty_70 : Ty Try.prog 70 9 true := ⟨by kernel_rfl, by kernel_rfl⟩
end BenG
open BenG
/-! a region beside a row of one's own: what it may write are its variables alone -/
theorem As.many {A : As} {B : Nat} {cs : List Value} {w' : World} : ∀ (gs : List Nat) {w : World}, A.p B cs w → w'.os = w.os → w'.tape = w.tape → w'.output = w.output → w.heap.size ≤ w'.heap.size → (∀ k, k < w.heap.size → k ∉ gs → w'.heap[k]? = w.heap[k]?) → (∀ g ∈ gs, B ≤ g ∧ ∃ c T fz, w.heap[g]? = some (.cells c T fz) ∧ T ∉ A.deps) → A.p B cs w'
  | [], w, hp, h1, h2, h3, h4, h5, _ => A.grow _ _ _ _ ⟨h1, h2, h3, h4, fun k hk => h5 k hk (by simp)⟩ hp
  | g :: gs, w, hp, h1, h2, h3, h4, h5, h6 => by
    by_cases hg : g ∈ gs
    · exact As.many gs hp h1 h2 h3 h4 (fun k hk hn => h5 k hk (by simp only [List.mem_cons, not_or]; exact ⟨fun e => hn (by rw [e]; exact hg), hn⟩)) (fun g' hg' => h6 g' (List.mem_cons_of_mem _ hg'))
    · obtain ⟨hB, c, T, fz, hc, hT⟩ := h6 g List.mem_cons_self
      have hlt : g < w.heap.size := (Array.getElem?_eq_some_iff.1 hc).1
      have hx : w'.heap[g]? = some (w'.heap[g]'(by omega)) := Array.getElem?_eq_getElem _
      generalize w'.heap[g]'(by omega) = x at hx
      have hwr : Wr g w { w with heap := w.heap.setIfInBounds g x } := ⟨rfl, rfl, rfl, by simp, fun k hk => by
        show (w.heap.setIfInBounds g x)[k]? = _
        rw [Array.getElem?_setIfInBounds_ne (fun e => hk e.symm)]⟩
      have hsz : (w.heap.setIfInBounds g x).size = w.heap.size := by simp
      refine As.many gs (w := { w with heap := w.heap.setIfInBounds g x }) (A.wr _ _ _ _ _ _ _ _ hc hT hB hwr hp) h1 h2 h3 (by rw [hsz]; exact h4) (fun k hk hn => ?_) (fun g' hg' => ?_)
      · show _ = (w.heap.setIfInBounds g x)[k]?
        by_cases e : k = g
        · subst e
          rw [Array.getElem?_setIfInBounds_self_of_lt hlt]
          exact hx
        · rw [Array.getElem?_setIfInBounds_ne (fun e' => e e'.symm)]
          exact h5 k (by rw [hsz] at hk; exact hk) (by simp only [List.mem_cons, not_or]; exact ⟨e, hn⟩)
      · obtain ⟨hB', c', T', fz', hc', hT'⟩ := h6 g' (List.mem_cons_of_mem _ hg')
        refine ⟨hB', c', T', fz', ?_, hT'⟩
        show (w.heap.setIfInBounds g x)[g']? = _
        rw [Array.getElem?_setIfInBounds_ne (show g ≠ g' from fun e => hg (by rw [e]; exact hg'))]
        exact hc'
def locF (Λ : List Lc) (a : Act) (k : Nat) : Prop := ∃ l ∈ Λ, blk (a.eval (.tmp l.s)) = some k
theorem St.frame {B N : Nat} {w0 : Bs} {Γ : List (Nat × VA)} {Λ : List Lc} {a : Act} {w : World} (h : St B w0 N Γ Λ a w) : ∃ w1 : Bs, St B w1 N Γ Λ a w ∧ ∀ {N' : Nat} {Γ' : List (Nat × VA)} {Λ' : List Lc} {a' : Act} {w' : World}, St B w1 N' Γ' Λ' a' w' →
    St B w0 N' Γ' Λ' a' w' ∧ ∀ {b s3 : Nat} {E : TypeId} {m : Nat} {D : List TypeId} {l : List As} {v : Value}, (OwnB b E m D l).p B v w → (PtrLt b).p B (a.eval (.tmp s3)) w → Λ.all (fun l => !D.contains l.T && (l.T != E || l.s == s3)) = true → (OwnB b E m D l).p B v w' := by
  have hloc : ∀ k, locF Λ a k → w0.may k ∧ ∃ l ∈ Λ, blk (a.eval (.tmp l.s)) = some k ∧ ∃ cs, w.heap[k]? = some (.cells cs l.T (0, 0)) := fun k ⟨l, hl, hb⟩ => by
    obtain ⟨g, cs, e1, e2, e3, _⟩ := h.locs l hl
    have : g = k := by rw [e1, l.H.ok] at hb; injection hb
    subst this
    exact ⟨e2, l, hl, hb, _, e3⟩
  refine ⟨⟨w, locF Λ a⟩, ⟨?_, h.defers, h.size, Kept.refl _, h.vals, fun l hl => ?_, h.dis⟩, fun {N' Γ' Λ' a' w'} h' => ⟨⟨h.lo, h'.defers, h'.size, ?_, h'.vals, fun l hl => ?_, h'.dis⟩, ?_⟩⟩
  · rintro g (hg | hg)
    · exact Nat.le_trans (h.lo _ (.inl (Nat.le_refl _))) (Nat.le_trans h.base.size hg)
    · exact h.lo _ (hloc g hg).1
  · obtain ⟨g, cs, e1, e2, e3, e4⟩ := h.locs l hl
    exact ⟨g, cs, e1, .inr ⟨l, hl, by rw [e1]; exact l.H.ok g⟩, e3, e4⟩
  · refine ⟨h'.base.os.trans h.base.os, h'.base.tape.trans h.base.tape, h'.base.output.trans h.base.output, Nat.le_trans h.base.size h'.base.size, fun k hk hf => ?_⟩
    refine (h'.base.block k (Nat.lt_of_lt_of_le hk h.base.size) (fun hF => ?_)).trans (h.base.block k hk hf)
    rcases (hloc k hF).1 with h1 | h1
    · omega
    · exact hf h1
  · obtain ⟨g, cs, e1, e2, e3, e4⟩ := h'.locs l hl
    refine ⟨g, cs, e1, ?_, e3, e4⟩
    rcases e2 with e2 | e2
    · exact .inl (Nat.le_trans h.base.size e2)
    · exact (hloc g e2).1
  · rintro b s3 E m D l v ⟨hb1, hb2, hd1, hd2, ds, hp, how⟩ ⟨g3, hg3, hlt⟩ hch
    have hck : ∀ l' ∈ Λ, l'.T ∉ D ∧ (l'.T ≠ E ∨ l'.s = s3) := fun l' hl' => by
      have := List.all_eq_true.1 hch l' hl'
      simp only [Bool.and_eq_true, Bool.or_eq_true, beq_iff_eq, bne_iff_ne, Bool.not_eq_true', List.contains_eq_mem, decide_eq_false_iff_not] at this
      exact this
    refine ⟨Nat.le_trans hb1 h'.base.size, hb2, hd1, hd2, ds, ?_, how.1, ?_⟩
    · refine As.many (Λ.filterMap fun l' => blk (a.eval (.tmp l'.s))) hp h'.base.os h'.base.tape h'.base.output h'.base.size (fun k hk hn => h'.base.block k hk fun ⟨l', hl', hb'⟩ => hn (List.mem_filterMap.2 ⟨l', hl', hb'⟩)) (fun g hg => ?_)
      obtain ⟨l', hl', hb'⟩ := List.mem_filterMap.1 hg
      obtain ⟨hm, l2, hl2, hb2', cs, hcs⟩ := hloc g ⟨l', hl', hb'⟩
      exact ⟨h.lo _ hm, _, _, _, hcs, fun hT => by
        obtain ⟨A', hA', hT'⟩ : ∃ A' ∈ l, l2.T ∈ A'.deps := by simpa [cat] using hT
        exact (hck l2 hl2).1 (hd2 A' hA' _ hT')⟩
    · rcases how.2 with h1 | ⟨g0, cap, cur, e1, e2, e3, e4⟩
      · exact .inl h1
      · refine .inr ⟨g0, cap, cur, e1, e2, ?_, e4⟩
        rw [h'.base.block g0 (Array.getElem?_eq_some_iff.1 e3).1 fun hF => ?_]
        · exact e3
        · obtain ⟨_, l', hl', hb', cs, hcs⟩ := hloc g0 hF
          rcases (hck l' hl').2 with h1 | h1
          · rw [hcs] at e3
            injection e3 with e3
            injection e3 with _ e3 _
            exact h1 e3
          · rw [← h1, hb'] at hg3
            injection hg3 with hg3
            omega
theorem St.eqvw {B N : Nat} {w0 : Bs} {Γ : List (Nat × VA)} {Λ : List Lc} {a : Act} {w : World} (h : St B w0 N Γ Λ a w) {s : Nat} {A : VA} (k : Nat) (hm : Γ[k]? = some (s, A)) : ∃ v, A.p B v w ∧ St B w0 N (Γ.set k (s, EqV v)) Λ a w :=
  ⟨a.eval (.tmp s), h.vals _ (List.mem_of_getElem? hm), h.lo, h.defers, h.size, h.base, fun x hx => by
    rcases List.mem_or_eq_of_mem_set hx with hx | rfl
    · exact h.vals x hx
    · exact rfl, h.locs, h.dis⟩
theorem St.putG {B N : Nat} {w0 : Bs} {Γ : List (Nat × VA)} {Λ : List Lc} {a : Act} {w : World} (h : St B w0 N Γ Λ a w) {s : Nat} {A : VA} {v : Value} (k : Nat) (hm : Γ[k]? = some (s, EqV v)) (hp : A.p B v w) : St B w0 N (Γ.set k (s, A)) Λ a w :=
  ⟨h.lo, h.defers, h.size, h.base, fun x hx => by
    rcases List.mem_or_eq_of_mem_set hx with hx | rfl
    · exact h.vals x hx
    · have e : a.eval (.tmp s) = v := h.vals _ (List.mem_of_getElem? hm)
      show A.p B (a.eval (.tmp s)) w
      rw [e]
      exact hp, h.locs, h.dis⟩

/-! a new ground: what is known then stays known -/
theorem St.up {B N : Nat} {w0 : Bs} {Γ : List (Nat × VA)} {Λ : List Lc} {a : Act} {w : World} (hF : ∀ k, ¬ w0.F k) (h : St B w0 N Γ Λ a w) {A : VA} {v : Value} (hv : A.p B v w0.w) : A.p B v w :=
  A.grow _ _ _ _ ⟨h.base.os, h.base.tape, h.base.output, h.base.size, fun k hk => h.base.block k hk (hF k)⟩ hv
theorem St.rebase {B N : Nat} {w0 : Bs} {Γ : List (Nat × VA)} {a : Act} {w : World} (h : St B w0 N Γ [] a w) : ∃ w1 : Bs, w1.w = w ∧ (∀ k, ¬ w1.F k) ∧ St B w1 N Γ [] a w ∧ ∀ {N' : Nat} {Γ' : List (Nat × VA)} {Λ' : List Lc} {a' : Act} {w' : World}, St B w1 N' Γ' Λ' a' w' → St B w0 N' Γ' Λ' a' w' := by
  have hlo : B ≤ w.heap.size := Nat.le_trans (h.lo _ (.inl (Nat.le_refl _))) h.base.size
  refine ⟨⟨w, fun _ => False⟩, rfl, fun _ h => h, ⟨fun g hg => Nat.le_trans hlo (hg.resolve_right fun h => h), h.defers, h.size, Kept.refl _, h.vals, (fun _ h => by cases h), h.dis⟩, fun {N' Γ' Λ' a' w'} h' => ⟨h.lo, h'.defers, h'.size, ?_, h'.vals, fun l hl => ?_, h'.dis⟩⟩
  · exact ⟨h'.base.os.trans h.base.os, h'.base.tape.trans h.base.tape, h'.base.output.trans h.base.output, Nat.le_trans h.base.size h'.base.size, fun k hk hf => (h'.base.block k (Nat.lt_of_lt_of_le hk h.base.size) (fun h => h)).trans (h.base.block k hk hf)⟩
  · obtain ⟨g, cs, e1, e2, e3, e4⟩ := h'.locs l hl
    exact ⟨g, cs, e1, .inl (Nat.le_trans h.base.size (e2.resolve_right fun h => h)), e3, e4⟩
/-- a variable that is only read from now on. -/
theorem St.locG {B N : Nat} {w0 : Bs} {Γ : List (Nat × VA)} {s : Nat} {T : TypeId} {A : As} {a : Act} {w : World} (h : St B w0 N Γ [⟨s, T, ptrH, A⟩] a w) : St B w0 N (Γ ++ [(s, ElP T A)]) [] a w :=
  ⟨h.lo, h.defers, h.size, h.base, fun x hx => by
    rcases List.mem_append.1 hx with hx | hx
    · exact h.vals x hx
    · obtain rfl := List.mem_singleton.1 hx
      obtain ⟨g, cs, e1, e2, e3, e4⟩ := h.locs _ List.mem_cons_self
      refine ⟨g, 0, cs, e1, (Array.getElem?_eq_some_iff.1 e3).1, .inr ⟨_, _, e3⟩, e4, fun j u hu => ?_⟩
      rw [cell_of_row w g (0 + j) (List.toArray cs) T _ e3, Nat.zero_add]
      simpa using hu, (fun _ h => by cases h), (fun _ h => by cases h)⟩

theorem app_ray : ∃ it z, Try.prog.info? 62 = some it ∧ it.zero = some z ∧ it.size = 8 ∧ it.bytes = 128 ∧ z.cells.size = 8 := by
  have h : ((Try.prog.info? 62).bind fun it => it.zero.map fun z => (it.size, it.bytes, z.cells.size)) = some (8, 128, 8) := by kernel_rfl
  cases hi : Try.prog.info? 62 with
  | none => rw [hi] at h; simp at h
  | some it =>
    rw [hi] at h
    cases hz : it.zero with
    | none => simp [hz] at h
    | some z =>
      simp [hz] at h
      exact ⟨it, z, rfl, hz, h.1, h.2.1, h.2.2⟩
theorem app_fra4 : ∃ it z, Try.prog.info? 26 = some it ∧ it.zero = some z ∧ it.size = 4 ∧ it.bytes = 64 ∧ z.cells.size = 4 := by
  have h : ((Try.prog.info? 26).bind fun it => it.zero.map fun z => (it.size, it.bytes, z.cells.size)) = some (4, 64, 4) := by kernel_rfl
  cases hi : Try.prog.info? 26 with
  | none => rw [hi] at h; simp at h
  | some it =>
    rw [hi] at h
    cases hz : it.zero with
    | none => simp [hz] at h
    | some z =>
      simp [hz] at h
      exact ⟨it, z, rfl, hz, h.1, h.2.1, h.2.2⟩
def rayQ (xs : List RE) (q : YQ) (j : Nat) : YQ := goQ (prodQ (xs.take j)) q
def raysL (xs : List RE) (q : YQ) (n : Nat) : List YQ := (List.range n).map fun i => rayQ xs q (i + 1)
def frsL (xs : List RE) (q : YQ) (n : Nat) : List Rat := (raysL xs q n).flatMap fun y => [y.y, y.u]
def traF (xs : List RE) (r : RR) : List RR × Int := if chF xs = 0 then (if [r.y, r.u].all okX = true then (if (frsL xs (toY r) xs.length).any longQ then ([], 4) else ((raysL xs (toY r) xs.length).map rrOf, 0)) else ([], 1)) else ([], chF xs)
abbrev TrR (r : List RR × Int) : VA := Tu [(SlA 62 [U32] (r.1.map RRA)).va, In r.2]
theorem rays_nx {xs : List RE} {q : YQ} {j : Nat} : raysL xs q (j + 1) = raysL xs q j ++ [rayQ xs q (j + 1)] := by
  unfold raysL
  rw [List.range_succ, List.map_append]
  rfl
theorem rays_len {xs : List RE} {q : YQ} {j : Nat} : (raysL xs q j).length = j := by unfold raysL; rw [List.length_map, List.length_range]
theorem rays_a {xs : List RE} {q : YQ} {j : Nat} : ((raysL xs q j).map rrOf).map RRA ++ [RRA (rrOf (rayQ xs q (j + 1)))] = ((raysL xs q (j + 1)).map rrOf).map RRA := by rw [rays_nx, List.map_append, List.map_append]; rfl
def fqA (y : YQ) : List As := [QA 33566723 y.y, QA 33566723 y.u]
theorem rays_b {xs : List RE} {q : YQ} {j : Nat} : (raysL xs q j).flatMap fqA ++ [QA 33566723 (rayQ xs q (j + 1)).y, QA 33566723 (rayQ xs q (j + 1)).u] = (raysL xs q (j + 1)).flatMap fqA := by rw [rays_nx, List.flatMap_append]; rfl
theorem fla_len {xs : List RE} {q : YQ} {j : Nat} : ((raysL xs q j).flatMap fqA).length = 2 * j := by
  have key : ∀ l : List YQ, (l.flatMap fqA).length = 2 * l.length := by
    intro l
    induction l with
    | nil => rfl
    | cons y l ih => simp only [List.flatMap_cons, List.length_append, ih]; show 2 + 2 * l.length = 2 * (l.length + 1); omega
  rw [key, rays_len]
theorem frs_len {xs : List RE} {q : YQ} {j : Nat} : (frsL xs q j).length = 2 * j := by
  have key : ∀ l : List YQ, (l.flatMap fun y => [y.y, y.u]).length = 2 * l.length := by
    intro l
    induction l with
    | nil => rfl
    | cons y l ih => simp only [List.flatMap_cons, List.length_append, ih]; show 2 + 2 * l.length = 2 * (l.length + 1); omega
  unfold frsL
  rw [key, rays_len]
theorem isq_fl (l : List YQ) : All2 IsQ (l.flatMap fqA) (l.flatMap fun y => [y.y, y.u]) := by
  induction l with
  | nil => exact .nil
  | cons y l ih => rw [List.flatMap_cons, List.flatMap_cons]; exact .cons ⟨_, rfl⟩ (.cons ⟨_, rfl⟩ ih)
theorem two_n4 {k : Nat} {x y : Rat} : ∀ A ∈ [QA k x, QA k y], A.n = 4 := fun A hA => by
  rcases List.mem_cons.1 hA with rfl | hA
  · rfl
  · cases List.mem_singleton.1 hA
    rfl
theorem qr_bQ {k k' : Nat} {q : YQ} (h : bQ k' q.y ∧ bQ k' q.u) : WkA (QRA k q) (QRA k' q) := cat_wk (.cons (qa_bQ h.1) (.cons (qa_bQ h.2) .nil))
theorem ray_b {xs : List RE} (h4 : xs.length ≤ 4096) (hx : xs.all elF = true) {q : YQ} (hq : bQ 2048 q.y ∧ bQ 2048 q.u) {j : Nat} (hj : j ≤ xs.length) : bQ 33566723 (rayQ xs q j).y ∧ bQ 33566723 (rayQ xs q j).u := by
  obtain ⟨h1, h2, h3, h5⟩ := rep_bQ (prod_rep hx j hj)
  obtain ⟨a1, a2⟩ := bQ_add (bQ_mul h1 hq.1) (bQ_mul h2 hq.2)
  obtain ⟨b1, b2⟩ := bQ_add (bQ_mul h3 hq.1) (bQ_mul h5 hq.2)
  have hb : 1 + 4097 * j + 2048 + (1 + 4097 * j + 2048) + 1 ≤ 33566723 := by omega
  exact ⟨⟨Nat.le_trans a1 hb, Nat.le_trans a2 hb⟩, ⟨Nat.le_trans b1 hb, Nat.le_trans b2 hb⟩⟩
theorem ray_0 (xs : List RE) (q : YQ) : rayQ xs q 0 = q := by
  unfold rayQ goQ
  show (⟨1 * q.y + 0 * q.u, 0 * q.y + 1 * q.u⟩ : YQ) = q
  cases q
  simp only [YQ.mk.injEq]
  exact ⟨by grind, by grind⟩
theorem ray_nx {xs : List RE} {q : YQ} {j : Nat} (h : j < xs.length) : goQ (elM xs[j]) (rayQ xs q j) = rayQ xs q (j + 1) := by
  unfold rayQ
  rw [go_go, prod_nx h]
theorem ray_q {r : RR} (h : [r.y, r.u].all okX = true) : bQ 2048 (toY r).y ∧ bQ 2048 (toY r).u := by
  simp only [List.all_cons, List.all_nil, Bool.and_true, Bool.and_eq_true] at h
  exact ⟨okX_bQ h.1, okX_bQ h.2⟩
theorem ray_0w {xs : List RE} {r : RR} (h : [r.y, r.u].all okX = true) : WkA (RRA r) (QRA 33566723 (rayQ xs (toY r) 0)) := by
  rw [ray_0]
  exact (qr_x h).trans (cat_wk (.cons (qa_mono (by decide)) (.cons (qa_mono (by decide)) .nil)))

set_option maxRecDepth 100000 in
theorem toldR_q {L : List As} (l : List RR) (qs : List Rat) (hL : All2 IsQ L qs) (hl : qs.length ≤ 1099511627776) : Cn Try.prog 109 [(SlA 62 [U32] (l.map RRA)).va, (SlA 26 [U32] L).va] (TrR (if qs.any longQ then ([], 4) else (l, 0))) := by
  refine Cn.intro Try.func109 rfl (by kernel_rfl) nq (fun B w0 a hst => ?_)
  have hst : St B w0 10 [(0, (SlA 62 [U32] (l.map RRA)).va), (1, (SlA 26 [U32] L).va)] [] a w0.w := hst
  refine wp_seq ?_
  refine gl (sts := []) (news := []) (sp := [.val 4 _, .val 5 _]) [.g 0, .g 1, .o 0, .o 1] hst (oc (ob_v rfl rfl (r_assign has_const)) (oc (ob_v rfl rfl (r_assign has_num)) o0)) (fun a w hst => ?_)
  have hst : St B w0 10 [(0, _), (1, _), (4, _), (5, _)] [] a w := hst
  refine thn_normal ?_
  refine wp_seq ?_
  refine wp_seq ?_
  refine gl (sts := []) (news := []) (sp := [.val 6 _, .val 7 _]) [.g 0, .g 2, .g 3, .o 1] hst (oc (ob_v rfl rfl (r_move (gq 1 rfl))) (oc (ob_v rfl rfl (r_call (xs := [.tmp 6]) (long_q qs hL hl) (.cons (vq 0 rfl) .nil))) o0)) (fun a w hst => ?_)
  have hst : St B w0 10 [(0, _), (4, _), (5, _), (7, _)] [] a w := hst
  refine thn_normal ?_
  refine cond_of hst (List.mem_of_getElem? (i := 3) rfl) (fun hb0 => ?_) (fun hb0 => ?_)
  · refine wp_seq ?_
    refine gl (sts := []) (news := []) (sp := [.val 8 _, .val 4 _, .val 5 _]) [.g 0, .o 1, .o 2] hst (oc (ob_v rfl rfl (r_move (gq 1 rfl))) (oc (ob_v rfl rfl (r_assign (vq 0 rfl))) (oc (ob_v rfl rfl (r_assign has_num)) o0))) (fun a w hst => ?_)
    have hst : St B w0 10 [(0, _), (4, _), (5, _)] [] a w := hst
    refine thn_normal ?_
    refine wp_ret ?_
    refine thn_ret ?_
    refine ret_wk ?_ (ret_many (rs := [.tmp 4, .tmp 5]) rfl hst (.tmp (List.mem_of_getElem? (i := 1) rfl) (.tmp (List.mem_of_getElem? (i := 2) rfl) .nil)) (by decide))
    rw [if_pos hb0]; exact tu2w nil_sl wk_id
  · refine wp_skip ?_
    refine thn_normal ?_
    refine wp_seq ?_
    refine gl (sts := []) (news := []) (sp := [.val 9 _, .val 4 _, .val 5 _]) [.o 1, .o 2] hst (oc (ob_v rfl rfl (r_move (gq 0 rfl))) (oc (ob_v rfl rfl (r_assign (vq 0 rfl))) (oc (ob_v rfl rfl (r_assign has_num)) o0))) (fun a w hst => ?_)
    have hst : St B w0 10 [(4, _), (5, _)] [] a w := hst
    refine thn_normal ?_
    refine wp_ret ?_
    refine ret_wk ?_ (ret_many (rs := [.tmp 4, .tmp 5]) rfl hst (.tmp (List.mem_of_getElem? (i := 0) rfl) (.tmp (List.mem_of_getElem? (i := 1) rfl) .nil)) (by decide))
    rw [if_neg (by rw [hb0]; decide)]; exact wk_id

set_option maxRecDepth 100000 in
set_option maxHeartbeats 2000000 in
theorem trace10_c (xs : List RE) (r : RR) : Cn Try.prog 40 [(SlA 70 [U32] (xs.map REA)).va, (RRA r).va] (TrR (traF xs r)) := by
  obtain ⟨it, z, e1, e2, e3, e4, e5⟩ := app_ray
  obtain ⟨it1, z1, f1, f2, f3, f4, f5⟩ := app_fra4
  refine Cn.introF Try.func40 rfl (by kernel_rfl) nq (fun B w0 a hF hst => ?_)
  have hst : St B w0 50 [(0, (SlA 70 [U32] (xs.map REA)).va), (1, (RRA r).va)] [] a w0.w := hst
  obtain ⟨v0, hv0, hst⟩ := St.eqv hst 0 rfl
  refine wp_seq ?_
  refine gl (sts := []) (news := [⟨3, 62, ptrH, some 0, _, none⟩]) (sp := [.alc 0, .val 4 _, .val 5 _]) [.g 0, .o 1, .o 2] hst (oc (ob_box rfl rfl rfl (gq 1 rfl)) (oc (ob_v rfl rfl (r_assign has_const)) (oc (ob_v rfl rfl (r_assign has_num)) o0))) (fun a w hst => ?_)
  have hst : St B w0 50 [(0, _), (4, _), (5, _)] [⟨3, 62, ptrH, _⟩] a w := hst
  refine thn_normal ?_
  refine wp_seq ?_
  refine wp_seq ?_
  refine gl (sts := [none]) (news := []) (sp := [.val 11 _, .val 12 _, .val 6 _]) [.g 0, .g 1, .g 2, .o 2] hst (oc (ob_v rfl rfl (r_move (gq 0 rfl))) (oc (ob_v rfl rfl (r_call (xs := [.tmp 11]) (benCheck_c xs) (.cons (has_again hF hv0 (vq 0 rfl)) .nil))) (oc (ob_v rfl rfl (r_assign (vq 1 rfl))) o0))) (fun a w hst => ?_)
  have hst : St B w0 50 [(0, _), (4, _), (5, _), (6, _)] [⟨3, 62, ptrH, _⟩] a w := hst
  refine thn_normal ?_
  refine wp_seq ?_
  refine gl (sts := [none]) (news := []) (sp := [.val 13 _, .val 14 _]) [.g 0, .g 1, .g 2, .g 3, .o 1] hst (oc (ob_v rfl rfl (r_move (gq 3 rfl))) (oc (ob_v rfl rfl (r_neq (vq 0 rfl) has_num)) o0)) (fun a w hst => ?_)
  have hst : St B w0 50 [(0, _), (4, _), (5, _), (6, _), (14, _)] [⟨3, 62, ptrH, _⟩] a w := hst
  refine thn_normal ?_
  refine cond_of hst (List.mem_of_getElem? (i := 4) rfl) (fun hb0 => ?_) (fun hb0 => ?_)
  · have hc : ¬ chF xs = 0 := by simpa using hb0
    refine wp_seq ?_
    refine gl (sts := [none]) (news := []) (sp := [.val 15 _, .val 4 _, .val 5 _]) [.g 0, .o 1, .o 2] hst (oc (ob_v rfl rfl (r_move (gq 3 rfl))) (oc (ob_v rfl rfl (r_assign has_const)) (oc (ob_v rfl rfl (r_assign (vq 0 rfl))) o0))) (fun a w hst => ?_)
    have hst : St B w0 50 [(0, _), (4, _), (5, _)] [⟨3, 62, ptrH, _⟩] a w := hst
    refine thn_normal ?_
    refine wp_ret ?_
    refine thn_ret ?_
    refine ret_wk ?_ (ret_many (rs := [.tmp 4, .tmp 5]) rfl hst (.tmp (List.mem_of_getElem? (i := 1) rfl) (.tmp (List.mem_of_getElem? (i := 2) rfl) .nil)) (by decide))
    rw [traF, if_neg hc]; exact tu2w nil_sl wk_id
  · have hc : chF xs = 0 := by simpa using hb0
    have hk := ch_ok hc
    refine wp_skip ?_
    refine thn_normal ?_
    refine wp_seq ?_
    refine wp_seq ?_
    refine gl (sts := [none]) (news := []) (sp := [.adr 16 3 (.some 0) True, .val 17 _, .adr 18 3 (.some 4) True, .val 19 _, .val 20 _, .val 21 _, .val 22 _]) [.g 0, .g 1, .g 2, .o 6] hst (oc (ob_a rfl rfl (a_fld (lz0 0 rfl) fld_62_0)) (oc (ob_v rfl rfl (r_loadf 0 rfl (by kernel_rfl) trivial (lz0 0 rfl) (Sub.part 0 rfl rfl) ty_26)) (oc (ob_a rfl rfl (a_fld (lz0 0 rfl) fld_62_1)) (oc (ob_v rfl rfl (r_loadf 2 rfl (by kernel_rfl) trivial (lz0 0 rfl) (Sub.part 1 rfl rfl) ty_26)) (oc (ob_v rfl rfl (r_slice (D := [U32]) (l := [_, _]) (xs := [.tmp 17, .tmp 19]) (nd_ok (by kernel_rfl)) sl_111 (by kernel_rfl) (n_ok (by kernel_rfl)) nq nq nq (.cons (vq 1 rfl) (.cons (vq 3 rfl) .nil)) rfl rfl)) (oc (ob_v rfl rfl (r_call (xs := [.tmp 20]) (checks_c [r.y, r.u] nq) (.cons (vq 4 rfl) .nil))) (oc (ob_v rfl rfl (r_not (vq 5 rfl))) o0))))))) (fun a w hst => ?_)
    have hst : St B w0 50 [(0, _), (4, _), (5, _), (22, _)] [⟨3, 62, ptrH, _⟩] a w := hst
    refine thn_normal ?_
    refine cond_of hst (List.mem_of_getElem? (i := 3) rfl) (fun hb1 => ?_) (fun hb1 => ?_)
    · have hno : ¬ [r.y, r.u].all okX = true := fun h => by rw [h] at hb1; exact absurd hb1 (by decide)
      refine wp_seq ?_
      refine gl (sts := [none]) (news := []) (sp := [.val 4 _, .val 5 _]) [.g 0, .o 0, .o 1] hst (oc (ob_v rfl rfl (r_assign has_const)) (oc (ob_v rfl rfl (r_assign has_num)) o0)) (fun a w hst => ?_)
      have hst : St B w0 50 [(0, _), (4, _), (5, _)] [⟨3, 62, ptrH, _⟩] a w := hst
      refine thn_normal ?_
      refine wp_ret ?_
      refine thn_ret ?_
      refine ret_wk ?_ (ret_many (rs := [.tmp 4, .tmp 5]) rfl hst (.tmp (List.mem_of_getElem? (i := 1) rfl) (.tmp (List.mem_of_getElem? (i := 2) rfl) .nil)) (by decide))
      rw [traF, if_pos hc, if_neg hno]; exact tu2w nil_sl wk_id
    · have hok : [r.y, r.u].all okX = true := by rw [Bool.not_eq_false'] at hb1; exact hb1
      have hq := ray_q hok
      have hst := St.wkL hst 0 rfl (ray_0w (xs := xs) hok)
      refine wp_skip ?_
      refine thn_normal ?_
      refine wp_seq ?_
      refine gl (sts := [none]) (news := []) (sp := [.val 7 _]) [.g 0, .g 1, .g 2, .o 0] hst (oc (ob_v rfl rfl (r_assign has_const)) o0) (fun a w hst => ?_)
      have hst : St B w0 50 [(0, _), (4, _), (5, _), (7, _)] [⟨3, 62, ptrH, _⟩] a w := hst
      obtain ⟨b, hwb, hst⟩ := St.ownB (E := 62) (m := 8) (D := [U32]) hst 3 0 rfl rfl
      have hst : St B w0 50 [(0, _), (4, _), (5, _), (7, _), (3, _)] [⟨3, 62, ptrH, _⟩] a w := hst
      refine thn_normal ?_
      refine wp_seq ?_
      refine gl (sts := [none]) (news := []) (sp := [.val 8 _]) [.g 0, .g 1, .g 2, .g 3, .g 4, .o 0] hst (oc (ob_v rfl rfl (r_assign has_const)) o0) (fun a w hst => ?_)
      have hst : St B w0 50 [(0, _), (4, _), (5, _), (7, _), (3, _), (8, _)] [⟨3, 62, ptrH, _⟩] a w := hst
      have hst := St.wkG (A' := OwnR w0.w.heap.size 26 4 [U32] ([] : List As)) hst 5 rfl own_nil
      refine thn_normal ?_
      refine wp_seq ?_
      refine wp_seq ?_
      refine gl (sts := [none]) (news := []) (sp := [.val 23 _, .val 24 _, .val 25 _]) [.g 1, .g 2, .g 3, .g 4, .g 5, .o 0, .o 1, .o 2] hst (oc (ob_v rfl rfl (r_move (gq 0 rfl))) (oc (ob_v rfl rfl (r_len Try.underlying53 (has_again hF hv0 (vq 0 rfl)))) (oc (ob_v rfl rfl (r_move has_num)) o0))) (fun a w hst => ?_)
      have hst : St B w0 50 [(4, _), (5, _), (7, _), (3, _), (8, _), (23, _), (24, _), (25, _)] [⟨3, 62, ptrH, _⟩] a w := hst
      refine thn_normal ?_
      refine wp_block ?_
      have hst := St.sel hst [2, 4, 5, 6, 7, 3]
      refine wp_loop_ghost (fun n a w => ∃ j : Nat, (n + j = xs.length) ∧ St B w0 50 [(7, OwnB b 62 8 [U32] (((raysL xs (toY r) j).map rrOf).map RRA)), (8, OwnR w0.w.heap.size 26 4 [U32] ((raysL xs (toY r) j).flatMap fqA)), (23, EqV v0), (24, In (xs.length : Nat)), (25, In (j : Nat)), (3, PtrLt b)] [⟨3, 62, ptrH, QRA 33566723 (rayQ xs (toY r) j)⟩] a w) (xs.length) ?_ ?_
      · rw [List.length_map] at hst
        exact ⟨0, by omega, hst⟩
      intro n a w hI
      obtain ⟨j, hn, hst⟩ := hI
      refine wp_seq ?_
      refine gl (sts := [none]) (news := []) (sp := [.val 26 _]) [.g 0, .g 1, .g 2, .g 3, .g 4, .g 5, .o 0] hst (oc (ob_v rfl rfl (r_lss (gq 4 rfl) (gq 3 rfl))) o0) (fun a w hst => ?_)
      have hst : St B w0 50 [(7, _), (8, _), (23, _), (24, _), (25, _), (3, _), (26, _)] [⟨3, 62, ptrH, _⟩] a w := hst
      refine thn_normal ?_
      refine wp_seq ?_
      refine cond_of hst (List.mem_of_getElem? (i := 6) rfl) (fun hb2 => ?_) (fun hb2 => ?_)
      · have hj : j < xs.length := by simp at hb2; omega
        refine wp_skip ?_
        refine thn_normal ?_
        refine wp_seq ?_
        refine wp_block ?_
        refine wp_seq ?_
        refine gl (sts := [none]) (news := [⟨10, 70, ptrH, some 2, _, some (3, _)⟩]) (sp := [.val 27 _, .val 28 _, .alc 1, .sto 1]) [.g 0, .g 1, .g 2, .g 3, .g 4, .g 5] hst (oc (ob_v rfl rfl (r_idx sl_53 (map_n fun _ => rfl) (has_again hF hv0 (gq 2 rfl)) (gq 4 rfl) (map_at hj))) (oc (ob_v rfl rfl (r_loade (vq 0 rfl) ty_70)) (oc (ob_alc rfl rfl rfl (Str.zero str_elem)) (oc (ob_sto rfl rfl rfl (vq 1 rfl) ty_70 (Eq.trans (b := 9) rfl rfl)) o0)))) (fun a w hst => ?_)
        have hst : St B w0 50 [(7, _), (8, _), (23, _), (24, _), (25, _), (3, _)] [⟨3, 62, ptrH, _⟩, ⟨10, 70, ptrH, _⟩] a w := hst
        refine thn_normal ?_
        refine wp_seq ?_
        obtain ⟨v7, hv7, hst⟩ := St.eqvw hst 0 rfl
        have hp3 : (PtrLt b).p B (a.eval (.tmp 3)) w := hst.vals _ (List.mem_of_getElem? (i := 5) rfl)
        obtain ⟨w1, hst, hback⟩ := St.frame hst
        have hst : St B w1 50 [(7, _), (8, _), (23, _), (24, _), (25, _), (3, _)] [⟨3, 62, ptrH, _⟩, ⟨10, 70, ptrH, _⟩] a w := hst
        refine go_draw (anc := [[], [0], [], [0, 1, 2], [0, 1, 2, 3]]) (sts := [some (4, _), none]) (news := []) (sp := [.val 29 _, .val 30 _, .val 31 _, .val 32 _, .sto 0]) [.g 0, .g 1, .g 2, .g 3, .g 4, .g 5] follows_mixed hst (oc (ob_v rfl rfl (r_load (lz0 1 rfl) ty_70)) (oc (ob_v rfl rfl (r_call (xs := [.tmp 29]) (rowOf_c (List.all_eq_true.1 hk.2 _ (List.getElem_mem hj))) (.cons (vq 0 rfl) .nil))) (oc (ob_v rfl rfl (r_load (lz0 0 rfl) ty_62)) (oc (ob_v rfl rfl (r_call (xs := [.tmp 30, .tmp 31]) (rowThrough_q (c := 4099) (d := 33566723) (m := elM xs[j]) (r := rayQ xs (toY r) j) (by decide)) (.cons (vq 1 rfl) (.cons (vq 2 rfl) .nil)))) (oc (ob_sto rfl rfl rfl (vq 3 rfl) ty_62 (Eq.trans (b := 8) rfl rfl)) o0))))) (by kernel_rfl) (by kernel_rfl) (by kernel_rfl) (by kernel_rfl) (fun a w hst => ?_)
        have hst : St B w1 50 [(7, _), (8, _), (23, _), (24, _), (25, _), (3, _)] [⟨3, 62, ptrH, _⟩, ⟨10, 70, ptrH, _⟩] a w := hst
        obtain ⟨hst, hown⟩ := hback hst
        have hst := St.putG hst 0 rfl (hown hv7 hp3 (by kernel_rfl))
        have hst : St B w0 50 [(7, _), (8, _), (23, _), (24, _), (25, _), (3, _)] [⟨3, 62, ptrH, _⟩, ⟨10, 70, ptrH, _⟩] a w := hst
        have hst := St.wkL (A' := QRA 33566723 (rayQ xs (toY r) (j + 1))) hst 0 rfl ((wkA_eq (congrArg (QRA _) (ray_nx hj))).trans (qr_bQ (ray_b hk.1 hk.2 hq (by omega))))
        refine thn_normal ?_
        refine wp_seq ?_
        refine go_appB (sp := [.val 33 _, .val 34 _, .val 35 _, .val 36 VT, .val 7 VT]) 3 [1, 2, 3, 4, 5] 0 2 5 hst (oc (ob_v rfl rfl (r_move (gq 0 rfl))) (oc (ob_v rfl rfl (r_load (lz0 0 rfl) ty_62)) (oc (ob_v rfl rfl (r_slice (D := [U32]) (l := [_]) (xs := [.tmp 34]) (nd_ok (by kernel_rfl)) sl_65 (by kernel_rfl) (n_ok (by kernel_rfl)) nq nq nq (.cons (vq 1 rfl) .nil) rfl rfl)) o0))) rfl (by kernel_rfl) rfl rfl (by decide) rfl (by decide) rfl rfl (by kernel_rfl) hwb (fun _ _ h _ => (sl_wk (.cons qrA .nil) (nd_ok (by kernel_rfl))).va _ _ _ h) Try.underlying65 e1 e2 e3 e4 e5 (by decide) (by rw [List.length_map, List.length_map, rays_len]; show j + 1 ≤ 100000000000; omega) (by decide) (fun T hT => hT) (by decide) (fun A hA => by cases List.mem_singleton.1 hA; rfl) (by kernel_rfl) nq nq (by kernel_rfl) (by kernel_rfl) (fun a w hst => ?_)
        have hst : St B w0 50 [(7, _), (8, _), (23, _), (24, _), (25, _), (3, _)] [⟨3, 62, ptrH, _⟩, ⟨10, 70, ptrH, _⟩] a w := hst
        refine thn_normal ?_
        refine go_appL (sp := [.val 37 _, .adr 38 3 (.some 0) True, .val 39 _, .adr 40 3 (.some 4) True, .val 41 _, .val 42 _, .val 43 VT, .val 8 VT]) 6 [0, 2, 3, 4, 5] 0 5 hst (oc (ob_v rfl rfl (r_move (gq 1 rfl))) (oc (ob_a rfl rfl (a_fld (lz0 0 rfl) fld_62_0)) (oc (ob_v rfl rfl (r_loadf 1 rfl (by kernel_rfl) trivial (lz0 0 rfl) (Sub.part 0 rfl rfl) ty_26)) (oc (ob_a rfl rfl (a_fld (lz0 0 rfl) fld_62_1)) (oc (ob_v rfl rfl (r_loadf 3 rfl (by kernel_rfl) trivial (lz0 0 rfl) (Sub.part 1 rfl rfl) ty_26)) (oc (ob_v rfl rfl (r_slice (D := [U32]) (l := [_, _]) (xs := [.tmp 39, .tmp 41]) (nd_ok (by kernel_rfl)) sl_111 (by kernel_rfl) (n_ok (by kernel_rfl)) nq nq nq (.cons (vq 2 rfl) (.cons (vq 4 rfl) .nil)) rfl rfl)) o0)))))) rfl (by kernel_rfl) rfl rfl (by decide) rfl (by decide) rfl (fun _ _ h _ => h) Try.underlying111 f1 f2 f3 f4 f5 (by decide) (by rw [fla_len]; show 2 * j + 2 ≤ 100000000000; omega) (by decide) (fun T hT => hT) (by decide) two_n4 (by kernel_rfl) nq nq (by kernel_rfl) (by kernel_rfl) (fun a w hst => ?_)
        have hst : St B w0 50 [(8, _), (7, _), (23, _), (24, _), (25, _), (3, _)] [⟨3, 62, ptrH, _⟩, ⟨10, 70, ptrH, _⟩] a w := hst
        refine blk_normal ?_
        refine thn_normal ?_
        refine gl (sts := [none, none]) (news := []) (sp := [.val 44 _, .val 25 _]) [.g 0, .g 1, .g 2, .g 3, .g 5, .o 1] hst (oc (ob_v rfl rfl (r_add (gq 4 rfl) has_num ((wi64 (by omega) (by omega)).trans (by omega : (_ : Int) = ((j + 1 : Nat) : Int))))) (oc (ob_v rfl rfl (r_move (vq 0 rfl))) o0)) (fun a w hst => ?_)
        have hst : St B w0 50 [(8, _), (7, _), (23, _), (24, _), (3, _), (25, _)] [⟨3, 62, ptrH, _⟩, ⟨10, 70, ptrH, _⟩] a w := hst
        refine thn_normal ?_
        have hst := St.sel hst [1, 0, 2, 3, 5, 4]
        have hst := St.selL hst [0]
        rw [rays_a, rays_b] at hst
        exact ⟨n - 1, by omega, j + 1, by omega, hst⟩
      · obtain rfl : j = xs.length := by simp at hb2; omega
        have hst := St.wkG hst 0 rfl (wk_trans ownB_R own_sl)
        have hst := St.wkG hst 1 rfl own_sl
        refine wp_exit ?_
        refine thn_exit ?_
        refine thn_exit ?_
        refine blk_exit ?_
        refine thn_normal ?_
        refine wp_seq ?_
        refine gl (sts := [none]) (news := []) (sp := [.val 45 _, .val 46 _, .val 47 _, .val 48 _, .val 49 _, .val 4 _, .val 5 _]) [.o 5, .o 6] hst (oc (ob_v rfl rfl (r_move (gq 0 rfl))) (oc (ob_v rfl rfl (r_move (gq 1 rfl))) (oc (ob_v rfl rfl (r_call (xs := [.tmp 45, .tmp 46]) (toldR_q ((raysL xs (toY r) xs.length).map rrOf) (frsL xs (toY r) xs.length) (isq_fl _) (by rw [frs_len]; omega)) (.cons (vq 0 rfl) (.cons (vq 1 rfl) .nil)))) (oc (ob_v rfl rfl (r_ex0 (vq 2 rfl))) (oc (ob_v rfl rfl (r_ex1 (vq 2 rfl))) (oc (ob_v rfl rfl (r_assign (vq 3 rfl))) (oc (ob_v rfl rfl (r_assign (vq 4 rfl))) o0))))))) (fun a w hst => ?_)
        have hst : St B w0 50 [(4, _), (5, _)] [⟨3, 62, ptrH, _⟩] a w := hst
        refine thn_normal ?_
        refine wp_ret ?_
        refine ret_wk ?_ (ret_many (rs := [.tmp 4, .tmp 5]) rfl hst (.tmp (List.mem_of_getElem? (i := 0) rfl) (.tmp (List.mem_of_getElem? (i := 1) rfl) .nil)) (by decide))
        rw [traF, if_pos hc, if_pos hok]; exact wk_id

theorem take_nx2 {α : Type} {xs ys : List α} {j : Nat} (h1 : j < xs.length) (h2 : j < ys.length) (h : xs.take j = ys.take j) (e : xs[j] = ys[j]) : xs.take (j + 1) = ys.take (j + 1) := by
  rw [List.take_succ_eq_append_getElem h1, List.take_succ_eq_append_getElem h2, h, e]
theorem take_ne2 {α : Type} {xs ys : List α} {j : Nat} (h1 : j < xs.length) (h2 : j < ys.length) (e : ¬ xs[j] = ys[j]) : ¬ xs = ys := fun h => e (by subst h; rfl)

set_option maxRecDepth 100000 in
theorem sameRays_c (xs ys : List RR) : Cn Try.prog 44 [(SlA 62 [U32] (xs.map RRA)).va, (SlA 62 [U32] (ys.map RRA)).va] (Bo (decide (xs = ys))) := by
  refine Cn.intro Try.func44 rfl (by kernel_rfl) nq (fun B w0 a hst => ?_)
  have hst : St B w0 27 [(0, (SlA 62 [U32] (xs.map RRA)).va), (1, (SlA 62 [U32] (ys.map RRA)).va)] [] a w0.w := hst
  have hl := slA_lenm (hst.vals (0, (SlA 62 [U32] (xs.map RRA)).va) (List.mem_of_getElem? (i := 0) rfl))
  refine wp_seq ?_
  refine gl (sts := []) (news := []) (sp := [.val 4 _]) [.g 0, .g 1, .o 0] hst (oc (ob_v rfl rfl (r_assign has_bo)) o0) (fun a w hst => ?_)
  have hst : St B w0 27 [(0, _), (1, _), (4, _)] [] a w := hst
  refine thn_normal ?_
  refine wp_seq ?_
  refine wp_seq ?_
  refine gl (sts := []) (news := []) (sp := [.val 6 _, .val 7 _, .val 8 _, .val 9 _, .val 10 _]) [.g 0, .g 1, .g 2, .o 4] hst (oc (ob_v rfl rfl (r_move (gq 0 rfl))) (oc (ob_v rfl rfl (r_len Try.underlying65 (vq 0 rfl))) (oc (ob_v rfl rfl (r_move (gq 1 rfl))) (oc (ob_v rfl rfl (r_len Try.underlying65 (vq 2 rfl))) (oc (ob_v rfl rfl (r_neq (vq 1 rfl) (vq 3 rfl))) o0))))) (fun a w hst => ?_)
  have hst : St B w0 27 [(0, _), (1, _), (4, _), (10, _)] [] a w := hst
  refine thn_normal ?_
  refine cond_of hst (List.mem_of_getElem? (i := 3) rfl) (fun hb0 => ?_) (fun hb0 => ?_)
  · have hne : ¬ xs.length = ys.length := by rw [List.length_map, List.length_map] at hb0; simp at hb0; omega
    refine wp_seq ?_
    refine gl (sts := []) (news := []) (sp := [.val 4 _]) [.g 0, .g 1, .o 0] hst (oc (ob_v rfl rfl (r_assign has_bo)) o0) (fun a w hst => ?_)
    have hst : St B w0 27 [(0, _), (1, _), (4, _)] [] a w := hst
    refine thn_normal ?_
    refine wp_ret ?_
    refine thn_ret ?_
    refine ret_wk ?_ (ret_tmp rfl hst (List.mem_of_getElem? (i := 2) rfl))
    exact wk_eq (congrArg Bo (decide_eq_false fun h => hne (congrArg List.length h)).symm)
  · have hlen : xs.length = ys.length := by rw [List.length_map, List.length_map] at hb0; simp at hb0; omega
    refine wp_skip ?_
    refine thn_normal ?_
    refine wp_seq ?_
    refine wp_seq ?_
    refine gl (sts := []) (news := []) (sp := [.val 5 _]) [.g 0, .g 1, .g 2, .o 0] hst (oc (ob_v rfl rfl (r_assign has_num)) o0) (fun a w hst => ?_)
    have hst : St B w0 27 [(0, _), (1, _), (4, _), (5, _)] [] a w := hst
    refine thn_normal ?_
    refine wp_block ?_
    have hst := St.sel hst [0, 1, 3]
    refine wp_loop_ghost (fun n a w => ∃ j : Nat, (n + j = xs.length ∧ xs.take j = ys.take j) ∧ St B w0 27 [(0, (SlA 62 [U32] (xs.map RRA)).va), (1, (SlA 62 [U32] (ys.map RRA)).va), (5, In (j : Nat))] [] a w) (xs.length) ?_ ?_
    · exact ⟨0, ⟨by omega, rfl⟩, hst⟩
    intro n a w hI
    obtain ⟨j, ⟨hn, hm⟩, hst⟩ := hI
    refine wp_seq ?_
    refine wp_seq ?_
    refine gl (sts := []) (news := []) (sp := [.val 11 _, .val 12 _, .val 13 _, .val 14 _]) [.g 0, .g 1, .g 2, .o 3] hst (oc (ob_v rfl rfl (r_move (gq 2 rfl))) (oc (ob_v rfl rfl (r_move (gq 0 rfl))) (oc (ob_v rfl rfl (r_len Try.underlying65 (vq 1 rfl))) (oc (ob_v rfl rfl (r_lss (vq 0 rfl) (vq 2 rfl))) o0)))) (fun a w hst => ?_)
    have hst : St B w0 27 [(0, _), (1, _), (5, _), (14, _)] [] a w := hst
    refine thn_normal ?_
    refine cond_of hst (List.mem_of_getElem? (i := 3) rfl) (fun hb1 => ?_) (fun hb1 => ?_)
    · have hj : j < xs.length := by rw [List.length_map] at hb1; have := of_decide_eq_true hb1; omega
      have hj2 : j < ys.length := by omega
      refine wp_skip ?_
      refine thn_normal ?_
      refine wp_seq ?_
      refine wp_block ?_
      refine wp_seq ?_
      refine go_draw (anc := [[], [], [0, 1], [0, 1, 2], [], [], [4, 5], [4, 5, 6], [0, 1, 2, 3, 4, 5, 6, 7], [0, 1, 2, 3, 4, 5, 6, 7, 8]]) (sts := []) (news := []) (sp := [.val 17 _, .val 18 _, .val 19 _, .val 20 _, .val 21 _, .val 22 _, .val 23 _, .val 24 _, .val 25 _, .val 26 _]) [.g 0, .g 1, .g 2, .o 9] follows_mixed hst (oc (ob_v rfl rfl (r_move (gq 0 rfl))) (oc (ob_v rfl rfl (r_move (gq 2 rfl))) (oc (ob_v rfl rfl (r_idx sl_65 (map_n fun _ => rfl) (vq 0 rfl) (vq 1 rfl) (map_at hj))) (oc (ob_v rfl rfl (r_loade (vq 2 rfl) ty_62)) (oc (ob_v rfl rfl (r_move (gq 1 rfl))) (oc (ob_v rfl rfl (r_move (gq 2 rfl))) (oc (ob_v rfl rfl (r_idx sl_65 (map_n fun _ => rfl) (vq 4 rfl) (vq 5 rfl) (map_at hj2))) (oc (ob_v rfl rfl (r_loade (vq 6 rfl) ty_62)) (oc (ob_v rfl rfl (r_call (xs := [.tmp 20, .tmp 24]) (sameRay_c _ _) (.cons (vq 3 rfl) (.cons (vq 7 rfl) .nil)))) (oc (ob_v rfl rfl (r_not (vq 8 rfl))) o0)))))))))) (by kernel_rfl) (by kernel_rfl) (by kernel_rfl) (by kernel_rfl) (fun a w hst => ?_)
      have hst : St B w0 27 [(0, _), (1, _), (5, _), (26, _)] [] a w := hst
      refine thn_normal ?_
      refine cond_of hst (List.mem_of_getElem? (i := 3) rfl) (fun hb2 => ?_) (fun hb2 => ?_)
      · have hd : ¬ xs[j] = ys[j] := by simpa using hb2
        refine wp_seq ?_
        refine gl (sts := []) (news := []) (sp := [.val 4 _]) [.g 0, .g 1, .g 2, .o 0] hst (oc (ob_v rfl rfl (r_assign has_bo)) o0) (fun a w hst => ?_)
        have hst : St B w0 27 [(0, _), (1, _), (5, _), (4, _)] [] a w := hst
        refine thn_normal ?_
        refine wp_ret ?_
        refine blk_ret ?_
        refine thn_ret ?_
        refine thn_ret ?_
        refine blk_ret ?_
        refine thn_ret ?_
        refine ret_wk ?_ (ret_tmp rfl hst (List.mem_of_getElem? (i := 3) rfl))
        exact wk_eq (congrArg Bo (decide_eq_false (take_ne2 hj hj2 hd)).symm)
      · refine wp_skip ?_
        refine blk_normal ?_
        refine thn_normal ?_
        refine gl (sts := []) (news := []) (sp := [.val 15 _, .val 16 _, .val 5 _]) [.g 0, .g 1, .o 2] hst (oc (ob_v rfl rfl (r_move (gq 2 rfl))) (oc (ob_v rfl rfl (r_add (vq 0 rfl) has_num ((wi64 (by omega) (by omega)).trans (by omega : (_ : Int) = ((j + 1 : Nat) : Int))))) (oc (ob_v rfl rfl (r_assign (vq 1 rfl))) o0))) (fun a w hst => ?_)
        have hst : St B w0 27 [(0, _), (1, _), (5, _)] [] a w := hst
        refine thn_normal ?_
        have hst := St.sel hst [0, 1, 2]
        exact ⟨n - 1, by omega, j + 1, ⟨by omega, take_nx2 hj hj2 hm (by simpa using hb2)⟩, hst⟩
    · obtain rfl : j = xs.length := by rw [List.length_map] at hb1; have := of_decide_eq_false hb1; omega
      refine wp_exit ?_
      refine thn_exit ?_
      refine thn_exit ?_
      refine blk_exit ?_
      refine thn_normal ?_
      refine wp_seq ?_
      refine gl (sts := []) (news := []) (sp := [.val 4 _]) [.o 0] hst (oc (ob_v rfl rfl (r_assign has_bo)) o0) (fun a w hst => ?_)
      have hst : St B w0 27 [(4, _)] [] a w := hst
      refine thn_normal ?_
      refine wp_ret ?_
      refine ret_wk ?_ (ret_tmp rfl hst (List.mem_of_getElem? (i := 0) rfl))
      rw [List.take_length, List.take_of_length_le (by omega)] at hm; exact wk_eq (congrArg Bo (decide_eq_true hm).symm)

end Go.Proofs.Ytgjolcbehcjhcaa
