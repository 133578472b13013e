/- Plain laws of the builder of benches: its product; the bench of a matrix. No program in sight. -/
import Derived.Test.YtljkepdpoelpkaaRayL
namespace Go.Proofs.Ytljkepdpoelpkaa
open Go Go.RowKit
namespace BenI

end BenI
open BenI
set_option linter.unusedVariables false
set_option linter.unusedSimpArgs false
/-- an element that is built: its kind (1 space, 2 lens, 5 flip), its number. -/
abbrev EQ := Int × Rat
def kdM (e : EQ) : MQ := if e.1 = 1 then ⟨1, e.2, 0, 1⟩ else if e.1 = 2 then ⟨1, 0, -e.2, 1⟩ else if e.1 = 5 then ⟨-1, 0, 0, -1⟩ else ⟨1, 0, 0, 1⟩
def prdQ (L : List EQ) : MQ := L.foldl (fun m e => mulQ (kdM e) m) ⟨1, 0, 0, 1⟩
theorem prd_snoc (L : List EQ) (e : EQ) : prdQ (L ++ [e]) = mulQ (kdM e) (prdQ L) := by simp [prdQ, List.foldl_append]
theorem mul_as (m n k : MQ) : mulQ (mulQ m n) k = mulQ m (mulQ n k) := by
  unfold mulQ
  simp only [MQ.mk.injEq]
  exact ⟨by grind, by grind, by grind, by grind⟩
theorem mul_1 (m : MQ) : mulQ ⟨1, 0, 0, 1⟩ m = m := by
  cases m
  unfold mulQ
  simp only [MQ.mk.injEq]
  exact ⟨by grind, by grind, by grind, by grind⟩
/-- what the builder puts behind a bench. -/
def putQ (L : List EQ) (k : Int) (p : Rat) : List EQ :=
  if k ≠ 5 ∧ p = 0 then L else
  match L.getLast? with
  | none => L ++ [(k, p)]
  | some e => if e.1 = k then (if k = 5 ∨ e.2 + p = 0 then L.dropLast else L.dropLast ++ [(k, e.2 + p)]) else L ++ [(k, p)]
theorem kd_0 {k : Int} (h : k = 1 ∨ k = 2) : kdM (k, 0) = ⟨1, 0, 0, 1⟩ := by
  rcases h with rfl | rfl
  · rfl
  · have e : (-(0 : Rat)) = 0 := by grind
    show (⟨1, 0, -(0 : Rat), 1⟩ : MQ) = _
    rw [e]
theorem kd_add {k : Int} {p q : Rat} (h : k = 1 ∨ k = 2) : mulQ (kdM (k, q)) (kdM (k, p)) = kdM (k, p + q) := by
  rcases h with rfl | rfl
  · show mulQ ⟨1, q, 0, 1⟩ ⟨1, p, 0, 1⟩ = ⟨1, p + q, 0, 1⟩
    unfold mulQ
    simp only [MQ.mk.injEq]
    exact ⟨by grind, by grind, by grind, by grind⟩
  · show mulQ ⟨1, 0, -q, 1⟩ ⟨1, 0, -p, 1⟩ = ⟨1, 0, -(p + q), 1⟩
    unfold mulQ
    simp only [MQ.mk.injEq]
    exact ⟨by grind, by grind, by grind, by grind⟩
theorem kd_5 {p q : Rat} : mulQ (kdM (5, q)) (kdM (5, p)) = ⟨1, 0, 0, 1⟩ := by
  show mulQ ⟨-1, 0, 0, -1⟩ ⟨-1, 0, 0, -1⟩ = _
  unfold mulQ
  simp only [MQ.mk.injEq]
  exact ⟨by grind, by grind, by grind, by grind⟩
/-- THE BUILDER's PRODUCT. -/
theorem put_prd (L : List EQ) {k : Int} {p : Rat} (h : k = 1 ∨ k = 2 ∨ k = 5) : prdQ (putQ L k p) = mulQ (kdM (k, p)) (prdQ L) := by
  unfold putQ
  by_cases h0 : k ≠ 5 ∧ p = 0
  · rw [if_pos h0, h0.2, kd_0 (by rcases h with h | h | h <;> first | exact .inl h | exact .inr h | exact absurd h h0.1), mul_1]
  · rw [if_neg h0]
    rcases List.eq_nil_or_concat L with rfl | ⟨M, e, rfl⟩
    · exact prd_snoc [] (k, p)
    · rw [List.concat_eq_append]
      simp only [List.getLast?_concat, List.dropLast_concat]
      obtain ⟨k', q⟩ := e
      by_cases hk : k' = k
      · subst hk
        simp only [if_true]
        rw [prd_snoc, ← mul_as]
        rcases h with h | h | h
        · rw [kd_add (.inl h)]
          by_cases hs : k' = 5 ∨ q + p = 0
          · rw [if_pos hs]
            have : q + p = 0 := hs.resolve_left (by omega)
            rw [this, kd_0 (.inl h), mul_1]
          · rw [if_neg hs, prd_snoc]
        · rw [kd_add (.inr h)]
          by_cases hs : k' = 5 ∨ q + p = 0
          · rw [if_pos hs]
            have : q + p = 0 := hs.resolve_left (by omega)
            rw [this, kd_0 (.inr h), mul_1]
          · rw [if_neg hs, prd_snoc]
        · subst h
          rw [if_pos (.inl rfl), kd_5, mul_1]
      · rw [if_neg hk, prd_snoc, prd_snoc]
theorem put_len (L : List EQ) (k : Int) (p : Rat) : (putQ L k p).length ≤ L.length + 1 := by
  unfold putQ
  split
  · omega
  · split
    · simp
    · split
      · split
        · simp only [List.length_dropLast]; omega
        · simp only [List.length_append, List.length_dropLast, List.length_cons, List.length_nil]; omega
      · simp
/-- the bench of a matrix, as it is put together (m: the matrix as it is by then). -/
def tailQ (L : List EQ) (m : MQ) : List EQ := putQ (putQ (putQ L 2 ((1 - m.a) / m.b)) 1 m.b) 2 ((1 - m.d) / m.b)
def bareQ (L : List EQ) (m : MQ) : List EQ := putQ L 2 (0 - m.c)
def negM (m : MQ) : MQ := ⟨0 - m.a, 0 - m.b, 0 - m.c, 0 - m.d⟩
def preM (m : MQ) : MQ := ⟨m.a, m.b - m.a, m.c, m.d - m.c⟩
def restQ (L : List EQ) (m : MQ) : List EQ := if m.b = 0 ∧ m.a < 0 then tailQ (putQ L 1 1) (preM m) else if m.b = 0 then bareQ L m else tailQ L m
def flipQ (m : MQ) : Bool := decide (m.b < 0) || (decide (m.b = 0) && (decide (0 - m.a = 1) || (decide (0 < m.a) && !decide (m.a = 1))))
def partsQ (m : MQ) : List EQ := if flipQ m then restQ (putQ [] 5 0) (negM m) else restQ [] m
theorem tail_prd (L : List EQ) {m : MQ} (hb : m.b ≠ 0) (hd : m.a * m.d - m.b * m.c = 1) : prdQ (tailQ L m) = mulQ m (prdQ L) := by
  unfold tailQ
  rw [put_prd _ (.inr (.inl rfl)), put_prd _ (.inl rfl), put_prd _ (.inr (.inl rfl)), ← mul_as, ← mul_as]
  congr 1
  show mulQ (mulQ ⟨1, 0, -((1 - m.d) / m.b), 1⟩ ⟨1, m.b, 0, 1⟩) ⟨1, 0, -((1 - m.a) / m.b), 1⟩ = m
  obtain ⟨a, b, c, d⟩ := m
  have hb : b ≠ 0 := hb
  have hd : a * d - b * c = 1 := hd
  have e1 : (1 - a) / b * b = 1 - a := Rat.div_mul_cancel hb
  have e2 : (1 - d) / b * b = 1 - d := Rat.div_mul_cancel hb
  show mulQ (mulQ ⟨1, 0, -((1 - d) / b), 1⟩ ⟨1, b, 0, 1⟩) ⟨1, 0, -((1 - a) / b), 1⟩ = ⟨a, b, c, d⟩
  generalize (1 - a) / b = x at *
  generalize (1 - d) / b = y at *
  unfold mulQ
  simp only [MQ.mk.injEq]
  refine ⟨by grind, by grind, ?_, by grind⟩
  have : b * ((1 * 1 + 0 * 0) * 0) = 0 := by grind
  grind
theorem bare_prd (L : List EQ) {m : MQ} (ha : m.a = 1) (hb : m.b = 0) (hd : m.a * m.d - m.b * m.c = 1) : prdQ (bareQ L m) = mulQ m (prdQ L) := by
  unfold bareQ
  rw [put_prd _ (.inr (.inl rfl))]
  congr 1
  show (⟨1, 0, -(0 - m.c), 1⟩ : MQ) = m
  obtain ⟨a, b, c, d⟩ := m
  have ha : a = 1 := ha
  have hb : b = 0 := hb
  have hd : a * d - b * c = 1 := hd
  subst ha; subst hb
  simp only [MQ.mk.injEq]
  exact ⟨trivial, trivial, by grind, by grind⟩
theorem rest_prd (L : List EQ) {m : MQ} (hd : m.a * m.d - m.b * m.c = 1) (hz : m.b = 0 → m.a < 0 ∨ m.a = 1) : prdQ (restQ L m) = mulQ m (prdQ L) := by
  unfold restQ
  by_cases h : m.b = 0 ∧ m.a < 0
  · rw [if_pos h, tail_prd _ (show (preM m).b ≠ 0 from ?_) (show (preM m).a * (preM m).d - (preM m).b * (preM m).c = 1 from ?_), put_prd _ (.inl rfl), ← mul_as]
    · congr 1
      show mulQ (preM m) ⟨1, 1, 0, 1⟩ = m
      obtain ⟨a, b, c, d⟩ := m
      show mulQ ⟨a, b - a, c, d - c⟩ ⟨1, 1, 0, 1⟩ = ⟨a, b, c, d⟩
      unfold mulQ
      simp only [MQ.mk.injEq]
      exact ⟨by grind, by grind, by grind, by grind⟩
    · show m.b - m.a ≠ 0
      have h1 := h.1
      have h2 := h.2
      intro e
      have : m.a = 0 := by grind
      rw [this] at h2
      exact absurd h2 (by decide)
    · show m.a * (m.d - m.c) - (m.b - m.a) * m.c = 1
      grind
  · rw [if_neg h]
    by_cases hb : m.b = 0
    · rw [if_pos hb]
      exact bare_prd L ((hz hb).resolve_left fun e => h ⟨hb, e⟩) hb hd
    · rw [if_neg hb]
      exact tail_prd L hb hd
/-- THE BENCH OF A MATRIX HAS IT. -/
theorem parts_prd {m : MQ} (hd : m.a * m.d - m.b * m.c = 1) : prdQ (partsQ m) = m := by
  unfold partsQ
  cases hf : flipQ m with
  | true =>
    rw [if_pos rfl, rest_prd _ (show (negM m).a * (negM m).d - (negM m).b * (negM m).c = 1 from ?_) ?_, put_prd _ (.inr (.inr rfl))]
    · show mulQ (negM m) (mulQ ⟨-1, 0, 0, -1⟩ ⟨1, 0, 0, 1⟩) = m
      obtain ⟨a, b, c, d⟩ := m
      show mulQ ⟨0 - a, 0 - b, 0 - c, 0 - d⟩ (mulQ ⟨-1, 0, 0, -1⟩ ⟨1, 0, 0, 1⟩) = ⟨a, b, c, d⟩
      unfold mulQ
      simp only [MQ.mk.injEq]
      exact ⟨by grind, by grind, by grind, by grind⟩
    · show (0 - m.a) * (0 - m.d) - (0 - m.b) * (0 - m.c) = 1
      grind
    · intro hb
      have hb : 0 - m.b = 0 := hb
      have hb0 : m.b = 0 := by grind
      show 0 - m.a < 0 ∨ 0 - m.a = 1
      unfold flipQ at hf
      rw [hb0] at hf
      simp at hf
      rcases hf with hf | hf
      · exact .inr (by grind)
      · exact .inl (by grind)
  | false =>
    rw [if_neg (by decide), rest_prd _ hd ?_]
    · show mulQ m ⟨1, 0, 0, 1⟩ = m
      cases m
      unfold mulQ
      simp only [MQ.mk.injEq]
      exact ⟨by grind, by grind, by grind, by grind⟩
    · intro hb
      unfold flipQ at hf
      rw [hb] at hf hd
      simp at hf
      have ha : m.a ≠ 0 := fun e => by rw [e] at hd; grind
      by_cases h1 : m.a = 1
      · exact .inr h1
      · refine .inl ?_
        have := hf.2
        grind
def EOk (e : EQ) : Prop := (e.1 = 1 ∧ 0 < e.2) ∨ (e.1 = 2 ∧ e.2 ≠ 0) ∨ (e.1 = 5 ∧ e.2 = 0)
/-- a plain bench: spaces, lenses, flips, none of them idle, no two of a kind side by side. -/
def Plain (L : List EQ) : Prop := (∀ e ∈ L, EOk e) ∧ ∀ i e f, L[i]? = some e → L[i + 1]? = some f → e.1 ≠ f.1
theorem plain_nil : Plain [] := ⟨(fun e h => by cases h), (fun i e f h => by simp at h)⟩
theorem plain_drop {M : List EQ} {e : EQ} (h : Plain (M ++ [e])) : Plain M := ⟨fun x hx => h.1 x (List.mem_append.2 (.inl hx)), fun i x y hx hy => by
  have h1 := (List.getElem?_eq_some_iff.1 hx).1
  have h2 := (List.getElem?_eq_some_iff.1 hy).1
  exact h.2 i x y (by rw [List.getElem?_append_left h1]; exact hx) (by rw [List.getElem?_append_left h2]; exact hy)⟩
theorem plain_last {M : List EQ} {e : EQ} (h : Plain (M ++ [e])) : ∀ f, M.getLast? = some f → f.1 ≠ e.1 := fun f hf => by
  rw [List.getLast?_eq_getElem?] at hf
  have h1 := (List.getElem?_eq_some_iff.1 hf).1
  refine h.2 (M.length - 1) f e (by rw [List.getElem?_append_left h1]; exact hf) ?_
  rw [show M.length - 1 + 1 = M.length from by omega]
  simp
theorem plain_snoc {M : List EQ} {e : EQ} (h : Plain M) (he : EOk e) (hl : ∀ f, M.getLast? = some f → f.1 ≠ e.1) : Plain (M ++ [e]) := ⟨fun x hx => by
  rcases List.mem_append.1 hx with hx | hx
  · exact h.1 x hx
  · cases List.mem_singleton.1 hx; exact he, fun i x y hx hy => by
  have h2 := (List.getElem?_eq_some_iff.1 hy).1
  simp only [List.length_append, List.length_cons, List.length_nil] at h2
  by_cases hi : i + 1 < M.length
  · exact h.2 i x y (by rw [← hx, List.getElem?_append_left (by omega)]) (by rw [← hy, List.getElem?_append_left hi])
  · have hm : i + 1 = M.length := by omega
    have e1 : M[i]? = some x := by rw [← hx, List.getElem?_append_left (by omega)]
    have e2 : y = e := by
      rw [hm] at hy
      simp at hy
      exact hy.symm
    rw [e2]
    refine hl x ?_
    rw [List.getLast?_eq_getElem?, show M.length - 1 = i from by omega]
    exact e1⟩
theorem put_plain {L : List EQ} {k : Int} {p : Rat} (h : Plain L) (hk : (k = 1 ∧ 0 ≤ p) ∨ k = 2 ∨ (k = 5 ∧ p = 0)) : Plain (putQ L k p) := by
  unfold putQ
  by_cases h0 : k ≠ 5 ∧ p = 0
  · rw [if_pos h0]; exact h
  · rw [if_neg h0]
    have hok : EOk (k, p) := by
      unfold EOk
      rcases hk with ⟨rfl, hp⟩ | rfl | ⟨rfl, rfl⟩
      · have hp0 : p ≠ 0 := fun e => h0 ⟨by decide, e⟩
        exact .inl ⟨rfl, by show 0 < p; grind⟩
      · exact .inr (.inl ⟨rfl, fun e => h0 ⟨by decide, e⟩⟩)
      · exact .inr (.inr ⟨rfl, rfl⟩)
    rcases List.eq_nil_or_concat L with rfl | ⟨M, e, rfl⟩
    · exact plain_snoc plain_nil hok (fun f hf => by simp at hf)
    · rw [List.concat_eq_append] at h ⊢
      simp only [List.getLast?_concat, List.dropLast_concat]
      obtain ⟨k', q⟩ := e
      by_cases hkk : k' = k
      · subst hkk
        simp only [if_true]
        by_cases hs : k' = 5 ∨ q + p = 0
        · rw [if_pos hs]; exact plain_drop h
        · rw [if_neg hs]
          refine plain_snoc (plain_drop h) ?_ (fun f hf => plain_last (e := (k', q)) h f hf)
          have hq := h.1 (k', q) (by simp)
          unfold EOk at hq ⊢
          rcases hk with ⟨rfl, hp⟩ | rfl | ⟨rfl, rfl⟩
          · have hq' : 0 < q := by
              rcases hq with ⟨_, hq⟩ | ⟨hq, _⟩ | ⟨hq, _⟩
              · exact hq
              · exact absurd hq (by show ¬ (1 : Int) = 2; decide)
              · exact absurd hq (by show ¬ (1 : Int) = 5; decide)
            exact .inl ⟨rfl, by show 0 < q + p; grind⟩
          · exact .inr (.inl ⟨rfl, fun e => hs (.inr e)⟩)
          · exact absurd (.inl rfl) hs
      · rw [if_neg hkk]
        exact plain_snoc h hok (fun f hf => by
          rw [List.getLast?_concat] at hf
          cases hf
          exact hkk)
/-- THE BENCH OF A MATRIX IS PLAIN, of five elements at most. -/
theorem tail_plain {L : List EQ} {m : MQ} (h : Plain L) (hb : 0 ≤ m.b) : Plain (tailQ L m) := put_plain (put_plain (put_plain h (.inr (.inl rfl))) (.inl ⟨rfl, hb⟩)) (.inr (.inl rfl))
theorem tail_len (L : List EQ) (m : MQ) : (tailQ L m).length ≤ L.length + 3 := by
  unfold tailQ
  have h1 := put_len L 2 ((1 - m.a) / m.b)
  have h2 := put_len (putQ L 2 ((1 - m.a) / m.b)) 1 m.b
  have h3 := put_len (putQ (putQ L 2 ((1 - m.a) / m.b)) 1 m.b) 2 ((1 - m.d) / m.b)
  omega
theorem rest_plain {L : List EQ} {m : MQ} (h : Plain L) (hb : 0 ≤ m.b) : Plain (restQ L m) ∧ (restQ L m).length ≤ L.length + 4 := by
  unfold restQ
  split
  · rename_i h1
    have hp : Plain (putQ L 1 1) := put_plain h (.inl ⟨rfl, by decide⟩)
    have l1 := put_len L 1 1
    have l2 := tail_len (putQ L 1 1) (preM m)
    exact ⟨tail_plain hp (by show 0 ≤ m.b - m.a; grind), by omega⟩
  · split
    · have l1 := put_len L 2 (0 - m.c)
      exact ⟨put_plain h (.inr (.inl rfl)), by show (putQ L 2 (0 - m.c)).length ≤ _; omega⟩
    · have l2 := tail_len L m
      exact ⟨tail_plain h hb, by omega⟩
theorem parts_plain (m : MQ) : Plain (partsQ m) ∧ (partsQ m).length ≤ 5 := by
  unfold partsQ
  cases hf : flipQ m with
  | true =>
    rw [if_pos rfl]
    have hp : Plain (putQ [] 5 0) := put_plain plain_nil (.inr (.inr ⟨rfl, rfl⟩))
    have l1 := put_len [] 5 0
    have hb : 0 ≤ (negM m).b := by
      show 0 ≤ 0 - m.b
      unfold flipQ at hf
      simp at hf
      rcases hf with hf | hf
      · grind
      · have := hf.1; grind
    obtain ⟨a1, a2⟩ := rest_plain hp hb
    exact ⟨a1, by simp only [List.length_nil] at l1; omega⟩
  | false =>
    rw [if_neg (by decide)]
    have hb : 0 ≤ m.b := by
      unfold flipQ at hf
      simp at hf
      have := hf.1
      grind
    obtain ⟨a1, a2⟩ := rest_plain plain_nil hb
    exact ⟨a1, by simp only [List.length_nil] at a2; omega⟩

end Go.Proofs.Ytljkepdpoelpkaa
