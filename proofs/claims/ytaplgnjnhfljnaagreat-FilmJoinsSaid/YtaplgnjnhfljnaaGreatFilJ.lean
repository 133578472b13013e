/- Plain laws of FilmJoins: nothing is too long, what is worked out is so. No program in sight. -/
import Derived.Test.YtaplgnjnhfljnaaGreatFilH
import Derived.Test.YtaplgnjnhfljnaaGreatFilI
import Derived.Test.YtaplgnjnhfljnaaGreatFilF
import Derived.Test.YtaplgnjnhfljnaaGreatRdB
namespace Go.Proofs.YtaplgnjnhfljnaaGreat
open Go Go.RowKit
namespace FilJ

end FilJ
open FilJ
set_option linter.unusedVariables false
set_option linter.unusedSimpArgs false
section
variable {H : Type} {enc : TypeId × Value → H} {w : World} {base : Nat} {spare : Nat → Bool} {held : Bool} {fuel : Nat} {cs : List Value} {x : DataW H × List MemPlace}
open Go.ChangeShapes Go.WideShapes Go.ChangeAt
theorem rb_slW {P : Program} {α : Type} {A : α → As} {bd : α → Prop} {t e : TypeId} {m : Nat} {D : List TypeId} (ht : P.underlying t = some (.slice e)) (hc : P.cellsOf e = m) (hm0 : 0 < m) (hby : 0 < P.bytesOf e) (hD : ∀ y, ∀ T ∈ (A y).deps, T ∈ D)
    (rd : ∀ {fuel : Nat} {cs : List Value} {x : DataW H × List MemPlace}, DataW.trod enc P w base spare held fuel e cs = some x → Wt P e x.1 → ∃ y, (A y).p w.heap.size cs w ∧ bd y)
    (h : DataW.trod enc P w base spare held fuel t cs = some x) (hw : Wt P t x.1) : ∃ l : List α, (SlA e D (l.map A)).p w.heap.size cs w ∧ (∀ y ∈ l, bd y) ∧ l.length * P.bytesOf e ≤ 140737488351232 := by
  rcases Go.Deep.open_slice ht h with ⟨rfl, _⟩ | ⟨a, len, cap, m', n, Df, Pl, rfl, hb, hl, hmx, hm', hxx, hel⟩
  · exact ⟨[], ⟨fun A hA => by simp at hA, none, 0, [], rfl, Nat.le_refl _, Nat.zero_le _, ⟨[], rfl, .nil⟩, fun h => absurd h (by simp)⟩, fun y hy => (by cases hy), by simp⟩
  · rw [hc] at hel
    have hle : len ≤ m' := by rw [hm']; split <;> omega
    have hwt : ∀ k, k < len → Wt P e (Df k) := fun k hk n hn => hw n (by
      rw [hxx]
      simp only [DataW.weights, ht]
      exact List.mem_cons_of_mem _ (List.mem_append_left _ (weightsAll_mem (List.mem_map.2 ⟨k, List.mem_range.2 hk, rfl⟩) n hn)))
    have hlw : len * P.bytesOf e ≤ 140737488351232 := by
      have := hw ((((List.range len).map Df).length + ((List.range (m' - len)).map fun j => Df (len + j)).length) * P.bytesOf e) (by rw [hxx]; simp [DataW.weights, ht])
      simp only [List.length_map, List.length_range] at this
      unfold reachBytes at this
      have h1 : len * P.bytesOf e ≤ (len + (m' - len)) * P.bytesOf e := Nat.mul_le_mul_right _ (by omega)
      omega
    have key : ∀ k, k ≤ len → ∃ (l : List α) (ds : List Value), l.length = k ∧ ds.length = k * m ∧ (cat (l.map A)).p w.heap.size ds w ∧ (∀ y ∈ l, bd y) ∧ ∀ (j : Nat) v, ds[j]? = some v → w.cell? (a.add j) = some v := by
      intro k
      induction k with
      | zero => exact fun _ => ⟨[], [], rfl, by simp, ⟨[], rfl, .nil⟩, fun y hy => (by cases hy), fun j v hv => by simp at hv⟩
      | succ k ih =>
        intro hk
        obtain ⟨l, ds, h1, h2, h3, hbd, h4⟩ := ih (by omega)
        obtain ⟨cs', q1, q2⟩ := hel k (by omega)
        obtain ⟨y, hy, hyb⟩ := rd q2 (hwt k (by omega))
        obtain ⟨_, q3, q4⟩ := World.cells?_some q1
        refine ⟨l ++ [y], ds ++ cs', by simp [h1], by rw [List.length_append, h2, q3, Nat.add_mul, Nat.one_mul], ?_, fun z hz => by
          rcases List.mem_append.1 hz with hz | hz
          · exact hbd z hz
          · obtain rfl := List.mem_singleton.1 hz; exact hyb, fun j v hv => ?_⟩
        · rw [List.map_append]
          exact cat_apx h3 (cat_onex hy)
        · by_cases hj : j < ds.length
          · rw [List.getElem?_append_left hj] at hv
            exact h4 j v hv
          · rw [List.getElem?_append_right (by omega)] at hv
            have hlt : j - ds.length < cs'.length := (List.getElem?_eq_some_iff.1 hv).1
            have := q4 (j - ds.length) (by omega)
            rw [Go.Deep.add_add, show k * m + (j - ds.length) = j by omega] at this
            rw [this, hv]
    obtain ⟨l, ds, h1, h2, h3, hbd, h4⟩ := key len (Nat.le_refl _)
    refine ⟨l, ⟨fun A' hA => ?_, some a, cap, ds, by rw [List.length_map, h1], by rw [List.length_map, h1]; exact hl, hmx, h3, fun hpos => ?_⟩, hbd, by rw [h1]; exact hlw⟩
    · obtain ⟨y, _, rfl⟩ := List.mem_map.1 hA
      exact hD y
    · rw [List.length_map, h1] at hpos
      have hds : 0 < ds.length := by rw [h2]; exact Nat.mul_pos hpos hm0
      obtain ⟨b, off, spot⟩ := a
      have h0 := h4 0 (ds[0]) (List.getElem?_eq_getElem hds)
      have hspot : spot = none := by simpa [Addr.add] using World.cell?_spot h0
      subst hspot
      have hblk : b < w.heap.size := World.block_lt_of_cell? w _ (by rw [Go.WideShapes.add_plain] at h0; exact h0)
      exact ⟨b, off, rfl, hblk, .inl hblk, fun j v hv => by rw [← Go.WideShapes.add_plain]; exact h4 j v hv⟩
theorem arg_slW {P : Program} {α : Type} {A : α → As} {bd : α → Prop} {t e : TypeId} {m : Nat} {D : List TypeId} {r : Reach} {b0 : Nat} {v : Value} {d : DataW H} {p : List MemPlace} (ht : P.underlying t = some (.slice e)) (hc : P.cellsOf e = m) (hm0 : 0 < m) (hby : 0 < P.bytesOf e) (hD : ∀ y, ∀ T ∈ (A y).deps, T ∈ D)
    (rd : ∀ {fuel : Nat} {cs : List Value} {x : DataW H × List MemPlace}, DataW.trod enc P w base spare held fuel e cs = some x → Wt P e x.1 → ∃ y, (A y).p w.heap.size cs w ∧ bd y)
    (hv : Value.okWide P w r b0 t v) (h : DataW.Trod enc P w base spare held t v d p) (hw : Wt P t d) : ∃ l : List α, (SlA e D (l.map A)).va.p w.heap.size v w ∧ (∀ y ∈ l, bd y) ∧ l.length * P.bytesOf e ≤ 140737488351232 := by
  obtain ⟨a, len, cap, rfl⟩ := okWide_slice ht hv
  obtain ⟨fuel, hf⟩ := h
  obtain ⟨l, hl, h2⟩ := rb_slW ht hc hm0 hby hD rd hf hw
  exact ⟨l, ⟨_, hl, rfl⟩, h2⟩
end

set_option linter.unusedVariables false
set_option linter.unusedSimpArgs false
theorem rep_short {k : Nat} {m : MQ} (h : RepM k m) (hk : k ≤ 2048) : [m.a, m.b, m.c, m.d].any longQ = false := by
  obtain ⟨h1, h2, h3, h4⟩ := rep_bQ h
  simp [bQ_long h1 hk, bQ_long h2 hk, bQ_long h3 hk, bQ_long h4 hk]
theorem stk_y {xs : List RR} (e : (stkF xs).2 = 0) : mayS xs = 0 ∧ stkF xs = (qdOf (filmQ xs), 0) ∧ [(filmQ xs).a, (filmQ xs).b, (filmQ xs).c, (filmQ xs).d].any longQ = false := by
  unfold stkF at e ⊢
  by_cases h : mayS xs = 0
  · rw [if_pos h] at e ⊢
    cases hl : [(filmQ xs).a, (filmQ xs).b, (filmQ xs).c, (filmQ xs).d].any longQ with
    | true => rw [qd_any hl] at e; exact absurd e (by decide)
    | false => exact ⟨h, qd_none hl, rfl⟩
  · rw [if_neg h] at e
    exact absurd e h
theorem stk_of {xs : List RR} (h : mayS xs = 0) (hl : [(filmQ xs).a, (filmQ xs).b, (filmQ xs).c, (filmQ xs).d].any longQ = false) : stkF xs = (qdOf (filmQ xs), 0) := by rw [stkF, if_pos h, qd_none hl]
/-- a sheet that may be. -/
theorem okH_y {x : RR} (h : okH x = true) : (okX x.y = true ∧ okX x.u = true) ∧ 0 < (toQ x.y).num.sign := by
  unfold okH at h
  rw [Bool.not_eq_true', Bool.or_eq_false_iff] at h
  obtain ⟨h1, h2⟩ := h
  have h3 := of_decide_eq_false h2
  simp at h1
  exact ⟨h1, by omega⟩
theorem okH_of {x : RR} (h1 : okX x.y = true) (h2 : okX x.u = true) (h3 : 0 < (toQ x.y).num.sign) : okH x = true := by
  unfold okH
  rw [Bool.not_eq_true', Bool.or_eq_false_iff]
  exact ⟨by simp [h1, h2], decide_eq_false (by omega)⟩
theorem may_1 {xs : List RR} (h : xs.length ≤ 64) (ha : xs.all okH = true) : mayS xs = 0 := by rw [mayS, if_neg (by omega), if_pos ha]
theorem may_y {xs : List RR} (h : mayS xs = 0) : xs.length ≤ 64 ∧ xs.all okH = true := by
  unfold mayS at h
  split at h
  · exact absurd h (by decide)
  · split at h
    · rename_i h1 h2; exact ⟨by omega, h2⟩
    · exact absurd h (by decide)
theorem okX_l' {r : Rat} (h : longQ r = false) : okX (rfOf r) = true := by rw [okX_of, h]; rfl

theorem fsz_wd {x : RF} (h : wdF x) : ∃ c : Nat, fracSizeF x = (c : Int) ∧ c ≤ 600000000000000 := by
  obtain ⟨h1, h2⟩ := h
  unfold wdI at h1 h2
  refine ⟨x.num.mag.length + x.den.mag.length + 2, ?_, by omega⟩
  unfold fracSizeF intSizeF
  rw [wi64 (x := 1 + (x.num.mag.length : Int)) (by omega) (by omega), wi64 (x := 1 + (x.den.mag.length : Int)) (by omega) (by omega), wi64 (by omega) (by omega)]
  omega
theorem ss_up : ∀ (xs : List RR) (n : Int), 0 ≤ n → n ≤ 4000000000000000 → (∀ r ∈ xs, wdR r) → n ≤ ssF n xs ∧ ssF n xs ≤ 4000000000000000
  | [], n, h0, h1, _ => ⟨Int.le_refl _, h1⟩
  | x :: xs, n, h0, h1, hw => by
    obtain ⟨a, ea, la⟩ := fsz_wd (hw x (by simp)).1
    obtain ⟨c, ec, lc⟩ := fsz_wd (hw x (by simp)).2
    unfold ssF
    by_cases hn : n ≤ 1048576
    · rw [if_pos (decide_eq_true hn), ea, ec, wi64 (x := n + (a : Int)) (by omega) (by omega), wi64 (by omega) (by omega)]
      have := ss_up xs (n + (a : Int) + (c : Int)) (by omega) (by omega) (fun r hr => hw r (by simp [hr]))
      omega
    · rw [if_neg (by simpa using hn)]
      exact ⟨Int.le_refl _, h1⟩
theorem sm_parts {x : RR} {g : RF} {xs : List RR} (hs : sm18 (x :: xs) [g] = true) (hx : wdR x) (hg : wdF g) (hw : ∀ r ∈ xs, wdR r) : ∃ c1 c2 c3 : Nat, fracSizeF x.y = (c1 : Int) ∧ fracSizeF x.u = (c2 : Int) ∧ fracSizeF g = (c3 : Int) ∧ c1 + c2 + c3 ≤ 200 ∧ ssF ((x :: xs).length : Nat) (x :: xs) ≤ 200 ∧ xs.length < 64 := by
  unfold sm18 at hs
  rw [Bool.and_eq_true, decide_eq_true_eq, decide_eq_true_eq] at hs
  obtain ⟨a, ea, la⟩ := fsz_wd hx.1
  obtain ⟨c, ec, lc⟩ := fsz_wd hx.2
  obtain ⟨d, ed, ld⟩ := fsz_wd hg
  have hl : (x :: xs).length ≤ 64 := by have := hs.2; omega
  have hl2 : xs.length < 64 := by
    have := hl
    simp only [List.length_cons] at this
    omega
  have h3 := hs.1
  unfold fsF fsF at h3
  rw [ed] at h3
  have hall : ∀ r ∈ x :: xs, wdR r := fun r hr => by
    rcases List.mem_cons.1 hr with rfl | hr
    · exact hx
    · exact hw r hr
  obtain ⟨k1, k2⟩ := ss_up (x :: xs) ((x :: xs).length : Nat) (by omega) (by omega) hall
  have h4 : ssF (((x :: xs).length : Nat) : Int) (x :: xs) = ssF ((((x :: xs).length : Nat) : Int) + (a : Int) + (c : Int)) xs := by
    rw [ssF, if_pos (decide_eq_true (by omega)), ea, ec, wi64 (x := (((x :: xs).length : Nat) : Int) + (a : Int)) (by omega) (by omega), wi64 (by omega) (by omega)]
  obtain ⟨k3, _⟩ := ss_up xs ((((x :: xs).length : Nat) : Int) + (a : Int) + (c : Int)) (by omega) (by omega) hw
  rw [← h4] at k3
  generalize ssF (((x :: xs).length : Nat) : Int) (x :: xs) = v at k1 k2 k3 h3 ⊢
  clear h4 hall hs
  rw [wi64 (by omega) (by omega)] at h3
  exact ⟨a, c, d, ea, ec, ed, by omega, by omega, hl2⟩

theorem sub_bQ {c d : Nat} {p q : Rat} (hp : bQ c p) (hq : bQ d q) : bQ (c + d + 1) (p - q) := by
  have e : p - q = p + (0 - q) := by grind
  rw [e]
  exact bQ_add hp (bQ_min hq)
theorem sz_one : szQ 1 = 2 := by kernel_rfl
theorem size_q {x : RF} {c : Nat} (h : okX x = true) (e : fracSizeF x = (c : Int)) : szQ (toQ x) + 2 = c := by
  obtain ⟨e1, _⟩ := fr_szx h
  omega
structure JN (x : RR) (g : RF) : Prop where
  hx : okH x = true
  e1 : stkF [x, ⟨x.y, g⟩] = (qdOf (thenQ (shM x) (shQ (toQ x.y) (toQ g))), 0)
  e2 : mulF x.u g = (rfOf (toQ x.u * toQ g), 0)
  e3 : stkF [x, ⟨x.y, rfOf 0⟩] = (qdOf (shM x), 0)
  e4 : stkF [x] = (qdOf (shM x), 0)
  e5 : subF (rfOf 1) (rfOf (toQ x.u * toQ g)) = (rfOf (1 - toQ x.u * toQ g), 0)
  e6 : sgF (rfOf (1 - toQ x.u * toQ g)) ≠ 0 → addF x.u g = (rfOf (toQ x.u + toQ g), 0) ∧ quoF (rfOf (toQ x.u + toQ g)) (rfOf (1 - toQ x.u * toQ g)) = (rfOf ((toQ x.u + toQ g) / (1 - toQ x.u * toQ g)), 0) ∧ stkF [⟨x.y, rfOf ((toQ x.u + toQ g) / (1 - toQ x.u * toQ g))⟩] = (qdOf (thenQ (shM x) (shQ (toQ x.y) (toQ g))), 0)
theorem okX_long {r : RF} (h : okX r = true) : longQ (toQ r) = false := by
  obtain ⟨q, rfl, hq⟩ := ok_rf h
  rwa [toQ_of]
theorem jn_all {x : RR} {g : RF} {xs : List RR} (hs : sm18 (x :: xs) [g] = true) (hx : wdR x) (hg : wdF g) (hw : ∀ r ∈ xs, wdR r) (hb : (((stkF [x, ⟨x.y, g⟩]).2 != 0) || ((mulF x.u g).2 != 0)) = false) : JN x g := by
  rw [Bool.or_eq_false_iff] at hb
  have h1 : (stkF [x, ⟨x.y, g⟩]).2 = 0 := by simpa using hb.1
  obtain ⟨m1, s1, l1⟩ := stk_y h1
  obtain ⟨_, ha⟩ := may_y m1
  simp only [List.all_cons, List.all_nil, Bool.and_true, Bool.and_eq_true] at ha
  obtain ⟨⟨hy, hu⟩, hsg⟩ := okH_y ha.1
  obtain ⟨⟨_, hgx⟩, _⟩ := okH_y ha.2
  have hgx : okX g = true := hgx
  obtain ⟨c1, c2, c3, f1, f2, f3, hc, _, _⟩ := sm_parts hs hx hg hw
  have z1 := size_q hy f1
  have z2 := size_q hu f2
  have z3 := size_q hgx f3
  have hn : toQ x.y ≠ 0 := fun e => by rw [e] at hsg; exact absurd hsg (by decide)
  have eZ : filmQ [x, ⟨x.y, g⟩] = thenQ (shM x) (shQ (toQ x.y) (toQ g)) := by
    rw [film_cn, film_on1]; rfl
  rw [eZ] at s1 l1
  have hsum : 2 * sumS [x] + 1 ≤ 2048 := by
    simp only [sumS, List.map_cons, List.map_nil, List.sum_cons, List.sum_nil, szS]
    omega
  have hm1 : mayS [x] = 0 := may_1 (by simp) (by simp [ha.1])
  have hl4 := rep_short (film_sm [x] (by simp [ha.1])) hsum
  have e4 := stk_of hm1 hl4
  rw [film_on1] at e4 hl4
  have b1 := bQ_mul (bQ_sz (toQ x.u)) (bQ_sz (toQ g))
  have hlp : longQ (toQ x.u * toQ g) = false := bQ_long b1 (by omega)
  have b2 : bQ (szQ 1 + (szQ (toQ x.u) + szQ (toQ g)) + 1) (1 - toQ x.u * toQ g) := sub_bQ (bQ_sz 1) b1
  have hld : longQ (1 - toQ x.u * toQ g) = false := bQ_long b2 (by rw [sz_one]; omega)
  have h0 : okX (rfOf 0) = true := okX_l' long_zero
  refine ⟨ha.1, s1, ?_, ?_, e4, ?_, fun hne => ?_⟩
  · unfold mulF doF
    rw [hu, hgx]
    exact ansF_ok (longQ_false.1 hlp)
  · have e : filmQ [x, ⟨x.y, rfOf 0⟩] = shM x := by
      rw [film_cn, film_on1]
      show thenQ (shM x) (shQ (toQ x.y) (toQ (rfOf 0))) = _
      rw [toQ_of, sh_0, then_1J]
    have := stk_of (xs := [x, ⟨x.y, rfOf 0⟩]) (may_1 (by simp) (by simp [ha.1, okH_of (x := ⟨x.y, rfOf 0⟩) hy h0 hsg])) (by rw [e]; exact hl4)
    rwa [e] at this
  · unfold subF doF
    rw [okX_of, okX_of, long_one, hlp, toQ_of, toQ_of]
    exact ansF_ok (longQ_false.1 hld)
  · have hd : 1 - toQ x.u * toQ g ≠ 0 := fun e => hne (by rw [e]; kernel_rfl)
    have b3 := bQ_add (bQ_sz (toQ x.u)) (bQ_sz (toQ g))
    have hls : longQ (toQ x.u + toQ g) = false := bQ_long b3 (by omega)
    have b4 := bQ_div b3 b2 hd
    have hlu : longQ ((toQ x.u + toQ g) / (1 - toQ x.u * toQ g)) = false := bQ_long b4 (by rw [sz_one]; omega)
    refine ⟨?_, ?_, ?_⟩
    · unfold addF doF
      rw [hu, hgx]
      exact ansF_ok (longQ_false.1 hls)
    · unfold quoF doF
      rw [okX_of, okX_of, hls, hld, toQ_of, toQ_of, quoOp, if_neg hd]
      exact ansF_ok (longQ_false.1 hlu)
    · have e : filmQ [⟨x.y, rfOf ((toQ x.u + toQ g) / (1 - toQ x.u * toQ g))⟩] = thenQ (shM x) (shQ (toQ x.y) (toQ g)) := by
        rw [film_on1]
        show shQ (toQ x.y) (toQ (rfOf _)) = _
        rw [toQ_of]
        exact (sh_add hn hd).symm
      have := stk_of (xs := [⟨x.y, rfOf ((toQ x.u + toQ g) / (1 - toQ x.u * toQ g))⟩]) (may_1 (by simp) (by simp [okH_of (x := ⟨x.y, rfOf ((toQ x.u + toQ g) / (1 - toQ x.u * toQ g))⟩) hy (okX_l' hlu) hsg])) (by rw [e]; exact l1)
      rwa [e] at this
/-! the first sheet times the rest -/
theorem mulG_bQ {k l : Nat} {z u : GQ} (h1 : bQ k z.re) (h2 : bQ k z.im) (h3 : bQ l u.re) (h4 : bQ l u.im) : bQ (2 * (k + l) + 1) (mulG z u).re ∧ bQ (2 * (k + l) + 1) (mulG z u).im := by
  have a1 := sub_bQ (bQ_mul h1 h3) (bQ_mul h2 h4)
  have a2 := bQ_add (bQ_mul h1 h4) (bQ_mul h2 h3)
  rw [show 2 * (k + l) + 1 = (k + l) + (k + l) + 1 from by omega]
  exact ⟨a1, a2⟩
theorem addG_bQ {k l : Nat} {z u : GQ} (h1 : bQ k z.re) (h2 : bQ k z.im) (h3 : bQ l u.re) (h4 : bQ l u.im) : bQ (k + l + 1) (addG z u).re ∧ bQ (k + l + 1) (addG z u).im := ⟨bQ_add h1 h3, bQ_add h2 h4⟩
theorem bth_of {op : GQ → GQ → GQ} {z u : GQ} {k : Nat} (hk : k ≤ 2048) (h1 : bQ k z.re) (h2 : bQ k z.im) (h3 : bQ k u.re) (h4 : bQ k u.im) (h5 : bQ k (op z u).re ∧ bQ k (op z u).im) : bthF op (rgOf z) (rgOf u) = (rgOf (op z u), 0) := by
  have e : ∀ y : GQ, toG (rgOf y) = y := fun y => by
    unfold toG rgOf
    cases y
    simp only [toQ_of]
  have o1 : okGG (rgOf z) = true := by
    unfold okGG rgOf
    simp [okX_l' (bQ_long h1 hk), okX_l' (bQ_long h2 hk)]
  have o2 : okGG (rgOf u) = true := by
    unfold okGG rgOf
    simp [okX_l' (bQ_long h3 hk), okX_l' (bQ_long h4 hk)]
  unfold bthF
  rw [o1, o2, e, e]
  show ansG (op z u) = _
  unfold ansG
  rw [if_neg (by simp [longG, bQ_long h5.1 hk, bQ_long h5.2 hk])]
theorem bQ_up {k l : Nat} {r : Rat} (h : bQ k r) (hk : k ≤ l) : bQ l r := ⟨Nat.le_trans h.1 hk, Nat.le_trans h.2 hk⟩
theorem prF_of {k l : Nat} {p q r s : GQ} (hk : k + l ≤ 402) (p1 : bQ k p.re) (p2 : bQ k p.im) (q1 : bQ l q.re) (q2 : bQ l q.im) (r1 : bQ k r.re) (r2 : bQ k r.im) (s1 : bQ l s.re) (s2 : bQ l s.im) : prF (rgOf p) (rgOf q) (rgOf r) (rgOf s) = rgOf (prG p q r s) := by
  obtain ⟨m1, m2⟩ := mulG_bQ p1 p2 q1 q2
  obtain ⟨n1, n2⟩ := mulG_bQ r1 r2 s1 s2
  obtain ⟨t1, t2⟩ := addG_bQ m1 m2 n1 n2
  unfold prF prG
  rw [bth_of (k := 2048) (Nat.le_refl _) (bQ_up p1 (by omega)) (bQ_up p2 (by omega)) (bQ_up q1 (by omega)) (bQ_up q2 (by omega)) ⟨bQ_up m1 (by omega), bQ_up m2 (by omega)⟩,
    bth_of (k := 2048) (Nat.le_refl _) (bQ_up r1 (by omega)) (bQ_up r2 (by omega)) (bQ_up s1 (by omega)) (bQ_up s2 (by omega)) ⟨bQ_up n1 (by omega), bQ_up n2 (by omega)⟩]
  show (bthF addG (rgOf (mulG p q)) (rgOf (mulG r s))).1 = _
  rw [bth_of (k := 2048) (Nat.le_refl _) (bQ_up m1 (by omega)) (bQ_up m2 (by omega)) (bQ_up n1 (by omega)) (bQ_up n2 (by omega)) ⟨bQ_up t1 (by omega), bQ_up t2 (by omega)⟩]
theorem cut_short {x : RR} {xs : List RR} (hx : okH x = true) (hs : ssF ((x :: xs).length : Nat) (x :: xs) ≤ 200) (ha : xs.all okH = true) : sumS [x] + sumS xs ≤ 200 := by
  have h := ss_le (x :: xs) ((x :: xs).length : Nat) 200 (by omega) (by omega) (by simp [hx]; exact List.all_eq_true.1 ha) hs
  have e : sumS (x :: xs) = sumS [x] + sumS xs := by simp [sumS]
  omega
theorem cut_b {x : RR} {xs : List RR} (hx : okH x = true) (hs : ssF ((x :: xs).length : Nat) (x :: xs) ≤ 200) (hl : xs.length < 64) (h : (stkF xs).2 ≠ 0) : ((stkF (x :: xs)).2 != 0) = true := by
  cases ha : xs.all okH with
  | true =>
    have h2 := cut_short hx hs ha
    have := stk_of (may_1 (by omega) ha) (rep_short (film_sm xs ha) (by omega))
    rw [this] at h
    exact absurd rfl h
  | false =>
    have e : mayS (x :: xs) = 1 := by
      rw [mayS, if_neg (by simp only [List.length_cons]; omega), if_neg (by rw [List.all_cons, ha, Bool.and_false]; decide)]
    rw [stkF, if_neg (by rw [e]; decide), e]
    rfl
theorem cut_y {x : RR} {xs : List RR} (hx : okH x = true) (hs : ssF ((x :: xs).length : Nat) (x :: xs) ≤ 200) (hl : xs.length < 64) (e4 : stkF [x] = (qdOf (shM x), 0)) (h : (stkF xs).2 = 0) : (((stkF (x :: xs)).2 == 0) && decide ((stkF (x :: xs)).1 = ⟨prF (stkF [x]).1.a (stkF xs).1.a (stkF [x]).1.b (stkF xs).1.c, prF (stkF [x]).1.a (stkF xs).1.b (stkF [x]).1.b (stkF xs).1.d, prF (stkF [x]).1.c (stkF xs).1.a (stkF [x]).1.d (stkF xs).1.c, prF (stkF [x]).1.c (stkF xs).1.b (stkF [x]).1.d (stkF xs).1.d⟩)) = true := by
  obtain ⟨m1, s1, _⟩ := stk_y h
  obtain ⟨_, ha⟩ := may_y m1
  have h2 := cut_short hx hs ha
  have hax : (x :: xs).all okH = true := by rw [List.all_cons, hx, ha]; rfl
  have hr := film_sm (x :: xs) hax
  have es : sumS (x :: xs) = sumS [x] + sumS xs := by simp [sumS]
  have s2 := stk_of (may_1 (by simp only [List.length_cons]; omega) hax) (rep_short hr (by omega))
  rw [film_cn] at s2
  have hx1 := film_sm [x] (by simp [hx])
  rw [film_on1] at hx1
  obtain ⟨a1, a2, a3, a4⟩ := rep_bQ hx1
  obtain ⟨b1, b2, b3, b4⟩ := rep_bQ (film_sm xs ha)
  obtain ⟨k1, k2, k3, k4⟩ := cut_q (shM x) (filmQ xs)
  have z : ∀ k, bQ k 0 ∨ k = 0 := fun k => by
    by_cases hk : k = 0
    · exact .inr hk
    · exact .inl ⟨by rw [show lz (0 : Rat).num = 0 from by kernel_rfl]; omega, by rw [show lz ((0 : Rat).den : Int) = 1 from by kernel_rfl]; omega⟩
  have z1 : bQ (2 * sumS [x] + 1) 0 := (z _).resolve_right (by omega)
  have z2 : bQ (2 * sumS xs + 1) 0 := (z _).resolve_right (by omega)
  have hk : (2 * sumS [x] + 1) + (2 * sumS xs + 1) ≤ 402 := by omega
  rw [s2, e4, s1]
  show ((0 : Int) == 0 && decide (qdOf (thenQ (shM x) (filmQ xs)) = _)) = true
  rw [Bool.and_eq_true]
  refine ⟨rfl, decide_eq_true ?_⟩
  show (⟨rgOf ⟨(thenQ (shM x) (filmQ xs)).a, 0⟩, rgOf ⟨0, (thenQ (shM x) (filmQ xs)).b⟩, rgOf ⟨0, (thenQ (shM x) (filmQ xs)).c⟩, rgOf ⟨(thenQ (shM x) (filmQ xs)).d, 0⟩⟩ : RQ4) = ⟨prF (rgOf ⟨(shM x).a, 0⟩) (rgOf ⟨(filmQ xs).a, 0⟩) (rgOf ⟨0, (shM x).b⟩) (rgOf ⟨0, (filmQ xs).c⟩), prF (rgOf ⟨(shM x).a, 0⟩) (rgOf ⟨0, (filmQ xs).b⟩) (rgOf ⟨0, (shM x).b⟩) (rgOf ⟨(filmQ xs).d, 0⟩), prF (rgOf ⟨0, (shM x).c⟩) (rgOf ⟨(filmQ xs).a, 0⟩) (rgOf ⟨(shM x).d, 0⟩) (rgOf ⟨0, (filmQ xs).c⟩), prF (rgOf ⟨0, (shM x).c⟩) (rgOf ⟨0, (filmQ xs).b⟩) (rgOf ⟨(shM x).d, 0⟩) (rgOf ⟨(filmQ xs).d, 0⟩)⟩
  rw [prF_of (p := ⟨(shM x).a, 0⟩) (q := ⟨(filmQ xs).a, 0⟩) (r := ⟨0, (shM x).b⟩) (s := ⟨0, (filmQ xs).c⟩) hk a1 z1 b1 z2 z1 a2 z2 b3, prF_of (p := ⟨(shM x).a, 0⟩) (q := ⟨0, (filmQ xs).b⟩) (r := ⟨0, (shM x).b⟩) (s := ⟨(filmQ xs).d, 0⟩) hk a1 z1 z2 b2 z1 a2 b4 z2, prF_of (p := ⟨0, (shM x).c⟩) (q := ⟨(filmQ xs).a, 0⟩) (r := ⟨(shM x).d, 0⟩) (s := ⟨0, (filmQ xs).c⟩) hk z1 a3 b1 z2 a4 z1 z2 b3, prF_of (p := ⟨0, (shM x).c⟩) (q := ⟨0, (filmQ xs).b⟩) (r := ⟨(shM x).d, 0⟩) (s := ⟨(filmQ xs).d, 0⟩) hk z1 a3 z2 b2 a4 z1 b4 z2, k1, k2, k3, k4]
theorem jn_p {x : RR} {g : RF} {xs : List RR} (hs : sm18 (x :: xs) [g] = true) (hx : wdR x) (hg : wdF g) (hw : ∀ r ∈ xs, wdR r) : ssF ((x :: xs).length : Nat) (x :: xs) ≤ 200 ∧ xs.length < 64 := by
  obtain ⟨_, _, _, _, _, _, _, h1, h2⟩ := sm_parts hs hx hg hw
  exact ⟨h1, h2⟩

end Go.Proofs.YtaplgnjnhfljnaaGreat
