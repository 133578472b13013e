/- How long what is thrown back is; reading sheets. No program in sight but for types. -/
import Derived.Test.YtaplgnjnhfljnaaGreatFilE
import Derived.ProofKit
import Derived.OpenShut
import Derived.ChangeOld
import Derived.Below
namespace Go.Proofs.YtaplgnjnhfljnaaGreat
open Go Go.RowKit
namespace FilF

end FilF
open FilF
open Go.ChangeShapes Go.WideShapes Go.ChangeAt
theorem q_one {a b x y : Rat} (hb : b ≠ 0) (hy : y ≠ 0) : a / b * (x / y) = (a * x) / (b * y) := by grind
theorem re_m {p0 q0 p1 q1 n1 n4 D : Rat} (h0 : q0 ≠ 0) (h1 : q1 ≠ 0) (hD : D ≠ 0) : p0 / q0 * (n1 / D) - n4 / D * (p1 / q1) = (p0 * n1 * q1 - p1 * n4 * q0) / (q0 * q1 * D) := by grind
theorem re_p {p0 q0 p1 q1 n1 n4 D : Rat} (h0 : q0 ≠ 0) (h1 : q1 ≠ 0) (hD : D ≠ 0) : p0 / q0 * (n1 / D) + n4 / D * (p1 / q1) = (p0 * n1 * q1 + p1 * n4 * q0) / (q0 * q1 * D) := by grind
theorem im_m {p0 q0 p1 q1 n2 n3 D : Rat} (h0 : q0 ≠ 0) (h1 : q1 ≠ 0) (hD : D ≠ 0) : p0 / q0 * (n2 / D * (p1 / q1)) - n3 / D = (p0 * p1 * n2 - n3 * q0 * q1) / (q0 * q1 * D) := by grind
theorem im_p {p0 q0 p1 q1 n2 n3 D : Rat} (h0 : q0 ≠ 0) (h1 : q1 ≠ 0) (hD : D ≠ 0) : p0 / q0 * (n2 / D * (p1 / q1)) + n3 / D = (p0 * p1 * n2 + n3 * q0 * q1) / (q0 * q1 * D) := by grind
theorem sq_div {X Y E : Rat} (hE : E ≠ 0) : X / E * (X / E) + Y / E * (Y / E) = (X * X + Y * Y) / (E * E) := by grind
theorem div_div2 {U V E : Rat} (hE : E ≠ 0) : U / (E * E) / (V / (E * E)) = U / V := by grind
theorem lz3 (a b c : Int) : lz (a * b * c) ≤ lz a + lz b + lz c := by
  have h1 := lz_mul (a * b) c
  have h2 := lz_mul a b
  omega
theorem lz_sbx (a b : Int) : lz (a - b) ≤ max (lz a) (lz b) + 1 := by
  have := lz_add a (-b)
  rw [lz_neg] at this
  rw [Int.sub_eq_add_neg]
  omega
theorem lz_sq2 {k : Nat} {a b : Int} (ha : lz a ≤ k) (hb : lz b ≤ k) : lz (a * a + b * b) ≤ 2 * k + 1 := by
  have h1 := lz_add (a * a) (b * b)
  have h2 := lz_mul a a
  have h3 := lz_mul b b
  omega
/-- how long what is thrown back is. -/
theorem rV_bQ {b s0 s1 : Nat} {m : MQ} {h g : Rat} (hm : RepM b m) (hh : bQ s0 h) (hg : bQ s1 g) (hn : normG (sV m h g) ≠ 0) : bQ (2 * (b + s0 + s0 + s1 + s1 + 1) + 1) (rV m h g) := by
  obtain ⟨n1, n2, n3, n4, D, hD, e1, e2, e3, e4, l1, l2, l3, l4, l5⟩ := hm
  have hDr : (D : Rat) ≠ 0 := fun e => hD (by exact_mod_cast e)
  have d0 := den_ne h
  have d1 := den_ne g
  have f0 := nd_eq h
  have f1 := nd_eq g
  obtain ⟨hh1, hh2⟩ := hh
  obtain ⟨hg1, hg2⟩ := hg
  have hE : (((h.den : Int) : Rat) * ((g.den : Int) : Rat) * (D : Rat)) ≠ 0 := by
    intro e
    rcases Rat.mul_eq_zero.1 e with e | e
    · rcases Rat.mul_eq_zero.1 e with e | e
      · exact d0 e
      · exact d1 e
    · exact hDr e
  have s1e : normG (sV m h g) = (((h.num * n1 * g.den + g.num * n4 * h.den) * (h.num * n1 * g.den + g.num * n4 * h.den) + (h.num * g.num * n2 + n3 * h.den * g.den) * (h.num * g.num * n2 + n3 * h.den * g.den) : Int) : Rat) / ((((h.den : Int) : Rat) * ((g.den : Int) : Rat) * (D : Rat)) * (((h.den : Int) : Rat) * ((g.den : Int) : Rat) * (D : Rat))) := by
    unfold sV normG addG bV kV
    simp only [e1, e2, e3, e4]
    conv => lhs; rw [f0, f1]
    rw [re_p d0 d1 hDr, im_p d0 d1 hDr, sq_div hE]
    simp only [Rat.intCast_add, Rat.intCast_mul]
  have s2e : normG (subG (bV m h g) (kV m h g)) = (((h.num * n1 * g.den - g.num * n4 * h.den) * (h.num * n1 * g.den - g.num * n4 * h.den) + (h.num * g.num * n2 - n3 * h.den * g.den) * (h.num * g.num * n2 - n3 * h.den * g.den) : Int) : Rat) / ((((h.den : Int) : Rat) * ((g.den : Int) : Rat) * (D : Rat)) * (((h.den : Int) : Rat) * ((g.den : Int) : Rat) * (D : Rat))) := by
    unfold normG subG bV kV
    simp only [e1, e2, e3, e4]
    conv => lhs; rw [f0, f1]
    rw [re_m d0 d1 hDr, im_m d0 d1 hDr, sq_div hE]
    simp only [Rat.intCast_add, Rat.intCast_sub, Rat.intCast_mul]
  have a1 := lz3 h.num n1 g.den
  have a2 := lz3 g.num n4 h.den
  have a3 := lz3 h.num g.num n2
  have a4 := lz3 n3 h.den g.den
  have x1 := lz_sbx (h.num * n1 * g.den) (g.num * n4 * h.den)
  have x2 := lz_sbx (h.num * g.num * n2) (n3 * h.den * g.den)
  have x3 := lz_add (h.num * n1 * g.den) (g.num * n4 * h.den)
  have x4 := lz_add (h.num * g.num * n2) (n3 * h.den * g.den)
  have y1 : lz (h.num * n1 * g.den - g.num * n4 * h.den) ≤ b + s0 + s0 + s1 + s1 + 1 := by omega
  have y2 : lz (h.num * g.num * n2 - n3 * h.den * g.den) ≤ b + s0 + s0 + s1 + s1 + 1 := by omega
  have y3 : lz (h.num * n1 * g.den + g.num * n4 * h.den) ≤ b + s0 + s0 + s1 + s1 + 1 := by omega
  have y4 : lz (h.num * g.num * n2 + n3 * h.den * g.den) ≤ b + s0 + s0 + s1 + s1 + 1 := by omega
  have z1 := lz_sq2 y1 y2
  have z2 := lz_sq2 y3 y4
  unfold rV
  rw [s2e, s1e, div_div2 hE]
  have hV : ((h.num * n1 * g.den + g.num * n4 * h.den) * (h.num * n1 * g.den + g.num * n4 * h.den) + (h.num * g.num * n2 + n3 * h.den * g.den) * (h.num * g.num * n2 + n3 * h.den * g.den) : Int) ≠ 0 := fun e => hn (by
    rw [s1e, e, Rat.div_def]
    exact Rat.zero_mul _)
  rw [← Rat.divInt_eq_div]
  obtain ⟨q1, q2⟩ := lz_low2 (p := ((h.num * n1 * g.den - g.num * n4 * h.den) * (h.num * n1 * g.den - g.num * n4 * h.den) + (h.num * g.num * n2 - n3 * h.den * g.den) * (h.num * g.num * n2 - n3 * h.den * g.den))) hV
  exact ⟨by omega, by omega⟩
def sumS (xs : List RR) : Nat := (xs.map fun x => szS (toQ x.y) (toQ x.u) + 4).sum
theorem film_sm : ∀ (xs : List RR), xs.all okH = true → RepM (2 * sumS xs + 1) (filmQ xs) := fun xs h => by
  have key : ∀ j, j ≤ xs.length → RepM (2 * sumS (xs.take j) + 1) (filmQ (xs.take j)) := by
    intro j
    induction j with
    | zero => exact fun _ => rep_1
    | succ j ih =>
      intro hj
      have ho := List.all_eq_true.1 h _ (List.getElem_mem (show j < xs.length by omega))
      rw [film_nx (by omega)]
      have e : sumS (xs.take (j + 1)) = sumS (xs.take j) + (szS (toQ (xs[j]).y) (toQ (xs[j]).u) + 4) := by
        rw [List.take_succ_eq_append_getElem (by omega)]
        simp only [sumS, List.map_append, List.sum_append, List.map_cons, List.map_nil, List.sum_cons, List.sum_nil, Nat.add_zero]
      rw [e]
      exact rep_mono (rep_then (ih (by omega)) (sh_rep (Rat.ne_of_gt (okH_q ho).2))) (by omega)
  have := key xs.length (Nat.le_refl _)
  rwa [List.take_length] at this
theorem fr_szx {x : RF} (h : okX x = true) : fracSizeF x = ((szQ (toQ x) + 2 : Nat) : Int) ∧ szQ (toQ x) ≤ 4096 := by
  obtain ⟨r, rfl, hr⟩ := ok_rf h
  rw [toQ_of]
  exact ⟨frac_sz hr, sz_le hr⟩
theorem ss_le : ∀ (xs : List RR) (n k : Int), 0 ≤ n → k ≤ 200 → xs.all okH = true → ssF n xs ≤ k → n + (sumS xs : Int) ≤ ssF n xs
  | [], n, k, _, _, _, h => by unfold ssF; unfold sumS; simp
  | x :: xs, n, k, h0, hk, ha, h => by
    rw [List.all_cons, Bool.and_eq_true] at ha
    have hx := (okH_q ha.1).1
    simp only [List.all_cons, List.all_nil, Bool.and_true, Bool.and_eq_true] at hx
    obtain ⟨e1, e2⟩ := fr_szx hx.1
    obtain ⟨e3, e4⟩ := fr_szx hx.2
    have e : sumS (x :: xs) = (szS (toQ x.y) (toQ x.u) + 4) + sumS xs := by simp [sumS]
    unfold ssF at h ⊢
    by_cases hn : n ≤ 1048576
    · rw [if_pos (decide_eq_true hn), e1, e3, wi64 (x := n + ((szQ (toQ x.y) + 2 : Nat) : Int)) (by omega) (by omega), wi64 (by omega) (by omega)] at h ⊢
      have := ss_le xs _ k (by omega) hk ha.2 h
      rw [e]
      unfold szS
      omega
    · rw [if_neg (by simpa using hn)] at h
      omega
/-- sheets and ends that are small. -/
theorem sm_in {h g : RF} {xs : List RR} (hs : sm18 xs [h, g] = true) (ha : xs.all okH = true) (h1 : okX h = true) (h2 : okX g = true) : sumS xs + szQ (toQ h) + szQ (toQ g) ≤ 200 := by
  unfold sm18 at hs
  rw [Bool.and_eq_true, decide_eq_true_eq, decide_eq_true_eq] at hs
  obtain ⟨e1, e2⟩ := fr_szx h1
  obtain ⟨e3, e4⟩ := fr_szx h2
  have h3 := hs.1
  unfold fsF fsF fsF at h3
  rw [e1, e3] at h3
  have key : ∀ (xs : List RR) (n : Int), 0 ≤ n → n ≤ 4000000000 → xs.all okH = true → 0 ≤ ssF n xs ∧ ssF n xs ≤ 4000000000 := by
    intro xs
    induction xs with
    | nil => intro n h0 h1 _; exact ⟨h0, h1⟩
    | cons x xs ih =>
      intro n h0 hn1 ha
      rw [List.all_cons, Bool.and_eq_true] at ha
      have hx := (okH_q ha.1).1
      simp only [List.all_cons, List.all_nil, Bool.and_true, Bool.and_eq_true] at hx
      obtain ⟨e1, e2⟩ := fr_szx hx.1
      obtain ⟨e3, e4⟩ := fr_szx hx.2
      unfold ssF
      by_cases hn : n ≤ 1048576
      · rw [if_pos (decide_eq_true hn), e1, e3, wi64 (x := n + ((szQ (toQ x.y) + 2 : Nat) : Int)) (by omega) (by omega), wi64 (by omega) (by omega)]
        exact ih _ (by omega) (by omega) ha.2
      · rw [if_neg (by simpa using hn)]
        exact ⟨h0, hn1⟩
  obtain ⟨k1, k2⟩ := key xs (xs.length : Nat) (by omega) (by omega) ha
  rw [wi64 (x := ssF (xs.length : Nat) xs + ((szQ (toQ h) + 2 : Nat) : Int)) (by omega) (by omega), wi64 (by omega) (by omega)] at h3
  have h4 := ss_le xs (xs.length : Nat) 200 (by omega) (by omega) ha (by omega)
  omega
theorem r_short {h g : RF} {xs : List RR} (hs : sm18 xs [h, g] = true) (ho : (overF h g xs).2 = 0) : longQ (rV (filmQ xs) (toQ h) (toQ g)) = false ∧ longQ (1 - rV (filmQ xs) (toQ h) (toQ g)) = false := by
  obtain ⟨h1, h2, h3, _⟩ := ov_ok ho
  have ha := (may_ok h3).2
  have hb := rV_bQ (film_sm xs ha) (bQ_sz (toQ h)) (bQ_sz (toQ g)) (pw_n ho)
  have hsm := sm_in hs ha (okP_q h1).1 (okP_q h2).1
  have h1b : bQ 1 (1 : Rat) := ⟨Nat.le_of_ble_eq_true (by kernel_rfl), Nat.le_of_ble_eq_true (by kernel_rfl)⟩
  refine ⟨bQ_long hb (by omega), ?_⟩
  have e : 1 - rV (filmQ xs) (toQ h) (toQ g) = 1 + (0 - rV (filmQ xs) (toQ h) (toQ g)) := by grind
  rw [e]
  exact bQ_long (bQ_add h1b (bQ_min hb)) (by omega)
theorem then_as (m n o : MQ) : thenQ (thenQ m n) o = thenQ m (thenQ n o) := by
  unfold thenQ
  simp only [MQ.mk.injEq]
  exact ⟨by grind, by grind, by grind, by grind⟩
theorem one_then (m : MQ) : thenQ ⟨1, 0, 0, 1⟩ m = m := by
  cases m
  unfold thenQ
  simp only [MQ.mk.injEq]
  exact ⟨by grind, by grind, by grind, by grind⟩
theorem then_one (m : MQ) : thenQ m ⟨1, 0, 0, 1⟩ = m := by
  cases m
  unfold thenQ
  simp only [MQ.mk.injEq]
  exact ⟨by grind, by grind, by grind, by grind⟩
theorem film_from (xs : List RR) (m : MQ) : xs.foldl (fun m x => thenQ m (shM x)) m = thenQ m (filmQ xs) := by
  induction xs generalizing m with
  | nil => exact (then_one m).symm
  | cons x xs ih =>
    show xs.foldl _ (thenQ m (shM x)) = thenQ m (xs.foldl _ (thenQ ⟨1, 0, 0, 1⟩ (shM x)))
    rw [ih, ih, one_then, then_as]
theorem film_cons (x : RR) (xs : List RR) : filmQ (x :: xs) = thenQ (shM x) (filmQ xs) := by
  show xs.foldl _ (thenQ ⟨1, 0, 0, 1⟩ (shM x)) = _
  rw [film_from, one_then]
theorem film_app (xs ys : List RR) : filmQ (xs ++ ys) = thenQ (filmQ xs) (filmQ ys) := by
  unfold filmQ
  rw [List.foldl_append]
  exact film_from ys _
section
variable {H : Type} {enc : TypeId × Value → H} {w : World} {base : Nat} {spare : Nat → Bool} {held : Bool} {fuel : Nat} {cs : List Value} {x : DataW H × List MemPlace}
theorem rd_sh (h : DataW.trod enc Tryz.prog w base spare held fuel 28 cs = some x) : ∃ y, (RRA y).p w.heap.size cs w := by
  obtain ⟨y0, y1, n, _, hl, h0, h1⟩ := trod_struct2 Tryz.underlying28 h
  have hl' : cs.length = 8 := hl.trans (by kernel_rfl)
  have c0 : Tryz.prog.cellsOf 26 = 4 := by kernel_rfl
  simp only [c0] at h0 h1
  obtain ⟨a, ha⟩ := rd_rf h0
  obtain ⟨b, hb⟩ := rd_rf h1
  exact ⟨⟨a, b⟩, cat_two ha hb hl'⟩
end

end Go.Proofs.YtaplgnjnhfljnaaGreat
