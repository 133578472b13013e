import Derived.Test.YtljkepdpoelpkaaLeafN
namespace Go.Proofs.Ytljkepdpoelpkaa
open Go Go.RowKit
namespace LeafO
theorem ty_33 : Ty Try.prog 33 2 true := ⟨by kernel_rfl, by kernel_rfl⟩
theorem ty_35 : Ty Try.prog 35 4 true := ⟨by kernel_rfl, by kernel_rfl⟩
end LeafO
open LeafO
/-! how long numbers grow -/
theorem lz_le {z : Int} {k : Nat} (h : z.natAbs < 4294967296 ^ k) : lz z ≤ k := limbs_len_le h
theorem lz_mul (p q : Int) : lz (p * q) ≤ lz p + lz q := by
  apply lz_le
  rw [Int.natAbs_mul, Nat.pow_add]
  exact Nat.mul_lt_mul'' (lz_high p) (lz_high q)
theorem lz_add (p q : Int) : lz (p + q) ≤ max (lz p) (lz q) + 1 := by
  apply lz_le
  have h1 : p.natAbs < 4294967296 ^ max (lz p) (lz q) := Nat.lt_of_lt_of_le (lz_high p) (Nat.pow_le_pow_right (by decide) (Nat.le_max_left _ _))
  have h2 : q.natAbs < 4294967296 ^ max (lz p) (lz q) := Nat.lt_of_lt_of_le (lz_high q) (Nat.pow_le_pow_right (by decide) (Nat.le_max_right _ _))
  have h3 := Int.natAbs_add_le p q
  rw [Nat.pow_succ]
  omega
theorem lz_sub (p q : Int) : lz (p - q) ≤ max (lz p) (lz q) + 1 := by have := lz_add p (-q); rw [lz_neg] at this; exact this
theorem lz_tdiv (p q : Int) : lz (p.tdiv q) ≤ lz p := lz_mono (by rw [nat_tdiv]; exact Nat.div_le_self _ _)
theorem lz_tm {p q : Int} (h : q ≠ 0) : lz (p.tmod q) ≤ lz q := lz_mono (by rw [nat_tmod]; exact Nat.le_of_lt (Nat.mod_lt _ (by omega)))
theorem lz_gcd (p q : Int) : lz ((Int.gcd p q : Nat) : Int) ≤ max (lz p) (lz q) := by
  by_cases h : p = 0
  · subst h
    have : lz ((Int.gcd 0 q : Nat) : Int) = lz q := by simp [lz]
    omega
  · have : lz ((Int.gcd p q : Nat) : Int) ≤ lz p := lz_mono (by
      have : Int.gcd p q ≤ p.natAbs := Nat.le_of_dvd (by omega) (Nat.gcd_dvd_left _ _)
      omega)
    omega
/-- a whole number of at most k limbs. -/
def ZA (k : Nat) (z : Int) : As := (RIA (riOf z)).and (lz z ≤ k)
abbrev Zs (k : Nat) (z : Int) : VA := (ZA k z).va
theorem wk_z {k : Nat} {z : Int} : Wk (Zs k z) (Zi z) := fun _ _ _ h => (and_va h).2
theorem zs_le {k B : Nat} {z : Int} {v : Value} {w : World} (h : (Zs k z).p B v w) : lz z ≤ k := (and_va h).1
theorem zs_of {k : Nat} {z : Int} (h : lz z ≤ k) : Wk (Zi z) (Zs k z) := fun _ _ _ hp => va_and h hp
theorem zs_mono {k k' : Nat} {z : Int} (h : k ≤ k') : Wk (Zs k z) (Zs k' z) := fun _ _ _ hp => va_and (Nat.le_trans (and_va hp).1 h) (and_va hp).2
section
variable {P : Program} {f : FuncId} {post : VA} {a b : Nat} {p q : Int}
theorem zs1 (hex : ∃ fn, P.funcs[f]? = some fn ∧ (fn.name == "runtime.NumGoroutine") = false ∧ fn.body.isNone = false) (h : lz p ≤ a → Cn P f [Zi p] post) : Cn P f [Zs a p] post :=
  Cn.know (c := lz p ≤ a) hex (fun B w args ha => by cases ha with | cons h1 _ => exact zs_le h1) fun hc => (h hc).wk (.cons wk_z .nil)
theorem zs2 (hex : ∃ fn, P.funcs[f]? = some fn ∧ (fn.name == "runtime.NumGoroutine") = false ∧ fn.body.isNone = false) (h : lz p ≤ a → lz q ≤ b → Cn P f [Zi p, Zi q] post) : Cn P f [Zs a p, Zs b q] post :=
  Cn.know (c := lz p ≤ a ∧ lz q ≤ b) hex (fun B w args ha => by cases ha with | cons h1 ha => cases ha with | cons h2 _ => exact ⟨zs_le h1, zs_le h2⟩) fun hc => (h hc.1 hc.2).wk (.cons wk_z (.cons wk_z .nil))
end
theorem wk_trans {A A' A'' : VA} (h : Wk A A') (h' : Wk A' A'') : Wk A A'' := fun B v w hp => h' B v w (h B v w hp)
theorem wk_eq {A A' : VA} (h : A = A') : Wk A A' := h ▸ wk_id
theorem all_wk {l l' : List VA} (h : All2 Wk l l') {B : Nat} {w : World} : ∀ {vs : List Value}, All2 (fun (A : VA) v => A.p B v w) l vs → All2 (fun (A : VA) v => A.p B v w) l' vs := by
  induction h with
  | nil => intro vs hp; cases hp; exact .nil
  | cons h1 _ ih => intro vs hp; cases hp with | cons h2 h3 => exact .cons (h1 _ _ _ h2) (ih h3)
theorem tu_wk {l l' : List VA} (h : All2 Wk l l') : Wk (Tu l) (Tu l') := fun _ _ _ ⟨vs, hv, hp⟩ => ⟨vs, hv, all_wk h hp⟩
/-! signs, comparing -/
def sg3 (p q : Int) : Int := if p < q then -1 else if q < p then 1 else 0
theorem sgI_ri (p : Int) : sgI (riOf p) = p.sign := by
  unfold sgI
  by_cases h : p = 0
  · subst h; simp [riOf, limbs_zero]
  · have := lz_pos h
    rw [ri_len, if_neg (by omega)]
    by_cases h2 : p < 0
    · simp [riOf, h2, Int.sign_eq_neg_one_of_neg h2]
    · have : 0 < p := by omega
      simp [riOf, h2, Int.sign_eq_one_of_pos this]
theorem sizeL_sg (m n : Nat) : (sizeL (limbs m) (limbs n) < 0 ↔ m < n) ∧ (sizeL (limbs m) (limbs n) = 0 ↔ m = n) ∧ (0 < sizeL (limbs m) (limbs n) ↔ n < m) := by
  have := (sizeL_limbs (m := m) (n := n))
  omega
theorem cmp_ri (p q : Int) : cmpI (riOf p) (riOf q) = sg3 p q := by
  unfold cmpI
  rw [sgI_ri, sgI_ri]
  have h := sizeL_sg p.natAbs q.natAbs
  have e1 : (riOf p).mag = limbs p.natAbs := rfl
  have e2 : (riOf q).mag = limbs q.natAbs := rfl
  rw [e1, e2]
  generalize sizeL (limbs p.natAbs) (limbs q.natAbs) = s at *
  have hp : p.sign = if p < 0 then -1 else if p = 0 then 0 else 1 := by
    rcases Int.lt_trichotomy p 0 with h | h | h
    · rw [if_pos h, Int.sign_eq_neg_one_of_neg h]
    · subst h; rfl
    · rw [if_neg (by omega), if_neg (by omega), Int.sign_eq_one_of_pos h]
  have hq : q.sign = if q < 0 then -1 else if q = 0 then 0 else 1 := by
    rcases Int.lt_trichotomy q 0 with h | h | h
    · rw [if_pos h, Int.sign_eq_neg_one_of_neg h]
    · subst h; rfl
    · rw [if_neg (by omega), if_neg (by omega), Int.sign_eq_one_of_pos h]
  have hn : (riOf p).neg = decide (p < 0) := rfl
  rw [hp, hq, hn]
  unfold sg3
  by_cases h1 : p < 0
  · by_cases h2 : q < 0
    · simp only [h1, h2, if_true, decide_true]; rw [if_neg (by omega)]; split <;> (try split) <;> omega
    · rw [if_pos h1, if_neg h2, if_pos (by split <;> omega), if_pos (by split <;> omega), if_pos (by omega)]
  · by_cases h2 : q < 0
    · rw [if_neg h1, if_pos h2, if_pos (by split <;> omega), if_neg (by split <;> omega), if_neg (by omega), if_pos (by omega)]
    · simp only [h1, h2, if_false, decide_false]
      by_cases h3 : p = 0 <;> by_cases h4 : q = 0 <;> simp only [h3, h4, if_true, if_false]
      · rw [if_neg (by omega)]; simp; omega
      · rw [if_pos (by omega), if_pos (by omega), if_pos (by omega)]
      · rw [if_pos (by omega), if_neg (by omega), if_neg (by omega), if_pos (by omega)]
      · rw [if_neg (by omega)]; simp only [Bool.false_eq_true, if_false]; split <;> (try split) <;> omega
theorem times_ri (p q : Int) : rsig ((riOf p).neg != (riOf q).neg) (digs ((riOf p).mag.length + (riOf q).mag.length) (val (riOf p).mag * val (riOf q).mag)) = riOf (p * q) := by
  rw [val_ri, val_ri]
  refine rsig_of (okL_digs _ _) ?_ fun hz => ?_
  · rw [val_digs, Nat.mod_eq_of_lt, Int.natAbs_mul]
    rw [ri_len, ri_len, Nat.pow_add]
    exact Nat.mul_lt_mul'' (lz_high p) (lz_high q)
  · have hp : p ≠ 0 := fun e => hz (by rw [e, Int.zero_mul])
    have hq : q ≠ 0 := fun e => hz (by rw [e, Int.mul_zero])
    show (decide (p < 0) != decide (q < 0)) = decide (p * q < 0)
    by_cases h1 : p < 0 <;> by_cases h2 : q < 0
    · have := Int.mul_pos_of_neg_of_neg h1 h2; simp [h1, h2]; omega
    · have := Int.mul_neg_of_neg_of_pos h1 (by omega : 0 < q); simp [h1, h2]; omega
    · have := Int.mul_neg_of_pos_of_neg (by omega : 0 < p) h2; simp [h1, h2]; omega
    · have := Int.mul_pos (by omega : 0 < p) (by omega : 0 < q); simp [h1, h2]; omega

theorem ex_Times : ∃ fn, Try.prog.funcs[48]? = some fn ∧ (fn.name == "runtime.NumGoroutine") = false ∧ fn.body.isNone = false := ⟨_, Try.func48, by kernel_rfl, by kernel_rfl⟩
theorem ex_Plus : ∃ fn, Try.prog.funcs[66]? = some fn ∧ (fn.name == "runtime.NumGoroutine") = false ∧ fn.body.isNone = false := ⟨_, Try.func66, by kernel_rfl, by kernel_rfl⟩
theorem ex_Minus : ∃ fn, Try.prog.funcs[61]? = some fn ∧ (fn.name == "runtime.NumGoroutine") = false ∧ fn.body.isNone = false := ⟨_, Try.func61, by kernel_rfl, by kernel_rfl⟩
theorem ex_Cmp : ∃ fn, Try.prog.funcs[60]? = some fn ∧ (fn.name == "runtime.NumGoroutine") = false ∧ fn.body.isNone = false := ⟨_, Try.func60, by kernel_rfl, by kernel_rfl⟩
theorem ex_Sign : ∃ fn, Try.prog.funcs[59]? = some fn ∧ (fn.name == "runtime.NumGoroutine") = false ∧ fn.body.isNone = false := ⟨_, Try.func59, by kernel_rfl, by kernel_rfl⟩
theorem ex_Divide : ∃ fn, Try.prog.funcs[68]? = some fn ∧ (fn.name == "runtime.NumGoroutine") = false ∧ fn.body.isNone = false := ⟨_, Try.func68, by kernel_rfl, by kernel_rfl⟩
theorem ex_Common : ∃ fn, Try.prog.funcs[67]? = some fn ∧ (fn.name == "runtime.NumGoroutine") = false ∧ fn.body.isNone = false := ⟨_, Try.func67, by kernel_rfl, by kernel_rfl⟩
theorem ex_turned : ∃ fn, Try.prog.funcs[69]? = some fn ∧ (fn.name == "runtime.NumGoroutine") = false ∧ fn.body.isNone = false := ⟨_, Try.func69, by kernel_rfl, by kernel_rfl⟩
section
variable {a b : Nat} {p q : Int} (ha : a ≤ 1099511627776)
include ha
theorem turned_z : Cn Try.prog 69 [Zs a p] (Zs a (-p)) := zs1 ex_turned fun h => (turnedZ_c p (by omega)).wkp (zs_of (by rw [lz_neg]; exact h))
variable (hb : b ≤ 1099511627776)
include hb
theorem times_z : Cn Try.prog 48 [Zs a p, Zs b q] (Zs (a + b) (p * q)) := zs2 ex_Times fun h h' => (times_c (riOf p) (riOf q) (by rw [ri_len]; omega) (by rw [ri_len]; omega)).wkp (wk_trans (wk_trans wk_riN (wk_eq (congrArg (fun x => (RIA x).va) (times_ri p q)))) (zs_of (by have := lz_mul p q; omega)))
theorem plus_z : Cn Try.prog 66 [Zs a p, Zs b q] (Zs (max a b + 1) (p + q)) := zs2 ex_Plus fun h h' => (plus_c p q (by omega) (by omega)).wkp (zs_of (by have := lz_add p q; omega))
theorem minus_z : Cn Try.prog 61 [Zs a p, Zs b q] (Zs (max a b + 1) (p - q)) := zs2 ex_Minus fun h h' => (minus_c p q (by omega) (by omega)).wkp (zs_of (by have := lz_sub p q; omega))
theorem cmp_z : Cn Try.prog 60 [Zs a p, Zs b q] (In (sg3 p q)) := zs2 ex_Cmp fun h h' => (cmpI_c (riOf p) (riOf q) (by rw [ri_len]; omega) (by rw [ri_len]; omega)).post (by rw [cmp_ri])
theorem common_z : Cn Try.prog 67 [Zs a p, Zs b q] (Zs (max a b) ((Int.gcd p q : Nat) : Int)) := zs2 ex_Common fun h h' => (common_c p q (by omega) (by omega)).wkp (wk_trans wk_riN (zs_of (by have := lz_gcd p q; omega)))
omit hb in
theorem divide_z (hq : q ≠ 0) : Cn Try.prog 68 [Zs a p, Zs b q] (Tu [Zs a (p.tdiv q), Zs b (p.tmod q)]) := zs2 ex_Divide fun h h' => (divideZ_c p q hq (by omega)).wkp (tu_wk (.cons (wk_trans wk_riN (zs_of (by have := lz_tdiv p q; omega))) (.cons (wk_trans wk_riN (zs_of (by have := lz_tm (p := p) hq; omega))) .nil)))
end
theorem sign_z {a : Nat} {p : Int} : Cn Try.prog 59 [Zs a p] (In p.sign) := zs1 ex_Sign fun _ => (sign_c (riOf p)).post (by rw [sgI_ri])
theorem of_z {n : Int} (h0 : -9223372036854775808 ≤ n) (h1 : n < 9223372036854775808) : Cn Try.prog 62 [In n] (Zs 2 n) := (of_c n h0 h1).wkp (zs_of (lz_le (by omega)))
/-! fractions -/
def QA (k : Nat) (r : Rat) : As := cat [ZA k r.num, ZA k (r.den : Int)]
abbrev Qs (k : Nat) (r : Rat) : VA := (QA k r).va
/-- a struct's parts, each in other words. -/
def WkA (A A' : As) : Prop := A'.n = A.n ∧ A'.ag = A.ag ∧ ∀ B cs w, A.p B cs w → A'.p B cs w
theorem WkA.va {A A' : As} (h : WkA A A') : Wk A.va A'.va := fun B v w ⟨cs, hp, hv⟩ => ⟨cs, h.2.2 B cs w hp, by rw [h.2.1]; exact hv⟩
theorem WkA.refl (A : As) : WkA A A := ⟨rfl, rfl, fun _ _ _ h => h⟩
theorem WkA.trans {A A' A'' : As} (h : WkA A A') (h' : WkA A' A'') : WkA A A'' := ⟨h'.1.trans h.1, h'.2.1.trans h.2.1, fun B cs w hp => h'.2.2 B cs w (h.2.2 B cs w hp)⟩
theorem wkA_eq {A A' : As} (h : A = A') : WkA A A' := h ▸ WkA.refl A
theorem cat_wk {l l' : List As} (h : All2 WkA l l') : WkA (cat l) (cat l') := by
  have key : ∀ {l l' : List As}, All2 WkA l l' → (cat l').n = (cat l).n ∧ ∀ B ps w, All2 (fun (A : As) c => A.p B c w) l ps → All2 (fun (A : As) c => A.p B c w) l' ps := by
    intro l l' h
    induction h with
    | nil => exact ⟨rfl, fun B ps w h => by cases h; exact .nil⟩
    | cons h1 _ ih =>
      refine ⟨?_, fun B ps w h => ?_⟩
      · have := ih.1
        simp only [cat, List.map_cons, List.sum_cons] at this ⊢
        rw [h1.1, this]
      · cases h with
        | cons h2 h3 => exact .cons (h1.2.2 _ _ _ h2) (ih.2 _ _ _ h3)
  exact ⟨(key h).1, rfl, fun B cs w ⟨ps, e1, e2⟩ => ⟨ps, e1, (key h).2 B ps w e2⟩⟩
theorem zaA {k : Nat} {z : Int} : WkA (ZA k z) (RIA (riOf z)) := ⟨rfl, rfl, fun _ _ _ h => h.2⟩
theorem za_of {k : Nat} {z : Int} (h : lz z ≤ k) : WkA (RIA (riOf z)) (ZA k z) := ⟨rfl, rfl, fun _ _ _ hp => ⟨h, hp⟩⟩
theorem za_mono {k k' : Nat} {z : Int} (h : k ≤ k') : WkA (ZA k z) (ZA k' z) := ⟨rfl, rfl, fun _ _ _ hp => ⟨Nat.le_trans hp.1 h, hp.2⟩⟩
theorem qaA {k : Nat} {r : Rat} : WkA (QA k r) (RFA (rfOf r)) := cat_wk (.cons zaA (.cons zaA .nil))
theorem qa_of {k : Nat} {r : Rat} (h : lz r.num ≤ k) (h' : lz (r.den : Int) ≤ k) : WkA (RFA (rfOf r)) (QA k r) := cat_wk (.cons (za_of h) (.cons (za_of h') .nil))
theorem qa_mono {k k' : Nat} {r : Rat} (h : k ≤ k') : WkA (QA k r) (QA k' r) := cat_wk (.cons (za_mono h) (.cons (za_mono h) .nil))
theorem St.wkL {B N : Nat} {w0 : Bs} {Γ : List (Nat × VA)} {Λ : List Lc} {a : Act} {w : World} (h : St B w0 N Γ Λ a w) {s : Nat} {T : TypeId} {H : Hd} {A A' : As} (k : Nat) (hm : Λ[k]? = some ⟨s, T, H, A⟩) (e : WkA A A') : St B w0 N Γ (Λ.set k ⟨s, T, H, A'⟩) a w := by
  obtain ⟨hk, he⟩ := List.getElem?_eq_some_iff.1 hm
  have hset : ∀ l ∈ Λ.set k ⟨s, T, H, A'⟩, l = ⟨s, T, H, A'⟩ ∨ l ∈ Λ := fun l hl => (List.mem_or_eq_of_mem_set hl).symm
  have hin : (⟨s, T, H, A⟩ : Lc) ∈ Λ := List.mem_of_getElem? hm
  have hd : ∀ l ∈ Λ.set k ⟨s, T, H, A'⟩, ∃ l' ∈ Λ, l'.s = l.s := fun l hl => by
    rcases hset l hl with rfl | hl
    · exact ⟨_, hin, rfl⟩
    · exact ⟨l, hl, rfl⟩
  refine ⟨h.lo, h.defers, h.size, h.base, h.vals, fun l hl => ?_, fun l hl m hm' hne => ?_⟩
  · rcases hset l hl with rfl | hl
    · obtain ⟨g, cs, h1, h2, h3, h4⟩ := h.locs _ hin
      exact ⟨g, cs, h1, h2, h3, e.2.2 _ _ _ h4⟩
    · exact h.locs l hl
  · obtain ⟨l', hl', e1⟩ := hd l hl
    obtain ⟨m', hm'', e2⟩ := hd m hm'
    have := h.dis l' hl' m' hm'' (by rw [e1, e2]; exact hne)
    rw [e1, e2] at this
    exact this
theorem gcd_one {n : Nat} (h : (sg3 ((n : Nat) : Int) 1 != 0) = false) : n = 1 := by
  unfold sg3 at h
  simp at h
  split at h
  · simp at h
  · split at h
    · simp at h
    · omega
theorem tdiv_g {n : Nat} {x : Int} (h : (sg3 ((n : Nat) : Int) 1 != 0) = false) : x = x.tdiv ((n : Nat) : Int) := by rw [gcd_one h, Int.natCast_one, Int.tdiv_one]
theorem sgn_yes {z : Int} (h : decide (z.sign < 0) = true) : z < 0 := Int.sign_neg_iff.1 (of_decide_eq_true h)
theorem sgn_no {z : Int} (h : decide (z.sign < 0) = false) : ¬ z < 0 := fun hh => of_decide_eq_false h (Int.sign_neg_iff.2 hh)
/-- numerator and denominator, in lowest terms. -/
theorem low_num {p q : Int} (hq : q ≠ 0) : (if q.tdiv (Int.gcd p q : Nat) < 0 then -(p.tdiv (Int.gcd p q : Nat)) else p.tdiv (Int.gcd p q : Nat)) = (Rat.divInt p q).num ∧
    (if q.tdiv (Int.gcd p q : Nat) < 0 then -(q.tdiv (Int.gcd p q : Nat)) else q.tdiv (Int.gcd p q : Nat)) = ((Rat.divInt p q).den : Int) := by
  have hg : 0 < Int.gcd p q := Int.gcd_pos_of_ne_zero_right p hq
  have d1 : ((Int.gcd p q : Nat) : Int) ∣ p := Int.gcd_dvd_left ..
  have d2 : ((Int.gcd p q : Nat) : Int) ∣ q := Int.gcd_dvd_right ..
  rw [Rat.num_divInt, Rat.den_divInt, if_neg hq, Int.gcd_comm q p]
  generalize Int.gcd p q = g at *
  obtain ⟨x, rfl⟩ := d1
  obtain ⟨y, rfl⟩ := d2
  have hg' : (g : Int) ≠ 0 := by omega
  rw [Int.mul_tdiv_cancel_left _ hg', Int.mul_tdiv_cancel_left _ hg']
  have hy : y ≠ 0 := fun e => hq (by rw [e, Int.mul_zero])
  have e2 : ((g : Int) * y).natAbs / g = y.natAbs := by rw [Int.natAbs_mul]; exact Nat.mul_div_cancel_left _ hg
  rw [e2]
  by_cases h : y < 0
  · have h1 : (g : Int) * y < 0 := Int.mul_neg_of_pos_of_neg (by omega) h
    rw [Int.sign_eq_neg_one_of_neg h1, if_pos h, if_pos h]
    refine ⟨?_, by omega⟩
    rw [show (-1 : Int) * (g * x) = g * (-x) by rw [Int.mul_neg]; omega, Int.mul_ediv_cancel_left _ hg']
  · have h1 : 0 < (g : Int) * y := Int.mul_pos (by omega) (by omega)
    rw [Int.sign_eq_one_of_pos h1, if_neg h, if_neg h, Int.one_mul, Int.mul_ediv_cancel_left _ hg']
    exact ⟨rfl, by omega⟩
theorem lz_low2 {p q : Int} (hq : q ≠ 0) : lz (Rat.divInt p q).num ≤ lz p ∧ lz ((Rat.divInt p q).den : Int) ≤ lz q := by
  obtain ⟨h1, h2⟩ := low_num (p := p) hq
  rw [← h1, ← h2]
  have a1 := lz_tdiv p (Int.gcd p q : Nat)
  have a2 := lz_tdiv q (Int.gcd p q : Nat)
  constructor <;> split <;> first | (rw [lz_neg]; assumption) | assumption

set_option maxRecDepth 100000 in
theorem lowest_q {c d : Nat} {p q : Int} (hc : c ≤ 1099511627776) (hd : d ≤ 1099511627776) (hq : q ≠ 0) : Cn Try.prog 47 [Zs c p, Zs d q] (Qs (max c d) (Rat.divInt p q)) := by
  have hg0 : 0 < Int.gcd p q := Int.gcd_pos_of_ne_zero_right p hq
  obtain ⟨hn1, hn2⟩ := low_num (p := p) hq
  refine Cn.intro Try.func47 rfl (by kernel_rfl) nq (fun B w0 a hst => ?_)
  have hst : St B w0 35 [(0, Zs c p), (1, Zs d q)] [] a w0.w := hst
  refine wp_seq ?_
  refine gl (sts := []) (news := [⟨2, 33, ptrH, some 0, _, none⟩, ⟨3, 33, ptrH, some 1, _, none⟩, ⟨4, 35, ptrH, some 2, _, none⟩]) (sp := [.alc 0, .alc 1, .alc 2]) [] hst (oc (ob_box rfl rfl rfl (gq 0 rfl)) (oc (ob_box rfl rfl rfl (gq 1 rfl)) (oc (ob_alc rfl rfl rfl (Str.zero str_frac)) o0))) (fun a w hst => ?_)
  have hst : St B w0 35 [] [⟨2, 33, ptrH, _⟩, ⟨3, 33, ptrH, _⟩, ⟨4, 35, ptrH, _⟩] a w := hst
  refine thn_normal ?_
  refine wp_seq ?_
  refine wp_seq ?_
  refine gl (sts := [none, none, none]) (news := [⟨5, 33, ptrH, some 3, _, some (4, _)⟩]) (sp := [.val 6 _, .val 7 _, .val 8 _, .alc 3, .sto 3]) [] hst (oc (ob_v rfl rfl (r_load (lz0 0 rfl) ty_33)) (oc (ob_v rfl rfl (r_load (lz0 1 rfl) ty_33)) (oc (ob_v rfl rfl (r_call (xs := [.tmp 6, .tmp 7]) (common_z (by omega) (by omega)) (.cons (vq 0 rfl) (.cons (vq 1 rfl) .nil)))) (oc (ob_alc rfl rfl rfl (Str.zero str_int)) (oc (ob_sto rfl rfl rfl (vq 2 rfl) ty_33 (Eq.trans (b := 2) rfl rfl)) o0))))) (fun a w hst => ?_)
  have hst : St B w0 35 [] [⟨2, 33, ptrH, _⟩, ⟨3, 33, ptrH, _⟩, ⟨4, 35, ptrH, _⟩, ⟨5, 33, ptrH, _⟩] a w := hst
  refine thn_normal ?_
  refine wp_seq ?_
  refine go_draw (anc := [[], [], [0, 1], [0, 1, 2]]) (sts := [none, none, none, none]) (news := []) (sp := [.val 9 _, .val 10 _, .val 11 _, .val 12 _]) [.o 3] follows_mixed hst (oc (ob_v rfl rfl (r_load (lz0 3 rfl) ty_33)) (oc (ob_v rfl rfl (r_call (xs := [.const (.int .i64 (1))]) (of_z (by decide) (by decide)) (.cons has_num .nil))) (oc (ob_v rfl rfl (r_call (xs := [.tmp 9, .tmp 10]) (cmp_z (by omega) (by omega)) (.cons (vq 0 rfl) (.cons (vq 1 rfl) .nil)))) (oc (ob_v rfl rfl (r_neq (vq 2 rfl) has_num)) o0)))) (by kernel_rfl) (by kernel_rfl) (by kernel_rfl) (by kernel_rfl) (fun a w hst => ?_)
  have hst : St B w0 35 [(12, _)] [⟨2, 33, ptrH, _⟩, ⟨3, 33, ptrH, _⟩, ⟨4, 35, ptrH, _⟩, ⟨5, 33, ptrH, _⟩] a w := hst
  refine thn_normal ?_
  refine cond_join (fun a w =>  St B w0 35 [] [⟨2, 33, ptrH, ZA c (p.tdiv ((Int.gcd p q : Nat) : Int))⟩, ⟨3, 33, ptrH, ZA d (q.tdiv ((Int.gcd p q : Nat) : Int))⟩, ⟨4, 35, ptrH, RFA ⟨⟨false, []⟩, ⟨false, []⟩⟩⟩, ⟨5, 33, ptrH, ZA (max c d) ((Int.gcd p q : Nat) : Int)⟩] a w) hst (List.mem_of_getElem? (i := 0) rfl) (fun hb0 => ?_) (fun hb0 => ?_) (fun a w hst => ?_)
  · refine wp_seq ?_
    refine gl (sts := [some (6, _), none, none, none]) (news := []) (sp := [.val 14 _, .val 15 _, .val 16 _, .val 13 _, .val 17 _, .val 18 _, .sto 0]) [] hst (oc (ob_v rfl rfl (r_load (lz0 0 rfl) ty_33)) (oc (ob_v rfl rfl (r_load (lz0 3 rfl) ty_33)) (oc (ob_v rfl rfl (r_call (xs := [.tmp 14, .tmp 15]) (divide_z (by omega) (by omega)) (.cons (vq 0 rfl) (.cons (vq 1 rfl) .nil)))) (oc (ob_v rfl rfl (r_move (vq 2 rfl))) (oc (ob_v rfl rfl (r_extract (vq 3 rfl) rfl)) (oc (ob_v rfl rfl (r_extract (vq 3 rfl) rfl)) (oc (ob_sto rfl rfl rfl (vq 4 rfl) ty_33 (Eq.trans (b := 2) rfl rfl)) o0))))))) (fun a w hst => ?_)
    have hst : St B w0 35 [] [⟨2, 33, ptrH, _⟩, ⟨3, 33, ptrH, _⟩, ⟨4, 35, ptrH, _⟩, ⟨5, 33, ptrH, _⟩] a w := hst
    refine thn_normal ?_
    refine gl (sts := [none, some (6, _), none, none]) (news := []) (sp := [.val 20 _, .val 21 _, .val 22 _, .val 19 _, .val 23 _, .val 24 _, .sto 1]) [] hst (oc (ob_v rfl rfl (r_load (lz0 1 rfl) ty_33)) (oc (ob_v rfl rfl (r_load (lz0 3 rfl) ty_33)) (oc (ob_v rfl rfl (r_call (xs := [.tmp 20, .tmp 21]) (divide_z (by omega) (by omega)) (.cons (vq 0 rfl) (.cons (vq 1 rfl) .nil)))) (oc (ob_v rfl rfl (r_move (vq 2 rfl))) (oc (ob_v rfl rfl (r_extract (vq 3 rfl) rfl)) (oc (ob_v rfl rfl (r_extract (vq 3 rfl) rfl)) (oc (ob_sto rfl rfl rfl (vq 4 rfl) ty_33 (Eq.trans (b := 2) rfl rfl)) o0))))))) (fun a w hst => ?_)
    have hst : St B w0 35 [] [⟨2, 33, ptrH, _⟩, ⟨3, 33, ptrH, _⟩, ⟨4, 35, ptrH, _⟩, ⟨5, 33, ptrH, _⟩] a w := hst
    refine thn_normal ?_
    have hst := St.sel hst []
    exact hst
  · refine wp_skip ?_
    refine thn_normal ?_
    have hst := St.sel hst []
    have hst := St.cvA (A' := ZA c (p.tdiv ((Int.gcd p q : Nat) : Int))) hst 0 rfl (congrArg (ZA c) (tdiv_g hb0))
    have hst := St.cvA (A' := ZA d (q.tdiv ((Int.gcd p q : Nat) : Int))) hst 1 rfl (congrArg (ZA d) (tdiv_g hb0))
    exact hst
  refine thn_normal ?_
  refine wp_seq ?_
  refine wp_seq ?_
  refine gl (sts := [none, none, none, none]) (news := []) (sp := [.val 25 _, .val 26 _, .val 27 _]) [.o 2] hst (oc (ob_v rfl rfl (r_load (lz0 1 rfl) ty_33)) (oc (ob_v rfl rfl (r_call (xs := [.tmp 25]) sign_z (.cons (vq 0 rfl) .nil))) (oc (ob_v rfl rfl (r_lss (vq 1 rfl) has_num)) o0))) (fun a w hst => ?_)
  have hst : St B w0 35 [(27, _)] [⟨2, 33, ptrH, _⟩, ⟨3, 33, ptrH, _⟩, ⟨4, 35, ptrH, _⟩, ⟨5, 33, ptrH, _⟩] a w := hst
  refine thn_normal ?_
  refine cond_join (fun a w =>  St B w0 35 [] [⟨2, 33, ptrH, ZA c (Rat.divInt p q).num⟩, ⟨3, 33, ptrH, ZA d ((Rat.divInt p q).den : Int)⟩, ⟨4, 35, ptrH, RFA ⟨⟨false, []⟩, ⟨false, []⟩⟩⟩, ⟨5, 33, ptrH, ZA (max c d) ((Int.gcd p q : Nat) : Int)⟩] a w) hst (List.mem_of_getElem? (i := 0) rfl) (fun hb1 => ?_) (fun hb1 => ?_) (fun a w hst => ?_)
  · refine go_draw (anc := [[], [0], [], [0, 1, 2], [0, 1, 2, 3], [0, 1, 2, 3, 4]]) (sts := [some (4, _), some (5, _), none, none]) (news := []) (sp := [.val 28 _, .val 29 _, .val 30 _, .val 31 _, .sto 0, .sto 1]) [] follows_mixed hst (oc (ob_v rfl rfl (r_load (lz0 0 rfl) ty_33)) (oc (ob_v rfl rfl (r_call (xs := [.tmp 28]) (turned_z (by omega)) (.cons (vq 0 rfl) .nil))) (oc (ob_v rfl rfl (r_load (lz0 1 rfl) ty_33)) (oc (ob_v rfl rfl (r_call (xs := [.tmp 30]) (turned_z (by omega)) (.cons (vq 2 rfl) .nil))) (oc (ob_sto rfl rfl rfl (vq 1 rfl) ty_33 (Eq.trans (b := 2) rfl rfl)) (oc (ob_sto rfl rfl rfl (vq 3 rfl) ty_33 (Eq.trans (b := 2) rfl rfl)) o0)))))) (by kernel_rfl) (by kernel_rfl) (by kernel_rfl) (by kernel_rfl) (fun a w hst => ?_)
    have hst : St B w0 35 [] [⟨2, 33, ptrH, _⟩, ⟨3, 33, ptrH, _⟩, ⟨4, 35, ptrH, _⟩, ⟨5, 33, ptrH, _⟩] a w := hst
    refine thn_normal ?_
    have hst := St.sel hst []
    rw [if_pos (sgn_yes hb1)] at hn1 hn2; rw [hn1, hn2] at hst; exact hst
  · refine wp_skip ?_
    refine thn_normal ?_
    have hst := St.sel hst []
    rw [if_neg (sgn_no hb1)] at hn1 hn2; rw [hn1, hn2] at hst; exact hst
  refine thn_normal ?_
  refine wp_seq ?_
  refine gl (sts := [none, none, some (3, _), none]) (news := []) (sp := [.val 32 _, .val 33 _, .val 34 _, .sto 2]) [] hst (oc (ob_v rfl rfl (r_load (lz0 0 rfl) ty_33)) (oc (ob_v rfl rfl (r_load (lz0 1 rfl) ty_33)) (oc (ob_v rfl rfl (r_build (xs := [(0, .tmp 32), (1, .tmp 33)]) (qs := [(0, _), (1, _)]) str_frac (.cons ⟨rfl, (vq 0 rfl), rfl⟩ (.cons ⟨rfl, (vq 1 rfl), rfl⟩ .nil)))) (oc (ob_sto rfl rfl rfl (vq 2 rfl) ty_35 (Eq.trans (b := 4) rfl rfl)) o0)))) (fun a w hst => ?_)
  have hst : St B w0 35 [] [⟨2, 33, ptrH, _⟩, ⟨3, 33, ptrH, _⟩, ⟨4, 35, ptrH, _⟩, ⟨5, 33, ptrH, _⟩] a w := hst
  refine thn_normal ?_
  refine wp_ret ?_
  refine ret_wk ?_ (ret_cell rfl hst (List.mem_of_getElem? (i := 2) rfl) ty_35)
  exact (cat_wk (.cons (za_mono (Nat.le_max_left _ _)) (.cons (za_mono (Nat.le_max_right _ _)) .nil))).va

end Go.Proofs.Ytljkepdpoelpkaa
