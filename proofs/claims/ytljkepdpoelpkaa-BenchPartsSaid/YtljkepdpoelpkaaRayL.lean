import Derived.Test.YtljkepdpoelpkaaRayE
import Derived.ProofKit
import Derived.OpenShut
import Derived.ChangeOld
import Derived.Below
-- merged
/- Contract of ray.Mul: the product of two matrices. -/
namespace Go.Proofs.Ytljkepdpoelpkaa
open Go Go.RowKit
namespace RayF

end RayF
open RayF
def p4 (m : MQ) (j : Nat) : Rat := [m.a, m.b, m.c, m.d].getD j 0
def mE (m q : MQ) (j : Nat) : Rat := p4 m (j / 2 * 2) * p4 q (j % 2) + p4 m (j / 2 * 2 + 1) * p4 q (j % 2 + 2)
def mulQ (m q : MQ) : MQ := ⟨m.a * q.a + m.b * q.c, m.a * q.b + m.b * q.d, m.c * q.a + m.d * q.c, m.c * q.b + m.d * q.d⟩
def mulL (m q : MQ) (i : Nat) : List As := (List.range i).map fun j => QA 8193 (mE m q j)
theorem mulL_len (m q : MQ) (i : Nat) : (mulL m q i).length = i := by simp [mulL]
theorem mulL_succ (m q : MQ) (i : Nat) : mulL m q i ++ [QA 8193 (mE m q i)] = mulL m q (i + 1) := by simp [mulL, List.range_succ]
theorem mulL_end (m q : MQ) : mulL m q 4 = [QA 8193 (mulQ m q).a, QA 8193 (mulQ m q).b, QA 8193 (mulQ m q).c, QA 8193 (mulQ m q).d] := rfl
theorem arr_at {k : Nat} {m : MQ} {j : Nat} (h : j < 4) : [QA k m.a, QA k m.b, QA k m.c, QA k m.d][j]? = some (QA k (p4 m j)) :=
  match j, h with
  | 0, _ => rfl
  | 1, _ => rfl
  | 2, _ => rfl
  | 3, _ => rfl
theorem ar_quo {i : Nat} (h : i < 4) : IntKind.i64.wrap (Int.tdiv (i : Int) 2) = ((i / 2 : Nat) : Int) :=
  match i, h with
  | 0, _ => by decide
  | 1, _ => by decide
  | 2, _ => by decide
  | 3, _ => by decide
theorem ar_rem {i : Nat} (h : i < 4) : Int.tmod (i : Int) 2 = ((i % 2 : Nat) : Int) :=
  match i, h with
  | 0, _ => by decide
  | 1, _ => by decide
  | 2, _ => by decide
  | 3, _ => by decide
theorem ar_mul {i : Nat} (h : i < 4) : IntKind.i64.wrap (((i / 2 : Nat) : Int) * 2) = ((i / 2 * 2 : Nat) : Int) :=
  match i, h with
  | 0, _ => by decide
  | 1, _ => by decide
  | 2, _ => by decide
  | 3, _ => by decide
theorem ar_one {i : Nat} (h : i < 4) : IntKind.i64.wrap (((i / 2 * 2 : Nat) : Int) + 1) = ((i / 2 * 2 + 1 : Nat) : Int) :=
  match i, h with
  | 0, _ => by decide
  | 1, _ => by decide
  | 2, _ => by decide
  | 3, _ => by decide
theorem ar_two {i : Nat} (h : i < 4) : IntKind.i64.wrap (((i % 2 : Nat) : Int) + 2) = ((i % 2 + 2 : Nat) : Int) :=
  match i, h with
  | 0, _ => by decide
  | 1, _ => by decide
  | 2, _ => by decide
  | 3, _ => by decide
theorem ar_nxt {i : Nat} (h : i < 4) : IntKind.i64.wrap ((i : Int) + 1) = ((i + 1 : Nat) : Int) :=
  match i, h with
  | 0, _ => by decide
  | 1, _ => by decide
  | 2, _ => by decide
  | 3, _ => by decide
theorem app_frac : ∃ it z, Try.prog.info? 35 = some it ∧ it.zero = some z ∧ it.size = 4 ∧ it.bytes = 64 ∧ z.cells.size = 4 := by
  have h : ((Try.prog.info? 35).bind fun it => it.zero.map fun z => (it.size, it.bytes, z.cells.size)) = some (4, 64, 4) := by kernel_rfl
  cases hi : Try.prog.info? 35 with
  | none => rw [hi] at h; simp at h
  | some it =>
    rw [hi] at h
    cases hz : it.zero with
    | none => simp [hz] at h
    | some z =>
      simp [hz] at h
      exact ⟨it, z, rfl, hz, h.1, h.2.1, h.2.2⟩

def mulM (m q : RM) : RM × Int := asM (kM (kM 0 m) q) (mulQ (toM m) (toM q))
end Go.Proofs.Ytljkepdpoelpkaa

/- Contract of chapter 11 helper within; what a product that is answered is. -/
namespace Go.Proofs.Ytljkepdpoelpkaa
open Go Go.RowKit
namespace RayG

end RayG
open RayG
abbrev spcM (t : RF) : RM := ⟨rfOf (Rat.divInt 1 1), t, rfOf (Rat.divInt 0 1), rfOf (Rat.divInt 1 1)⟩
def wiF (m : RM) (t s : RF) : RM × Bool := if (mulM m (spcM t)).2 != 0 then (rm0, false) else ((mulM (spcM s) (mulM m (spcM t)).1).1, (mulM (spcM s) (mulM m (spcM t)).1).2 == 0)
theorem rm_eta (m : RM) : (⟨m.a, m.b, m.c, m.d⟩ : RM) = m := rfl
theorem mul_ok {m q : RM} (h : (mulM m q).2 = 0) : okM m = true ∧ okM q = true ∧ (mulM m q).1 = rmOf (mulQ (toM m) (toM q)) ∧ [(mulQ (toM m) (toM q)).a, (mulQ (toM m) (toM q)).b, (mulQ (toM m) (toM q)).c, (mulQ (toM m) (toM q)).d].any longQ = false := by
  unfold mulM asM at h ⊢
  by_cases he : kM (kM 0 m) q = 0
  · rw [if_pos he] at h ⊢
    have h1 := kM_0 he
    have h2 := kM_0 h1.2
    cases hl : [(mulQ (toM m) (toM q)).a, (mulQ (toM m) (toM q)).b, (mulQ (toM m) (toM q)).c, (mulQ (toM m) (toM q)).d].any longQ with
    | true => rw [hl] at h; simp at h
    | false => exact ⟨h2.1, h1.1, rfl, rfl⟩
  · rw [if_neg he] at h
    exact absurd h he
theorem det_mul (m q : MQ) : detM (mulQ m q) = detM m * detM q := by unfold detM mulQ; grind
theorem mul_okM {m q : RM} (h : (mulM m q).2 = 0) : okM (mulM m q).1 = true := by
  obtain ⟨h1, h2, h3, h4⟩ := mul_ok h
  rw [h3]
  simp only [List.any_cons, List.any_nil, Bool.or_false, Bool.or_eq_false_iff] at h4
  exact okM_of h4.1 h4.2.1 h4.2.2.1 h4.2.2.2 (by rw [det_mul, (okM_q h1).2, (okM_q h2).2]; exact Rat.one_mul 1)
theorem okM_rm {m : RM} (h : okM m = true) : m = rmOf (toM m) := by
  have h1 := (okM_q h).1
  simp only [List.all_cons, List.all_nil, Bool.and_true, Bool.and_eq_true] at h1
  obtain ⟨⟨h2, _⟩, ⟨h3, _⟩, ⟨h4, _⟩, ⟨h5, _⟩⟩ := And.intro (okX_q h1.1) (And.intro (okX_q h1.2.1) (And.intro (okX_q h1.2.2.1) (okX_q h1.2.2.2)))
  cases m
  simp only [rmOf, toM, RM.mk.injEq]
  exact ⟨h2, h3, h4, h5⟩

end Go.Proofs.Ytljkepdpoelpkaa

/- A function that writes a variable that is not its first argument; contracts of the helpers of chapter 9: less, alive, behind. -/
namespace Go.Proofs.Ytljkepdpoelpkaa
open Go Go.RowKit
namespace RayH

end RayH
open RayH
theorem Cm.introK {P : Program} {f : FuncId} {fn : Func} {c : Code} {T : TypeId} {A0 A1 : As} {H : Hd} {pre : List Ar} {post : VA} (p : Nat) (hf : P.funcs[f]? = some fn) (hb : fn.body = some c) (hn : (fn.name == "runtime.NumGoroutine") = false) (hsz : pre.length ≤ fn.ntmps)
    (hm : ∀ g, (p, EqV (H.f g)) ∈ argΓ (pre.map (Ar.va g)))
    (h : ∀ (B g : Nat) (w0 : Bs) (a : Act), St B w0 fn.ntmps (argΓ (pre.map (Ar.va g))) [⟨p, T, H, A0⟩] a w0.w → c.wp P (bPost P fn (RQm B w0 g T A1 post)) a w0.w) : Cm P f T A0 A1 pre post := by
  refine ⟨⟨fn, hf, hn, by rw [hb]; rfl⟩, fun B w g cs args hB hg hp ha => (calls_of_b hf hb (h B g ⟨w, fun k => k = g, false⟩ _ ?_)).mono fun _ _ ⟨v, cs', he, hv, hk, h1, h2⟩ => ⟨v, cs', he, hv, hk, h1, h2⟩⟩
  have hl := ha.length
  have hgw := (Array.getElem?_eq_some_iff.1 hg).1
  have ha' : All2 (fun (A : VA) v => A.p B v w) (pre.map (Ar.va g)) args := by
    clear hl hm h hsz
    induction ha with
    | nil => exact .nil
    | @cons x y xs ys h1 _ ih =>
      refine .cons ?_ ih
      cases x with
      | v A => exact h1
      | w H => exact h1
  have h0 : (⟨args.toArray ++ Array.replicate (fn.ntmps - args.toArray.size) undef, []⟩ : Act).eval (.tmp p) = H.f g :=
    All2.args (N := fn.ntmps - args.toArray.size) ha' (p, EqV (H.f g)) (hm g)
  refine ⟨fun k hk => ?_, DefOk.nil rfl, ?_, Kept.refl _, All2.args ha', fun l hl => ?_, fun l hl m hm hne => ?_⟩
  · rcases hk with hk | hk
    · exact Nat.le_trans hB (Nat.le_trans (Nat.le_of_lt hgw) hk)
    · have : k = g := hk
      omega
  · simp only [Array.size_append, List.size_toArray, Array.size_replicate]
    omega
  · simp at hl
    subst hl
    exact ⟨g, cs, h0, .inr rfl, hg, hp⟩
  · simp at hl hm
    subst hl hm
    exact absurd rfl hne
theorem ret_mK {P : Program} {fn : Func} {B N g p : Nat} {w0 : Bs} {Γ : List (Nat × VA)} {Λ : List Lc} {a : Act} {w : World} {T : TypeId} {H : Hd} {A1 : As} {post : VA} (h : St B w0 N Γ Λ a w) (hm : (p, EqV (H.f g)) ∈ Γ) (hl : (⟨p, T, H, A1⟩ : Lc) ∈ Λ)
    (hb : bPost P fn (RQ B w0 post) .ret a w) : bPost P fn (RQm B w0 g T A1 post) .ret a w := by
  refine bPost_map h hb fun v w h ⟨v', e1, e2, e3⟩ => ?_
  obtain ⟨g', cs, f1, _, f3, f4⟩ := h.locs _ hl
  replace f1 : a.eval (.tmp p) = H.f g' := f1
  have f0 : a.eval (.tmp p) = H.f g := h.vals _ hm
  have : g' = g := Rg.Hd.inj (H := H) (H' := H) (by rw [← f1, ← f0])
  subst this
  exact ⟨v', cs, e1, e2, e3, f3, f4⟩
theorem sub_self {A : As} : Sub A 0 A := fun B cs w h => by
  have hl := A.len B cs w h
  refine ⟨?_, by omega⟩
  rw [List.drop_zero, List.take_of_length_le (by omega)]
  exact h
theorem put_self {A A' : As} (hn : A'.n = A.n) : Put A 0 A' A' := fun B cs c w h h' => by
  have h1 := A.len B cs w h
  have h2 := A'.len B c w h'
  refine ⟨by omega, ?_⟩
  have : splice cs 0 c = c := by unfold splice; simp; omega
  rw [this]
  exact h'
def bhF (ok : Bool) (m q : RM) : Bool := (ok && ((mulM m q).2 == 0)) && ((if okM (mulM m q).1 then (0 : Int) else 1) == 0)

def mayF (m : RM) : Bool := !(decide (matSizeF m > 600) || ((if okM m then (0 : Int) else 1) != 0))
theorem mayF_no {m : RM} (h : (decide (matSizeF m > 600) || ((if okM m then (0 : Int) else 1) != 0)) = true) : mayF m = false := by rw [mayF, h]; rfl
theorem mayF_yes {m : RM} (h : (decide (matSizeF m > 600) || ((if okM m then (0 : Int) else 1) != 0)) = false) : mayF m = true := by rw [mayF, h]; rfl

end Go.Proofs.Ytljkepdpoelpkaa

/- Sizes: how long products, sums and traces of small matrices are; chapter 9: two small matrices, one behind the other. -/
namespace Go.Proofs.Ytljkepdpoelpkaa
open Go Go.RowKit
namespace RayI

end RayI
open RayI
def bQ (k : Nat) (r : Rat) : Prop := lz r.num ≤ k ∧ lz (r.den : Int) ≤ k
theorem bQ_add {c d : Nat} {x y : Rat} (hx : bQ c x) (hy : bQ d y) : bQ (c + d + 1) (x + y) := by
  obtain ⟨x1, x2⟩ := hx
  obtain ⟨y1, y2⟩ := hy
  rw [← rat_add]
  obtain ⟨h1, h2⟩ := lz_low2 (p := x.num * (y.den : Int) + y.num * (x.den : Int)) (q := (x.den : Int) * (y.den : Int)) (den_nz x y)
  have h3 := lz_add (x.num * (y.den : Int)) (y.num * (x.den : Int))
  have h4 := lz_mul x.num y.den
  have h5 := lz_mul y.num x.den
  have h6 := lz_mul x.den y.den
  exact ⟨by omega, by omega⟩
theorem bQ_mul {c d : Nat} {x y : Rat} (hx : bQ c x) (hy : bQ d y) : bQ (c + d) (x * y) := by
  obtain ⟨x1, x2⟩ := hx
  obtain ⟨y1, y2⟩ := hy
  rw [← rat_mul]
  obtain ⟨h1, h2⟩ := lz_low2 (p := x.num * y.num) (q := (x.den : Int) * (y.den : Int)) (den_nz x y)
  have h4 := lz_mul x.num y.num
  have h6 := lz_mul x.den y.den
  exact ⟨by omega, by omega⟩
theorem bQ_long {k : Nat} {r : Rat} (h : bQ k r) (hk : k ≤ 2048) : longQ r = false := longQ_of h hk
def szQ (r : Rat) : Nat := lz r.num + lz (r.den : Int)
theorem bQ_sz (r : Rat) : bQ (szQ r) r := ⟨by unfold szQ; omega, by unfold szQ; omega⟩
def szM (m : MQ) : Nat := szQ m.a + szQ m.b + szQ m.c + szQ m.d
theorem frac_sz {r : Rat} (h : longQ r = false) : fracSizeF (rfOf r) = ((szQ r + 2 : Nat) : Int) := by
  obtain ⟨h1, h2⟩ := longQ_false.1 h
  unfold fracSizeF intSizeF szQ
  show IntKind.i64.wrap (IntKind.i64.wrap (1 + ((lz r.num : Nat) : Int)) + IntKind.i64.wrap (1 + ((lz (r.den : Int) : Nat) : Int))) = _
  rw [wi64 (x := 1 + ((lz r.num : Nat) : Int)) (by omega) (by omega), wi64 (x := 1 + ((lz (r.den : Int) : Nat) : Int)) (by omega) (by omega), wi64 (by omega) (by omega)]
  omega
theorem sz_le {r : Rat} (h : longQ r = false) : szQ r ≤ 4096 := by
  obtain ⟨h1, h2⟩ := longQ_false.1 h
  unfold szQ
  omega
theorem okM_longs {m : RM} (h : okM m = true) : longQ (toM m).a = false ∧ longQ (toM m).b = false ∧ longQ (toM m).c = false ∧ longQ (toM m).d = false := by
  have h3 := (okM_q h).1
  simp only [List.all_cons, List.all_nil, Bool.and_true, Bool.and_eq_true] at h3
  exact ⟨longQ_false.2 (okX_q h3.1).2, longQ_false.2 (okX_q h3.2.1).2, longQ_false.2 (okX_q h3.2.2.1).2, longQ_false.2 (okX_q h3.2.2.2).2⟩
theorem mat_sz {m : RM} (h : okM m = true) : matSizeF m = ((szM (toM m) + 8 : Nat) : Int) := by
  obtain ⟨l1, l2, l3, l4⟩ := okM_longs h
  have s1 := sz_le l1
  have s2 := sz_le l2
  have s3 := sz_le l3
  have s4 := sz_le l4
  have e : matSizeF m = matSizeF (rmOf (toM m)) := congrArg matSizeF (okM_rm h)
  rw [e]
  unfold matSizeF szM
  show IntKind.i64.wrap (IntKind.i64.wrap (IntKind.i64.wrap (fracSizeF (rfOf (toM m).a) + fracSizeF (rfOf (toM m).b)) + fracSizeF (rfOf (toM m).c)) + fracSizeF (rfOf (toM m).d)) = _
  rw [frac_sz l1, frac_sz l2, frac_sz l3, frac_sz l4]
  rw [wi64 (x := ((szQ (toM m).a + 2 : Nat) : Int) + ((szQ (toM m).b + 2 : Nat) : Int)) (by omega) (by omega)]
  rw [wi64 (x := ((szQ (toM m).a + 2 : Nat) : Int) + ((szQ (toM m).b + 2 : Nat) : Int) + ((szQ (toM m).c + 2 : Nat) : Int)) (by omega) (by omega)]
  rw [wi64 (by omega) (by omega)]
  omega
theorem may_sz {m : RM} (h : mayF m = true) : okM m = true ∧ szM (toM m) ≤ 592 := by
  unfold mayF at h
  rw [Bool.not_eq_true', Bool.or_eq_false_iff, decide_eq_false_iff_not] at h
  obtain ⟨h1, h2⟩ := h
  have hm : okM m = true := by
    cases hm : okM m with
    | true => rfl
    | false => rw [hm] at h2; simp at h2
  rw [mat_sz hm] at h1
  exact ⟨hm, by omega⟩
theorem mul_long {m q : MQ} (h : szM m + szM q ≤ 1200) : longQ (mulQ m q).a = false ∧ longQ (mulQ m q).b = false ∧ longQ (mulQ m q).c = false ∧ longQ (mulQ m q).d = false := by
  unfold szM at h
  unfold mulQ
  exact ⟨bQ_long (bQ_add (bQ_mul (bQ_sz m.a) (bQ_sz q.a)) (bQ_mul (bQ_sz m.b) (bQ_sz q.c))) (by omega), bQ_long (bQ_add (bQ_mul (bQ_sz m.a) (bQ_sz q.b)) (bQ_mul (bQ_sz m.b) (bQ_sz q.d))) (by omega),
    bQ_long (bQ_add (bQ_mul (bQ_sz m.c) (bQ_sz q.a)) (bQ_mul (bQ_sz m.d) (bQ_sz q.c))) (by omega), bQ_long (bQ_add (bQ_mul (bQ_sz m.c) (bQ_sz q.b)) (bQ_mul (bQ_sz m.d) (bQ_sz q.d))) (by omega)⟩
theorem mul_eval {m q : RM} (hm : okM m = true) (hq : okM q = true) (hl : longQ (mulQ (toM m) (toM q)).a = false ∧ longQ (mulQ (toM m) (toM q)).b = false ∧ longQ (mulQ (toM m) (toM q)).c = false ∧ longQ (mulQ (toM m) (toM q)).d = false) : mulM m q = (rmOf (mulQ (toM m) (toM q)), 0) := by
  have hk : kM (kM 0 m) q = 0 := by unfold kM; rw [hm, hq]; rfl
  unfold mulM asM
  rw [if_pos hk]
  simp [hl.1, hl.2.1, hl.2.2.1, hl.2.2.2]
theorem beh_eval {m q : RM} (hm : okM m = true) (hq : okM q = true) (hl : longQ (mulQ (toM m) (toM q)).a = false ∧ longQ (mulQ (toM m) (toM q)).b = false ∧ longQ (mulQ (toM m) (toM q)).c = false ∧ longQ (mulQ (toM m) (toM q)).d = false) : bhF true m q = true ∧ (mulM m q).1 = rmOf (mulQ (toM m) (toM q)) ∧ okM (rmOf (mulQ (toM m) (toM q))) = true := by
  have e := mul_eval hm hq hl
  have h2 : (mulM m q).2 = 0 := congrArg Prod.snd e
  have h1 : (mulM m q).1 = rmOf (mulQ (toM m) (toM q)) := congrArg Prod.fst e
  have h3 := mul_okM h2
  refine ⟨?_, h1, h1 ▸ h3⟩
  unfold bhF
  rw [h2, h3]
  rfl

end Go.Proofs.Ytljkepdpoelpkaa

/- How long the entries of a product of three small matrices are: rows over a common denominator. -/
namespace Go.Proofs.Ytljkepdpoelpkaa
open Go Go.RowKit
namespace RayJ

end RayJ
open RayJ
/-- two numbers over one denominator. -/
def rep2 (k : Nat) (x y : Rat) : Prop := ∃ p q D : Int, D ≠ 0 ∧ x = (p : Rat) / (D : Rat) ∧ y = (q : Rat) / (D : Rat) ∧ lz p ≤ k ∧ lz q ≤ k ∧ lz D ≤ k
theorem nd_eq (x : Rat) : x = (x.num : Rat) / ((x.den : Int) : Rat) := by rw [← Rat.divInt_eq_div]; exact (Rat.num_divInt_den x).symm
theorem den_ne (x : Rat) : ((x.den : Int) : Rat) ≠ 0 := by
  have := x.den_nz
  intro h
  exact this (by exact_mod_cast h)
theorem rep2_two (x y : Rat) : rep2 (szQ x + szQ y) x y := by
  have hx := nd_eq x
  have hy := nd_eq y
  have dx := den_ne x
  have dy := den_ne y
  refine ⟨x.num * y.den, y.num * x.den, (x.den : Int) * y.den, Int.mul_ne_zero (by have := x.den_nz; omega) (by have := y.den_nz; omega), ?_, ?_, ?_, ?_, ?_⟩
  · rw [Rat.intCast_mul, Rat.intCast_mul]
    generalize ((x.den : Int) : Rat) = d at *
    generalize ((y.den : Int) : Rat) = e at *
    generalize (x.num : Rat) = p at *
    grind
  · rw [Rat.intCast_mul, Rat.intCast_mul]
    generalize ((x.den : Int) : Rat) = d at *
    generalize ((y.den : Int) : Rat) = e at *
    generalize (y.num : Rat) = p at *
    grind
  · have := lz_mul x.num y.den; unfold szQ; omega
  · have := lz_mul y.num x.den; unfold szQ; omega
  · have := lz_mul x.den y.den; unfold szQ; omega
theorem rep2_bQ {k : Nat} {x y : Rat} (h : rep2 k x y) : bQ k x ∧ bQ k y := by
  obtain ⟨p, q, D, hD, rfl, rfl, h1, h2, h3⟩ := h
  rw [← Rat.divInt_eq_div, ← Rat.divInt_eq_div]
  obtain ⟨a1, a2⟩ := lz_low2 (p := p) hD
  obtain ⟨b1, b2⟩ := lz_low2 (p := q) hD
  exact ⟨⟨by omega, by omega⟩, ⟨by omega, by omega⟩⟩
theorem lz_mul4 (a b c d e : Int) : lz (a * b * c * d * e) ≤ lz a + lz b + lz c + lz d + lz e := by
  have h1 := lz_mul (a * b * c * d) e
  have h2 := lz_mul (a * b * c) d
  have h3 := lz_mul (a * b) c
  have h4 := lz_mul a b
  omega
theorem rep2_mul {k : Nat} {x y u v s t : Rat} (h : rep2 k x y) : rep2 (k + (szQ u + szQ v + szQ s + szQ t) + 1) (x * u + y * v) (x * s + y * t) := by
  obtain ⟨p, q, D, hD, hx, hy, h1, h2, h3⟩ := h
  have nz : ∀ r : Rat, (r.den : Int) ≠ 0 := fun r => by have := r.den_nz; omega
  have hDr : (D : Rat) ≠ 0 := fun e => hD (by exact_mod_cast e)
  have eu := nd_eq u
  have ev := nd_eq v
  have es := nd_eq s
  have et := nd_eq t
  have du := den_ne u
  have dv := den_ne v
  have ds := den_ne s
  have dt := den_ne t
  refine ⟨p * u.num * v.den * s.den * t.den + q * v.num * u.den * s.den * t.den, p * s.num * u.den * v.den * t.den + q * t.num * u.den * v.den * s.den, D * u.den * v.den * s.den * t.den,
    Int.mul_ne_zero (Int.mul_ne_zero (Int.mul_ne_zero (Int.mul_ne_zero hD (nz u)) (nz v)) (nz s)) (nz t), ?_, ?_, ?_, ?_, ?_⟩
  · rw [hx, hy]
    simp only [Rat.intCast_add, Rat.intCast_mul]
    generalize ((u.den : Int) : Rat) = d1 at *
    generalize ((v.den : Int) : Rat) = d2 at *
    generalize ((s.den : Int) : Rat) = d3 at *
    generalize ((t.den : Int) : Rat) = d4 at *
    generalize (u.num : Rat) = n1 at *
    generalize (v.num : Rat) = n2 at *
    clear es et
    subst eu ev
    grind
  · rw [hx, hy]
    simp only [Rat.intCast_add, Rat.intCast_mul]
    generalize ((u.den : Int) : Rat) = d1 at *
    generalize ((v.den : Int) : Rat) = d2 at *
    generalize ((s.den : Int) : Rat) = d3 at *
    generalize ((t.den : Int) : Rat) = d4 at *
    generalize (s.num : Rat) = n1 at *
    generalize (t.num : Rat) = n2 at *
    clear eu ev
    subst es et
    grind
  · have e1 := lz_add (p * u.num * v.den * s.den * t.den) (q * v.num * u.den * s.den * t.den)
    have e2 := lz_mul4 p u.num v.den s.den t.den
    have e3 := lz_mul4 q v.num u.den s.den t.den
    unfold szQ
    omega
  · have e1 := lz_add (p * s.num * u.den * v.den * t.den) (q * t.num * u.den * v.den * s.den)
    have e2 := lz_mul4 p s.num u.den v.den t.den
    have e3 := lz_mul4 q t.num u.den v.den s.den
    unfold szQ
    omega
  · have e2 := lz_mul4 D u.den v.den s.den t.den
    unfold szQ
    omega
theorem mul3_long {m n o : MQ} (h : szM m + szM n + szM o ≤ 1800) : longQ (mulQ (mulQ m n) o).a = false ∧ longQ (mulQ (mulQ m n) o).b = false ∧ longQ (mulQ (mulQ m n) o).c = false ∧ longQ (mulQ (mulQ m n) o).d = false := by
  unfold szM at h
  have r1 := rep2_bQ (rep2_mul (u := o.a) (v := o.c) (s := o.b) (t := o.d) (rep2_mul (u := n.a) (v := n.c) (s := n.b) (t := n.d) (rep2_two m.a m.b)))
  have r2 := rep2_bQ (rep2_mul (u := o.a) (v := o.c) (s := o.b) (t := o.d) (rep2_mul (u := n.a) (v := n.c) (s := n.b) (t := n.d) (rep2_two m.c m.d)))
  unfold mulQ
  exact ⟨bQ_long r1.1 (by omega), bQ_long r1.2 (by omega), bQ_long r2.1 (by omega), bQ_long r2.2 (by omega)⟩
theorem mul_assoc3 (m n o : MQ) : mulQ m (mulQ n o) = mulQ (mulQ m n) o := by
  unfold mulQ
  simp only [MQ.mk.injEq]
  refine ⟨by grind, by grind, by grind, by grind⟩

end Go.Proofs.Ytljkepdpoelpkaa

/- A call behind a guard that is surely met, which writes a variable; Back and Mirror on small matrices. -/
namespace Go.Proofs.Ytljkepdpoelpkaa
open Go Go.RowKit
namespace RayK

end RayK
open RayK
section
variable {P : Program} {R : Rg} {Q : Exit → Act → World → Prop} {B i : Nat} {w0 : Bs}
theorem ob_calG {d s e j dj : Nat} {want b : Bool} {T : TypeId} {H : Hd} {cr : Option Nat} {A0 A1 : As} {A : VA} {f : FuncId} {xs : List Operand} {pre : List Ar} {at_ : Array TypeId} {ty : TypeId} {ps : String} {af : Array Edge}
    (hs : R.sp[i]? = some (.cal d A e)) (he : R.les[e]? = some ⟨s, T, H, cr, A0, some (i, A1)⟩) (ho : R.ops[i]? = some ⟨some d, .call ⟨.value (.func f), xs.toArray, at_⟩, ty, ps, af, some (j, want)⟩)
    (hj : R.dst j = some dj) (hb : Has R B w0 i (.tmp dj) (Bo b)) (hdj : dj < R.N) (hw : b = want)
    (hc : Cm P f T A0 A1 pre A) (hx : All2 (ArH R B w0 i s H) pre xs) : R.Ob P Q B w0 i := by
  unfold Rg.Ob
  simp only [hs, he]
  intro a w av g cs h1 hB h3 h4 _ K hK
  obtain ⟨⟨fn, hf, hn, hb2⟩, hcall⟩ := hc
  have hwant : Region.wanted (⟨some d, .call ⟨.value (.func f), xs.toArray, at_⟩, ty, ps, af, some (j, want)⟩ : Oper) (yielded R.ops a.tmps) = true := by
    rw [wanted_of rfl av hj hdj hb, hw]
    simp
  have hrun : (execOp a.eval ⟨some d, .call ⟨.value (.func f), xs.toArray, at_⟩, ty, ps, af, some (j, want)⟩).run P w = .ok (.enter f (xs.map a.eval).toArray) w := by
    simp only [execOp, resolve, Act.eval, Deferred.ofValue, Sem.run_bind, Sem.run_pure, Result.andThen_ok, invoke, run_callFunc hf hn hb2]
    simp
  have hop : Oper.wp P (⟨some d, .call ⟨.value (.func f), xs.toArray, at_⟩, ty, ps, af, some (j, want)⟩ : Oper) a w K Q := by
    unfold Oper.wp
    rw [hrun]
    refine (hcall B w g cs _ hB h3 h4 ?_).mono fun e w' ⟨v, cs', he, hv, hg, h5, h6⟩ => by subst he; exact hK v cs' w' hg h5 h6 hv
    clear hcall hrun ho hs he hwant
    induction hx with
    | nil => exact .nil
    | @cons x y _ _ h _ ih =>
      refine .cons ?_ ih
      cases x with
      | v A => exact h a w av
      | w H' =>
        obtain ⟨rfl, h2⟩ := h
        exact (h2 a w av).trans h1
  unfold wpOp
  rw [ho]
  simp only [hwant, if_true]
  exact .inl hop
theorem r_same {s : Nat} {T : TypeId} {c : Bool} {f : FuncId} {xs : List Operand} {pre : List Ar} {post : VA} {at_ : Array TypeId} (hc : Cm P f T (BoA c) (BoA c) pre post) (hl : Loc R i s T (BoA c)) (hx : All2 (ArH R B w0 i s ptrH) pre xs) :
    Wv P Q R B w0 i (.call ⟨.value (.func f), xs.toArray, at_⟩) post := by
  intro d T' ps af gd a w av K hK
  obtain ⟨g, cs, h1, hmay, h3, h4⟩ := hl.ok av
  obtain ⟨⟨fn, hf, hn, hb2⟩, hcall⟩ := hc
  have hrun : (execOp a.eval ⟨some d, .call ⟨.value (.func f), xs.toArray, at_⟩, T', ps, af, gd⟩).run P w = .ok (.enter f (xs.map a.eval).toArray) w := by
    simp only [execOp, resolve, Act.eval, Deferred.ofValue, Sem.run_bind, Sem.run_pure, Result.andThen_ok, invoke, run_callFunc hf hn hb2]
    simp
  unfold Oper.wp
  rw [hrun]
  refine (hcall B w g cs _ (av.lo g hmay) h3 h4 ?_).mono fun e w' ⟨v, cs', he, hv, hg, h5, h6⟩ => by
    subst he
    have e1 : cs' = cs := (show cs' = [.bool c] from h6).trans (show cs = [.bool c] from h4).symm
    subst e1
    refine hK v w' ⟨hg.os, hg.tape, hg.output, hg.size, fun k hk => ?_⟩ hv
    by_cases hkg : k = g
    · subst hkg
      exact h5.trans h3.symm
    · exact hg.block k hk hkg
  clear hcall hrun hK
  induction hx with
  | nil => exact .nil
  | @cons x y _ _ h _ ih =>
    refine .cons ?_ ih
    cases x with
    | v A => exact h a w av
    | w H' =>
      obtain ⟨rfl, h2⟩ := h
      exact (h2 a w av).trans h1
end
theorem long_min (x : Rat) : longQ (-x) = longQ x := by
  have e : -x = 0 - x := by grind
  rw [e, long_neg]
theorem asM_of {e : Int} {q : MQ} (he : e = 0) (hl : longQ q.a = false ∧ longQ q.b = false ∧ longQ q.c = false ∧ longQ q.d = false) : asM e q = (rmOf q, 0) := by
  unfold asM
  rw [if_pos he]
  simp [hl.1, hl.2.1, hl.2.2.1, hl.2.2.2]
theorem kM_of {m : RM} (hm : okM m = true) : kM 0 m = 0 := by unfold kM; rw [hm]; rfl
theorem back_eval {m : RM} (hm : okM m = true) : backF m = (rmOf (backQ (toM m)), 0) ∧ okM (rmOf (backQ (toM m))) = true := by
  obtain ⟨l1, l2, l3, l4⟩ := okM_longs hm
  have h2 : longQ (-(toM m).b) = false := by rw [long_min]; exact l2
  have h3 : longQ (-(toM m).c) = false := by rw [long_min]; exact l3
  refine ⟨asM_of (kM_of hm) ⟨l4, h2, h3, l1⟩, okM_of l4 h2 h3 l1 ?_⟩
  have hd := (okM_q hm).2
  unfold detM backQ at *
  simp only
  grind
theorem mir_eval {m : RM} (hm : okM m = true) : mirF m = (rmOf (mirQ (toM m)), 0) ∧ okM (rmOf (mirQ (toM m))) = true := by
  obtain ⟨l1, l2, l3, l4⟩ := okM_longs hm
  refine ⟨asM_of (kM_of hm) ⟨l4, l2, l3, l1⟩, okM_of l4 l2 l3 l1 ?_⟩
  have hd := (okM_q hm).2
  unfold detM mirQ at *
  simp only
  grind
theorem back_back (m q : MQ) : backQ (mulQ m q) = mulQ (backQ q) (backQ m) := by
  unfold backQ mulQ
  simp only [MQ.mk.injEq]
  refine ⟨by grind, by grind, by grind, by grind⟩
theorem mir_mir (m q : MQ) : mirQ (mulQ m q) = mulQ (mirQ q) (mirQ m) := by
  unfold mirQ mulQ
  simp only [MQ.mk.injEq]
  refine ⟨by grind, by grind, by grind, by grind⟩
theorem back_mul {m : MQ} (hd : detM m = 1) : mulQ (backQ m) m = ⟨1, 0, 0, 1⟩ ∧ mulQ m (backQ m) = ⟨1, 0, 0, 1⟩ := by
  unfold detM at hd
  unfold backQ mulQ
  simp only [MQ.mk.injEq]
  exact ⟨⟨by grind, by grind, by grind, by grind⟩, ⟨by grind, by grind, by grind, by grind⟩⟩
theorem sz_back (m : MQ) : szM (backQ m) = szM m := by
  have h : ∀ x : Rat, szQ (-x) = szQ x := fun x => by
    unfold szQ
    rw [Rat.neg_num, Rat.neg_den, lz_neg]
  unfold szM backQ
  simp only [h]
  omega
theorem sz_mir (m : MQ) : szM (mirQ m) = szM m := by
  unfold szM mirQ
  simp only
  omega

end Go.Proofs.Ytljkepdpoelpkaa

/- Chapter 9: two matrices and two rays as arguments; rays through small matrices. -/
namespace Go.Proofs.Ytljkepdpoelpkaa
open Go Go.RowKit
namespace RayL

end RayL
open RayL
def okR (r : RR) : Bool := [r.y, r.u].all okX
def szY (r : YQ) : Nat := szQ r.y + szQ r.u
theorem okR_longs {r : RR} (h : okR r = true) : longQ (toY r).y = false ∧ longQ (toY r).u = false := by
  unfold okR at h
  simp only [List.all_cons, List.all_nil, Bool.and_true, Bool.and_eq_true] at h
  exact ⟨longQ_false.2 (okX_q h.1).2, longQ_false.2 (okX_q h.2).2⟩
theorem okR_rr {r : RR} (h : okR r = true) : r = rrOf (toY r) := by
  unfold okR at h
  simp only [List.all_cons, List.all_nil, Bool.and_true, Bool.and_eq_true] at h
  obtain ⟨⟨h2, _⟩, ⟨h3, _⟩⟩ := And.intro (okX_q h.1) (okX_q h.2)
  cases r
  simp only [rrOf, toY, RR.mk.injEq]
  exact ⟨h2, h3⟩
theorem okR_of {r : YQ} (h1 : longQ r.y = false) (h2 : longQ r.u = false) : okR (rrOf r) = true := by
  unfold okR rrOf
  simp only [List.all_cons, List.all_nil, Bool.and_true, Bool.and_eq_true, okX_of, h1, h2]
  exact ⟨rfl, rfl⟩
theorem toY_of (r : YQ) : toY (rrOf r) = r := by
  unfold toY rrOf
  simp only [toQ_of]
theorem ray_sz {r : RR} (h : okR r = true) : raySizeF r = ((szY (toY r) + 4 : Nat) : Int) := by
  obtain ⟨l1, l2⟩ := okR_longs h
  have s1 := sz_le l1
  have s2 := sz_le l2
  have e : raySizeF r = raySizeF (rrOf (toY r)) := congrArg raySizeF (okR_rr h)
  rw [e]
  unfold raySizeF szY
  show IntKind.i64.wrap (fracSizeF (rfOf (toY r).y) + fracSizeF (rfOf (toY r).u)) = _
  rw [frac_sz l1, frac_sz l2, wi64 (by omega) (by omega)]
  omega
theorem kR_of {r : RR} (h : okR r = true) : kR 0 r = 0 := by unfold kR; unfold okR at h; rw [h]; rfl
theorem asY_of {e : Int} {q : YQ} (he : e = 0) (hl : longQ q.y = false ∧ longQ q.u = false) : asY e q = (rrOf q, 0) := by
  unfold asY
  rw [if_pos he]
  simp [hl.1, hl.2]
theorem go_eval {M : MQ} {R : YQ} (hm : okM (rmOf M) = true) (hr : okR (rrOf R) = true) (hl : longQ (goQ M R).y = false ∧ longQ (goQ M R).u = false) : goF (rmOf M) (rrOf R) = (rrOf (goQ M R), 0) ∧ okR (rrOf (goQ M R)) = true := by
  refine ⟨?_, okR_of hl.1 hl.2⟩
  unfold goF
  rw [kM_of hm, kR_of hr, toM_of, toY_of]
  exact asY_of rfl hl
theorem go_long {M : MQ} {R : YQ} (h : szM M + 2 * szY R ≤ 2000) : longQ (goQ M R).y = false ∧ longQ (goQ M R).u = false := by
  unfold szM szY at h
  unfold goQ
  exact ⟨bQ_long (bQ_add (bQ_mul (bQ_sz M.a) (bQ_sz R.y)) (bQ_mul (bQ_sz M.b) (bQ_sz R.u))) (by omega), bQ_long (bQ_add (bQ_mul (bQ_sz M.c) (bQ_sz R.y)) (bQ_mul (bQ_sz M.d) (bQ_sz R.u))) (by omega)⟩
theorem go_go (N M : MQ) (R : YQ) : goQ N (goQ M R) = goQ (mulQ N M) R := by
  unfold goQ mulQ
  simp only [YQ.mk.injEq]
  exact ⟨by grind, by grind⟩
theorem go_go_long {N M : MQ} {R : YQ} (h : szM N + szM M + 2 * szY R ≤ 2000) : longQ (goQ N (goQ M R)).y = false ∧ longQ (goQ N (goQ M R)).u = false := by
  unfold szM szY at h
  have hy := bQ_add (bQ_mul (bQ_sz M.a) (bQ_sz R.y)) (bQ_mul (bQ_sz M.b) (bQ_sz R.u))
  have hu := bQ_add (bQ_mul (bQ_sz M.c) (bQ_sz R.y)) (bQ_mul (bQ_sz M.d) (bQ_sz R.u))
  show longQ (N.a * (M.a * R.y + M.b * R.u) + N.b * (M.c * R.y + M.d * R.u)) = false ∧ longQ (N.c * (M.a * R.y + M.b * R.u) + N.d * (M.c * R.y + M.d * R.u)) = false
  exact ⟨bQ_long (bQ_add (bQ_mul (bQ_sz N.a) hy) (bQ_mul (bQ_sz N.b) hu)) (by omega), bQ_long (bQ_add (bQ_mul (bQ_sz N.c) hy) (bQ_mul (bQ_sz N.d) hu)) (by omega)⟩
theorem cross_go {M : MQ} (hd : detM M = 1) (R R' : YQ) : crossQ (goQ M R) (goQ M R') = crossQ R R' := by
  unfold detM at hd
  unfold crossQ goQ
  simp only
  have : (M.a * R.y + M.b * R.u) * (M.c * R'.y + M.d * R'.u) - (M.c * R.y + M.d * R.u) * (M.a * R'.y + M.b * R'.u) = (M.a * M.d - M.b * M.c) * (R.y * R'.u - R.u * R'.y) := by grind
  rw [this, hd, Rat.one_mul]
theorem back_go {M : MQ} (hd : detM M = 1) (R : YQ) : goQ (backQ M) (goQ M R) = R := by
  unfold detM at hd
  unfold goQ backQ
  cases R
  simp only [YQ.mk.injEq]
  exact ⟨by grind, by grind⟩
def tuQ (r : YQ) : YQ := ⟨r.y, -r.u⟩
theorem mir_go {M : MQ} (hd : detM M = 1) (R : YQ) : goQ (mirQ M) (tuQ (goQ M R)) = tuQ R := by
  unfold detM at hd
  unfold goQ mirQ tuQ
  simp only [YQ.mk.injEq]
  exact ⟨by grind, by grind⟩
theorem cr_eval {R R' : YQ} (h1 : okR (rrOf R) = true) (h2 : okR (rrOf R') = true) (hl : longQ (crossQ R R') = false) : crF (rrOf R) (rrOf R') = (rfOf (crossQ R R'), 0) := by
  unfold crF
  rw [kR_of h1, kR_of h2, toY_of, toY_of]
  unfold asF
  rw [if_pos rfl]
  exact ansF_ok (longQ_false.1 hl)
theorem cr_ok {r s : RR} (h : (crF r s).2 = 0) : okR r = true ∧ okR s = true ∧ longQ (crossQ (toY r) (toY s)) = false := by
  unfold crF asF at h
  by_cases he : kR (kR 0 r) s = 0
  · rw [if_pos he] at h
    have h1 := kR_0 he
    have h2 := kR_0 h1.2
    refine ⟨h2.1, h1.1, ?_⟩
    cases hl : longQ (crossQ (toY r) (toY s)) with
    | false => rfl
    | true => unfold ansF at h; rw [hl] at h; simp at h
  · rw [if_neg he] at h
    exact absurd h he

end Go.Proofs.Ytljkepdpoelpkaa
