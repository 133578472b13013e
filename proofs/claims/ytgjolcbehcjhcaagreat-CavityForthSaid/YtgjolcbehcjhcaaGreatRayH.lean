/- A function that writes a variable that is not its first argument; contracts of the helpers of chapter 9: less, alive, behind. -/
import Derived.Test.YtgjolcbehcjhcaaGreatRayG
namespace Go.Proofs.YtgjolcbehcjhcaaGreat
open Go Go.RowKit
namespace RayH

end RayH
open RayH
theorem Cm.introK {P : Program} {f : FuncId} {fn : Func} {c : Code} {T : TypeId} {A0 A1 : As} {H : Hd} {pre : List Ar} {post : VA} (p : Nat) (hf : P.funcs[f]? = some fn) (hb : fn.body = some c) (hn : (fn.name == "runtime.NumGoroutine") = false) (hsz : pre.length ≤ fn.ntmps)
    (hm : ∀ g, (p, EqV (H.f g)) ∈ argΓ (pre.map (Ar.va g)))
    (h : ∀ (B g : Nat) (w0 : Bs) (a : Act), St B w0 fn.ntmps (argΓ (pre.map (Ar.va g))) [⟨p, T, H, A0⟩] a w0.w → c.wp P (bPost P fn (RQm B w0 g T A1 post)) a w0.w) : Cm P f T A0 A1 pre post := by
  refine ⟨⟨fn, hf, hn, by rw [hb]; rfl⟩, fun B w g cs args hB hg hp ha => (calls_of_b hf hb (h B g ⟨w, fun k => k = g, false⟩ _ ?_)).mono fun _ _ ⟨v, cs', he, hv, hk, h1, h2⟩ => ⟨v, cs', he, hv, hk, h1, h2⟩⟩
  have hl := ha.length
  have hgw := (Array.getElem?_eq_some_iff.1 hg).1
  have ha' : All2 (fun (A : VA) v => A.p B v w) (pre.map (Ar.va g)) args := by
    clear hl hm h hsz
    induction ha with
    | nil => exact .nil
    | @cons x y xs ys h1 _ ih =>
      refine .cons ?_ ih
      cases x with
      | v A => exact h1
      | w H => exact h1
  have h0 : (⟨args.toArray ++ Array.replicate (fn.ntmps - args.toArray.size) undef, []⟩ : Act).eval (.tmp p) = H.f g :=
    All2.args (N := fn.ntmps - args.toArray.size) ha' (p, EqV (H.f g)) (hm g)
  refine ⟨fun k hk => ?_, DefOk.nil rfl, ?_, Kept.refl _, All2.args ha', fun l hl => ?_, fun l hl m hm hne => ?_⟩
  · rcases hk with hk | hk
    · exact Nat.le_trans hB (Nat.le_trans (Nat.le_of_lt hgw) hk)
    · have : k = g := hk
      omega
  · simp only [Array.size_append, List.size_toArray, Array.size_replicate]
    omega
  · simp at hl
    subst hl
    exact ⟨g, cs, h0, .inr rfl, hg, hp⟩
  · simp at hl hm
    subst hl hm
    exact absurd rfl hne
theorem ret_mK {P : Program} {fn : Func} {B N g p : Nat} {w0 : Bs} {Γ : List (Nat × VA)} {Λ : List Lc} {a : Act} {w : World} {T : TypeId} {H : Hd} {A1 : As} {post : VA} (h : St B w0 N Γ Λ a w) (hm : (p, EqV (H.f g)) ∈ Γ) (hl : (⟨p, T, H, A1⟩ : Lc) ∈ Λ)
    (hb : bPost P fn (RQ B w0 post) .ret a w) : bPost P fn (RQm B w0 g T A1 post) .ret a w := by
  refine bPost_map h hb fun v w h ⟨v', e1, e2, e3⟩ => ?_
  obtain ⟨g', cs, f1, _, f3, f4⟩ := h.locs _ hl
  replace f1 : a.eval (.tmp p) = H.f g' := f1
  have f0 : a.eval (.tmp p) = H.f g := h.vals _ hm
  have : g' = g := Rg.Hd.inj (H := H) (H' := H) (by rw [← f1, ← f0])
  subst this
  exact ⟨v', cs, e1, e2, e3, f3, f4⟩
theorem sub_self {A : As} : Sub A 0 A := fun B cs w h => by
  have hl := A.len B cs w h
  refine ⟨?_, by omega⟩
  rw [List.drop_zero, List.take_of_length_le (by omega)]
  exact h
theorem put_self {A A' : As} (hn : A'.n = A.n) : Put A 0 A' A' := fun B cs c w h h' => by
  have h1 := A.len B cs w h
  have h2 := A'.len B c w h'
  refine ⟨by omega, ?_⟩
  have : splice cs 0 c = c := by unfold splice; simp; omega
  rw [this]
  exact h'
def bhF (ok : Bool) (m q : RM) : Bool := (ok && ((mulM m q).2 == 0)) && ((if okM (mulM m q).1 then (0 : Int) else 1) == 0)

def mayF (m : RM) : Bool := !(decide (matSizeF m > 600) || ((if okM m then (0 : Int) else 1) != 0))
theorem mayF_no {m : RM} (h : (decide (matSizeF m > 600) || ((if okM m then (0 : Int) else 1) != 0)) = true) : mayF m = false := by rw [mayF, h]; rfl
theorem mayF_yes {m : RM} (h : (decide (matSizeF m > 600) || ((if okM m then (0 : Int) else 1) != 0)) = false) : mayF m = true := by rw [mayF, h]; rfl

end Go.Proofs.YtgjolcbehcjhcaaGreat
