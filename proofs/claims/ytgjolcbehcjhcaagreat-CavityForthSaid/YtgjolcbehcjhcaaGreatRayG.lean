/- Contract of chapter 11 helper within; what a product that is answered is. -/
import Derived.Test.YtgjolcbehcjhcaaGreatRayF
namespace Go.Proofs.YtgjolcbehcjhcaaGreat
open Go Go.RowKit
namespace RayG

end RayG
open RayG
abbrev spcM (t : RF) : RM := ⟨rfOf (Rat.divInt 1 1), t, rfOf (Rat.divInt 0 1), rfOf (Rat.divInt 1 1)⟩
def wiF (m : RM) (t s : RF) : RM × Bool := if (mulM m (spcM t)).2 != 0 then (rm0, false) else ((mulM (spcM s) (mulM m (spcM t)).1).1, (mulM (spcM s) (mulM m (spcM t)).1).2 == 0)
theorem rm_eta (m : RM) : (⟨m.a, m.b, m.c, m.d⟩ : RM) = m := rfl
theorem mul_ok {m q : RM} (h : (mulM m q).2 = 0) : okM m = true ∧ okM q = true ∧ (mulM m q).1 = rmOf (mulQ (toM m) (toM q)) ∧ [(mulQ (toM m) (toM q)).a, (mulQ (toM m) (toM q)).b, (mulQ (toM m) (toM q)).c, (mulQ (toM m) (toM q)).d].any longQ = false := by
  unfold mulM asM at h ⊢
  by_cases he : kM (kM 0 m) q = 0
  · rw [if_pos he] at h ⊢
    have h1 := kM_0 he
    have h2 := kM_0 h1.2
    cases hl : [(mulQ (toM m) (toM q)).a, (mulQ (toM m) (toM q)).b, (mulQ (toM m) (toM q)).c, (mulQ (toM m) (toM q)).d].any longQ with
    | true => rw [hl] at h; simp at h
    | false => exact ⟨h2.1, h1.1, rfl, rfl⟩
  · rw [if_neg he] at h
    exact absurd h he
theorem det_mul (m q : MQ) : detM (mulQ m q) = detM m * detM q := by unfold detM mulQ; grind
theorem mul_okM {m q : RM} (h : (mulM m q).2 = 0) : okM (mulM m q).1 = true := by
  obtain ⟨h1, h2, h3, h4⟩ := mul_ok h
  rw [h3]
  simp only [List.any_cons, List.any_nil, Bool.or_false, Bool.or_eq_false_iff] at h4
  exact okM_of h4.1 h4.2.1 h4.2.2.1 h4.2.2.2 (by rw [det_mul, (okM_q h1).2, (okM_q h2).2]; exact Rat.one_mul 1)
theorem okM_rm {m : RM} (h : okM m = true) : m = rmOf (toM m) := by
  have h1 := (okM_q h).1
  simp only [List.all_cons, List.all_nil, Bool.and_true, Bool.and_eq_true] at h1
  obtain ⟨⟨h2, _⟩, ⟨h3, _⟩, ⟨h4, _⟩, ⟨h5, _⟩⟩ := And.intro (okX_q h1.1) (And.intro (okX_q h1.2.1) (And.intro (okX_q h1.2.2.1) (okX_q h1.2.2.2)))
  cases m
  simp only [rmOf, toM, RM.mk.injEq]
  exact ⟨h2, h3, h4, h5⟩

end Go.Proofs.YtgjolcbehcjhcaaGreat
