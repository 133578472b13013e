/- Chapter 9: two matrices and two rays as arguments; rays through small matrices. -/
import Derived.Test.YtgjolcbehcjhcaaGreatRayK
import Derived.ProofKit
import Derived.OpenShut
import Derived.ChangeOld
import Derived.Below
namespace Go.Proofs.YtgjolcbehcjhcaaGreat
open Go Go.RowKit
namespace RayL

end RayL
open RayL
def okR (r : RR) : Bool := [r.y, r.u].all okX
def szY (r : YQ) : Nat := szQ r.y + szQ r.u
theorem okR_longs {r : RR} (h : okR r = true) : longQ (toY r).y = false ∧ longQ (toY r).u = false := by
  unfold okR at h
  simp only [List.all_cons, List.all_nil, Bool.and_true, Bool.and_eq_true] at h
  exact ⟨longQ_false.2 (okX_q h.1).2, longQ_false.2 (okX_q h.2).2⟩
theorem okR_rr {r : RR} (h : okR r = true) : r = rrOf (toY r) := by
  unfold okR at h
  simp only [List.all_cons, List.all_nil, Bool.and_true, Bool.and_eq_true] at h
  obtain ⟨⟨h2, _⟩, ⟨h3, _⟩⟩ := And.intro (okX_q h.1) (okX_q h.2)
  cases r
  simp only [rrOf, toY, RR.mk.injEq]
  exact ⟨h2, h3⟩
theorem okR_of {r : YQ} (h1 : longQ r.y = false) (h2 : longQ r.u = false) : okR (rrOf r) = true := by
  unfold okR rrOf
  simp only [List.all_cons, List.all_nil, Bool.and_true, Bool.and_eq_true, okX_of, h1, h2]
  exact ⟨rfl, rfl⟩
theorem toY_of (r : YQ) : toY (rrOf r) = r := by
  unfold toY rrOf
  simp only [toQ_of]
theorem ray_sz {r : RR} (h : okR r = true) : raySizeF r = ((szY (toY r) + 4 : Nat) : Int) := by
  obtain ⟨l1, l2⟩ := okR_longs h
  have s1 := sz_le l1
  have s2 := sz_le l2
  have e : raySizeF r = raySizeF (rrOf (toY r)) := congrArg raySizeF (okR_rr h)
  rw [e]
  unfold raySizeF szY
  show IntKind.i64.wrap (fracSizeF (rfOf (toY r).y) + fracSizeF (rfOf (toY r).u)) = _
  rw [frac_sz l1, frac_sz l2, wi64 (by omega) (by omega)]
  omega
theorem kR_of {r : RR} (h : okR r = true) : kR 0 r = 0 := by unfold kR; unfold okR at h; rw [h]; rfl
theorem asY_of {e : Int} {q : YQ} (he : e = 0) (hl : longQ q.y = false ∧ longQ q.u = false) : asY e q = (rrOf q, 0) := by
  unfold asY
  rw [if_pos he]
  simp [hl.1, hl.2]
theorem go_eval {M : MQ} {R : YQ} (hm : okM (rmOf M) = true) (hr : okR (rrOf R) = true) (hl : longQ (goQ M R).y = false ∧ longQ (goQ M R).u = false) : goF (rmOf M) (rrOf R) = (rrOf (goQ M R), 0) ∧ okR (rrOf (goQ M R)) = true := by
  refine ⟨?_, okR_of hl.1 hl.2⟩
  unfold goF
  rw [kM_of hm, kR_of hr, toM_of, toY_of]
  exact asY_of rfl hl
theorem go_long {M : MQ} {R : YQ} (h : szM M + 2 * szY R ≤ 2000) : longQ (goQ M R).y = false ∧ longQ (goQ M R).u = false := by
  unfold szM szY at h
  unfold goQ
  exact ⟨bQ_long (bQ_add (bQ_mul (bQ_sz M.a) (bQ_sz R.y)) (bQ_mul (bQ_sz M.b) (bQ_sz R.u))) (by omega), bQ_long (bQ_add (bQ_mul (bQ_sz M.c) (bQ_sz R.y)) (bQ_mul (bQ_sz M.d) (bQ_sz R.u))) (by omega)⟩
theorem go_go (N M : MQ) (R : YQ) : goQ N (goQ M R) = goQ (mulQ N M) R := by
  unfold goQ mulQ
  simp only [YQ.mk.injEq]
  exact ⟨by grind, by grind⟩
theorem go_go_long {N M : MQ} {R : YQ} (h : szM N + szM M + 2 * szY R ≤ 2000) : longQ (goQ N (goQ M R)).y = false ∧ longQ (goQ N (goQ M R)).u = false := by
  unfold szM szY at h
  have hy := bQ_add (bQ_mul (bQ_sz M.a) (bQ_sz R.y)) (bQ_mul (bQ_sz M.b) (bQ_sz R.u))
  have hu := bQ_add (bQ_mul (bQ_sz M.c) (bQ_sz R.y)) (bQ_mul (bQ_sz M.d) (bQ_sz R.u))
  show longQ (N.a * (M.a * R.y + M.b * R.u) + N.b * (M.c * R.y + M.d * R.u)) = false ∧ longQ (N.c * (M.a * R.y + M.b * R.u) + N.d * (M.c * R.y + M.d * R.u)) = false
  exact ⟨bQ_long (bQ_add (bQ_mul (bQ_sz N.a) hy) (bQ_mul (bQ_sz N.b) hu)) (by omega), bQ_long (bQ_add (bQ_mul (bQ_sz N.c) hy) (bQ_mul (bQ_sz N.d) hu)) (by omega)⟩
theorem cross_go {M : MQ} (hd : detM M = 1) (R R' : YQ) : crossQ (goQ M R) (goQ M R') = crossQ R R' := by
  unfold detM at hd
  unfold crossQ goQ
  simp only
  have : (M.a * R.y + M.b * R.u) * (M.c * R'.y + M.d * R'.u) - (M.c * R.y + M.d * R.u) * (M.a * R'.y + M.b * R'.u) = (M.a * M.d - M.b * M.c) * (R.y * R'.u - R.u * R'.y) := by grind
  rw [this, hd, Rat.one_mul]
theorem back_go {M : MQ} (hd : detM M = 1) (R : YQ) : goQ (backQ M) (goQ M R) = R := by
  unfold detM at hd
  unfold goQ backQ
  cases R
  simp only [YQ.mk.injEq]
  exact ⟨by grind, by grind⟩
def tuQ (r : YQ) : YQ := ⟨r.y, -r.u⟩
theorem mir_go {M : MQ} (hd : detM M = 1) (R : YQ) : goQ (mirQ M) (tuQ (goQ M R)) = tuQ R := by
  unfold detM at hd
  unfold goQ mirQ tuQ
  simp only [YQ.mk.injEq]
  exact ⟨by grind, by grind⟩
theorem cr_eval {R R' : YQ} (h1 : okR (rrOf R) = true) (h2 : okR (rrOf R') = true) (hl : longQ (crossQ R R') = false) : crF (rrOf R) (rrOf R') = (rfOf (crossQ R R'), 0) := by
  unfold crF
  rw [kR_of h1, kR_of h2, toY_of, toY_of]
  unfold asF
  rw [if_pos rfl]
  exact ansF_ok (longQ_false.1 hl)
theorem cr_ok {r s : RR} (h : (crF r s).2 = 0) : okR r = true ∧ okR s = true ∧ longQ (crossQ (toY r) (toY s)) = false := by
  unfold crF asF at h
  by_cases he : kR (kR 0 r) s = 0
  · rw [if_pos he] at h
    have h1 := kR_0 he
    have h2 := kR_0 h1.2
    refine ⟨h2.1, h1.1, ?_⟩
    cases hl : longQ (crossQ (toY r) (toY s)) with
    | false => rfl
    | true => unfold ansF at h; rw [hl] at h; simp at h
  · rw [if_neg he] at h
    exact absurd h he

end Go.Proofs.YtgjolcbehcjhcaaGreat
