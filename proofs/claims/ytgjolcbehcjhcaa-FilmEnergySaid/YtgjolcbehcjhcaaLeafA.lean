/- Contracts of the functions on limbs: trim, size; math/bits. -/
import Derived.Test.YtgjolcbehcjhcaaMade
namespace Go.Proofs.Ytgjolcbehcjhcaa
open Go Go.RowKit

theorem trimL_pred {l : List Nat} {k : Nat} (hk : k < l.length) (h : l[k] = 0) : trimL (l.take (k + 1)) = trimL (l.take k) := by
  rw [List.take_succ_eq_append_getElem hk, h, trimL_snoc_zero]
theorem trimL_stop {l : List Nat} {k : Nat} (hk : k < l.length) (h : l[k] ≠ 0) : trimL (l.take (k + 1)) = l.take (k + 1) := by
  rw [List.take_succ_eq_append_getElem hk, trimL_snoc_pos _ h]

theorem trim_nil (A : Option Addr) (c : Nat) (w : World) : Calls Try.prog 177 #[.slice A 0 c] w fun e w' => e = .returned (.slice A 0 c) ∧ w = w' := by
  go_enter Try.func177, Try.ntmps177
  go_wp2
  go_loop [0] (fun v => v = .slice A 0 c) (fun _ => 0)
  case atStart => rfl
  case round =>
    subst hrel
    go_wp2
    go_ret
    exact ⟨rfl, rfl⟩

def lenOf : Value → Nat | .slice _ k _ => k | _ => 0
theorem trim_some (b o c : Nat) (l : List Nat) (w : World) (hc : ∀ j (h : j < l.length), w.cell? ⟨b, o + j, none⟩ = some (.int .u32 (l[j] : Nat))) (hm : l.length ≤ 9223372036854775807) (hnc : l.length ≤ c) :
    Calls Try.prog 177 #[.slice (some ⟨b, o, none⟩) l.length c] w fun e w' => e = .returned (.slice (some ⟨b, o, none⟩) (trimL l).length c) ∧ w = w' := by
  obtain ⟨n, hn⟩ : ∃ n, n = l.length := ⟨_, rfl⟩
  rw [← hn] at hm hnc ⊢
  have HN : Hid (n = l.length) := hn
  clear hn
  go_enter Try.func177, Try.ntmps177
  go_wp2
  go_loop [0] (fun v => ∃ k : Nat, k ≤ n ∧ v = .slice (some ⟨b, o, none⟩) k c ∧ trimL (l.take k) = trimL l) (fun v => lenOf v)
  case atStart => exact ⟨n, Nat.le_refl _, rfl, by rw [List.take_of_length_le (Nat.le_of_eq HN.out.symm)]⟩
  case round =>
    obtain ⟨k, hk, rfl, ht⟩ := hrel
    have HT : Hid (trimL (l.take k) = trimL l) := ht
    clear ht
    cases k with
    | zero =>
      go_wp2
      go_ret
      exact ⟨by rw [← HT.out]; simp [trimL], rfl⟩
    | succ k =>
      have hkl : k < l.length := by rw [← HN.out]; omega
      obtain ⟨x, hx⟩ : ∃ x, x = l[k] := ⟨_, rfl⟩
      have hcell := hc k hkl
      rw [← hx] at hcell
      clear hc
      have HX : Hid (x = l[k]) := hx
      clear hx
      by_cases hz : x = 0
      · subst hz
        go_wp2
        go_round
        case rel => exact ⟨k, by omega, rfl, by rw [← HT.out, trimL_pred hkl HX.out.symm]⟩
        case measure => simp [lenOf]
      · have hz' : ((x : Int) == 0) = false := by simp; omega
        go_wp2
        go_ret
        refine ⟨?_, rfl⟩
        rw [← HT.out, trimL_stop hkl (by rw [← HX.out]; exact hz), List.length_take, Nat.min_eq_left (by omega)]
        rfl

theorem closed_of {f : FuncId} {fn : Func} (hf : Try.prog.funcs[f]? = some fn) (hn : (fn.name == "runtime.NumGoroutine") = false) (hb : fn.body.isNone = false) : ∃ fn, Try.prog.funcs[f]? = some fn ∧ (fn.name == "runtime.NumGoroutine") = false ∧ fn.body.isNone = false := ⟨fn, hf, hn, hb⟩

theorem trim_c {M : List Nat → As} (hM : Fam M) (l : List Nat) : Cn Try.prog 177 [(M l).va] (M (trimL l)).va := by
  refine ⟨closed_of Try.func177 (by kernel_rfl) (by kernel_rfl), fun B w args hB ha => ?_⟩
  obtain ⟨v, rfl, hv⟩ := ha.one
  obtain ⟨A, c, rfl, hm, htk⟩ := hM.op _ _ _ _ hv
  have hsh : ∀ A', A' = A → (M (trimL l)).va.p B (.slice A' (trimL l).length c) w := by
    rintro _ rfl
    have := htk (trimL l).length
    rwa [← trimL_take] at this
  by_cases h0 : l.length = 0
  · have hl : l = [] := List.eq_nil_of_length_eq_zero h0
    subst hl
    refine (trim_nil A c w).mono fun e w' ⟨he, hw⟩ => ?_
    subst hw
    exact ⟨_, he, hsh A rfl, Grow.refl w⟩
  · obtain ⟨b, o, rfl, h1, h2, h3⟩ := hm.at_ (by omega)
    refine (trim_some b o c l w h3 (by have := hm.le; have := hm.max; unfold maxLen at this; omega) hm.le).mono fun e w' ⟨he, hw⟩ => ?_
    subst hw
    exact ⟨_, he, hsh _ rfl, Grow.refl w⟩

end Go.Proofs.Ytgjolcbehcjhcaa
