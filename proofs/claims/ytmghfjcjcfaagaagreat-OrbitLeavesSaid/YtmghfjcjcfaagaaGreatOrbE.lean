/- A call that hands back an iterator over new variables; orbit.Leaves. -/
import Derived.Test.YtmghfjcjcfaagaaGreatOrbF
import Derived.Test.YtmghfjcjcfaagaaGreatOrbD
namespace Go.Proofs.YtmghfjcjcfaagaaGreat
open Go Go.RowKit
namespace OrbE

end OrbE
open OrbE
theorem St.itm {B N : Nat} {w0 : Bs} {Γ : List (Nat × VA)} {Λ : List Lc} {a : Act} {w : World} {s : Nat} {f : FuncId} {cf : List Nat → List (TypeId × As)} {D : List TypeId} {hD : ∀ gs, (ItV f (cf gs) gs).deps = D} {ps : List (Nat × Nat)} (k : Nat) (ks : List Nat) (h : St B w0 N Γ Λ a w) (hm : Γ[k]? = some (s, ItM f cf D hD (ps.map Prod.snd))) (hn : Nmd Γ ps ks) :
    ∃ gb, St B w0 N (Γ.set k (s, ItV f (cf gb) gb)) Λ a w ∧ ∀ t ∈ ps.map Prod.fst, ∀ g, blk (a.eval (.tmp t)) = some g → g ∉ gb := by
  obtain ⟨gb, h1, h2⟩ := h.vals _ (List.mem_of_getElem? hm)
  refine ⟨gb, ⟨h.lo, h.defers, h.size, h.base, fun x hx => ?_, h.locs, h.dis⟩, fun t ht g hg => ?_⟩
  · rcases List.mem_or_eq_of_mem_set hx with hx | rfl
    · exact h.vals x hx
    · exact h1
  · have key : ∀ (ps : List (Nat × Nat)) (ks : List Nat), Nmd Γ ps ks → ∀ p ∈ ps, a.eval (.tmp p.1) = ptr p.2 := by
      intro ps
      induction ps with
      | nil => intro _ _ p hp; cases hp
      | cons q ps ih =>
        intro ks hk p hp
        cases ks with
        | nil => exact hk.elim
        | cons k ks =>
          obtain ⟨e1, e2⟩ := hk
          rcases List.mem_cons.1 hp with rfl | hp
          · exact h.vals _ (List.mem_of_getElem? e1)
          · exact ih ks e2 p hp
    obtain ⟨p, hp, rfl⟩ := List.mem_map.1 ht
    rw [key ps ks hn p hp] at hg
    have : p.2 = g := by injection hg
    rw [← this]
    exact h2 p.2 (List.mem_map.2 ⟨p, hp, rfl⟩)
section
variable {P : Program} {R : Rg} {Q : Exit → Act → World → Prop} {B i : Nat} {w0 : Bs}
theorem r_callM {f f' : FuncId} {pre : List VA} {cf : List Nat → List (TypeId × As)} {D : List TypeId} {hD : ∀ gs, (ItV f (cf gs) gs).deps = D} {xs : List Operand} {at_ : Array TypeId} (ns : List (Nat × Nat)) (hc : CnI P f' pre (fun b => ItB b f cf D hD)) (hx : HasL R B w0 i xs pre) (hns : Nmo R B w0 i ns) :
    Wv P Q R B w0 i (.call ⟨.value (.func f'), xs.toArray, at_⟩) (ItM f cf D hD (ns.map Prod.snd)) := by
  intro d T' ps af gd a w av K hK
  obtain ⟨⟨fn, hf, hn, hb⟩, hcall⟩ := hc
  have hrun : (execOp a.eval ⟨some d, .call ⟨.value (.func f'), xs.toArray, at_⟩, T', ps, af, gd⟩).run P w = .ok (.enter f' (xs.map a.eval).toArray) w := by
    have e1 : a.eval (.func f') = .func (.func f') #[] #[] := rfl
    simp only [execOp, resolve, e1, Deferred.ofValue, Sem.run_bind, Sem.run_pure, Result.andThen_ok, invoke, run_callFunc hf hn hb]
    simp
  unfold Oper.wp
  rw [hrun]
  refine (hcall B w _ (Av.bw av) (hx.all av)).mono fun e w' ⟨v, he, ⟨gs, h1, h2⟩, hg⟩ => ?_
  subst he
  refine hK v w' hg ⟨gs, h1, fun n hn' hm => ?_⟩
  obtain ⟨p, hp', rfl⟩ := List.mem_map.1 hn'
  have h3 := hns.lt av p hp'
  have h4 := h2 _ hm
  omega
end
/-- so many cells, whatever they hold. -/
def RawA (k : Nat) : As where
  n := k
  ag := true
  p _ cs _ := cs.length = k ∧ ∀ c ∈ cs, c.oneCell' = true
  deps := []
  len := fun _ _ _ h => h.1
  one := fun _ _ _ h => h.2
  ag1 := fun h => by cases h
  cg := fun _ _ _ _ _ h => h
  wr := fun _ _ _ _ _ _ _ _ _ _ _ _ h => h
theorem zero_two : Zero Tryz.prog 78 (RawA 4) := Zero.of (z := .agg #[.bool false, .slice none 0 0, .bool false, .slice none 0 0]) (by kernel_rfl) (fun _ _ => ⟨rfl, fun c hc => List.all_eq_true.1 (show ([.bool false, .slice none 0 0, .bool false, .slice none 0 0] : List Value).all (·.oneCell') = true by kernel_rfl) c hc⟩)

section
variable {P : Program} {R : Rg} {Q : Exit → Act → World → Prop} {B i : Nat} {w0 : Bs}
/-- a part of an array that is a value. -/
theorem r_idxv {x y : Operand} {T E : TypeId} {k : Nat} {kd : IntKind} {l : List As} {A' : As} (hx : Has R B w0 i x (cat l).va) (hA' : A'.ag = true) (hS : P.underlying T = some (.array l.length E)) (ht : Ty P E A'.n A'.ag) (hm : ∀ A ∈ l, A.n = A'.n) (hy : Has R B w0 i y (NumA kd k).va) (hk : l[k]? = some A') : Wv P Q R B w0 i (.index T x y) A'.va :=
  wv_run fun d T' ps af gd a w av => by
    obtain ⟨cs, h1, hv⟩ := hx a w av
    obtain ⟨p1, l1⟩ := cat_part h1 hk
    have hlt : k < l.length := (List.getElem?_eq_some_iff.1 hk).1
    have ho := offs_all hm (k := k) (by omega)
    unfold offs at ho
    rw [ho] at p1 l1
    have hv' : a.eval x = .agg cs.toArray := hv
    have e := num_val (hy a w av)
    have ha : (isAgg E).run P w = .ok true w := by
      have := ht.2
      rw [hA'] at this
      cases hu : P.underlying E with
      | none => rw [hu] at this; simp at this
      | some u =>
        rw [hu] at this
        unfold isAgg
        simp only [Sem.run_bind, run_underlying hu, Result.andThen_ok]
        cases u <;> simp_all
    have hz : (sizeOf E).run P w = .ok A'.n w := by
      have := ht.1
      cases hi : P.info? E with
      | none => rw [hi] at this; simp at this
      | some it => rw [hi] at this; simp [sizeOf, typeInfo, hi]; simpa using this
    refine ⟨.agg (cs.toArray.extract (k * A'.n) (k * A'.n + A'.n)), w, ?_, Grow.refl w, _, p1, ?_⟩
    · simp [execOp, hv', e, Instr.index, asIntOf, run_underlying hS, hlt, part, ha, hz]
    · unfold shape
      rw [hA', if_pos rfl]
      congr 1
      apply Array.ext'
      simp
end

def far1 (l : Rat) (z d : Int) : Bool := decide (sg3 ((z.natAbs : Int) * (l.den : Int)) (l.num * d) > 0)
def farO (l : Rat) (p : Int × Int) (d : Int) : Bool := far1 l p.1 d || far1 l p.2 d
def farK (m : RM) (r : RR) (l : RF) (k : Nat) : Bool := farO (toQ l) (wkL (mI (toM m)) (rI (toY r)) k) (wkD (mq (toM m)) (rq (toY r)) k)
def fstK (m : RM) (r : RR) (l : RF) : Nat := ((List.range 4097).find? (farK m r l)).getD 0
def leO (m : RM) (r : RR) (l : RF) : Int × Int := if fiO m r && okX l then (match (List.range 4097).find? (farK m r l) with | some k => ((k : Int), 0) | none => (0, 7)) else (0, 1)
theorem zero_i3 : Zero Tryz.prog 3 (NumA .i64 0) := Zero.of (z := .int .i64 0) (by kernel_rfl) (fun _ _ => rfl)
theorem zero_i38 : Zero Tryz.prog 38 (NumA .i64 0) := Zero.of (z := .int .i64 0) (by kernel_rfl) (fun _ _ => rfl)
theorem St.factL {B N : Nat} {w0 : Bs} {s T : Nat} {H : Hd} {A : As} {c : Prop} {Γ : List (Nat × VA)} {Λ : List Lc} {a : Act} {w : World} (h : St B w0 N Γ Λ a w) (i : Nat) (hm : Λ[i]? = some ⟨s, T, H, A.and c⟩) : c := by
  obtain ⟨g, cs, _, _, _, p⟩ := h.locs _ (List.mem_of_getElem? hm)
  exact p.1
theorem two_at {c : Nat} {p : Int × Int} {j : Nat} (h : j < 2) : [ZA c p.1, ZA c p.2][j]? = some (ZA c (if j = 0 then p.1 else p.2)) :=
  match j, h with
  | 0, _ => rfl
  | 1, _ => rfl
theorem fst_some {F : Nat → Bool} {k : Nat} (hk : k ≤ 4096) (h : ∀ i, i < k → F i = false) (hF : F k = true) : (List.range 4097).find? F = some k := by
  rw [List.find?_range_eq_some]
  exact ⟨hF, by simp; omega, fun j hj => by simp [h j hj]⟩
theorem fst_none {F : Nat → Bool} (h : ∀ i, i < 4097 → F i = false) : (List.range 4097).find? F = none := by
  rw [List.find?_eq_none]
  intro i hi
  simp at hi
  simp [h i (by omega)]

end Go.Proofs.YtmghfjcjcfaagaaGreat
