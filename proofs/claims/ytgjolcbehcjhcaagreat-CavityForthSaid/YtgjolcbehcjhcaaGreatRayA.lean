/- Rules for pointers to structs that are named anew, for arrays, for functions without a result; contracts of the keeper of package ray, and of Back, Mirror, Trace, Cross, Through, One. -/
import Derived.Test.YtgjolcbehcjhcaaGreatLeafX
namespace Go.Proofs.YtgjolcbehcjhcaaGreat
open Go Go.RowKit
namespace RayA

end RayA
open RayA
section
variable {P : Program} {R : Rg} {Q : Exit → Act → World → Prop} {B i : Nat} {w0 : Bs}
theorem ptr_zero {g : Nat} : offP (ptrH.f g) (.some 0) = ptrH.f g := by simp [ptrH, ptr, offP, add0]
theorem a_mov0 {b T' : Nat} {A : As} (hl : Loc R i b T' A) : Ad P Q R B w0 i (.move (.tmp b)) b (.some 0) := by
  intro d ty ps af gd a w av K hK
  obtain ⟨g, cs, h1, _⟩ := hl.ok av
  rw [h1, ptr_zero] at hK
  exact wp_value (w' := w) (v := a.eval (.tmp b)) rfl (by rw [h1]; exact hK)
theorem a_nil0 {b t T' : Nat} {A : As} (j : Nat) (hj : R.sp[j]? = some (.adr t b (.some 0) True)) (hji : (R.anc i).contains j = true) (hl : Loc R i b T' A) : Ad P Q R B w0 i (.nilCheck (.tmp t)) b (.some 0) := by
  intro d ty ps af gd a w av K hK
  obtain ⟨g, cs, h1, _⟩ := hl.ok av
  have h2 := av.d j t b (.some 0) True hji hj trivial
  rw [h1, ptr_zero] at h2 hK
  have h2' : a.eval (.tmp t) = .pointer (some ⟨g, 0, none⟩) := h2
  exact wp_value (w' := w) (v := .pointer (some ⟨g, 0, none⟩)) (by simp [execOp, h2']) hK
theorem arw0 {s t T' : Nat} {A : As} (j : Nat) (hj : R.sp[j]? = some (.adr t s (.some 0) True)) (hji : (R.anc i).contains j = true) (hl : Loc R i s T' A) : ArH R B w0 i s ptrH (.w ptrH) (.tmp t) := ⟨rfl, fun a w av => by
  obtain ⟨g, cs, h1, _⟩ := hl.ok av
  have h2 := av.d j t s (.some 0) True hji hj trivial
  rw [h1, ptr_zero] at h2
  rw [h1]
  exact h2⟩
theorem nrm_ret {fn : Func} {RQ' : Ending → World → Prop} {a : Act} {w : World} (h : bPost P fn RQ' .ret a w) : bPost P fn RQ' .normal a w := h
theorem nil_sl {E : TypeId} {D : List TypeId} : Wk (EqV (.slice none 0 0)) (SlA E D []).va := fun _ v _ h => by
  have e : v = .slice none 0 0 := h
  subst e
  exact ⟨[.slice none 0 0], ⟨(fun A hA => by cases hA), none, 0, [], rfl, Nat.le_refl _, Nat.zero_le _, ⟨[], rfl, .nil⟩, fun h => by cases h⟩, rfl⟩
theorem elp_wk {E : TypeId} {A A' : As} (h : WkA A A') : Wk (ElP E A) (ElP E A') := fun _ _ _ ⟨b, o, cs, h1, h2, h3, h4, h5⟩ => ⟨b, o, cs, h1, h2, h3, h.2.2 _ _ _ h4, h5⟩
theorem r_arrp {x : Operand} {S E E' : TypeId} {D : List TypeId} {l : List As} {n : Nat} (hS : P.underlying S = some (.array n E')) (hx : Has R B w0 i x (SlA E D l).va) (hn : l.length = n) (h0 : 0 < l.length) : Wv P Q R B w0 i (.sliceToArrayPointer S x) (ElP E (cat l)) :=
  wv_run fun d T ps af gd a w av => by
    subst hn
    obtain ⟨cs, ⟨_, Ad, c, ds, rfl, h1, h2, h3, h4⟩, hv⟩ := hx a w av
    obtain ⟨b, o, rfl, h6, h7, h8⟩ := h4 h0
    have hv' : a.eval x = .slice (some ⟨b, o, none⟩) l.length c := hv
    refine ⟨.pointer (some ⟨b, o, none⟩), w, ?_, Grow.refl w, b, o, ds, rfl, h6, h7, h3, h8⟩
    simp [execOp, hv', Instr.arrayAt, run_underlying hS]
theorem r_arrv {b k m : Nat} {T E : TypeId} {l : List As} {y : Operand} {A : As} {kd : IntKind} (hl : Loc R i b T (cat l)) (hS : P.underlying T = some (.array l.length E)) (hsz : (P.info? E).map (·.size) = some m) (hm : ∀ A ∈ l, A.n = m) (hy : Has R B w0 i y (NumA kd k).va) (hk : l[k]? = some A) :
    Wv P Q R B w0 i (.indexAddr T (.tmp b) y) (ElP T A) :=
  wv_run fun d T' ps af gd a w av => by
    obtain ⟨g, cs, h1, hmay, h3, h4⟩ := hl.ok av
    have h1' : a.eval (.tmp b) = .pointer (some ⟨g, 0, none⟩) := h1
    have hlt : k < l.length := (List.getElem?_eq_some_iff.1 hk).1
    obtain ⟨p1, l1⟩ := cat_part h4 hk
    have ho := offs_all hm (k := k) (by omega)
    unfold offs at ho
    rw [ho] at p1 l1
    refine ⟨.pointer (some ⟨g, k * m, none⟩), w, ?_, Grow.refl w, g, k * m, _, rfl, (Array.getElem?_eq_some_iff.1 h3).1, .inr ⟨_, _, h3⟩, p1, fun j u hu => ?_⟩
    · cases hi : P.info? E with
      | none => rw [hi] at hsz; simp at hsz
      | some it =>
        rw [hi] at hsz
        have hs2 : it.size = m := by simpa using hsz
        have e := num_val (hy a w av)
        simp [execOp, h1', e, Instr.indexAt, asIntOf, run_underlying hS, sizeOf, typeInfo, hi, hs2, add_k, hlt, Instr.sureAddr]
    · rw [List.getElem?_take] at hu
      split at hu
      · rw [List.getElem?_drop] at hu
        rw [cell_of_row w g (k * m + j) cs.toArray T _ h3]
        simpa using hu
      · cases hu
theorem fill_congr {f g : Nat → Option (Nat × Nat)} : ∀ (ps : List (Nat × Value)) (cells : Array Value), (∀ p ∈ ps, f p.1 = g p.1) → Instr.fill f cells ps = Instr.fill g cells ps
  | [], _, _ => rfl
  | (k, v) :: ps, cells, h => by
    have h1 := h (k, v) (by simp)
    have h2 := fun c => fill_congr ps c fun p hp => h p (by simp [hp])
    simp only [Instr.fill]
    simp only at h1
    rw [h1]
    cases g k with
    | none => rfl
    | some x => simp only [h2]
/-- array type T: its elements, at their zero values, are as Z says. -/
def Arr (P : Program) (T : TypeId) (Z : List As) : Prop :=
  ∃ it z n E ie, P.info? T = some it ∧ it.zero = some z ∧ P.underlying T = some (.array n E) ∧ P.info? E = some ie ∧ (∀ f, f < Z.length → some (f * ie.size, ie.size) = (placesOf Z)[f]?) ∧ ∀ B w, (cat Z).p B z.cells.toList w
theorem Arr.zero {T : TypeId} {Z : List As} (h : Arr P T Z) : Zero P T (cat Z) := by
  obtain ⟨it, z, _, _, _, h1, h2, _, _, _, h3⟩ := h
  exact ⟨it, z, h1, h2, h3⟩
theorem all2_right {α β : Type} {R' : α → β → Prop} {qs : List α} {ps : List β} (h : All2 R' qs ps) {p : β} (hp : p ∈ ps) : ∃ q, R' q p := by
  induction h with
  | nil => cases hp
  | cons hh _ ih =>
    rcases List.mem_cons.1 hp with rfl | hp'
    · exact ⟨_, hh⟩
    · exact ih hp'
theorem r_buildA {T : TypeId} {Z : List As} {xs : List (Nat × Operand)} {qs : List (Nat × As)} (hT : Arr P T Z) (hx : All2 (fun (q : Nat × As) (x : Nat × Operand) => x.1 = q.1 ∧ Has R B w0 i x.2 q.2.va ∧ (Z[q.1]?).map (·.n) = some q.2.n) qs xs) :
    Wv P Q R B w0 i (.build T xs.toArray) (cat (setAll Z qs)).va :=
  wv_run fun d T' ps af gd a w av => by
    obtain ⟨it, z, n, E, ie, h1, h2, h3, h4, h6, h5⟩ := hT
    have hps : All2 (fun (q : Nat × As) (p : Nat × Value) => p.1 = q.1 ∧ q.2.va.p B p.2 w ∧ (Z[q.1]?).map (·.n) = some q.2.n) qs (xs.map fun x => (x.1, a.eval x.2)) := by
      induction hx with
      | nil => exact .nil
      | cons h _ ih => exact .cons ⟨h.1, h.2.1 a w av, h.2.2⟩ ih
    obtain ⟨cells', e1, e2⟩ := fill_cat (places := placesOf Z) rfl (xs.map fun x => (x.1, a.eval x.2)) qs Z z.cells rfl (h5 B w) hps
    refine ⟨.agg cells', w, ?_, Grow.refl w, cells'.toList, e2, by simp [shape, cat]⟩
    have hin : ∀ p ∈ (xs.map fun x => (x.1, a.eval x.2)), some (p.1 * ie.size, ie.size) = ((placesOf Z).toArray[p.1]? : Option (Nat × Nat)) := by
      intro p hp
      have : p.1 < Z.length := by
        obtain ⟨q, hh⟩ := all2_right hps hp
        rw [hh.1]
        cases hz : Z[q.1]? with
        | none => rw [hz] at hh; simp at hh
        | some y => exact (List.getElem?_eq_some_iff.1 hz).1
      simpa using h6 p.1 this
    have hb : P.built T (xs.map fun x => (x.1, a.eval x.2)) = some cells' := by
      unfold Program.built
      simp only [h1, h3, h2, h4]
      rw [← e1]
      exact fill_congr _ _ hin
    have := run_build (P := P) w T ((xs.map fun x => (x.1, a.eval x.2)).toArray) cells' (by simpa using hb)
    simp [execOp, this]
end

end Go.Proofs.YtgjolcbehcjhcaaGreat
