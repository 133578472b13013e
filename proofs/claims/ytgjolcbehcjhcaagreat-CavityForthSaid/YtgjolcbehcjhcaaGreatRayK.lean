/- A call behind a guard that is surely met, which writes a variable; Back and Mirror on small matrices. -/
import Derived.Test.YtgjolcbehcjhcaaGreatRayJ
namespace Go.Proofs.YtgjolcbehcjhcaaGreat
open Go Go.RowKit
namespace RayK

end RayK
open RayK
section
variable {P : Program} {R : Rg} {Q : Exit → Act → World → Prop} {B i : Nat} {w0 : Bs}
theorem ob_calG {d s e j dj : Nat} {want b : Bool} {T : TypeId} {H : Hd} {cr : Option Nat} {A0 A1 : As} {A : VA} {f : FuncId} {xs : List Operand} {pre : List Ar} {at_ : Array TypeId} {ty : TypeId} {ps : String} {af : Array Edge}
    (hs : R.sp[i]? = some (.cal d A e)) (he : R.les[e]? = some ⟨s, T, H, cr, A0, some (i, A1)⟩) (ho : R.ops[i]? = some ⟨some d, .call ⟨.value (.func f), xs.toArray, at_⟩, ty, ps, af, some (j, want)⟩)
    (hj : R.dst j = some dj) (hb : Has R B w0 i (.tmp dj) (Bo b)) (hdj : dj < R.N) (hw : b = want)
    (hc : Cm P f T A0 A1 pre A) (hx : All2 (ArH R B w0 i s H) pre xs) : R.Ob P Q B w0 i := by
  unfold Rg.Ob
  simp only [hs, he]
  intro a w av g cs h1 hB h3 h4 _ K hK
  obtain ⟨⟨fn, hf, hn, hb2⟩, hcall⟩ := hc
  have hwant : Region.wanted (⟨some d, .call ⟨.value (.func f), xs.toArray, at_⟩, ty, ps, af, some (j, want)⟩ : Oper) (yielded R.ops a.tmps) = true := by
    rw [wanted_of rfl av hj hdj hb, hw]
    simp
  have hrun : (execOp a.eval ⟨some d, .call ⟨.value (.func f), xs.toArray, at_⟩, ty, ps, af, some (j, want)⟩).run P w = .ok (.enter f (xs.map a.eval).toArray) w := by
    simp only [execOp, resolve, Act.eval, Deferred.ofValue, Sem.run_bind, Sem.run_pure, Result.andThen_ok, invoke, run_callFunc hf hn hb2]
    simp
  have hop : Oper.wp P (⟨some d, .call ⟨.value (.func f), xs.toArray, at_⟩, ty, ps, af, some (j, want)⟩ : Oper) a w K Q := by
    unfold Oper.wp
    rw [hrun]
    refine (hcall B w g cs _ hB h3 h4 ?_).mono fun e w' ⟨v, cs', he, hv, hg, h5, h6⟩ => by subst he; exact hK v cs' w' hg h5 h6 hv
    clear hcall hrun ho hs he hwant
    induction hx with
    | nil => exact .nil
    | @cons x y _ _ h _ ih =>
      refine .cons ?_ ih
      cases x with
      | v A => exact h a w av
      | w H' =>
        obtain ⟨rfl, h2⟩ := h
        exact (h2 a w av).trans h1
  unfold wpOp
  rw [ho]
  simp only [hwant, if_true]
  exact .inl hop
theorem r_same {s : Nat} {T : TypeId} {c : Bool} {f : FuncId} {xs : List Operand} {pre : List Ar} {post : VA} {at_ : Array TypeId} (hc : Cm P f T (BoA c) (BoA c) pre post) (hl : Loc R i s T (BoA c)) (hx : All2 (ArH R B w0 i s ptrH) pre xs) :
    Wv P Q R B w0 i (.call ⟨.value (.func f), xs.toArray, at_⟩) post := by
  intro d T' ps af gd a w av K hK
  obtain ⟨g, cs, h1, hmay, h3, h4⟩ := hl.ok av
  obtain ⟨⟨fn, hf, hn, hb2⟩, hcall⟩ := hc
  have hrun : (execOp a.eval ⟨some d, .call ⟨.value (.func f), xs.toArray, at_⟩, T', ps, af, gd⟩).run P w = .ok (.enter f (xs.map a.eval).toArray) w := by
    simp only [execOp, resolve, Act.eval, Deferred.ofValue, Sem.run_bind, Sem.run_pure, Result.andThen_ok, invoke, run_callFunc hf hn hb2]
    simp
  unfold Oper.wp
  rw [hrun]
  refine (hcall B w g cs _ (av.lo g hmay) h3 h4 ?_).mono fun e w' ⟨v, cs', he, hv, hg, h5, h6⟩ => by
    subst he
    have e1 : cs' = cs := (show cs' = [.bool c] from h6).trans (show cs = [.bool c] from h4).symm
    subst e1
    refine hK v w' ⟨hg.os, hg.tape, hg.output, hg.size, fun k hk => ?_⟩ hv
    by_cases hkg : k = g
    · subst hkg
      exact h5.trans h3.symm
    · exact hg.block k hk hkg
  clear hcall hrun hK
  induction hx with
  | nil => exact .nil
  | @cons x y _ _ h _ ih =>
    refine .cons ?_ ih
    cases x with
    | v A => exact h a w av
    | w H' =>
      obtain ⟨rfl, h2⟩ := h
      exact (h2 a w av).trans h1
end
theorem long_min (x : Rat) : longQ (-x) = longQ x := by
  have e : -x = 0 - x := by grind
  rw [e, long_neg]
theorem asM_of {e : Int} {q : MQ} (he : e = 0) (hl : longQ q.a = false ∧ longQ q.b = false ∧ longQ q.c = false ∧ longQ q.d = false) : asM e q = (rmOf q, 0) := by
  unfold asM
  rw [if_pos he]
  simp [hl.1, hl.2.1, hl.2.2.1, hl.2.2.2]
theorem kM_of {m : RM} (hm : okM m = true) : kM 0 m = 0 := by unfold kM; rw [hm]; rfl
theorem back_eval {m : RM} (hm : okM m = true) : backF m = (rmOf (backQ (toM m)), 0) ∧ okM (rmOf (backQ (toM m))) = true := by
  obtain ⟨l1, l2, l3, l4⟩ := okM_longs hm
  have h2 : longQ (-(toM m).b) = false := by rw [long_min]; exact l2
  have h3 : longQ (-(toM m).c) = false := by rw [long_min]; exact l3
  refine ⟨asM_of (kM_of hm) ⟨l4, h2, h3, l1⟩, okM_of l4 h2 h3 l1 ?_⟩
  have hd := (okM_q hm).2
  unfold detM backQ at *
  simp only
  grind
theorem mir_eval {m : RM} (hm : okM m = true) : mirF m = (rmOf (mirQ (toM m)), 0) ∧ okM (rmOf (mirQ (toM m))) = true := by
  obtain ⟨l1, l2, l3, l4⟩ := okM_longs hm
  refine ⟨asM_of (kM_of hm) ⟨l4, l2, l3, l1⟩, okM_of l4 l2 l3 l1 ?_⟩
  have hd := (okM_q hm).2
  unfold detM mirQ at *
  simp only
  grind
theorem back_back (m q : MQ) : backQ (mulQ m q) = mulQ (backQ q) (backQ m) := by
  unfold backQ mulQ
  simp only [MQ.mk.injEq]
  refine ⟨by grind, by grind, by grind, by grind⟩
theorem mir_mir (m q : MQ) : mirQ (mulQ m q) = mulQ (mirQ q) (mirQ m) := by
  unfold mirQ mulQ
  simp only [MQ.mk.injEq]
  refine ⟨by grind, by grind, by grind, by grind⟩
theorem back_mul {m : MQ} (hd : detM m = 1) : mulQ (backQ m) m = ⟨1, 0, 0, 1⟩ ∧ mulQ m (backQ m) = ⟨1, 0, 0, 1⟩ := by
  unfold detM at hd
  unfold backQ mulQ
  simp only [MQ.mk.injEq]
  exact ⟨⟨by grind, by grind, by grind, by grind⟩, ⟨by grind, by grind, by grind, by grind⟩⟩
theorem sz_back (m : MQ) : szM (backQ m) = szM m := by
  have h : ∀ x : Rat, szQ (-x) = szQ x := fun x => by
    unfold szQ
    rw [Rat.neg_num, Rat.neg_den, lz_neg]
  unfold szM backQ
  simp only [h]
  omega
theorem sz_mir (m : MQ) : szM (mirQ m) = szM m := by
  unfold szM mirQ
  simp only
  omega

end Go.Proofs.YtgjolcbehcjhcaaGreat
