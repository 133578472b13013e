/- The reference of layer 1: limbs by limbs. What was there stays, beside a row that is written in rounds. -/
import Derived.Test.YtmghfjcjcfaagaaGreatRefD
import Derived.Laws.AppendOwn
import Derived.Laws.OwnMore
import Derived.Orders
namespace Go.Proofs.YtmghfjcjcfaagaaGreat
open Go Go.RowKit
namespace RefE

end RefE
open RefE
set_option linter.unusedVariables false
/-! another ground for the same facts -/
theorem Cn.introD {P : Program} {f : FuncId} {fn : Func} {c : Code} {pre : List VA} {post : VA} (hf : P.funcs[f]? = some fn) (hb : fn.body = some c) (hn : (fn.name == "runtime.NumGoroutine") = false) (hsz : pre.length ≤ fn.ntmps)
    (h : ∀ (B : Nat) (w0 : Bs) (a : Act), (∀ g, ¬ w0.F g) → w0.nd = true → NoF w0 → St B w0 fn.ntmps (argΓ pre) [] a w0.w → c.wp P (bPost P fn (RQ B w0 post)) a w0.w) : Cn P f pre post := by
  refine ⟨⟨fn, hf, hn, by rw [hb]; rfl⟩, fun B w args hB ha => (calls_of_b hf hb (h B ⟨w, fun _ => False, true⟩ _ (fun _ h => h) rfl (fun _ h => h.elim) ?_)).mono fun _ _ ⟨v, he, hv, hk⟩ => ⟨v, he, hv, ⟨hk.os, hk.tape, hk.output, hk.size, fun k hlt => hk.block k hlt fun h => h⟩⟩⟩
  have hl := ha.length
  refine ⟨fun g hg => Nat.le_trans hB (hg.resolve_right fun h => h), DefOk.nil rfl, ?_, Kept.refl _, All2.args ha, (fun l hl => by cases hl), (fun l hl => by cases hl)⟩
  simp only [Array.size_append, List.size_toArray, Array.size_replicate]
  omega
/-- the ground as it is now; block go may be written. -/
def now (w : World) (go : Nat) : Bs := ⟨w, fun g => g = go, true⟩
theorem Kept.trans1 {w0 : Bs} {w w' : World} {go : Nat} (h : Kept w0 w) (hgo : w0.may go) (h2 : Kept (now w go) w') : Kept w0 w' :=
  ⟨h2.os.trans h.os, h2.tape.trans h.tape, h2.output.trans h.output, Nat.le_trans h.size h2.size, fun k hk hf => (h2.block k (Nat.lt_of_lt_of_le hk h.size) fun e => by
    have e' : k = go := e
    subst e'
    rcases hgo with h1 | h1
    · omega
    · exact hf h1).trans (h.block k hk hf)⟩
theorem St.rebase {B N : Nat} {w0 : Bs} {Γ : List (Nat × VA)} {Λ : List Lc} {a : Act} {w : World} (h : St B w0 N Γ Λ a w) (hnd : w0.nd = true) {go : Nat} (hgo : w0.may go) (hΛ : ∀ l ∈ Λ, blk (a.eval (.tmp l.s)) = some go) : St B (now w go) N Γ Λ a w :=
  ⟨fun g hg => by
    rcases hg with h1 | h1
    · exact Nat.le_trans (h.lo w0.w.heap.size (.inl (Nat.le_refl _))) (Nat.le_trans h.base.size h1)
    · have e : g = go := h1
      rw [e]; exact h.lo _ hgo, DefOk.nil (h.defers.none hnd), h.size, Kept.refl _, h.vals, fun l hl => by
    obtain ⟨g, cs, e1, e2, e3, e4⟩ := h.locs l hl
    have := hΛ l hl
    rw [e1, l.H.ok] at this
    injection this with this
    exact ⟨g, cs, e1, .inr this, e3, e4⟩, h.dis⟩
theorem St.back {B N : Nat} {w0 : Bs} {Γ : List (Nat × VA)} {Λ : List Lc} {a : Act} {w w' : World} {go : Nat} (h : St B (now w go) N Γ Λ a w') (hlo : ∀ g, w0.may g → B ≤ g) (hk : Kept w0 w) (hgo : w0.may go) : St B w0 N Γ Λ a w' :=
  ⟨hlo, DefOk.nil (h.defers.none rfl), h.size, hk.trans1 hgo h.base, h.vals, fun l hl => by
    obtain ⟨g, cs, e1, e2, e3, e4⟩ := h.locs l hl
    refine ⟨g, cs, e1, ?_, e3, e4⟩
    rcases e2 with e2 | e2
    · exact .inl (Nat.le_trans hk.size e2)
    · have e : g = go := e2
      rw [e]; exact hgo, h.dis⟩
theorem may_now {w : World} {go : Nat} : (now w go).may go := .inr rfl
theorem has_keep {R : Rg} {B i : Nat} {w0 : Bs} {x : Operand} {v : Value} {A : VA} (hA : ∀ w, Kept w0 w → A.p B v w) (h : Has R B w0 i x (EqV v)) : Has R B w0 i x A := fun a w av => by
  rw [h a w av]
  exact hA _ av.base
/-! limbs elsewhere than in the block that is written stay -/
theorem mag_keep {B : Nat} {w w' : World} {A : Option Addr} {c : Nat} {l : List Nat} (h : Mag B w A c l) (hs : w.heap.size ≤ w'.heap.size) (hk : ∀ b, A.map (·.block) = some b → b < w.heap.size → w'.heap[b]? = w.heap[b]?) : Mag B w' A c l :=
  ⟨h.ok, h.le, h.max, fun hl => by
    obtain ⟨b, o, rfl, h1, h2, h3⟩ := h.at_ hl
    have e := hk b rfl h1
    refine ⟨b, o, rfl, Nat.lt_of_lt_of_le h1 hs, ?_, fun j hj => ?_⟩
    · rcases h2 with h2 | ⟨c', fz, h2⟩
      · exact .inl h2
      · exact .inr ⟨c', fz, e.trans h2⟩
    · rw [← h3 j hj]
      unfold World.cell?
      rw [e]⟩
theorem mg_keep {B : Nat} {w w' : World} {v : Value} {l : List Nat} {go : Nat} (h : (MgA l).va.p B v w) (hne : blk v ≠ some go) (hk : Kept (now w go) w') : (MgA l).va.p B v w' := by
  obtain ⟨A, c, rfl, hm⟩ := mg_open h
  refine mg_shut (mag_keep hm hk.size fun b hb hlt => hk.block b hlt fun e => ?_) rfl
  have e' : b = go := e
  subst e'
  cases A with
  | none => cases hb
  | some ad => exact hne hb
/-- what is left, at the head of a round. -/
structure Rst (B : Nat) (w0 : Bs) (a : Act) (w : World) (s8 : Nat) (v : Value) (l : List Nat) (go : Nat) : Prop where
  mg : (MgA l).va.p B v w
  ne : blk v ≠ some go
  at8 : blk (a.eval (.tmp s8)) = some go
  may : w0.may go
  lt : go < w.heap.size
theorem St.eqF {B N : Nat} {w0 : Bs} {Γ : List (Nat × VA)} {Λ : List Lc} {a : Act} {w : World} (h : St B w0 N Γ Λ a w) {s : Nat} {v : Value} {A : VA} (k : Nat) (hm : Γ[k]? = some (s, EqV v)) (hA : A.p B v w) : St B w0 N (Γ.set k (s, A)) Λ a w :=
  ⟨h.lo, h.defers, h.size, h.base, fun x hx => by
    rcases List.mem_or_eq_of_mem_set hx with hx | rfl
    · exact h.vals x hx
    · have e : a.eval (.tmp s) = v := h.vals _ (List.mem_of_getElem? hm)
      show A.p B (a.eval (.tmp s)) w
      rw [e]; exact hA, h.locs, h.dis⟩
theorem St.toE {B N : Nat} {w0 : Bs} {Γ : List (Nat × VA)} {Λ : List Lc} {a : Act} {w : World} (h : St B w0 N Γ Λ a w) {s : Nat} {A : VA} (k : Nat) (hm : Γ[k]? = some (s, A)) : ∃ v, A.p B v w ∧ St B w0 N (Γ.set k (s, EqV v)) Λ a w :=
  ⟨a.eval (.tmp s), h.vals _ (List.mem_of_getElem? hm), h.lo, h.defers, h.size, h.base, fun x hx => by
    rcases List.mem_or_eq_of_mem_set hx with hx | rfl
    · exact h.vals x hx
    · exact rfl, h.locs, h.dis⟩
open Rg in
theorem St.putV {B N : Nat} {w0 : Bs} {Γ : List (Nat × VA)} {Λ : List Lc} {a : Act} {w w2 : World} (h : St B w0 N Γ Λ a w) {c : Nat} {v : Value} {M : VA} (hc : c < N) (hg : Grow w w2) (hp : M.p B v w2) (hΓ : ∀ y ∈ Γ, y.1 ≠ c) (hΛ : ∀ l ∈ Λ, l.s ≠ c) : St B w0 N ((c, M) :: Γ) Λ (a.put (some c) v) w2 := by
  have hs : c < a.tmps.size := by rw [h.size]; exact hc
  refine ⟨h.lo, h.defers.grow hg rfl, by rw [size_put]; exact h.size, h.base.grow hg, fun y hy => ?_, fun l hl => ?_, fun l hl m hm hne => ?_⟩
  · rcases List.mem_cons.1 hy with rfl | hy
    · show M.p B ((a.put (some c) v).eval (.tmp c)) w2
      rw [eval_put_same _ _ _ hs]; exact hp
    · rw [eval_put_other _ _ _ _ (hΓ y hy)]
      exact VA.grow y.2 _ _ _ _ hg (h.vals y hy)
  · obtain ⟨g, cs, e1, e2, e3, e4⟩ := LcOk.grow (h.locs l hl) hg
    exact ⟨g, cs, by rw [eval_put_other _ _ _ _ (hΛ l hl)]; exact e1, e2, e3, e4⟩
  · rw [eval_put_other _ _ _ _ (hΛ l hl), eval_put_other _ _ _ _ (hΛ m hm)]
    exact h.dis l hl m hm hne

theorem run_callx {P : Program} {w : World} {a : Act} {f : FuncId} {fn : Func} {d : Nat} {T : TypeId} {ps : String} {af : Array Edge} {gd : Option (Nat × Bool)} {at_ : Array TypeId} {xs : List Operand} (hf : P.funcs[f]? = some fn) (hn : (fn.name == "runtime.NumGoroutine") = false) (hb : fn.body.isNone = false) :
    (execOp a.eval ⟨some d, .call ⟨.value (.func f), xs.toArray, at_⟩, T, ps, af, gd⟩).run P w = .ok (.enter f (xs.map a.eval).toArray) w := by
  simp only [execOp, resolve, Act.eval, Deferred.ofValue, Sem.run_bind, Sem.run_pure, Result.andThen_ok, invoke, run_callFunc hf hn hb]
  simp

open Rg in
open Rg in
theorem go_appT {P : Program} {Q : Exit → Act → World → Prop} {B N : Nat} {w0 : Bs} {Γ : List (Nat × VA)} {Λ : List Lc} {a : Act} {w : World} {id : Nat} {ops : Array Oper} {sp : List Sp} (n : Nat) (src : List Nat) (i1 i2 k3 : Nat) {S E T1 T2 T3 : TypeId} {f : FuncId} {M1 M2 : VA} {at_ : Array TypeId} {s u d c e m bytes b s3 : Nat} {ps1 ps2 ps3 : String} {af1 af2 af3 : Array Edge} {D D' : List TypeId} {l xs : List As} {A2 : VA} {it : TypeInfo} {z : Value}
    (h : St B w0 N Γ Λ a w) (hob : Obs P Q ⟨ops, N, Γ, lesN Λ, sp, fun i => List.range i⟩ B w0 0 n) (hn2 : ops.size = n + 3) (hk : Rg.chk ⟨ops, N, Γ, lesN Λ, sp, fun i => List.range i⟩ = true)
    (ho1 : ops[n]? = some ⟨some d, .call ⟨.builtin .append, #[.tmp s, .tmp u], #[S, S]⟩, T1, ps1, af1, none⟩) (ho2 : ops[n + 1]? = some ⟨some c, .call ⟨.value (.func f), #[.tmp d], at_⟩, T2, ps2, af2, none⟩) (ho9 : ops[n + 2]? = some ⟨some e, .assign (.tmp c), T3, ps3, af3, none⟩) (hcn : Cn P f [M1] M2) (hM : Wk (OwnB b E m D (l ++ xs)) M1)
    (hi1 : i1 < n) (h1 : sp[i1]? = some (.val s (OwnB b E m D l))) (hi2 : i2 < n) (h2 : sp[i2]? = some (.val u A2)) (h3 : Γ[k3]? = some (s3, PtrLt b)) (ho3 : Rg.outG ⟨ops, N, Γ, lesN Λ, sp, fun i => List.range i⟩ s3 = true) (hwb : w0.w.heap.size ≤ b) (hA2 : ∀ w u, A2.p B u w → Kept w0 w → (SlA E D' xs).va.p B u w)
    (hS : P.underlying S = some (.slice E)) (hi : P.info? E = some it) (hz : it.zero = some z) (hsz : it.size = m) (hby : it.bytes = bytes) (hzs : z.cells.size = m) (hm0 : 0 < m) (hl : l.length + xs.length ≤ 100000000000) (hb6 : bytes ≤ 1000)
    (hD' : ∀ T ∈ D', T ∈ D) (hED : E ∉ D) (hxm : ∀ x ∈ xs, x.n = m) (hde : ((d != c) && (d != e) && (c != e)) = true) (hd : d < N) (hcN : c < N) (he : e < N)
    (hsrc : src.all (fun k => match Γ[k]? with | some y => !y.2.deps.contains E && Rg.outG ⟨ops, N, Γ, lesN Λ, sp, fun i => List.range i⟩ y.1 | none => false) = true)
    (hΛ : Λ.all (fun l => (l.T != E || l.s == s3) && !l.A.deps.contains E && l.s != d && l.s != c && l.s != e) = true)
    (hQ : ∀ a w, St B w0 N ((e, M2) :: src.filterMap (fun k => Γ[k]?)) Λ a w → Q .normal a w) : (Code.region id ops false).wp P Q a w := by
  have hles0 : ∀ y ∈ lesN Λ, y.cr = none ∧ y.st = none ∧ (⟨y.s, y.T, y.H, y.A0⟩ : Lc) ∈ Λ := fun y hy => by
    obtain ⟨l', hl', rfl⟩ := List.mem_map.1 hy
    exact ⟨rfl, rfl, hl'⟩
  refine Rg.linK (R := ⟨ops, N, Γ, lesN Λ, sp, fun i => List.range i⟩) (m := 3) hn2 rfl hk h (fun y hy _ => (hles0 y hy).2.2) (fun i hi => hob.all i (by omega) (by omega)) fun a1 w1 hinv => ?_
  have hcl : ∀ deps, Rg.clash ⟨ops, N, Γ, lesN Λ, sp, fun i => List.range i⟩ (fun k => decide (k < n)) deps = false := fun deps => by
    unfold Rg.clash
    rw [List.any_eq_false]
    intro y hy
    rw [(hles0 y hy).2.1]
    simp
  obtain ⟨hbw, hB, hv⟩ := hinv.v i1 _ s _ h1 rfl (decide_eq_true hi1) (hcl _)
  have hout : ∀ t, Rg.outG ⟨ops, N, Γ, lesN Λ, sp, fun i => List.range i⟩ t = true → ∀ q, q < ops.size → Rg.dst ⟨ops, N, Γ, lesN Λ, sp, fun i => List.range i⟩ q ≠ some t := fun t ht q hq => by
    have := List.all_eq_true.1 ht q (by simpa using hq)
    simpa using this
  obtain ⟨g3, hg3, hlt3⟩ := hinv.g _ (List.mem_of_getElem? h3) (fun q hq hdq => absurd hdq (hout _ ho3 q hq)) (hcl _)
  have hu := hA2 _ _ (hinv.v i2 _ u _ h2 rfl (decide_eq_true hi2) (hcl _)) hinv.base
  obtain ⟨v', w', hr, r1, r2, r3⟩ := run_ownM (T1 := T1) hS hi hz hsz hby hzs hm0 hl hb6 hv hu hD' hED hxm hbw hB
  have hdsz : d < a1.tmps.size := by rw [hinv.size]; exact hd
  simp only [Bool.and_eq_true, bne_iff_ne] at hde
  obtain ⟨⟨hdc, hde⟩, hce⟩ := hde
  have hlc : ∀ l' ∈ Λ, (l'.T ≠ E ∨ l'.s = s3) ∧ E ∉ l'.A.deps ∧ l'.s ≠ d ∧ l'.s ≠ c ∧ l'.s ≠ e := fun l' hl' => by
    have := List.all_eq_true.1 hΛ l' hl'
    simp only [Bool.and_eq_true, Bool.or_eq_true, beq_iff_eq, bne_iff_ne, Bool.not_eq_true', List.contains_eq_mem, decide_eq_false_iff_not] at this
    exact ⟨this.1.1.1.1, this.1.1.1.2, this.1.1.2, this.1.2, this.2⟩
  have hcur : ∀ l' ∈ Λ, (⟨l'.s, l'.T, l'.H, none, l'.A, none⟩ : Le) ∈ lesN Λ := fun l' hl' => List.mem_map.2 ⟨l', hl', rfl⟩
  have hsr : ∀ y ∈ src.filterMap (fun k => Γ[k]?), E ∉ y.2.deps ∧ y.1 ≠ d ∧ y.1 ≠ c ∧ y.1 ≠ e ∧ y.2.p B (a1.eval (.tmp y.1)) w1 := fun y hy => by
    obtain ⟨k, hk1, hk2⟩ := List.mem_filterMap.1 hy
    have hs := List.all_eq_true.1 hsrc k hk1
    simp only [hk2, Bool.and_eq_true, Bool.not_eq_true', List.contains_eq_mem, decide_eq_false_iff_not] at hs
    have ho := hout y.1 hs.2
    exact ⟨hs.1, fun e1 => ho n (by omega) (by unfold Rg.dst; rw [ho1, e1]; rfl), fun e1 => ho (n + 1) (by omega) (by unfold Rg.dst; rw [ho2, e1]; rfl), fun e1 => ho (n + 2) (by omega) (by unfold Rg.dst; rw [ho9, e1]; rfl), hinv.g y (List.mem_of_getElem? hk2) (fun q hq hdq => absurd hdq (ho q hq)) (hcl _)⟩
  have hst : St B w0 N ((d, OwnB b E m D (l ++ xs)) :: src.filterMap (fun k => Γ[k]?)) Λ (a1.put (some d) v') w' := by
    refine ⟨hinv.lo, hinv.defers.grown r2 r3 rfl, by rw [size_put]; exact hinv.size, ?_, ?_, ?_, ?_⟩
    · exact ⟨r2.os.trans hinv.base.os, r2.tape.trans hinv.base.tape, r2.output.trans hinv.base.output, Nat.le_trans hinv.base.size r2.size, fun k hk hf =>
        (r2.block k (Nat.lt_of_lt_of_le hk hinv.base.size) (fun e => by have := (r3 k e.symm).1; omega)).trans (hinv.base.block k hk hf)⟩
    · intro y hy
      rcases List.mem_cons.1 hy with rfl | hy
      · show (OwnB b E m D (l ++ xs)).p B ((a1.put (some d) v').eval (.tmp d)) w'
        rw [eval_put_same _ _ _ hdsz]
        exact ⟨Nat.le_trans hbw r2.size, hB, r1⟩
      · obtain ⟨q1, q2, _, _, q5⟩ := hsr y hy
        rw [eval_put_other _ _ _ _ q2]
        exact VA.grown q5 r2 r3 hB q1
    · intro l' hl'
      obtain ⟨g1, g2, g3, _⟩ := hlc l' hl'
      obtain ⟨g, cs, e1, e2, e3, e4⟩ := hinv.c _ (hcur l' hl') l'.A rfl
      refine ⟨g, cs, by rw [eval_put_other _ _ _ _ g3]; exact e1, e2, ?_, As.grown e4 r2 r3 hB g2⟩
      rw [r2.block g (Array.getElem?_eq_some_iff.1 e3).1 (fun e5 => by
        obtain ⟨h8, c, fz, e6⟩ := r3 g e5.symm
        rcases g1 with g1 | g1
        · rw [e3] at e6
          injection e6 with e6
          injection e6 with _ e6 _
          exact g1 e6
        · rw [← g1, e1, l'.H.ok] at hg3
          injection hg3 with hg3
          omega)]
      exact e3
    · intro l1 hl1 l2 hl2 hne'
      obtain ⟨_, _, g3, _⟩ := hlc l1 hl1
      obtain ⟨_, _, g5, _⟩ := hlc l2 hl2
      rw [eval_put_other _ _ _ _ g3, eval_put_other _ _ _ _ g5]
      exact hinv.x _ (hcur l1 hl1) _ (hcur l2 hl2) hne' rfl rfl
  rw [List.range'_succ, wpOps_cons]
  refine wpOp_of (R := ⟨ops, N, Γ, lesN Λ, sp, fun i => List.range i⟩) ho1 rfl (wp_value (w' := w') (v := v') (by simp [execOp, resolve, invoke, builtin, hr, Result.andThen]) ?_)
  rw [List.range'_succ, wpOps_cons]
  refine wpOp_of (R := ⟨ops, N, Γ, lesN Λ, sp, fun i => List.range i⟩) ho2 rfl ?_
  obtain ⟨⟨fn, hf, hn, hb⟩, hcall⟩ := hcn
  have hrun := run_callx (P := P) (w := w') (a := a1.put (some d) v') (d := c) (T := T2) (ps := ps2) (af := af2) (gd := none) (at_ := at_) (xs := [.tmp d]) hf hn hb
  unfold Oper.wp
  rw [show (#[Operand.tmp d] : Array Operand) = [Operand.tmp d].toArray from rfl, hrun]
  have hm1 : M1.p B ((a1.put (some d) v').eval (.tmp d)) w' := hM _ _ _ (hst.vals _ (List.mem_cons_self ..))
  have hBw : B ≤ w'.heap.size := Nat.le_trans (Nat.le_trans hB hbw) r2.size
  refine (hcall B w' [(a1.put (some d) v').eval (.tmp d)] hBw (.cons hm1 .nil)).mono fun ex w2 ⟨v2, he2, hp2, hg2⟩ => ?_
  subst he2
  have hst2 := St.putV hst (v := v2) (M := M2) hcN hg2 hp2 (fun y hy => by
    rcases List.mem_cons.1 hy with rfl | hy
    · exact hdc
    · exact (hsr y hy).2.2.1) (fun l' hl' => (hlc l' hl').2.2.2.1)
  have hst3 := St.putV hst2 (c := e) (v := v2) (M := M2) he (Grow.refl w2) hp2 (fun y hy => by
    rcases List.mem_cons.1 hy with rfl | hy
    · exact hce
    · rcases List.mem_cons.1 hy with rfl | hy
      · exact hde
      · exact (hsr y hy).2.2.2.1) (fun l' hl' => (hlc l' hl').2.2.2.2)
  show wpOps P ops Q ((n + 1 + 1) :: List.range' (n + 1 + 1 + 1) 0) ((a1.put (some d) v').put (some c) v2) w2
  rw [wpOps_cons]
  have hcsz : c < (a1.put (some d) v').tmps.size := by rw [size_put, hinv.size]; exact hcN
  refine wpOp_of (R := ⟨ops, N, Γ, lesN Λ, sp, fun i => List.range i⟩) ho9 rfl (wp_value (w' := w2) (v := v2) ?_ (hQ _ _ ?_))
  · have := eval_put_same (a1.put (some d) v') c v2 hcsz
    simp [execOp, this]
  · exact ⟨hst3.lo, hst3.defers, hst3.size, hst3.base, fun y hy => hst3.vals y (by
      rcases List.mem_cons.1 hy with rfl | hy
      · exact List.mem_cons_self ..
      · exact List.mem_cons_of_mem _ (List.mem_cons_of_mem _ (List.mem_cons_of_mem _ hy))), hst3.locs, hst3.dis⟩

section
variable {P : Program} {R : Rg} {Q : Exit → Act → World → Prop} {B i : Nat} {w0 : Bs}
theorem r_callB {A : VA} {f : FuncId} {xs : List Operand} {As : List VA} {mk : Nat → VA} {at_ : Array TypeId} (hc : CnI P f As mk) (hw : ∀ n, w0.w.heap.size ≤ n → Wk (mk n) A) (hx : HasL R B w0 i xs As) : Wv P Q R B w0 i (.call ⟨.value (.func f), xs.toArray, at_⟩) A := by
  intro d T ps af gd a w av K hK
  obtain ⟨⟨fn, hf, hn, hb⟩, hcall⟩ := hc
  have hrun : (execOp a.eval ⟨some d, .call ⟨.value (.func f), xs.toArray, at_⟩, T, ps, af, gd⟩).run P w = .ok (.enter f (xs.map a.eval).toArray) w := by
    simp only [execOp, resolve, Act.eval, Deferred.ofValue, Sem.run_bind, Sem.run_pure, Result.andThen_ok, invoke, run_callFunc hf hn hb]
    simp
  unfold Oper.wp
  rw [hrun]
  exact (hcall B w _ (Av.bw av) (hx.all av)).mono fun e w' ⟨v, he, hv, hg⟩ => by subst he; exact hK v w' hg (hw _ av.base.size _ _ _ hv)
end
theorem mgB_mono {b b' : Nat} {l : List Nat} (h : b ≤ b') : Wk (MgB b' l).va (MgB b l).va := fun _ _ _ hp => mgB_of (mgB_A _ _ _ hp) fun g hg => Nat.le_trans h (mgB_va hp g hg)
theorem ownB_mgB {b : Nat} {l : List Nat} (ok : okL l) : Wk (OwnB b U32 1 [] (NL l)) (MgB b l).va := fun B v w h => own_mgB ok B v w h.2.2

end Go.Proofs.YtmghfjcjcfaagaaGreat
