/- Contract of cavity.Trip; sizes of benches; an append of a slice at the end of a region that draws its order. -/
import Derived.Test.YtgjolcbehcjhcaaBenF
import Derived.Test.YtgjolcbehcjhcaaBenE
import Derived.Test.YtgjolcbehcjhcaaCavB
import Derived.Laws.AppendOwn
import Derived.Orders
namespace Go.Proofs.Ytgjolcbehcjhcaa
open Go Go.RowKit
namespace CavC
theorem fld_163_0 : Fld Try.prog 163 0 0 1 := ⟨_, _, Try.underlying163, rfl, rfl, by kernel_rfl, by decide⟩
theorem fld_163_1 : Fld Try.prog 163 1 1 1 := ⟨_, _, Try.underlying163, rfl, rfl, by kernel_rfl, by decide⟩
theorem fld_28_0 : Fld Try.prog 28 0 0 4 := ⟨_, _, Try.underlying28, rfl, rfl, by kernel_rfl, by decide⟩
theorem fld_28_1 : Fld Try.prog 28 1 4 4 := ⟨_, _, Try.underlying28, rfl, rfl, by kernel_rfl, by decide⟩
theorem fld_28_2 : Fld Try.prog 28 2 8 4 := ⟨_, _, Try.underlying28, rfl, rfl, by kernel_rfl, by decide⟩
theorem fld_28_3 : Fld Try.prog 28 3 12 4 := ⟨_, _, Try.underlying28, rfl, rfl, by kernel_rfl, by decide⟩
theorem fld_70_1 : Fld Try.prog 70 1 1 4 := ⟨_, _, Try.underlying70, rfl, rfl, by kernel_rfl, by decide⟩
theorem fld_70_2 : Fld Try.prog 70 2 5 4 := ⟨_, _, Try.underlying70, rfl, rfl, by kernel_rfl, by decide⟩
theorem sl_160 : Sl Try.prog 160 163 2 := ⟨by kernel_rfl, by kernel_rfl⟩
theorem sl_53 : Sl Try.prog 53 70 9 := ⟨by kernel_rfl, by kernel_rfl⟩
theorem ty_158 : Ty Try.prog 158 1 false := ⟨by kernel_rfl, by kernel_rfl⟩
theorem ty_163 : Ty Try.prog 163 2 true := ⟨by kernel_rfl, by kernel_rfl⟩
theorem ty_26 : Ty Try.prog 26 4 true := ⟨by kernel_rfl, by kernel_rfl⟩
theorem ty_28 : Ty Try.prog 28 16 true := ⟨by kernel_rfl, by kernel_rfl⟩
theorem ty_4 : Ty Try.prog 4 1 false := ⟨by kernel_rfl, by kernel_rfl⟩
theorem ty_70 : Ty Try.prog 70 9 true := ⟨by kernel_rfl, by kernel_rfl⟩
end CavC
open CavC
section
variable {P : Program} {Q : Exit → Act → World → Prop} {B N : Nat} {w0 : Bs} {Γ : List (Nat × VA)} {Λ : List Lc} {a : Act} {w : World}
open Rg in
theorem go_appM {id : Nat} {ops : Array Oper} {sp : List Sp} (anc : List (List Nat)) (n : Nat) (src : List Nat) (i1 i2 : Nat) {S E T1 T2 : TypeId} {s u d e m bytes : Nat} {ps1 ps2 : String} {af1 af2 : Array Edge} {D D' : List TypeId} {l xs : List As} {A2 : VA} {it : TypeInfo} {z : Value}
    (hm : P.follows .mixedOrders = true) (h : St B w0 N Γ Λ a w)
    (hob : Obs P Q ⟨ops, N, Γ, lesN Λ, sp, fun i => anc.getD i []⟩ B w0 0 n) (hn2 : ops.size = n + 2)
    (hanc : Rg.ancOk ⟨ops, N, Γ, lesN Λ, sp, fun i => anc.getD i []⟩ = true) (hk : Rg.chk ⟨ops, N, Γ, lesN Λ, sp, fun i => anc.getD i []⟩ = true)
    (ha1 : (List.range n).all (fun j => (anc.getD n []).contains j) = true) (ha2 : (anc.getD (n + 1) []).contains n = true)
    (ho1 : ops[n]? = some ⟨some d, .call ⟨.builtin .append, #[.tmp s, .tmp u], #[S, S]⟩, T1, ps1, af1, none⟩) (ho2 : ops[n + 1]? = some ⟨some e, .assign (.tmp d), T2, ps2, af2, none⟩)
    (hi1 : i1 < n) (h1 : sp[i1]? = some (.val s (OwnR w0.w.heap.size E m D l))) (hi2 : i2 < n) (h2 : sp[i2]? = some (.val u A2)) (hA2 : ∀ w u, A2.p B u w → Kept w0 w → (SlA E D' xs).va.p B u w)
    (hS : P.underlying S = some (.slice E)) (hi : P.info? E = some it) (hz : it.zero = some z) (hsz : it.size = m) (hby : it.bytes = bytes) (hzs : z.cells.size = m) (hm0 : 0 < m) (hl : l.length + xs.length ≤ 100000000000) (hb6 : bytes ≤ 1000)
    (hD' : ∀ T ∈ D', T ∈ D) (hED : E ∉ D) (hxm : ∀ x ∈ xs, x.n = m) (hde : (d != e) = true) (hd : d < N) (he : e < N)
    (hsrc : src.all (fun k => match Γ[k]? with | some y => !y.2.deps.contains E && Rg.outG ⟨ops, N, Γ, lesN Λ, sp, fun i => anc.getD i []⟩ y.1 | none => false) = true)
    (hΛ : Λ.all (fun l => l.T != E && !l.A.deps.contains E && l.s != d && l.s != e) = true)
    (hQ : ∀ a w, St B w0 N ((e, OwnR w0.w.heap.size E m D (l ++ xs)) :: src.filterMap (fun k => Γ[k]?)) Λ a w → Q .normal a w) : (Code.region id ops true).wp P Q a w := by
  have hles0 : ∀ y ∈ lesN Λ, y.cr = none ∧ y.st = none ∧ (⟨y.s, y.T, y.H, y.A0⟩ : Lc) ∈ Λ := fun y hy => by
    obtain ⟨l', hl', rfl⟩ := List.mem_map.1 hy
    exact ⟨rfl, rfl, hl'⟩
  refine Rg.draw2 (R := ⟨ops, N, Γ, lesN Λ, sp, fun i => anc.getD i []⟩) hn2 hm hanc hk h (fun y hy _ => (hles0 y hy).2.2) (fun i hi => hob.all i (by omega) (by omega)) (fun j hj => List.all_eq_true.1 ha1 j (by simpa using hj)) ha2 fun a1 w1 hinv K hK => ?_
  have hcl : ∀ deps, Rg.clash ⟨ops, N, Γ, lesN Λ, sp, fun i => anc.getD i []⟩ (fun k => decide (k < n)) deps = false := fun deps => by
    unfold Rg.clash
    rw [List.any_eq_false]
    intro y hy
    rw [(hles0 y hy).2.1]
    simp
  have hv := hinv.v i1 _ s _ h1 rfl (decide_eq_true hi1) (hcl _)
  have hu := hA2 _ _ (hinv.v i2 _ u _ h2 rfl (decide_eq_true hi2) (hcl _)) hinv.base
  have hB : B ≤ w0.w.heap.size := hinv.lo _ (.inl (Nat.le_refl _))
  obtain ⟨v', w', hr, r1, r2, r3⟩ := run_ownM (T1 := T1) hS hi hz hsz hby hzs hm0 hl hb6 hv hu hD' hED hxm hinv.base.size hB
  have hdsz : d < a1.tmps.size := by rw [hinv.size]; exact hd
  have hesz : e < (a1.put (some d) v').tmps.size := by rw [size_put, hinv.size]; exact he
  have hne : d ≠ e := by simpa using hde
  refine wpOp_of (R := ⟨ops, N, Γ, lesN Λ, sp, fun i => anc.getD i []⟩) ho1 rfl (wp_value (w' := w') (v := v') (by simp [execOp, resolve, invoke, builtin, hr, Result.andThen]) (hK _ _ fun K' hK' => ?_))
  refine wpOp_of (R := ⟨ops, N, Γ, lesN Λ, sp, fun i => anc.getD i []⟩) ho2 rfl (wp_value (w' := w') (v := v') ?_ (hK' _ _ (hQ _ _ ?_)))
  · have := eval_put_same a1 d v' hdsz
    simp [execOp, this]
  · have hother : ∀ t, t ≠ d → t ≠ e → ((a1.put (some d) v').put (some e) v').eval (.tmp t) = a1.eval (.tmp t) := fun t h3 h4 => by
      rw [eval_put_other _ _ _ _ h4, eval_put_other _ _ _ _ h3]
    have hlc : ∀ l' ∈ Λ, l'.T ≠ E ∧ E ∉ l'.A.deps ∧ l'.s ≠ d ∧ l'.s ≠ e := fun l' hl' => by
      have := List.all_eq_true.1 hΛ l' hl'
      simp only [Bool.and_eq_true, bne_iff_ne, Bool.not_eq_true', List.contains_eq_mem, decide_eq_false_iff_not] at this
      exact ⟨this.1.1.1, this.1.1.2, this.1.2, this.2⟩
    have hcur : ∀ l' ∈ Λ, (⟨l'.s, l'.T, l'.H, none, l'.A, none⟩ : Le) ∈ lesN Λ := fun l' hl' => List.mem_map.2 ⟨l', hl', rfl⟩
    refine ⟨hinv.lo, hinv.defers, by rw [size_put, size_put]; exact hinv.size, ?_, ?_, ?_, ?_⟩
    · exact ⟨r2.os.trans hinv.base.os, r2.tape.trans hinv.base.tape, r2.output.trans hinv.base.output, Nat.le_trans hinv.base.size r2.size, fun k hk hf =>
        (r2.block k (Nat.lt_of_lt_of_le hk hinv.base.size) (fun e => by have := (r3 k e.symm).1; omega)).trans (hinv.base.block k hk hf)⟩
    · intro y hy
      rcases List.mem_cons.1 hy with rfl | hy
      · show (OwnR w0.w.heap.size E m D (l ++ xs)).p B (((a1.put (some d) v').put (some e) v').eval (.tmp e)) w'
        rw [eval_put_same _ _ _ hesz]
        exact r1
      · obtain ⟨k, hk1, hk2⟩ := List.mem_filterMap.1 hy
        have hs := List.all_eq_true.1 hsrc k hk1
        simp only [hk2, Bool.and_eq_true, Bool.not_eq_true', List.contains_eq_mem, decide_eq_false_iff_not] at hs
        have hout : ∀ q, q < ops.size → Rg.dst ⟨ops, N, Γ, lesN Λ, sp, fun i => anc.getD i []⟩ q ≠ some y.1 := fun q hq => by
          have := List.all_eq_true.1 hs.2 q (by simpa using hq)
          simpa using this
        have g1 : y.1 ≠ d := fun e1 => hout n (by omega) (by unfold Rg.dst; rw [ho1, e1]; rfl)
        have g2 : y.1 ≠ e := fun e1 => hout (n + 1) (by omega) (by unfold Rg.dst; rw [ho2, e1]; rfl)
        rw [hother _ g1 g2]
        exact VA.grown (hinv.g y (List.mem_of_getElem? hk2) (fun q hq hdq => absurd hdq (hout q hq)) (hcl _)) r2 r3 hB hs.1
    · intro l' hl'
      obtain ⟨g1, g2, g3, g4⟩ := hlc l' hl'
      obtain ⟨g, cs, e1, e2, e3, e4⟩ := hinv.c _ (hcur l' hl') l'.A rfl
      refine ⟨g, cs, by rw [hother _ g3 g4]; exact e1, e2, ?_, As.grown e4 r2 r3 hB g2⟩
      rw [r2.block g (Array.getElem?_eq_some_iff.1 e3).1 (fun e5 => by
        obtain ⟨_, c, fz, e6⟩ := r3 g e5.symm
        rw [e3] at e6
        injection e6 with e6
        injection e6 with _ e6 _
        exact g1 e6)]
      exact e3
    · intro l1 hl1 l2 hl2 hne'
      obtain ⟨_, _, g3, g4⟩ := hlc l1 hl1
      obtain ⟨_, _, g5, g6⟩ := hlc l2 hl2
      rw [hother _ g3 g4, hother _ g5 g6]
      exact hinv.x _ (hcur l1 hl1) _ (hcur l2 hl2) hne' rfl rfl
end

theorem str_way : Str Try.prog 163 [BoA false, NfA] :=
  Str.of (z := .agg #[.bool false, .nilFunc]) (by kernel_rfl) Try.underlying163 (by kernel_rfl) fun _ _ => ⟨[[.bool false], [.nilFunc]], rfl, .cons rfl (.cons ⟨rfl, rfl⟩ .nil)⟩
def wayF (j : Nat) : FuncId := if j = 0 then 172 else 171
def wayA (j : Nat) : As := cat [BoA (decide (j = 0)), EqA (.func (.func (wayF j)) #[] #[])]
def wayL : List As := [wayA 0, wayA 1]
theorem way_at {j : Nat} (h : j < 2) : wayL[j]? = some (wayA j) :=
  match j, h with
  | 0, _ => rfl
  | 1, _ => rfl
theorem way_n : ∀ A ∈ wayL, A.n = 2 := fun A hA => by
  rcases List.mem_cons.1 hA with rfl | hA
  · rfl
  · obtain rfl := List.mem_singleton.1 hA
    rfl
theorem free_eqA (v : Value) : FreeA (EqA v) (EqA v) := ⟨rfl, rfl, fun _ _ _ _ _ h => h⟩
theorem way_free : FreeA (cat wayL) (cat wayL) := cat_free (.cons (cat_free (.cons (free_bo _) (.cons (free_eqA _) .nil))) (.cons (cat_free (.cons (free_bo _) (.cons (free_eqA _) .nil))) .nil))
def wayQ (j : Nat) (m : MQ) : MQ := if j = 0 then m else mulQ (mirQ m) m
def wayT (ring : Bool) (j : Nat) (m : MQ) : MQ := if decide (j = 0) == ring then wayQ j m else m
def tripQ (ring : Bool) (m : MQ) : MQ := if ring then m else mulQ (mirQ m) m
def tripF (xs : List RE) (ring : Bool) : RM × Int := if chF xs = 0 then asM 0 (tripQ ring (prodQ xs)) else (rm0, chF xs)
/-- how far it is behind j ways. -/
def wayS (ring : Bool) (m : MQ) : Nat → MQ
  | 0 => m
  | j + 1 => wayT ring j (wayS ring m j)
theorem wayS_2 (ring : Bool) (m : MQ) : wayS ring m 2 = tripQ ring m := by cases ring <;> rfl
def wayB : Nat → Nat
  | 0 => 16781313
  | j + 1 => wayB j + wayB j + (wayB j + wayB j) + 1
theorem St.nbR {B N : Nat} {w0 : Bs} {Γ : List (Nat × VA)} {Λ : List Lc} {a : Act} {w : World} (h : St B w0 N Γ Λ a w) {s : Nat} {E : TypeId} {l : List As} (k : Nat) (hm : Γ[k]? = some (s, NewR w0.w.heap.size E l)) (hB : B = w0.w.heap.size) : St B w0 N (Γ.set k (s, NewB E l)) Λ a w :=
  ⟨h.lo, h.defers, h.size, h.base, fun x hx => by
    rcases List.mem_or_eq_of_mem_set hx with hx | rfl
    · exact h.vals x hx
    · have := h.vals _ (List.mem_of_getElem? hm)
      subst hB
      exact this, h.locs, h.dis⟩
theorem r_lenN {P : Program} {R : Rg} {Q : Exit → Act → World → Prop} {B i b : Nat} {w0 : Bs} {x : Operand} {S E E' : TypeId} {l : List As} (hS : P.underlying S = some (.slice E')) (hx : Has R B w0 i x (NewR b E l)) : Wv P Q R B w0 i (.call ⟨.builtin .len, #[x], #[S]⟩) (In l.length) :=
  wv_run fun d T ps af gd a w av => by
    obtain ⟨g, ds, h1, _⟩ := hx a w av
    refine ⟨.int .i64 l.length, w, ?_, Grow.refl w, val_num _ _ _ _⟩
    simp [execOp, resolve, invoke, builtin, h1, Builtin.len_, run_underlying hS, goInt]

set_option maxRecDepth 100000 in
theorem ways_c  : Cn Try.prog 134 [] (NewB 163 wayL) := by
  refine Cn.introW Try.func134 rfl (by kernel_rfl) (Nat.le_of_ble_eq_true (by kernel_rfl)) .nil (fun _ _ _ _ hB ⟨g, ds, e, h1, h2, h3⟩ => ⟨g, ds, e, Nat.le_trans hB h1, h2, way_free.2.2 _ _ _ _ hB h3⟩) (fun B w0 a hB0 hst => ?_)
  have hst : St B w0 6 [] [] a w0.w := hst
  refine wp_seq ?_
  refine go_lin (sts := []) (news := []) (sp := [.val 0 _]) [.o 0] hst (obs_cons (ob_v rfl rfl (r_assign has_const)) (obs_nil)) (by kernel_rfl) (by kernel_rfl) (by kernel_rfl) (fun a w hst => ?_)
  have hst : St B w0 6 [(0, _)] [] a w := hst
  refine thn_normal ?_
  refine wp_seq ?_
  refine go_lin (sts := []) (news := []) (sp := [.val 1 _]) [.g 0, .o 0] hst (obs_cons (ob_v rfl rfl (r_assign has_fnE)) (obs_nil)) (by kernel_rfl) (by kernel_rfl) (by kernel_rfl) (fun a w hst => ?_)
  have hst : St B w0 6 [(0, _), (1, _)] [] a w := hst
  refine thn_normal ?_
  refine wp_seq ?_
  refine go_lin (sts := []) (news := []) (sp := [.val 2 _, .val 3 _, .val 4 _, .val 5 _, .val 0 _]) [.o 4] hst (obs_cons (ob_v rfl rfl (r_build (xs := [(0, .const (.bool true)), (1, .func 172)]) (qs := [(0, _), (1, _)]) str_way (.cons ⟨rfl, has_bo, rfl⟩ (.cons ⟨rfl, has_fnE, rfl⟩ .nil)))) (obs_cons (ob_v rfl rfl (r_move (has_g 1 rfl (by kernel_rfl) (by kernel_rfl)))) (obs_cons (ob_v rfl rfl (r_build (xs := [(1, .tmp 3)]) (qs := [(1, _)]) str_way (.cons ⟨rfl, (has_v 1 rfl (by kernel_rfl) (by kernel_rfl)), rfl⟩ .nil))) (obs_cons (ob_v rfl rfl (r_sliceN (l := [_, _]) (xs := [.tmp 2, .tmp 4]) sl_160 (by kernel_rfl) (n_ok (by kernel_rfl)) (Nat.le_of_ble_eq_true (by kernel_rfl)) (Nat.le_of_ble_eq_true (by kernel_rfl)) (Nat.le_of_ble_eq_true (by kernel_rfl)) (.cons (has_v 0 rfl (by kernel_rfl) (by kernel_rfl)) (.cons (has_v 2 rfl (by kernel_rfl) (by kernel_rfl)) .nil)) rfl rfl)) (obs_cons (ob_v rfl rfl (r_assign (has_v 3 rfl (by kernel_rfl) (by kernel_rfl)))) (obs_nil)))))) (by kernel_rfl) (by kernel_rfl) (by kernel_rfl) (fun a w hst => ?_)
  have hst : St B w0 6 [(0, _)] [] a w := hst
  refine thn_normal ?_
  refine wp_ret ?_
  have hst := St.nbR hst 0 rfl hB0
  refine ret_wk ?_ (ret_tmp rfl hst (List.mem_of_getElem? (i := 0) rfl))
  exact fun _ _ _ h => h

set_option maxRecDepth 100000 in
theorem ways1_q {c : Nat} {m : MQ} (hc : c ≤ 34359738368) : Cn Try.prog 171 [(QMA c m).va] ((QMA (c + c + (c + c) + 1) (mulQ (mirQ m) m)).va) := by
  refine Cn.intro Try.func171 rfl (by kernel_rfl) (Nat.le_of_ble_eq_true (by kernel_rfl)) (fun B w0 a hst => ?_)
  have hst : St B w0 14 [(0, (QMA c m).va)] [] a w0.w := hst
  refine wp_seq ?_
  refine go_lin (sts := []) (news := [⟨1, 28, ptrH, some 0, _, none⟩, ⟨2, 28, ptrH, some 1, _, none⟩]) (sp := [.alc 0, .alc 1]) [] hst (obs_cons (ob_box rfl rfl rfl (has_g 0 rfl (by kernel_rfl) (by kernel_rfl))) (obs_cons (ob_alc rfl rfl rfl (Str.zero str_matrix)) (obs_nil))) (by kernel_rfl) (by kernel_rfl) (by kernel_rfl) (fun a w hst => ?_)
  have hst : St B w0 14 [] [⟨1, 28, ptrH, _⟩, ⟨2, 28, ptrH, _⟩] a w := hst
  refine thn_normal ?_
  refine wp_seq ?_
  refine go_lin (sts := [none, some (11, _)]) (news := []) (sp := [.adr 3 1 (.some 12) True, .val 4 _, .adr 5 1 (.some 4) True, .val 6 _, .adr 7 1 (.some 8) True, .val 8 _, .adr 9 1 (.some 0) True, .val 10 _, .val 11 _, .val 12 _, .val 13 _, .sto 1]) [] hst (obs_cons (ob_a rfl rfl (a_fld (loc_at0 0 rfl (by kernel_rfl)) fld_28_3)) (obs_cons (ob_v rfl rfl (r_loadf 0 rfl (by kernel_rfl) trivial (loc_at0 0 rfl (by kernel_rfl)) (Sub.part 3 rfl rfl) ty_26)) (obs_cons (ob_a rfl rfl (a_fld (loc_at0 0 rfl (by kernel_rfl)) fld_28_1)) (obs_cons (ob_v rfl rfl (r_loadf 2 rfl (by kernel_rfl) trivial (loc_at0 0 rfl (by kernel_rfl)) (Sub.part 1 rfl rfl) ty_26)) (obs_cons (ob_a rfl rfl (a_fld (loc_at0 0 rfl (by kernel_rfl)) fld_28_2)) (obs_cons (ob_v rfl rfl (r_loadf 4 rfl (by kernel_rfl) trivial (loc_at0 0 rfl (by kernel_rfl)) (Sub.part 2 rfl rfl) ty_26)) (obs_cons (ob_a rfl rfl (a_fld (loc_at0 0 rfl (by kernel_rfl)) fld_28_0)) (obs_cons (ob_v rfl rfl (r_loadf 6 rfl (by kernel_rfl) trivial (loc_at0 0 rfl (by kernel_rfl)) (Sub.part 0 rfl rfl) ty_26)) (obs_cons (ob_v rfl rfl (r_build (xs := [(0, .tmp 4), (1, .tmp 6), (2, .tmp 8), (3, .tmp 10)]) (qs := [(0, _), (1, _), (2, _), (3, _)]) str_matrix (.cons ⟨rfl, (has_v 1 rfl (by kernel_rfl) (by kernel_rfl)), rfl⟩ (.cons ⟨rfl, (has_v 3 rfl (by kernel_rfl) (by kernel_rfl)), rfl⟩ (.cons ⟨rfl, (has_v 5 rfl (by kernel_rfl) (by kernel_rfl)), rfl⟩ (.cons ⟨rfl, (has_v 7 rfl (by kernel_rfl) (by kernel_rfl)), rfl⟩ .nil)))))) (obs_cons (ob_v rfl rfl (r_load (loc_at0 0 rfl (by kernel_rfl)) ty_28)) (obs_cons (ob_v rfl rfl (r_call (xs := [.tmp 11, .tmp 12]) (rowTimes_q (m := ⟨_, _, _, _⟩) (q := m) (by omega)) (.cons (has_v 8 rfl (by kernel_rfl) (by kernel_rfl)) (.cons (has_v 9 rfl (by kernel_rfl) (by kernel_rfl)) .nil)))) (obs_cons (ob_sto rfl rfl rfl (has_v 10 rfl (by kernel_rfl) (by kernel_rfl)) ty_28 (Eq.trans (b := 16) rfl rfl)) (obs_nil))))))))))))) (by kernel_rfl) (by kernel_rfl) (by kernel_rfl) (fun a w hst => ?_)
  have hst : St B w0 14 [] [⟨1, 28, ptrH, _⟩, ⟨2, 28, ptrH, _⟩] a w := hst
  refine thn_normal ?_
  refine wp_ret ?_
  refine ret_wk ?_ (ret_cell rfl hst (List.mem_of_getElem? (i := 1) rfl) ty_28)
  exact wk_id

set_option maxRecDepth 100000 in
theorem ways2_q {c : Nat} {m : MQ} : Cn Try.prog 172 [(QMA c m).va] ((QMA c m).va) := by
  refine Cn.intro Try.func172 rfl (by kernel_rfl) (Nat.le_of_ble_eq_true (by kernel_rfl)) (fun B w0 a hst => ?_)
  have hst : St B w0 4 [(0, (QMA c m).va)] [] a w0.w := hst
  refine wp_seq ?_
  refine go_lin (sts := []) (news := [⟨1, 28, ptrH, some 0, _, none⟩, ⟨2, 28, ptrH, some 1, _, none⟩]) (sp := [.alc 0, .alc 1]) [] hst (obs_cons (ob_box rfl rfl rfl (has_g 0 rfl (by kernel_rfl) (by kernel_rfl))) (obs_cons (ob_alc rfl rfl rfl (Str.zero str_matrix)) (obs_nil))) (by kernel_rfl) (by kernel_rfl) (by kernel_rfl) (fun a w hst => ?_)
  have hst : St B w0 4 [] [⟨1, 28, ptrH, _⟩, ⟨2, 28, ptrH, _⟩] a w := hst
  refine thn_normal ?_
  refine wp_seq ?_
  refine go_lin (sts := [none, some (1, _)]) (news := []) (sp := [.val 3 _, .sto 1]) [] hst (obs_cons (ob_v rfl rfl (r_load (loc_at0 0 rfl (by kernel_rfl)) ty_28)) (obs_cons (ob_sto rfl rfl rfl (has_v 0 rfl (by kernel_rfl) (by kernel_rfl)) ty_28 (Eq.trans (b := 16) rfl rfl)) (obs_nil))) (by kernel_rfl) (by kernel_rfl) (by kernel_rfl) (fun a w hst => ?_)
  have hst : St B w0 4 [] [⟨1, 28, ptrH, _⟩, ⟨2, 28, ptrH, _⟩] a w := hst
  refine thn_normal ?_
  refine wp_ret ?_
  refine ret_wk ?_ (ret_cell rfl hst (List.mem_of_getElem? (i := 1) rfl) ty_28)
  exact wk_id

theorem qm_mono' {k k' : Nat} {m : MQ} (h : k ≤ k') : WkA (QMA k m) (QMA k' m) := cat_wk (.cons (qa_mono h) (.cons (qa_mono h) (.cons (qa_mono h) (.cons (qa_mono h) .nil))))
theorem way_c {c : Nat} {m : MQ} {j : Nat} (hc : c ≤ 34359738368) : Cn Try.prog (wayF j) [(QMA c m).va] (QMA (c + c + (c + c) + 1) (wayQ j m)).va := by
  unfold wayF wayQ
  by_cases h : j = 0
  · rw [if_pos h, if_pos h]
    exact ways2_q.wkp (qm_mono' (by omega)).va
  · rw [if_neg h, if_neg h]
    exact ways1_q hc
theorem wayB_le {j : Nat} (h : j ≤ 2) : wayB j ≤ 1000000000 :=
  match j, h with
  | 0, _ => by decide
  | 1, _ => by decide
  | 2, _ => by decide

set_option maxRecDepth 100000 in
set_option maxHeartbeats 1000000 in
theorem trip_c (xs : List RE) (ring : Bool) : Cn Try.prog 62 [(SlA 70 [U32] (xs.map REA)).va, Bo ring] (MR (tripF xs ring)) := by
  refine Cn.intro Try.func62 rfl (by kernel_rfl) (Nat.le_of_ble_eq_true (by kernel_rfl)) (fun B w0 a hst => ?_)
  have hst : St B w0 37 [(0, (SlA 70 [U32] (xs.map REA)).va), (1, Bo ring)] [] a w0.w := hst
  refine wp_seq ?_
  refine go_lin (sts := []) (news := [⟨4, 28, ptrH, some 0, _, none⟩]) (sp := [.alc 0, .val 5 _]) [.g 0, .g 1, .o 1] hst (obs_cons (ob_alc rfl rfl rfl (Str.zero str_matrix)) (obs_cons (ob_v rfl rfl (r_assign has_num)) (obs_nil))) (by kernel_rfl) (by kernel_rfl) (by kernel_rfl) (fun a w hst => ?_)
  have hst : St B w0 37 [(0, _), (1, _), (5, _)] [⟨4, 28, ptrH, _⟩] a w := hst
  refine thn_normal ?_
  refine wp_seq ?_
  refine wp_seq ?_
  refine go_lin (sts := [none]) (news := []) (sp := [.val 10 _, .val 11 _, .val 6 _]) [.g 0, .g 1, .g 2, .o 2] hst (obs_cons (ob_v rfl rfl (r_move (has_g 0 rfl (by kernel_rfl) (by kernel_rfl)))) (obs_cons (ob_v rfl rfl (r_call (xs := [.tmp 10]) (benCheck_c xs) (.cons (has_v 0 rfl (by kernel_rfl) (by kernel_rfl)) .nil))) (obs_cons (ob_v rfl rfl (r_assign (has_v 1 rfl (by kernel_rfl) (by kernel_rfl)))) (obs_nil)))) (by kernel_rfl) (by kernel_rfl) (by kernel_rfl) (fun a w hst => ?_)
  have hst : St B w0 37 [(0, _), (1, _), (5, _), (6, _)] [⟨4, 28, ptrH, _⟩] a w := hst
  refine thn_normal ?_
  refine wp_seq ?_
  refine go_lin (sts := [none]) (news := []) (sp := [.val 12 _, .val 13 _]) [.g 0, .g 1, .g 2, .g 3, .o 1] hst (obs_cons (ob_v rfl rfl (r_move (has_g 3 rfl (by kernel_rfl) (by kernel_rfl)))) (obs_cons (ob_v rfl rfl (r_neq (has_v 0 rfl (by kernel_rfl) (by kernel_rfl)) has_num)) (obs_nil))) (by kernel_rfl) (by kernel_rfl) (by kernel_rfl) (fun a w hst => ?_)
  have hst : St B w0 37 [(0, _), (1, _), (5, _), (6, _), (13, _)] [⟨4, 28, ptrH, _⟩] a w := hst
  refine thn_normal ?_
  refine cond_of hst (List.mem_of_getElem? (i := 4) rfl) (fun hb0 => ?_) (fun hb0 => ?_)
  · have hc : ¬ chF xs = 0 := by simpa using hb0
    refine wp_seq ?_
    refine go_lin (sts := [some (2, _)]) (news := []) (sp := [.val 14 _, .val 15 _, .sto 0, .val 5 _]) [.g 0, .g 1, .o 3] hst (obs_cons (ob_v rfl rfl (r_build (xs := []) (qs := []) str_matrix .nil)) (obs_cons (ob_v rfl rfl (r_move (has_g 3 rfl (by kernel_rfl) (by kernel_rfl)))) (obs_cons (ob_sto rfl rfl rfl (has_v 0 rfl (by kernel_rfl) (by kernel_rfl)) ty_28 (Eq.trans (b := 16) rfl rfl)) (obs_cons (ob_v rfl rfl (r_assign (has_v 1 rfl (by kernel_rfl) (by kernel_rfl)))) (obs_nil))))) (by kernel_rfl) (by kernel_rfl) (by kernel_rfl) (fun a w hst => ?_)
    have hst : St B w0 37 [(0, _), (1, _), (5, _)] [⟨4, 28, ptrH, _⟩] a w := hst
    refine thn_normal ?_
    refine wp_ret ?_
    refine thn_ret ?_
    refine ret_wk ?_ (ret_many (rs := [.cell 4 28, .tmp 5]) rfl hst (.cell (List.mem_of_getElem? (i := 0) rfl) ty_28 (.tmp (List.mem_of_getElem? (i := 2) rfl) .nil)) (by decide))
    rw [tripF, if_neg hc]; exact wk_id
  · have hc : chF xs = 0 := by simpa using hb0
    have hk := ch_ok hc
    refine wp_skip ?_
    refine thn_normal ?_
    refine wp_seq ?_
    refine go_lin (sts := [none]) (news := [⟨7, 28, ptrH, some 2, _, some (3, _)⟩]) (sp := [.val 16 _, .val 17 _, .alc 1, .sto 1]) [.g 1, .g 2] hst (obs_cons (ob_v rfl rfl (r_move (has_g 0 rfl (by kernel_rfl) (by kernel_rfl)))) (obs_cons (ob_v rfl rfl (r_call (xs := [.tmp 16]) (rowMatrix_c hk.1 hk.2) (.cons (has_v 0 rfl (by kernel_rfl) (by kernel_rfl)) .nil))) (obs_cons (ob_alc rfl rfl rfl (Str.zero str_matrix)) (obs_cons (ob_sto rfl rfl rfl (has_v 1 rfl (by kernel_rfl) (by kernel_rfl)) ty_28 (Eq.trans (b := 16) rfl rfl)) (obs_nil))))) (by kernel_rfl) (by kernel_rfl) (by kernel_rfl) (fun a w hst => ?_)
    have hst : St B w0 37 [(1, _), (5, _)] [⟨4, 28, ptrH, _⟩, ⟨7, 28, ptrH, _⟩] a w := hst
    refine thn_normal ?_
    refine wp_seq ?_
    refine wp_seq ?_
    refine go_lin (sts := [none, none]) (news := []) (sp := [.val 18 _, .val 19 _, .val 20 _]) [.g 0, .g 1, .o 0, .o 1, .o 2] hst (obs_cons (ob_v rfl rfl (r_callN ways_c way_free)) (obs_cons (ob_v rfl rfl (r_lenN Try.underlying160 (has_v 0 rfl (by kernel_rfl) (by kernel_rfl)))) (obs_cons (ob_v rfl rfl (r_move has_num)) (obs_nil)))) (by kernel_rfl) (by kernel_rfl) (by kernel_rfl) (fun a w hst => ?_)
    have hst : St B w0 37 [(1, _), (5, _), (18, _), (19, _), (20, _)] [⟨4, 28, ptrH, _⟩, ⟨7, 28, ptrH, _⟩] a w := hst
    have hst := St.toLoc hst 2 rfl (by kernel_rfl)
    have hst : St B w0 37 [(1, _), (5, _), (19, _), (20, _)] [⟨4, 28, ptrH, _⟩, ⟨7, 28, ptrH, _⟩, ⟨18, 163, slH 2 2, _⟩] a w := hst
    refine thn_normal ?_
    refine wp_block ?_
    have hst := St.sel hst [0, 2, 3]
    refine wp_loop_ghost (fun n a w => ∃ j : Nat, (n + j = 2) ∧ St B w0 37 [(1, Bo ring), (19, In (2 : Nat)), (20, In (j : Nat))] [⟨4, 28, ptrH, RMA rm0⟩, ⟨7, 28, ptrH, QMA (wayB j) (wayS ring (prodQ xs) j)⟩, ⟨18, 163, slH 2 2, cat wayL⟩] a w) (2) ?_ ?_
    · exact ⟨0, rfl, hst⟩
    intro n a w hI
    obtain ⟨j, hn, hst⟩ := hI
    refine wp_seq ?_
    refine go_lin (sts := [none, none, none]) (news := []) (sp := [.val 21 _]) [.g 0, .g 1, .g 2, .o 0] hst (obs_cons (ob_v rfl rfl (r_lss (has_g 2 rfl (by kernel_rfl) (by kernel_rfl)) (has_g 1 rfl (by kernel_rfl) (by kernel_rfl)))) (obs_nil)) (by kernel_rfl) (by kernel_rfl) (by kernel_rfl) (fun a w hst => ?_)
    have hst : St B w0 37 [(1, _), (19, _), (20, _), (21, _)] [⟨4, 28, ptrH, _⟩, ⟨7, 28, ptrH, _⟩, ⟨18, 163, slH 2 2, _⟩] a w := hst
    refine thn_normal ?_
    refine wp_seq ?_
    refine cond_of hst (List.mem_of_getElem? (i := 3) rfl) (fun hb1 => ?_) (fun hb1 => ?_)
    · have hj : j < 2 := by have := of_decide_eq_true hb1; omega
      refine wp_skip ?_
      refine thn_normal ?_
      refine wp_seq ?_
      refine wp_block ?_
      refine wp_seq ?_
      refine go_lin (sts := [none, none, none]) (news := [⟨9, 163, ptrH, some 2, _, some (3, _)⟩]) (sp := [.val 22 _, .val 23 _, .alc 3, .sto 3]) [.g 0, .g 1, .g 2] hst (obs_cons (ob_v rfl rfl (r_rowv (loc_at0 2 rfl (by kernel_rfl)) sl_160 way_n (has_g 2 rfl (by kernel_rfl) (by kernel_rfl)) (way_at hj) rfl)) (obs_cons (ob_v rfl rfl (r_loade (has_v 0 rfl (by kernel_rfl) (by kernel_rfl)) ty_163)) (obs_cons (ob_alc rfl rfl rfl (Str.zero str_way)) (obs_cons (ob_sto rfl rfl rfl (has_v 1 rfl (by kernel_rfl) (by kernel_rfl)) ty_163 (Eq.trans (b := 2) rfl rfl)) (obs_nil))))) (by kernel_rfl) (by kernel_rfl) (by kernel_rfl) (fun a w hst => ?_)
      have hst : St B w0 37 [(1, _), (19, _), (20, _)] [⟨4, 28, ptrH, _⟩, ⟨7, 28, ptrH, _⟩, ⟨18, 163, slH 2 2, _⟩, ⟨9, 163, ptrH, _⟩] a w := hst
      refine thn_normal ?_
      refine wp_seq ?_
      refine go_lin (sts := [none, none, none, none]) (news := []) (sp := [.adr 24 9 (.some 0) True, .val 25 _, .val 26 _, .val 27 _]) [.g 0, .g 1, .g 2, .o 3] hst (obs_cons (ob_a rfl rfl (a_fld (loc_at0 3 rfl (by kernel_rfl)) fld_163_0)) (obs_cons (ob_v rfl rfl (r_loadf 0 rfl (by kernel_rfl) trivial (loc_at0 3 rfl (by kernel_rfl)) (Sub.part 0 rfl rfl) ty_4)) (obs_cons (ob_v rfl rfl (r_move (has_g 0 rfl (by kernel_rfl) (by kernel_rfl)))) (obs_cons (ob_v rfl rfl (r_eqlb (by kernel_rfl) (has_v 1 rfl (by kernel_rfl) (by kernel_rfl)) (has_v 2 rfl (by kernel_rfl) (by kernel_rfl)))) (obs_nil))))) (by kernel_rfl) (by kernel_rfl) (by kernel_rfl) (fun a w hst => ?_)
      have hst : St B w0 37 [(1, _), (19, _), (20, _), (27, _)] [⟨4, 28, ptrH, _⟩, ⟨7, 28, ptrH, _⟩, ⟨18, 163, slH 2 2, _⟩, ⟨9, 163, ptrH, _⟩] a w := hst
      refine thn_normal ?_
      refine cond_join (fun a w =>  St B w0 37 [(1, Bo ring), (19, In (2 : Nat)), (20, In (j : Nat))] [⟨4, 28, ptrH, RMA rm0⟩, ⟨7, 28, ptrH, QMA (wayB (j + 1)) (wayS ring (prodQ xs) (j + 1))⟩, ⟨18, 163, slH 2 2, cat wayL⟩, ⟨9, 163, ptrH, wayA j⟩] a w) hst (List.mem_of_getElem? (i := 3) rfl) (fun hb2 => ?_) (fun hb2 => ?_) (fun a w hst => ?_)
      · refine go_lin (sts := [none, some (4, _), none, none]) (news := []) (sp := [.adr 28 9 (.some 1) True, .val 29 _, .val 30 _, .val 31 _, .sto 1]) [.g 0, .g 1, .g 2] hst (obs_cons (ob_a rfl rfl (a_fld (loc_at0 3 rfl (by kernel_rfl)) fld_163_1)) (obs_cons (ob_v rfl rfl (r_loadf 0 rfl (by kernel_rfl) trivial (loc_at0 3 rfl (by kernel_rfl)) (Sub.part 1 rfl rfl) ty_158)) (obs_cons (ob_v rfl rfl (r_load (loc_at0 1 rfl (by kernel_rfl)) ty_28)) (obs_cons (ob_v rfl rfl (r_callE (xs := [.tmp 30]) (way_c (Nat.le_trans (wayB_le (Nat.le_of_lt hj)) (by decide))) (has_v 1 rfl (by kernel_rfl) (by kernel_rfl)) (.cons (has_v 2 rfl (by kernel_rfl) (by kernel_rfl)) .nil))) (obs_cons (ob_sto rfl rfl rfl (has_v 3 rfl (by kernel_rfl) (by kernel_rfl)) ty_28 (Eq.trans (b := 16) rfl rfl)) (obs_nil)))))) (by kernel_rfl) (by kernel_rfl) (by kernel_rfl) (fun a w hst => ?_)
        have hst : St B w0 37 [(1, _), (19, _), (20, _)] [⟨4, 28, ptrH, _⟩, ⟨7, 28, ptrH, _⟩, ⟨18, 163, slH 2 2, _⟩, ⟨9, 163, ptrH, _⟩] a w := hst
        refine thn_normal ?_
        have hst := St.sel hst [0, 1, 2]
        have e : wayS ring (prodQ xs) (j + 1) = wayQ j (wayS ring (prodQ xs) j) := by rw [wayS, wayT, if_pos hb2]
        rw [e]
        exact hst
      · refine wp_skip ?_
        refine thn_normal ?_
        have hst := St.sel hst [0, 1, 2]
        have e : wayS ring (prodQ xs) (j + 1) = wayS ring (prodQ xs) j := by rw [wayS, wayT, if_neg (by rw [hb2]; decide)]
        rw [e]
        exact St.wkL hst 1 rfl (qm_mono' (by rw [wayB]; omega))
      refine blk_normal ?_
      refine thn_normal ?_
      refine go_lin (sts := [none, none, none, none]) (news := []) (sp := [.val 32 _, .val 20 _]) [.g 0, .g 1, .o 1] hst (obs_cons (ob_v rfl rfl (r_add (has_g 2 rfl (by kernel_rfl) (by kernel_rfl)) has_num ((wi64 (by omega) (by omega)).trans (by omega : (_ : Int) = ((j + 1 : Nat) : Int))))) (obs_cons (ob_v rfl rfl (r_move (has_v 0 rfl (by kernel_rfl) (by kernel_rfl)))) (obs_nil))) (by kernel_rfl) (by kernel_rfl) (by kernel_rfl) (fun a w hst => ?_)
      have hst : St B w0 37 [(1, _), (19, _), (20, _)] [⟨4, 28, ptrH, _⟩, ⟨7, 28, ptrH, _⟩, ⟨18, 163, slH 2 2, _⟩, ⟨9, 163, ptrH, _⟩] a w := hst
      refine thn_normal ?_
      have hst := St.sel hst [0, 1, 2]
      have hst := St.selL hst [0, 1, 2]
      exact ⟨n - 1, by omega, j + 1, by omega, hst⟩
    · obtain rfl : j = 2 := by have := of_decide_eq_false hb1; omega
      refine wp_exit ?_
      refine thn_exit ?_
      refine thn_exit ?_
      refine blk_exit ?_
      refine thn_normal ?_
      refine wp_seq ?_
      refine go_lin (sts := [some (4, _), none, none]) (news := []) (sp := [.val 33 _, .val 34 _, .val 35 _, .val 36 _, .sto 0, .val 5 _]) [.o 5] hst (obs_cons (ob_v rfl rfl (r_load (loc_at0 1 rfl (by kernel_rfl)) ty_28)) (obs_cons (ob_v rfl rfl (r_call (xs := [.tmp 33]) (cavMatrix_q (c := wayB 2) (m := wayS ring (prodQ xs) 2) (by decide)) (.cons (has_v 0 rfl (by kernel_rfl) (by kernel_rfl)) .nil))) (obs_cons (ob_v rfl rfl (r_ex0 (has_v 1 rfl (by kernel_rfl) (by kernel_rfl)))) (obs_cons (ob_v rfl rfl (r_ex1 (has_v 1 rfl (by kernel_rfl) (by kernel_rfl)))) (obs_cons (ob_sto rfl rfl rfl (has_v 2 rfl (by kernel_rfl) (by kernel_rfl)) ty_28 (Eq.trans (b := 16) rfl rfl)) (obs_cons (ob_v rfl rfl (r_assign (has_v 3 rfl (by kernel_rfl) (by kernel_rfl)))) (obs_nil))))))) (by kernel_rfl) (by kernel_rfl) (by kernel_rfl) (fun a w hst => ?_)
      have hst : St B w0 37 [(5, _)] [⟨4, 28, ptrH, _⟩, ⟨7, 28, ptrH, _⟩, ⟨18, 163, slH 2 2, _⟩] a w := hst
      refine thn_normal ?_
      refine wp_ret ?_
      refine ret_wk ?_ (ret_many (rs := [.cell 4 28, .tmp 5]) rfl hst (.cell (List.mem_of_getElem? (i := 0) rfl) ty_28 (.tmp (List.mem_of_getElem? (i := 0) rfl) .nil)) (by decide))
      rw [tripF, if_pos hc, ← wayS_2]; exact wk_id

def elSizeF (x : RE) : Int := IntKind.i64.wrap (fracSizeF x.p + fracSizeF x.q)
def elszF (n : Int) : List RE → Int
  | [] => n
  | x :: xs => if decide (n ≤ 1048576) then elszF (IntKind.i64.wrap (n + elSizeF x)) xs else n
theorem elsz_go {n : Int} {l : List RE} {j : Nat} (h : j < l.length) (h2 : n ≤ 1048576) : elszF n (l.drop j) = elszF (IntKind.i64.wrap (n + elSizeF l[j])) (l.drop (j + 1)) := by
  rw [List.drop_eq_getElem_cons h, elszF, if_pos (decide_eq_true h2)]
theorem elsz_end {n : Int} {l : List RE} {j : Nat} (h : ¬ (j < l.length ∧ n ≤ 1048576)) : elszF n (l.drop j) = n := by
  by_cases hj : j < l.length
  · rw [List.drop_eq_getElem_cons hj, elszF, if_neg (by simpa using fun hh => h ⟨hj, hh⟩)]
  · rw [List.drop_of_length_le (by omega)]; rfl
def szE (x : RE) : Nat := szQ (toQ x.p) + szQ (toQ x.q)
def sumE (xs : List RE) : Nat := (xs.map fun x => szE x + 4).sum
theorem fr_sz {x : RF} (h : okX x = true) : fracSizeF x = ((szQ (toQ x) + 2 : Nat) : Int) ∧ szQ (toQ x) ≤ 4096 := by
  obtain ⟨r, rfl, hr⟩ := ok_rf h
  rw [toQ_of]
  exact ⟨frac_sz hr, sz_le hr⟩
theorem el_sz {x : RE} (h : elF x = true) : elSizeF x = ((szE x + 4 : Nat) : Int) ∧ szE x ≤ 8192 := by
  obtain ⟨hx, _⟩ := el_kinds h
  simp only [List.all_cons, List.all_nil, Bool.and_true, Bool.and_eq_true] at hx
  obtain ⟨p1, p2⟩ := fr_sz hx.1
  obtain ⟨q1, q2⟩ := fr_sz hx.2
  unfold elSizeF szE
  rw [p1, q1, wi64 (by omega) (by omega)]
  exact ⟨by omega, by omega⟩
theorem elsz_le : ∀ (xs : List RE) (n : Int), 0 ≤ n → xs.all elF = true → elszF n xs ≤ 400 → n + (sumE xs : Int) ≤ 400
  | [], n, _, _, h => by unfold elszF at h; unfold sumE; simp; exact h
  | x :: xs, n, h0, ha, h => by
    rw [List.all_cons, Bool.and_eq_true] at ha
    obtain ⟨e1, e2⟩ := el_sz ha.1
    unfold elszF at h
    by_cases hn : n ≤ 1048576
    · rw [if_pos (decide_eq_true hn), e1, wi64 (by omega) (by omega)] at h
      have := elsz_le xs _ (by omega) ha.2 h
      have e : sumE (x :: xs) = (szE x + 4) + sumE xs := by simp [sumE]
      rw [e]
      omega
    · rw [if_neg (by simpa using hn)] at h
      omega
theorem el_rep' {x : RE} (h : elF x = true) : RepM (szE x + 1) (elM x) := by
  obtain ⟨hx, hk⟩ := el_kinds h
  have bp := bQ_sz (toQ x.p)
  have bq := bQ_sz (toQ x.q)
  unfold elM szE
  rcases hk with hk | hk | ⟨hk, h0⟩ | hk | hk <;> rw [hk]
  · exact rep_mono (rep_b bp) (by omega)
  · exact rep_mono (rep_c (bQ_min bp)) (by omega)
  · exact rep_mono (rep_b (bQ_div bp bq h0)) (by omega)
  · exact rep_mono (rep_c (bQ_min (bQ_mul bp bq))) (by omega)
  · exact rep_mono rep_f (by omega)
theorem prod_rep' : ∀ (xs : List RE), xs.all elF = true → RepM (sumE xs + 1) (prodQ xs) := fun xs => by
  induction xs with
  | nil => exact fun _ => rep_1
  | cons x xs ih =>
    intro h
    rw [List.all_cons, Bool.and_eq_true] at h
    have e : prodQ (x :: xs) = mulQ (prodQ xs) (prodQ [x]) := prod_app [x] xs
    have e1 : prodQ [x] = elM x := by
      show mulQ (elM x) ⟨1, 0, 0, 1⟩ = elM x
      exact mul_i1 _
    rw [e, e1]
    have es : sumE (x :: xs) = (szE x + 4) + sumE xs := by simp [sumE]
    rw [es]
    exact rep_mono (rep_mul (ih h.2) (el_rep' h.1)) (by omega)

set_option maxRecDepth 100000 in
theorem elSize_c (x : RE) : Cn Try.prog 133 [(REA x).va] (In (elSizeF x)) := by
  refine Cn.intro Try.func133 rfl (by kernel_rfl) (Nat.le_of_ble_eq_true (by kernel_rfl)) (fun B w0 a hst => ?_)
  have hst : St B w0 10 [(0, (REA x).va)] [] a w0.w := hst
  refine wp_seq ?_
  refine go_lin (sts := []) (news := [⟨1, 70, ptrH, some 0, _, none⟩]) (sp := [.alc 0, .val 2 _]) [.o 1] hst (obs_cons (ob_box rfl rfl rfl (has_g 0 rfl (by kernel_rfl) (by kernel_rfl))) (obs_cons (ob_v rfl rfl (r_assign has_num)) (obs_nil))) (by kernel_rfl) (by kernel_rfl) (by kernel_rfl) (fun a w hst => ?_)
  have hst : St B w0 10 [(2, _)] [⟨1, 70, ptrH, _⟩] a w := hst
  refine thn_normal ?_
  refine wp_seq ?_
  refine go_draw (anc := [[], [0], [0, 1], [], [3], [0, 1, 2, 3, 4], [0, 1, 2, 3, 4, 5], [0, 1, 2, 3, 4, 5, 6]]) (sts := [none]) (news := []) (sp := [.adr 3 1 (.some 1) True, .val 4 _, .val 5 _, .adr 6 1 (.some 5) True, .val 7 _, .val 8 _, .val 9 _, .val 2 _]) [.o 7] follows_mixed hst (obs_cons (ob_a rfl rfl (a_fld (loc_at0 0 rfl (by kernel_rfl)) fld_70_1)) (obs_cons (ob_v rfl rfl (r_loadf 0 rfl (by kernel_rfl) trivial (loc_at0 0 rfl (by kernel_rfl)) (Sub.part 1 rfl rfl) ty_26)) (obs_cons (ob_v rfl rfl (r_call (xs := [.tmp 4]) (fracSize_c _) (.cons (has_v 1 rfl (by kernel_rfl) (by kernel_rfl)) .nil))) (obs_cons (ob_a rfl rfl (a_fld (loc_at0 0 rfl (by kernel_rfl)) fld_70_2)) (obs_cons (ob_v rfl rfl (r_loadf 3 rfl (by kernel_rfl) trivial (loc_at0 0 rfl (by kernel_rfl)) (Sub.part 2 rfl rfl) ty_26)) (obs_cons (ob_v rfl rfl (r_call (xs := [.tmp 7]) (fracSize_c _) (.cons (has_v 4 rfl (by kernel_rfl) (by kernel_rfl)) .nil))) (obs_cons (ob_v rfl rfl (r_add (has_v 2 rfl (by kernel_rfl) (by kernel_rfl)) (has_v 5 rfl (by kernel_rfl) (by kernel_rfl)) (rfl))) (obs_cons (ob_v rfl rfl (r_assign (has_v 6 rfl (by kernel_rfl) (by kernel_rfl)))) (obs_nil))))))))) (by kernel_rfl) (by kernel_rfl) (by kernel_rfl) (by kernel_rfl) (fun a w hst => ?_)
  have hst : St B w0 10 [(2, _)] [⟨1, 70, ptrH, _⟩] a w := hst
  refine thn_normal ?_
  refine wp_ret ?_
  refine ret_wk ?_ (ret_tmp rfl hst (List.mem_of_getElem? (i := 0) rfl))
  exact wk_id

set_option maxRecDepth 100000 in
theorem elsSize_c (xs : List RE) : Cn Try.prog 61 [(SlA 70 [U32] (xs.map REA)).va] (In (elszF (xs.length : Nat) xs)) := by
  refine Cn.intro Try.func61 rfl (by kernel_rfl) (Nat.le_of_ble_eq_true (by kernel_rfl)) (fun B w0 a hst => ?_)
  have hst : St B w0 25 [(0, (SlA 70 [U32] (xs.map REA)).va)] [] a w0.w := hst
  have hl := slA_lenm (hst.vals (0, (SlA 70 [U32] (xs.map REA)).va) (List.mem_of_getElem? (i := 0) rfl))
  refine wp_seq ?_
  refine go_lin (sts := []) (news := []) (sp := [.val 2 _]) [.g 0, .o 0] hst (obs_cons (ob_v rfl rfl (r_assign has_num)) (obs_nil)) (by kernel_rfl) (by kernel_rfl) (by kernel_rfl) (fun a w hst => ?_)
  have hst : St B w0 25 [(0, _), (2, _)] [] a w := hst
  refine thn_normal ?_
  refine wp_seq ?_
  refine go_lin (sts := []) (news := []) (sp := [.val 5 _, .val 6 _, .val 3 _]) [.g 0, .g 1, .o 2] hst (obs_cons (ob_v rfl rfl (r_move (has_g 0 rfl (by kernel_rfl) (by kernel_rfl)))) (obs_cons (ob_v rfl rfl (r_len Try.underlying53 (has_v 0 rfl (by kernel_rfl) (by kernel_rfl)))) (obs_cons (ob_v rfl rfl (r_assign (has_v 1 rfl (by kernel_rfl) (by kernel_rfl)))) (obs_nil)))) (by kernel_rfl) (by kernel_rfl) (by kernel_rfl) (fun a w hst => ?_)
  have hst : St B w0 25 [(0, _), (2, _), (3, _)] [] a w := hst
  refine thn_normal ?_
  refine wp_seq ?_
  refine wp_seq ?_
  refine go_lin (sts := []) (news := []) (sp := [.val 4 _]) [.g 0, .g 1, .g 2, .o 0] hst (obs_cons (ob_v rfl rfl (r_assign has_num)) (obs_nil)) (by kernel_rfl) (by kernel_rfl) (by kernel_rfl) (fun a w hst => ?_)
  have hst : St B w0 25 [(0, _), (2, _), (3, _), (4, _)] [] a w := hst
  refine thn_normal ?_
  refine wp_block ?_
  have hst := St.sel hst [0, 2, 3]
  refine wp_loop_ghost (fun n a w => ∃ (j : Nat) (m : Int), (n + j = xs.length ∧ elszF (xs.length : Nat) xs = elszF m (xs.drop j)) ∧ St B w0 25 [(0, (SlA 70 [U32] (xs.map REA)).va), (3, In m), (4, In (j : Nat))] [] a w) (xs.length) ?_ ?_
  · exact ⟨0, (xs.length : Nat), ⟨by omega, rfl⟩, by rw [List.length_map] at hst; exact hst⟩
  intro n a w hI
  obtain ⟨j, m, ⟨hn, hm⟩, hst⟩ := hI
  refine wp_seq ?_
  refine wp_seq ?_
  refine go_lin (sts := []) (news := []) (sp := [.val 7 _, .val 8 _, .val 9 _, .val 10 _, .val 11 _, .val 12 (Wh (_ = true) _), .val 13 (Wh (_ = true) _), .val 14 _]) [.g 0, .g 1, .g 2, .o 7] hst (obs_cons (ob_v rfl rfl (r_move (has_g 2 rfl (by kernel_rfl) (by kernel_rfl)))) (obs_cons (ob_v rfl rfl (r_move (has_g 0 rfl (by kernel_rfl) (by kernel_rfl)))) (obs_cons (ob_v rfl rfl (r_len Try.underlying53 (has_v 1 rfl (by kernel_rfl) (by kernel_rfl)))) (obs_cons (ob_v rfl rfl (r_lss (has_v 0 rfl (by kernel_rfl) (by kernel_rfl)) (has_v 2 rfl (by kernel_rfl) (by kernel_rfl)))) (obs_cons (ob_v rfl rfl (r_move (has_v 3 rfl (by kernel_rfl) (by kernel_rfl)))) (obs_cons (ob_gd rfl rfl rfl (has_v 4 rfl (by kernel_rfl) (by kernel_rfl)) (Nat.le_of_ble_eq_true (by kernel_rfl)) (fun hg => r_move (has_g 1 rfl (by kernel_rfl) (by kernel_rfl)))) (obs_cons (ob_gd rfl rfl rfl (has_v 4 rfl (by kernel_rfl) (by kernel_rfl)) (Nat.le_of_ble_eq_true (by kernel_rfl)) (fun hg => r_leq (has_wh (has_v 5 rfl (by kernel_rfl) (by kernel_rfl)) hg) has_num)) (obs_cons (ob_v rfl rfl (r_and (has_v 4 rfl (by kernel_rfl) (by kernel_rfl)) (has_v 6 rfl (by kernel_rfl) (by kernel_rfl)))) (obs_nil))))))))) (by kernel_rfl) (by kernel_rfl) (by kernel_rfl) (fun a w hst => ?_)
  have hst : St B w0 25 [(0, _), (3, _), (4, _), (14, _)] [] a w := hst
  refine thn_normal ?_
  refine cond_of hst (List.mem_of_getElem? (i := 3) rfl) (fun hb0 => ?_) (fun hb0 => ?_)
  · rw [Bool.and_eq_true, decide_eq_true_eq, decide_eq_true_eq, List.length_map] at hb0
    have hj : j < xs.length := by omega
    have hm0 := hb0.2
    refine wp_skip ?_
    refine thn_normal ?_
    refine wp_seq ?_
    refine wp_block ?_
    refine go_lin (sts := []) (news := []) (sp := [.val 17 _, .val 18 _, .val 19 _, .val 20 _, .val 21 _, .val 22 _, .val 23 _, .val 3 _]) [.g 0, .g 2, .o 7] hst (obs_cons (ob_v rfl rfl (r_move (has_g 1 rfl (by kernel_rfl) (by kernel_rfl)))) (obs_cons (ob_v rfl rfl (r_move (has_g 0 rfl (by kernel_rfl) (by kernel_rfl)))) (obs_cons (ob_v rfl rfl (r_move (has_g 2 rfl (by kernel_rfl) (by kernel_rfl)))) (obs_cons (ob_v rfl rfl (r_idx sl_53 (map_n fun _ => rfl) (has_v 1 rfl (by kernel_rfl) (by kernel_rfl)) (has_v 2 rfl (by kernel_rfl) (by kernel_rfl)) (map_at hj))) (obs_cons (ob_v rfl rfl (r_loade (has_v 3 rfl (by kernel_rfl) (by kernel_rfl)) ty_70)) (obs_cons (ob_v rfl rfl (r_call (xs := [.tmp 21]) (elSize_c _) (.cons (has_v 4 rfl (by kernel_rfl) (by kernel_rfl)) .nil))) (obs_cons (ob_v rfl rfl (r_add (has_v 0 rfl (by kernel_rfl) (by kernel_rfl)) (has_v 5 rfl (by kernel_rfl) (by kernel_rfl)) (rfl))) (obs_cons (ob_v rfl rfl (r_assign (has_v 6 rfl (by kernel_rfl) (by kernel_rfl)))) (obs_nil))))))))) (by kernel_rfl) (by kernel_rfl) (by kernel_rfl) (fun a w hst => ?_)
    have hst : St B w0 25 [(0, _), (4, _), (3, _)] [] a w := hst
    refine blk_normal ?_
    refine thn_normal ?_
    refine go_lin (sts := []) (news := []) (sp := [.val 15 _, .val 16 _, .val 4 _]) [.g 0, .g 2, .o 2] hst (obs_cons (ob_v rfl rfl (r_move (has_g 1 rfl (by kernel_rfl) (by kernel_rfl)))) (obs_cons (ob_v rfl rfl (r_add (has_v 0 rfl (by kernel_rfl) (by kernel_rfl)) has_num (wi_nx hj hl))) (obs_cons (ob_v rfl rfl (r_assign (has_v 1 rfl (by kernel_rfl) (by kernel_rfl)))) (obs_nil)))) (by kernel_rfl) (by kernel_rfl) (by kernel_rfl) (fun a w hst => ?_)
    have hst : St B w0 25 [(0, _), (3, _), (4, _)] [] a w := hst
    refine thn_normal ?_
    have hst := St.sel hst [0, 1, 2]
    exact ⟨n - 1, by omega, j + 1, _, ⟨by omega, hm.trans (elsz_go hj hm0)⟩, hst⟩
  · have hnj : ¬ (j < xs.length ∧ m ≤ 1048576) := by rintro ⟨h1, h2⟩; rw [List.length_map, decide_eq_true (by omega : (j : Int) < (xs.length : Int)), decide_eq_true h2] at hb0; exact absurd hb0 (by decide)
    refine wp_exit ?_
    refine thn_exit ?_
    refine thn_exit ?_
    refine blk_exit ?_
    refine thn_normal ?_
    refine wp_seq ?_
    refine go_lin (sts := []) (news := []) (sp := [.val 24 _, .val 2 _]) [.o 1] hst (obs_cons (ob_v rfl rfl (r_move (has_g 1 rfl (by kernel_rfl) (by kernel_rfl)))) (obs_cons (ob_v rfl rfl (r_assign (has_v 0 rfl (by kernel_rfl) (by kernel_rfl)))) (obs_nil))) (by kernel_rfl) (by kernel_rfl) (by kernel_rfl) (fun a w hst => ?_)
    have hst : St B w0 25 [(2, _)] [] a w := hst
    refine thn_normal ?_
    refine wp_ret ?_
    refine ret_wk ?_ (ret_tmp rfl hst (List.mem_of_getElem? (i := 0) rfl))
    exact wk_eq (congrArg In (hm.trans (elsz_end hnj)).symm)

end Go.Proofs.Ytgjolcbehcjhcaa
