/- What is told of a bench that is built; the bench of a matrix; the simple bench. -/
import Derived.Test.YtljkepdpoelpkaaBenM
import Derived.Test.YtljkepdpoelpkaaBenC
import Derived.Test.YtljkepdpoelpkaaRayL
namespace Go.Proofs.Ytljkepdpoelpkaa
open Go Go.RowKit
namespace BenN
theorem fld_35_0 : Fld Try.prog 35 0 0 2 := ⟨_, _, Try.underlying35, rfl, rfl, by kernel_rfl, by decide⟩
theorem fld_35_1 : Fld Try.prog 35 1 2 2 := ⟨_, _, Try.underlying35, rfl, rfl, by kernel_rfl, by decide⟩
theorem fld_37_0 : Fld Try.prog 37 0 0 4 := ⟨_, _, Try.underlying37, rfl, rfl, by kernel_rfl, by decide⟩
theorem fld_37_1 : Fld Try.prog 37 1 4 4 := ⟨_, _, Try.underlying37, rfl, rfl, by kernel_rfl, by decide⟩
theorem fld_37_2 : Fld Try.prog 37 2 8 4 := ⟨_, _, Try.underlying37, rfl, rfl, by kernel_rfl, by decide⟩
theorem fld_37_3 : Fld Try.prog 37 3 12 4 := ⟨_, _, Try.underlying37, rfl, rfl, by kernel_rfl, by decide⟩
theorem fld_49_1 : Fld Try.prog 49 1 1 4 := ⟨_, _, Try.underlying49, rfl, rfl, by kernel_rfl, by decide⟩
theorem sl_22 : Sl Try.prog 22 49 9 := ⟨by kernel_rfl, by kernel_rfl⟩
theorem sl_95 : Sl Try.prog 95 33 2 := ⟨by kernel_rfl, by kernel_rfl⟩
theorem ty_22 : Ty Try.prog 22 1 false := ⟨by kernel_rfl, by kernel_rfl⟩
theorem ty_33 : Ty Try.prog 33 2 true := ⟨by kernel_rfl, by kernel_rfl⟩
theorem ty_35 : Ty Try.prog 35 4 true := ⟨by kernel_rfl, by kernel_rfl⟩
theorem ty_37 : Ty Try.prog 37 16 true := ⟨by kernel_rfl, by kernel_rfl⟩
theorem ty_49 : Ty Try.prog 49 9 true := ⟨by kernel_rfl, by kernel_rfl⟩
end BenN
open BenN
set_option linter.unusedVariables false
set_option linter.unusedSimpArgs false
theorem has_agX {R : Rg} {B i : Nat} {w0 : Bs} {x : Operand} {v : Value} {A A' : VA} (hX : Wk A A') (hF : NoF w0) (hv : A.p B v w0.w) (h : Has R B w0 i x (EqV v)) : Has R B w0 i x A' := has_wk' (has_again hF hv h) hX
theorem St.again {B N : Nat} {w0 : Bs} {Γ : List (Nat × VA)} {Λ : List Lc} {a : Act} {w : World} (h : St B w0 N Γ Λ a w) {s : Nat} {v : Value} {A : VA} (k : Nat) (hm : Γ[k]? = some (s, EqV v)) (hF : NoF w0) (hv : A.p B v w0.w) : St B w0 N (Γ.set k (s, A)) Λ a w :=
  ⟨h.lo, h.defers, h.size, h.base, fun x hx => by
    rcases List.mem_or_eq_of_mem_set hx with hx | rfl
    · exact h.vals x hx
    · have e : a.eval (.tmp s) = v := h.vals _ (List.mem_of_getElem? hm)
      show A.p B (a.eval (.tmp s)) w
      rw [e]
      exact A.cg _ _ _ _ (hF.cg h.base) hv, h.locs, h.dis⟩
/-! what is told -/
def tlE (x : RE) : Bool := [x.p.num, x.p.den].any bigI
def tlF (xs : List RE) : Int := if xs.any tlE then 4 else 0
theorem tl_some {xs : List RE} {j : Nat} (h : j < xs.length) (h2 : tlE xs[j] = true) : tlF xs = 4 := by
  rw [tlF, if_pos (List.any_eq_true.2 ⟨_, List.getElem_mem h, h2⟩)]
theorem tl_no {xs : List RE} {j : Nat} (h : j < xs.length) (h1 : (xs.take j).any tlE = false) (h2 : tlE xs[j] = false) : (xs.take (j + 1)).any tlE = false := by
  rw [List.take_succ_eq_append_getElem h, List.any_append, h1]
  simp [h2]
theorem tl_end {xs : List RE} (h : xs.any tlE = false) : tlF xs = 0 := by
  rw [tlF, h]
  rfl

set_option maxRecDepth 100000 in
theorem tell_c (xs : List RE) (X Y : VA) (hX : Wk X (SlA 49 [U32] (xs.map REA)).va) (h0 : tlF xs = 0 → Wk X Y) (h4 : tlF xs = 4 → Wk (EqV (.slice none 0 0)) Y) : Cn Try.prog 24 [X] (Tu [Y, In (tlF xs)]) := by
  refine Cn.introF Try.func24 rfl (by kernel_rfl) nq (fun B w0 a hF hst => ?_)
  have hst : St B w0 22 [(0, X)] [] a w0.w := hst
  obtain ⟨v0, hv0, hst⟩ := St.eqv hst 0 rfl
  have hl := slA_lenm (hX _ _ _ hv0)
  refine wp_seq ?_
  refine gl (sts := []) (news := []) (sp := [.val 2 _, .val 3 _]) [.g 0, .o 0, .o 1] hst (oc (ob_v rfl rfl (r_assign has_const)) (oc (ob_v rfl rfl (r_assign has_num)) o0)) (fun a w hst => ?_)
  have hst : St B w0 22 [(0, _), (2, _), (3, _)] [] a w := hst
  refine thn_normal ?_
  refine wp_seq ?_
  refine wp_seq ?_
  refine gl (sts := []) (news := []) (sp := [.val 6 _, .val 7 _, .val 8 _]) [.g 0, .g 1, .g 2, .o 0, .o 1, .o 2] hst (oc (ob_v rfl rfl (r_move (gq 0 rfl))) (oc (ob_v rfl rfl (r_len Try.underlying22 (has_agX hX hF hv0 (vq 0 rfl)))) (oc (ob_v rfl rfl (r_move has_num)) o0))) (fun a w hst => ?_)
  have hst : St B w0 22 [(0, _), (2, _), (3, _), (6, _), (7, _), (8, _)] [] a w := hst
  refine thn_normal ?_
  refine wp_block ?_
  have hst := St.sel hst [0, 3, 4, 5]
  refine wp_loop_ghost (fun n a w => ∃ j : Nat, (n + j = xs.length ∧ (xs.take j).any tlE = false) ∧ St B w0 22 [(0, EqV v0), (6, EqV v0), (7, In (xs.length : Nat)), (8, In (j : Nat))] [] a w) (xs.length) ?_ ?_
  · rw [List.length_map] at hst
    exact ⟨0, ⟨by omega, rfl⟩, hst⟩
  intro n a w hI
  obtain ⟨j, ⟨hn, hno⟩, hst⟩ := hI
  refine wp_seq ?_
  refine gl (sts := []) (news := []) (sp := [.val 9 _]) [.g 0, .g 1, .g 2, .g 3, .o 0] hst (oc (ob_v rfl rfl (r_lss (gq 3 rfl) (gq 2 rfl))) o0) (fun a w hst => ?_)
  have hst : St B w0 22 [(0, _), (6, _), (7, _), (8, _), (9, _)] [] a w := hst
  refine thn_normal ?_
  refine wp_seq ?_
  refine cond_of hst (List.mem_of_getElem? (i := 4) rfl) (fun hb0 => ?_) (fun hb0 => ?_)
  · have hj : j < xs.length := by simp at hb0; omega
    refine wp_skip ?_
    refine thn_normal ?_
    refine wp_seq ?_
    refine wp_block ?_
    refine wp_seq ?_
    refine gl (sts := []) (news := [⟨5, 49, ptrH, some 2, _, some (3, _)⟩]) (sp := [.val 10 _, .val 11 _, .alc 0, .sto 0]) [.g 0, .g 1, .g 2, .g 3] hst (oc (ob_v rfl rfl (r_idx sl_22 (map_n fun _ => rfl) (has_agX hX hF hv0 (gq 1 rfl)) (gq 3 rfl) (map_at hj))) (oc (ob_v rfl rfl (r_loade (vq 0 rfl) ty_49)) (oc (ob_alc rfl rfl rfl (Str.zero str_elem)) (oc (ob_sto rfl rfl rfl (vq 1 rfl) ty_49 (Eq.trans (b := 9) rfl rfl)) o0)))) (fun a w hst => ?_)
    have hst : St B w0 22 [(0, _), (6, _), (7, _), (8, _)] [⟨5, 49, ptrH, _⟩] a w := hst
    refine thn_normal ?_
    refine wp_seq ?_
    refine gl (sts := [none]) (news := []) (sp := [.adr 12 5 (.some 1) True, .adr 13 5 (.some (1 + 0)) True, .val 14 _, .adr 15 5 (.some 1) True, .adr 16 5 (.some (1 + 2)) True, .val 17 _, .val 18 _, .val 19 _]) [.g 0, .g 1, .g 2, .g 3, .o 7] hst (oc (ob_a rfl rfl (a_fld (lz0 0 rfl) fld_49_1)) (oc (ob_a rfl rfl (a_fld2 0 rfl (by kernel_rfl) trivial (lz0 0 rfl) fld_35_0)) (oc (ob_v rfl rfl (r_loadf 1 rfl (by kernel_rfl) trivial (lz0 0 rfl) (Sub.trans (Sub.part 1 rfl rfl) (Sub.part 0 rfl rfl) rfl) ty_33)) (oc (ob_a rfl rfl (a_fld (lz0 0 rfl) fld_49_1)) (oc (ob_a rfl rfl (a_fld2 3 rfl (by kernel_rfl) trivial (lz0 0 rfl) fld_35_1)) (oc (ob_v rfl rfl (r_loadf 4 rfl (by kernel_rfl) trivial (lz0 0 rfl) (Sub.trans (Sub.part 1 rfl rfl) (Sub.part 1 rfl rfl) rfl) ty_33)) (oc (ob_v rfl rfl (r_slice (D := [U32]) (l := [_, _]) (xs := [.tmp 14, .tmp 17]) (nd_ok (by kernel_rfl)) sl_95 (by kernel_rfl) (n_ok (by kernel_rfl)) nq nq nq (.cons (vq 2 rfl) (.cons (vq 5 rfl) .nil)) rfl rfl)) (oc (ob_v rfl rfl (r_call (xs := [.tmp 18]) (longI_c [xs[j].p.num, xs[j].p.den] nq) (.cons (vq 6 rfl) .nil))) o0)))))))) (fun a w hst => ?_)
    have hst : St B w0 22 [(0, _), (6, _), (7, _), (8, _), (19, _)] [⟨5, 49, ptrH, _⟩] a w := hst
    refine thn_normal ?_
    refine cond_of hst (List.mem_of_getElem? (i := 4) rfl) (fun hb1 => ?_) (fun hb1 => ?_)
    · refine wp_seq ?_
      refine gl (sts := [none]) (news := []) (sp := [.val 2 _, .val 3 _]) [.g 0, .g 1, .g 2, .g 3, .o 0, .o 1] hst (oc (ob_v rfl rfl (r_assign has_const)) (oc (ob_v rfl rfl (r_assign has_num)) o0)) (fun a w hst => ?_)
      have hst : St B w0 22 [(0, _), (6, _), (7, _), (8, _), (2, _), (3, _)] [⟨5, 49, ptrH, _⟩] a w := hst
      refine thn_normal ?_
      refine wp_ret ?_
      refine blk_ret ?_
      refine thn_ret ?_
      refine thn_ret ?_
      refine blk_ret ?_
      refine thn_ret ?_
      refine ret_wk ?_ (ret_many (rs := [.tmp 2, .tmp 3]) rfl hst (.tmp (List.mem_of_getElem? (i := 4) rfl) (.tmp (List.mem_of_getElem? (i := 5) rfl) .nil)) (by decide))
      rw [tl_some hj hb1]; exact tu2w (h4 (tl_some hj hb1)) wk_id
    · refine wp_skip ?_
      refine blk_normal ?_
      refine thn_normal ?_
      refine gl (sts := [none]) (news := []) (sp := [.val 20 _, .val 8 _]) [.g 0, .g 1, .g 2, .o 1] hst (oc (ob_v rfl rfl (r_add (gq 3 rfl) has_num ((wi64 (by omega) (by omega)).trans (by omega : (_ : Int) = ((j + 1 : Nat) : Int))))) (oc (ob_v rfl rfl (r_move (vq 0 rfl))) o0)) (fun a w hst => ?_)
      have hst : St B w0 22 [(0, _), (6, _), (7, _), (8, _)] [⟨5, 49, ptrH, _⟩] a w := hst
      refine thn_normal ?_
      have hst := St.sel hst [0, 1, 2, 3]
      have hst := St.selL hst []
      exact ⟨n - 1, by omega, j + 1, ⟨by omega, tl_no hj hno hb1⟩, hst⟩
  · obtain rfl : j = xs.length := by simp at hb0; omega
    refine wp_exit ?_
    refine thn_exit ?_
    refine thn_exit ?_
    refine blk_exit ?_
    refine thn_normal ?_
    refine wp_seq ?_
    refine gl (sts := []) (news := []) (sp := [.val 21 _, .val 2 _, .val 3 _]) [.o 1, .o 2] hst (oc (ob_v rfl rfl (r_move (gq 0 rfl))) (oc (ob_v rfl rfl (r_assign (vq 0 rfl))) (oc (ob_v rfl rfl (r_assign has_num)) o0))) (fun a w hst => ?_)
    have hst : St B w0 22 [(2, _), (3, _)] [] a w := hst
    refine thn_normal ?_
    refine wp_ret ?_
    have hst := St.again hst 0 rfl hF hv0
    refine ret_wk ?_ (ret_many (rs := [.tmp 2, .tmp 3]) rfl hst (.tmp (List.mem_of_getElem? (i := 0) rfl) (.tmp (List.mem_of_getElem? (i := 1) rfl) .nil)) (by decide))
    rw [List.take_length] at hno; rw [tl_end hno]; exact tu2w (h0 (tl_end hno)) wk_id

/-- the variables of a region of which two operations store. -/
def lesS2 (Λ : List Lc) (e j e2 j2 : Nat) (A : As) : List Le := Λ.zipIdx.map fun x => ⟨x.1.s, x.1.T, x.1.H, none, x.1.A, if x.2 = e then some (j, A) else if x.2 = e2 then some (j2, A) else none⟩
theorem lesS2_of {Λ : List Lc} {e j e2 j2 : Nat} {A : As} : ∀ y ∈ lesS2 Λ e j e2 j2 A, y.cr = none ∧ (⟨y.s, y.T, y.H, y.A0⟩ : Lc) ∈ Λ ∧ ∀ i B, y.st = some (i, B) → i = j ∨ i = j2 := fun y hy => by
  obtain ⟨x, hx, rfl⟩ := List.mem_map.1 hy
  refine ⟨rfl, List.mem_of_getElem? (List.mem_zipIdx_iff_getElem?.1 hx), fun i B h => ?_⟩
  simp only at h
  split at h
  · injection h with h
    injection h with h
    exact .inl h.symm
  · split at h
    · injection h with h
      injection h with h
      exact .inr h.symm
    · cases h
section
open Rg
variable {P : Program} {Q : Exit → Act → World → Prop} {B N : Nat} {w0 : Bs} {Γ : List (Nat × VA)} {Λ : List Lc} {a : Act} {w : World}
theorem go_headD2 {id : Nat} {ops : Array Oper} {sp : List Sp} (anc : List (List Nat)) (n m e j e2 j2 : Nat) (A : As) (src : List Src) (hmx : P.follows .mixedOrders = true)
    (h : St B w0 N Γ Λ a w) (hob : Obs P Q ⟨ops, N, Γ, lesS2 Λ e j e2 j2 A, sp, fun i => anc.getD i []⟩ B w0 0 n) (hsz : ops.size = n + m) (hm : 0 < m) (hj : n ≤ j) (hj2 : n ≤ j2) (hanc : Rg.ancOk ⟨ops, N, Γ, lesS2 Λ e j e2 j2 A, sp, fun i => anc.getD i []⟩ = true) (hall : ∀ i, n ≤ i → i < n + m → ∀ j, j < i → (anc.getD i []).contains j = true) (hk : Rg.chk ⟨ops, N, Γ, lesS2 Λ e j e2 j2 A, sp, fun i => anc.getD i []⟩ = true)
    (hsrc : src.all (fun s => match s with | .g k => (match Γ[k]? with | some x => Rg.outG ⟨ops, N, Γ, lesS2 Λ e j e2 j2 A, sp, fun i => anc.getD i []⟩ x.1 | none => false) | .o i => decide (i < n)) = true)
    (hQ : ∀ a' w', St B w0 N (src.filterMap (takeS ⟨ops, N, Γ, lesS2 Λ e j e2 j2 A, sp, fun i => anc.getD i []⟩)) Λ a' w' → wpOps P ops Q (List.range' n m) a' w') : (Code.region id ops true).wp P Q a w := by
  refine Rg.drawK (R := ⟨ops, N, Γ, lesS2 Λ e j e2 j2 A, sp, fun i => anc.getD i []⟩) (m := m) hsz hm hmx hanc hk h (fun y hy _ => ?_) (fun i hi => hob.all i (by omega) (by omega)) (fun i h1 h2 j hj => hall i h1 h2 j hj) fun a1 w1 hinv => ?_
  · exact (lesS2_of y hy).2.1
  · exact hQ a1 w1 (inv_stS (fun l' hl' => by
      obtain ⟨j', hj'⟩ := List.getElem?_of_mem hl'
      exact ⟨_, List.mem_map.2 ⟨(l', j'), List.mem_zipIdx_iff_getElem?.2 hj', rfl⟩⟩) (fun y hy i B' h1 => by have := (lesS2_of y hy).2.2 i B' h1; omega) hinv src hsrc)
end

/-! rows that are built, handed back -/
def reOf (e : EQ) : RE := ⟨e.1, rfOf e.2, rfOf 0⟩
theorem qn0_q : WkA QN0 (RFA (rfOf 0)) := cat_wk (.cons (wkA_riN.trans (wkA_eq (show RIA ⟨false, []⟩ = RIA (riOf 0) from by simp [riOf, limbs_zero]))) (.cons (zn_za.trans zaA) .nil))
theorem eb_re {k : Nat} {e : EQ} : WkA (EB k e) (REA (reOf e)) := cat_wk (.cons (WkA.refl _) (.cons (qd_qa.trans qaA) (.cons qn0_q .nil)))
theorem free_qn0 : FreeA QN0 QN0 := cat_free (.cons (free_ri _) (.cons free_zn .nil))
theorem free_eb {k : Nat} {e : EQ} : FreeA (EB k e) (EB k e) := cat_free (.cons (free_num _ _) (.cons free_qd (.cons free_qn0 .nil)))
theorem free_ebs {k : Nat} : ∀ (L : List EQ), All2 FreeA (L.map (EB k)) (L.map (EB k))
  | [] => .nil
  | e :: L => .cons free_eb (free_ebs L)
theorem ebs_re {k : Nat} : ∀ (L : List EQ), All2 WkA (L.map (EB k)) ((L.map reOf).map REA)
  | [] => .nil
  | e :: L => .cons eb_re (ebs_re L)
theorem reA_D {xs : List RE} : ∀ A ∈ xs.map REA, ∀ T ∈ A.deps, T ∈ [U32] := fun A hA => by
  obtain ⟨x, _, rfl⟩ := List.mem_map.1 hA
  exact nd_ok (l := [REA x]) (by kernel_rfl) _ (by simp)
theorem eb_sl {k : Nat} {L : List EQ} : Wk (OwnC 49 9 [U32] (L.map (EB k))).va (SlA 49 [U32] ((L.map reOf).map REA)).va := fun B v w h => (sl_wk (ebs_re L) reA_D).va _ _ _ (ownC_sl _ _ _ h)
theorem free_ownB {E : TypeId} {m : Nat} {D : List TypeId} {l : List As} (h : All2 FreeA l l) : Free (OwnC E m D l).va (OwnC E m D l).va := fun B B' v w hB hp => by
  obtain ⟨h1, h2, ds, h3, h4, h5⟩ := ownC_v hp
  refine ⟨[v], ⟨v, rfl, h1, h2, ds, (cat_free h).2.2 B B' ds w hB h3, h4, ?_⟩, rfl⟩
  rcases h5 with h5 | ⟨g, cap, cur, rfl, e2, e3⟩
  · exact .inl h5
  · exact .inr ⟨g, cap, cur, rfl, Nat.le_trans hB e2, e3⟩
theorem nil_ownB {E : TypeId} {m : Nat} {D : List TypeId} : Wk (EqV (.slice none 0 0)) (OwnC E m D []).va := fun B v w h => ⟨[v], ⟨v, rfl, own_nil B v w h⟩, rfl⟩
def toldL (L : List EQ) : List EQ × Int := if tlF (L.map reOf) = 0 then (L, 0) else ([], 4)
abbrev BnR (k : Nat) (r : List EQ × Int) : VA := Tu [(OwnC 49 9 [U32] (r.1.map (EB k))).va, In r.2]
theorem free_bnR {k : Nat} {r : List EQ × Int} : Free (BnR k r) (BnR k r) := free_tu (.cons (free_ownB (free_ebs r.1)) (.cons (free_num _ _).va .nil))
theorem tlF_2 (xs : List RE) : tlF xs = 0 ∨ tlF xs = 4 := by
  unfold tlF
  split
  · exact .inr rfl
  · exact .inl rfl
theorem toldL_0 {L : List EQ} (h : tlF (L.map reOf) = 0) : toldL L = (L, 0) := if_pos h
theorem toldL_4 {L : List EQ} (h : tlF (L.map reOf) = 4) : toldL L = ([], 4) := if_neg (by rw [h]; decide)
theorem tell_l {k : Nat} {L : List EQ} : Cn Try.prog 24 [(OwnC 49 9 [U32] (L.map (EB k))).va] (BnR k (toldL L)) :=
  (tell_c (L.map reOf) (OwnC 49 9 [U32] (L.map (EB k))).va (OwnC 49 9 [U32] ((toldL L).1.map (EB k))).va eb_sl (fun h => by rw [toldL_0 h]; exact wk_id) (fun h => by rw [toldL_4 h]; exact nil_ownB)).post (by
    rcases tlF_2 (L.map reOf) with h | h
    · rw [toldL_0 h, h]
    · rw [toldL_4 h, h])
theorem zero_elB : Zero Try.prog 22 (OwnC 49 9 [U32] (([] : List EQ).map (EB 0))) := zero_own (by kernel_rfl)
theorem may_B {B : Nat} {w1 : Bs} {Ts : List TypeId} (hB : B = w1.w.heap.size) : ∀ E, Ts.contains E = true → RowMay w1 B E := fun E _ w g c fz _ h _ => .inl (hB ▸ h)
theorem upA_rmB (x : RM) : UpA (RMA x) (RMA x) := cat_up (.cons (upA_rf _) (.cons (upA_rf _) (.cons (upA_rf _) (.cons (upA_rf _) .nil))))
/-! ### the bench of a matrix -/
def parF (m : RM) : List EQ × Int := if okM m = true then toldL (partsQ (toM m)) else ([], 1)
/-- a store into a part of variable e. -/
theorem op_ownP {P : Program} {Q : Exit → Act → World → Prop} {B N : Nat} {w0 : Bs} {Γ : List (Nat × VA)} {Λ : List Lc} {a : Act} {w : World} {ops : Array Oper} {i : Nat} {K : Act → World → Prop} {p d g k sx : Nat} {ty T T' : TypeId} {H : Hd} {A0 A A1 : As} {ps : String} {af : Array Edge} (src : List Nat) (kp kd ks e : Nat) (ho : ops[i]? = some ⟨none, .store ty (.tmp p) (.tmp d), T', ps, af, none⟩) (h : St B w0 N Γ Λ a w)
    (hp : Γ[kp]? = some (p, EqV (.pointer (some ⟨g, k, none⟩)))) (hd : Γ[kd]? = some (d, A.va)) (hs : Γ[ks]? = some (sx, EqV (H.f g))) (ht : Ty P ty A.n A.ag) (hl : Λ[e]? = some ⟨sx, T, H, A0⟩)
    (hput : Put A0 k A A1) (hsrc : src.all (fun k => match Γ[k]? with | some y => !y.2.deps.contains T | none => false) = true) (hΛ : Λ.zipIdx.all (fun x => x.2 == e || (x.1.s != sx && !x.1.A.deps.contains T)) = true) (hT : A1.deps.contains T = false)
    (hK : ∀ w', St B w0 N (src.filterMap fun k => Γ[k]?) (Λ.set e ⟨sx, T, H, A1⟩) a w' → K (a.put none undef) w') : wpOp P ops Q i K a w := by
  have e1 : a.eval (.tmp p) = .pointer (some ⟨g, k, none⟩) := h.vals _ (List.mem_of_getElem? hp)
  obtain ⟨cs', hpA, e2⟩ := h.vals _ (List.mem_of_getElem? hd)
  have e2 : a.eval (.tmp d) = shape A.ag cs' := e2
  have e0 : a.eval (.tmp sx) = H.f g := h.vals _ (List.mem_of_getElem? hs)
  obtain ⟨g0, cs, q1, q2, q3, q4⟩ := h.locs _ (List.mem_of_getElem? hl)
  have : g0 = g := by
    have := congrArg blk (q1.symm.trans e0)
    rw [H.ok, H.ok] at this
    injection this
  subst this
  obtain ⟨hkc, hp1⟩ := hput B cs cs' w q4 hpA
  have lA := A.len _ _ _ hpA
  have hrun := run_storeVar ht w g0 k T cs.toArray _ cs' (A.cells_shape hpA) lA (by simpa using hkc) (A.one _ _ _ hpA) q3
  have e3 : cs.toArray.toList.take k ++ cs' ++ cs.toArray.toList.drop (k + A.n) = splice cs k cs' := by simp [splice, lA]
  rw [e3] at hrun
  have hW := Wr.setRow w g0 (splice cs k cs').toArray
  have hB : B ≤ g0 := h.lo g0 q2
  have hTn : T ∉ A1.deps := by simpa using hT
  unfold wpOp
  simp only [ho, Region.wanted, if_true]
  refine .inl (wp_skip' (w' := w.setRow g0 (splice cs k cs').toArray) ?_ (hK _ ⟨h.lo, h.defers.keep rfl fun D hD => (hW.block D (fun e => by subst e; rw [q3] at hD; cases hD)).trans hD, h.size, h.base.wr hW q2, fun x hx => ?_, fun m hm => ?_, fun m1 hm1 m2 hm2 hne => ?_⟩))
  · simp [execOp, e1, e2, Instr.storeAt, Instr.sureAddr, hrun]
  · obtain ⟨k', hk1, hk2⟩ := List.mem_filterMap.1 hx
    have := List.all_eq_true.1 hsrc k' hk1
    simp only [hk2, Bool.not_eq_true', List.contains_eq_mem, decide_eq_false_iff_not] at this
    exact x.2.wr _ _ _ _ _ _ _ _ q3 this hB hW (h.vals x (List.mem_of_getElem? hk2))
  · obtain ⟨j, hj⟩ := List.getElem?_of_mem hm
    by_cases e5 : j = e
    · subst e5
      have : m = ⟨sx, T, H, A1⟩ := by
        rw [List.getElem?_set_self (List.getElem?_eq_some_iff.1 hl).1] at hj
        injection hj with hj
        exact hj.symm
      subst this
      exact ⟨g0, splice cs k cs', q1, q2, setRow_heap w g0 _ _ _ _ q3, A1.wr _ _ _ _ _ _ _ _ q3 hTn hB hW hp1⟩
    · rw [List.getElem?_set_ne (fun e2 => e5 e2.symm)] at hj
      have hc := List.all_eq_true.1 hΛ (m, j) (List.mem_zipIdx_iff_getElem?.2 hj)
      simp only [Bool.or_eq_true, beq_iff_eq, Bool.and_eq_true, bne_iff_ne, Bool.not_eq_true', List.contains_eq_mem, decide_eq_false_iff_not] at hc
      have hc' := hc.resolve_left e5
      obtain ⟨g', cs2, p1, p2, p3, p4⟩ := h.locs m (List.mem_of_getElem? hj)
      have hne : g' ≠ g0 := fun hh => h.dis m (List.mem_of_getElem? hj) _ (List.mem_of_getElem? hl) hc'.1 (by rw [p1, q1, hh, m.H.ok, Hd.ok])
      exact ⟨g', cs2, p1, p2, (hW.block g' hne).trans p3, m.A.wr _ _ _ _ _ _ _ _ q3 hc'.2 hB hW p4⟩
  · have hs : ∀ m ∈ Λ.set e ⟨sx, T, H, A1⟩, ∃ m0 ∈ Λ, m0.s = m.s := fun m hm => by
      rcases List.mem_or_eq_of_mem_set hm with hm | rfl
      · exact ⟨m, hm, rfl⟩
      · exact ⟨_, List.mem_of_getElem? hl, rfl⟩
    obtain ⟨m3, r1, r2⟩ := hs m1 hm1
    obtain ⟨m4, r3, r4⟩ := hs m2 hm2
    rw [← r2, ← r4] at hne ⊢
    exact h.dis m3 r1 m4 r3 hne

theorem sgn_neg {x : Rat} : IntKind.i64.wrap (0 - x.num.sign) = (0 - x).num.sign := by
  rw [Int.zero_sub]
  have e : 0 - x = -x := by grind
  rw [e, Rat.neg_num, Int.sign_neg]
  refine wi64 ?_ ?_
  · rcases Int.lt_trichotomy x.num 0 with h | h | h
    · rw [Int.sign_eq_neg_one_of_neg h]; decide
    · rw [h]; decide
    · rw [Int.sign_eq_one_of_pos h]; decide
  · rcases Int.lt_trichotomy x.num 0 with h | h | h
    · rw [Int.sign_eq_neg_one_of_neg h]; decide
    · rw [h]; decide
    · rw [Int.sign_eq_one_of_pos h]; decide
theorem sgn_0 {x : Rat} : (x.num.sign == 0) = decide (x = 0) := by
  rw [Bool.eq_iff_iff, beq_iff_eq, decide_eq_true_eq, Int.sign_eq_zero_iff_zero, Rat.num_eq_zero]
theorem sgn_l0 {x : Rat} : decide (x.num.sign < 0) = decide (x < 0) := by
  rw [decide_eq_decide, Int.sign_neg_iff]
  have := Rat.num_nonneg (q := x)
  rw [← Rat.not_le, ← Int.not_le, this]
theorem sgn_g0 {x : Rat} : decide (x.num.sign > 0) = decide (0 < x) := by
  rw [decide_eq_decide, gt_iff_lt, Int.sign_pos_iff]
  have h1 := Rat.num_nonneg (q := x)
  have h2 := Rat.num_eq_zero (q := x)
  constructor
  · intro h
    have : 0 ≤ x := h1.1 (by omega)
    have : x ≠ 0 := fun e => by have := h2.2 e; omega
    grind
  · intro h
    have a1 : 0 ≤ x.num := h1.2 (by grind)
    have a2 : x.num ≠ 0 := fun e => by have := h2.1 e; grind
    omega
theorem flip_e {M : MQ} {z y : Int} {c : Bool} (hz : z = M.b.num.sign) (hy : y = M.a.num.sign) (hc : c = (cmQ (0 - M.a) 1 == 0)) : (decide (z < 0) || (z == 0 && (c || (decide (y > 0) && cmQ M.a 1 != 0)))) = flipQ M := by
  subst hz hy hc
  rw [sgn_l0, sgn_0, sgn_g0, cm_eq, cm_ne]
  rfl
theorem rest_pre {L : List EQ} {M : MQ} (h : (M.b.num.sign == 0 && decide (M.a.num.sign < 0)) = true) : restQ L M = tailQ (putQ L 1 1) (preM M) ∧ (preM M).b ≠ 0 := by
  rw [sgn_l0, sgn_0, Bool.and_eq_true, decide_eq_true_eq, decide_eq_true_eq] at h
  refine ⟨by rw [restQ, if_pos h], fun e => ?_⟩
  have e : M.b - M.a = 0 := e
  have h1 := h.1
  have h2 := h.2
  grind
theorem rest_no {L : List EQ} {M : MQ} (h : (M.b.num.sign == 0 && decide (M.a.num.sign < 0)) = false) : restQ L M = (if M.b.num.sign = 0 then bareQ L M else tailQ L M) ∧ (M.b.num.sign ≠ 0 → M.b ≠ 0) := by
  rw [sgn_l0, sgn_0] at h
  have h' : ¬ (M.b = 0 ∧ M.a < 0) := fun hh => by rw [decide_eq_true hh.1, decide_eq_true hh.2] at h; exact absurd h (by decide)
  refine ⟨?_, fun hn e => hn (by rw [e]; rfl)⟩
  rw [restQ, if_neg h']
  by_cases hb : M.b = 0
  · rw [if_pos hb, if_pos (by rw [hb]; rfl)]
  · rw [if_neg hb, if_neg (fun e => hb (Rat.num_eq_zero.1 (Int.sign_eq_zero_iff_zero.1 e)))]
theorem ownC_wk {E : TypeId} {m : Nat} {D : List TypeId} {l l' : List As} (h : All2 WkA l l') (hm : ∀ A ∈ l', A.n = m) (hD : ∀ A ∈ l', ∀ T ∈ A.deps, T ∈ D) : WkA (OwnC E m D l) (OwnC E m D l') := ⟨rfl, rfl, fun B cs w ⟨v, e, _, _, ds, h6, h7⟩ => ⟨v, e, hm, hD, ds, (cat_wk h).2.2 _ _ _ h6, by rw [← h.length]; exact h7⟩⟩
theorem bnr_mono {k k' : Nat} {r : List EQ × Int} (h : k ≤ k') : Wk (BnR k r) (BnR k' r) := tu2w (fun B v w ⟨cs, hp, hv⟩ => ⟨cs, (ownC_wk (ebs_mono h r.1) eb_n eb_D).2.2 _ _ _ hp, hv⟩) wk_id
theorem qmB {k k' : Nat} {m : MQ} (h : k ≤ k') : WkA (QMA k m) (QMA k' m) := cat_wk (.cons (qa_mono h) (.cons (qa_mono h) (.cons (qa_mono h) (.cons (qa_mono h) .nil))))
theorem pre_wk {M : MQ} : WkA (cat [QA 2051 M.a, QA 4103 (M.b - M.a), QA 2051 M.c, QA 4103 (M.d - M.c)]) (QMA 4103 (preM M)) := cat_wk (.cons (qa_mono (by decide)) (.cons (WkA.refl _) (.cons (qa_mono (by decide)) (.cons (WkA.refl _) .nil))))
theorem r_fldN {P : Program} {R : Rg} {Q : Exit → Act → World → Prop} {B i : Nat} {w0 : Bs} {x : Operand} {T : TypeId} {f k n g : Nat} (hx : Has R B w0 i x (EqV (ptr g))) (hf : Fld P T f k n) : Wv P Q R B w0 i (.fieldAddr T x f) (EqV (.pointer (some ⟨g, k, none⟩))) :=
  wv_run fun d T ps af gd a w av => by
    have h : a.eval x = .pointer (some ⟨g, 0, none⟩) := hx a w av
    exact ⟨_, w, by simp [execOp, h, run_fieldAt hf], Grow.refl w, rfl⟩

set_option maxRecDepth 100000 in
theorem parts_c (m : RM) : Cn Try.prog 16 [(RMA m).va] (BnR 20530 (parF m)) := by
  refine Cn.introW Try.func16 rfl (by kernel_rfl) nq (.cons (upA_rmB m).va .nil) free_bnR (fun B w0 a hB0 hst => ?_)
  have hst : St B w0 116 [(0, (RMA m).va)] [] a w0.w := hst
  refine wp_seq ?_
  refine gl (sts := []) (news := [⟨1, 37, ptrH, some 0, _, none⟩]) (sp := [.alc 0, .val 2 _, .val 3 _]) [.o 1, .o 2] hst (oc (ob_box rfl rfl rfl (gq 0 rfl)) (oc (ob_v rfl rfl (r_assign has_const)) (oc (ob_v rfl rfl (r_assign has_num)) o0))) (fun a w hst => ?_)
  have hst : St B w0 116 [(2, _), (3, _)] [⟨1, 37, ptrH, _⟩] a w := hst
  refine thn_normal ?_
  refine wp_seq ?_
  refine wp_seq ?_
  refine gl (sts := [none]) (news := []) (sp := [.val 10 _, .val 11 _, .val 12 _]) [.g 0, .g 1, .o 2] hst (oc (ob_v rfl rfl (r_load (lz0 0 rfl) ty_37)) (oc (ob_v rfl rfl (r_call (xs := [.tmp 10]) (rowMay_c m) (.cons (vq 0 rfl) .nil))) (oc (ob_v rfl rfl (r_not (vq 1 rfl))) o0))) (fun a w hst => ?_)
  have hst : St B w0 116 [(2, _), (3, _), (12, _)] [⟨1, 37, ptrH, _⟩] a w := hst
  refine thn_normal ?_
  refine cond_of hst (List.mem_of_getElem? (i := 2) rfl) (fun hb0 => ?_) (fun hb0 => ?_)
  · have hm : okM m = false := by simpa using hb0
    refine wp_seq ?_
    refine gl (sts := [none]) (news := []) (sp := [.val 2 _, .val 3 _]) [.o 0, .o 1] hst (oc (ob_v rfl rfl (r_assign has_const)) (oc (ob_v rfl rfl (r_assign has_num)) o0)) (fun a w hst => ?_)
    have hst : St B w0 116 [(2, _), (3, _)] [⟨1, 37, ptrH, _⟩] a w := hst
    refine thn_normal ?_
    refine wp_ret ?_
    refine thn_ret ?_
    refine ret_wk ?_ (ret_many (rs := [.tmp 2, .tmp 3]) rfl hst (.tmp (List.mem_of_getElem? (i := 0) rfl) (.tmp (List.mem_of_getElem? (i := 1) rfl) .nil)) (by decide))
    rw [parF, hm]; exact tu2w nil_ownB wk_id
  · have hm : okM m = true := by simpa using hb0
    have hst := St.wkL hst 0 rfl (qm_x (okM_q hm).1)
    refine wp_skip ?_
    refine thn_normal ?_
    refine wp_seq ?_
    refine gl (sts := [none]) (news := [⟨4, 22, ptrH, some 0, _, none⟩]) (sp := [.alc 1]) [.g 0, .g 1] hst (oc (ob_alc rfl rfl rfl zero_elB) o0) (fun a w hst => ?_)
    have hst : St B w0 116 [(2, _), (3, _)] [⟨1, 37, ptrH, _⟩, ⟨4, 22, ptrH, _⟩] a w := hst
    refine thn_normal ?_
    refine wp_seq ?_
    obtain ⟨q4, hst⟩ := St.nm hst 1 rfl
    refine gl (sts := [none, none]) (news := []) (sp := [.val 13 _, .val 5 _]) [.g 0, .g 1, .g 2, .o 1] hst (oc (ob_v rfl rfl (r_call (xs := [.tmp 4]) (builder_c q4) (.cons (gq 0 rfl) .nil))) (oc (ob_v rfl rfl (r_assign (vq 0 rfl))) o0)) (fun a w hst => ?_)
    have hst : St B w0 116 [(4, _), (2, _), (3, _), (5, _)] [⟨1, 37, ptrH, _⟩, ⟨4, 22, ptrH, _⟩] a w := hst
    refine thn_normal ?_
    refine wp_seq ?_
    refine gl (sts := [none, none]) (news := [⟨6, 35, ptrH, some 1, _, some (2, _)⟩]) (sp := [.val 14 _, .alc 2, .sto 2]) [.g 0, .g 1, .g 2, .g 3] hst (oc (ob_v rfl rfl (r_call (xs := []) one_q .nil)) (oc (ob_alc rfl rfl rfl (Str.zero str_frac)) (oc (ob_sto rfl rfl rfl (vq 0 rfl) ty_35 (Eq.trans (b := 4) rfl rfl)) o0))) (fun a w hst => ?_)
    have hst : St B w0 116 [(4, _), (2, _), (3, _), (5, _)] [⟨1, 37, ptrH, _⟩, ⟨4, 22, ptrH, _⟩, ⟨6, 35, ptrH, _⟩] a w := hst
    refine thn_normal ?_
    refine wp_seq ?_
    refine go_draw (anc := [[], [0], [0, 1], [], [3], [0, 1, 2, 3, 4], [0, 1, 2, 3, 4, 5], [0, 1, 2, 3, 4, 5, 6]]) (sts := [none, none, none]) (news := []) (sp := [.adr 15 1 (.some 4) True, .val 16 _, .val 17 _, .adr 18 1 (.some 0) True, .val 19 _, .val 20 _, .val 7 _, .val 8 _]) [.g 0, .g 1, .g 2, .g 3, .o 6, .o 7] follows_mixed hst (oc (ob_a rfl rfl (a_fld (lz0 0 rfl) fld_37_1)) (oc (ob_v rfl rfl (r_loadf 0 rfl (by kernel_rfl) trivial (lz0 0 rfl) (Sub.part 1 rfl rfl) ty_35)) (oc (ob_v rfl rfl (r_call (xs := [.tmp 16]) sign_q (.cons (vq 1 rfl) .nil))) (oc (ob_a rfl rfl (a_fld (lz0 0 rfl) fld_37_0)) (oc (ob_v rfl rfl (r_loadf 3 rfl (by kernel_rfl) trivial (lz0 0 rfl) (Sub.part 0 rfl rfl) ty_35)) (oc (ob_v rfl rfl (r_call (xs := [.tmp 19]) sign_q (.cons (vq 4 rfl) .nil))) (oc (ob_v rfl rfl (r_assign (vq 2 rfl))) (oc (ob_v rfl rfl (r_assign (vq 5 rfl))) o0)))))))) (by kernel_rfl) (by kernel_rfl) (by kernel_rfl) (by kernel_rfl) (fun a w hst => ?_)
    have hst : St B w0 116 [(4, _), (2, _), (3, _), (5, _), (7, _), (8, _)] [⟨1, 37, ptrH, _⟩, ⟨4, 22, ptrH, _⟩, ⟨6, 35, ptrH, _⟩] a w := hst
    refine thn_normal ?_
    refine wp_seq ?_
    refine go_draw (anc := [[], [], [1], [0, 1, 2], [], [0, 1, 2, 3, 4], [0, 1, 2, 3, 4, 5], [0, 1, 2, 3, 4, 5, 6]]) (sts := [none, none, none]) (news := []) (sp := [.val 21 _, .adr 22 1 (.some 0) True, .val 23 _, .val 24 _, .val 25 _, .val 26 _, .val 27 _, .val 9 _]) [.g 0, .g 1, .g 2, .g 3, .g 4, .g 5, .o 7] follows_mixed hst (oc (ob_v rfl rfl (r_call (xs := []) nought_q .nil)) (oc (ob_a rfl rfl (a_fld (lz0 0 rfl) fld_37_0)) (oc (ob_v rfl rfl (r_loadf 1 rfl (by kernel_rfl) trivial (lz0 0 rfl) (Sub.part 0 rfl rfl) ty_35)) (oc (ob_v rfl rfl (r_call (xs := [.tmp 21, .tmp 23]) (minus_q (by omega)) (.cons (vq 0 rfl) (.cons (vq 2 rfl) .nil)))) (oc (ob_v rfl rfl (r_load (lz0 2 rfl) ty_35)) (oc (ob_v rfl rfl (r_call (xs := [.tmp 24, .tmp 25]) (cmp_q (by omega)) (.cons (vq 3 rfl) (.cons (vq 4 rfl) .nil)))) (oc (ob_v rfl rfl (r_eql (vq 5 rfl) has_num)) (oc (ob_v rfl rfl (r_assign (vq 6 rfl))) o0)))))))) (by kernel_rfl) (by kernel_rfl) (by kernel_rfl) (by kernel_rfl) (fun a w hst => ?_)
    have hst : St B w0 116 [(4, _), (2, _), (3, _), (5, _), (7, _), (8, _), (9, _)] [⟨1, 37, ptrH, _⟩, ⟨4, 22, ptrH, _⟩, ⟨6, 35, ptrH, _⟩] a w := hst
    refine thn_normal ?_
    refine wp_seq ?_
    refine wp_seq ?_
    refine gl (sts := [none, none, none]) (news := []) (sp := [.val 28 _, .val 29 _, .val 30 _, .val 31 (Wh (_ = false) _), .val 32 (Wh (_ = false) _), .val 33 (Wh (_ = false) _), .val 34 (Wh ((_ = false) ∧ _ = true) _), .val 35 (Wh ((_ = false) ∧ _ = true) _), .val 36 (Wh (((_ = false) ∧ _ = true) ∧ _ = false) _), .val 37 (Wh (((_ = false) ∧ _ = true) ∧ _ = false) _), .val 38 (Wh (((_ = false) ∧ _ = true) ∧ _ = false) _), .adr 39 1 (.some 0) ((((_ = false) ∧ _ = true) ∧ _ = false) ∧ _ = true), .val 40 (Wh ((((_ = false) ∧ _ = true) ∧ _ = false) ∧ _ = true) _), .val 41 (Wh ((((_ = false) ∧ _ = true) ∧ _ = false) ∧ _ = true) _), .val 42 (Wh ((((_ = false) ∧ _ = true) ∧ _ = false) ∧ _ = true) _), .val 43 (Wh ((((_ = false) ∧ _ = true) ∧ _ = false) ∧ _ = true) _), .val 44 (Wh (((_ = false) ∧ _ = true) ∧ _ = false) _), .val 45 (Wh ((_ = false) ∧ _ = true) _), .val 46 (Wh (_ = false) _), .val 47 _]) [.g 0, .g 1, .g 2, .g 3, .g 4, .g 5, .o 19] hst (oc (ob_v rfl rfl (r_move (gq 4 rfl))) (oc (ob_v rfl rfl (r_lss (vq 0 rfl) has_num)) (oc (ob_v rfl rfl (r_move (vq 1 rfl))) (oc (ob_gd rfl rfl rfl (vq 2 rfl) nq (fun hg => r_move (gq 4 rfl))) (oc (ob_gd rfl rfl rfl (vq 2 rfl) nq (fun hg => r_eql (has_wh (vq 3 rfl) hg) has_num)) (oc (ob_gd rfl rfl rfl (vq 2 rfl) nq (fun hg => r_move (has_wh (vq 4 rfl) hg))) (oc (ob_gd2 rfl rfl rfl (vq 5 rfl) nq (fun hg => r_move (gq 6 rfl))) (oc (ob_gd2 rfl rfl rfl (vq 5 rfl) nq (fun hg => r_move (has_wh (vq 6 rfl) hg))) (oc (ob_gd2 rfl rfl rfl (vq 7 rfl) nq (fun hg => r_move (gq 5 rfl))) (oc (ob_gd2 rfl rfl rfl (vq 7 rfl) nq (fun hg => r_gtr (has_wh (vq 8 rfl) hg) has_num)) (oc (ob_gd2 rfl rfl rfl (vq 7 rfl) nq (fun hg => r_move (has_wh (vq 9 rfl) hg))) (oc (ob_ag2 rfl rfl rfl (vq 10 rfl) nq (fun hg => a_fld (lz0 0 rfl) fld_37_0)) (oc (ob_gd2 rfl rfl rfl (vq 10 rfl) nq (fun hg => r_loadf 11 rfl (by kernel_rfl) hg (lz0 0 rfl) (Sub.part 0 rfl rfl) ty_35)) (oc (ob_gd2 rfl rfl rfl (vq 10 rfl) nq (fun hg => r_load (lz0 2 rfl) ty_35)) (oc (ob_gd2 rfl rfl rfl (vq 10 rfl) nq (fun hg => r_call (xs := [.tmp 40, .tmp 41]) (cmp_q (by omega)) (.cons (has_wh (vq 12 rfl) hg) (.cons (has_wh (vq 13 rfl) hg) .nil)))) (oc (ob_gd2 rfl rfl rfl (vq 10 rfl) nq (fun hg => r_neq (has_wh (vq 14 rfl) hg) has_num)) (oc (ob_gd2 rfl rfl rfl (vq 7 rfl) nq (fun hg => r_and (has_wh (vq 10 rfl) hg) (has_wh2 (vq 15 rfl) hg))) (oc (ob_gd2 rfl rfl rfl (vq 5 rfl) nq (fun hg => r_or (has_wh (vq 7 rfl) hg) (has_wh2 (vq 16 rfl) hg))) (oc (ob_gd rfl rfl rfl (vq 2 rfl) nq (fun hg => r_and (has_wh (vq 5 rfl) hg) (has_wh2 (vq 17 rfl) hg))) (oc (ob_v rfl rfl (r_or (vq 2 rfl) (vq 18 rfl))) o0)))))))))))))))))))) (fun a w hst => ?_)
    have hst : St B w0 116 [(4, _), (2, _), (3, _), (5, _), (7, _), (8, _), (47, _)] [⟨1, 37, ptrH, _⟩, ⟨4, 22, ptrH, _⟩, ⟨6, 35, ptrH, _⟩] a w := hst
    refine thn_normal ?_
    refine cond_join (fun a w => ∃ (L1 : List EQ) (M1 : MQ), (partsQ (toM m) = restQ L1 M1 ∧ L1.length ≤ 1) ∧ St B w0 116 [(4, EqV (ptr q4)), (5, FnB 44 54 q4), (7, In M1.b.num.sign), (8, In M1.a.num.sign)] [⟨1, 37, ptrH, QMA 2051 M1⟩, ⟨4, 22, ptrH, OwnC 49 9 [U32] (L1.map (EB 3))⟩, ⟨6, 35, ptrH, QA 2 1⟩] a w) hst (List.mem_of_getElem? (i := 6) rfl) (fun hb1 => ?_) (fun hb1 => ?_) (fun a w hst => ?_)
    · have hfl : flipQ (toM m) = true := (flip_e rfl rfl rfl).symm.trans hb1
      refine wp_seq ?_
      refine go_head (sp := [.val 48 _, .val 49 _, .val 50 VT]) 2 1 99 2 OneC [.g 0, .g 1, .g 2, .g 3, .g 4, .g 5, .o 0, .o 1] hst (oc (ob_v rfl rfl (r_move (gq 3 rfl))) (oc (ob_v rfl rfl (r_call (xs := []) nought_q .nil)) o0)) rfl (by decide) (by kernel_rfl) (by kernel_rfl) (fun a w hst => ?_)
      have hst : St B w0 116 [(4, _), (2, _), (3, _), (5, _), (7, _), (8, _), (48, _), (49, _)] [⟨1, 37, ptrH, _⟩, ⟨4, 22, ptrH, _⟩, ⟨6, 35, ptrH, _⟩] a w := hst
      rw [show List.range' 2 1 = [2] from rfl]
      rw [wpOps_cons]
      refine op_callB (xs := [.const (.int .u8 5), .tmp 49]) [0, 1, 2, 3, 4, 5] 6 0 1 rfl hst (put_c [] 5 0 (K := 0) (c := 2) (K1 := 3) (by omega) (by omega) (by decide)) rfl rfl rfl (.cons (.inr ⟨_, _, rfl, rfl⟩) (.cons (.inl ⟨49, 7, rfl, rfl⟩) .nil)) (may_B hB0) (by decide) (by kernel_rfl) (by kernel_rfl) (by kernel_rfl) (by kernel_rfl) (fun a w hst => ?_)
      refine wpOps_nB ?_
      have hst : St B w0 116 [(50, _), (4, _), (2, _), (3, _), (5, _), (7, _), (8, _)] [⟨1, 37, ptrH, _⟩, ⟨4, 22, ptrH, OwnC 49 9 [U32] ((putQ [] 5 0).map (EB 3))⟩, ⟨6, 35, ptrH, _⟩] a w := hst
      refine thn_normal ?_
      refine wp_seq ?_
      refine gl (sts := [some (2, _), none, none]) (news := []) (sp := [.val 51 _, .val 52 _, .sto 0]) [.g 1, .g 2, .g 3, .g 4, .g 5, .g 6] hst (oc (ob_v rfl rfl (r_load (lz0 0 rfl) ty_37)) (oc (ob_v rfl rfl (r_call (xs := [.tmp 51]) (rowTurnedM_q (m := toM m) (by omega)) (.cons (vq 0 rfl) .nil))) (oc (ob_sto rfl rfl rfl (vq 1 rfl) ty_37 (Eq.trans (b := 16) rfl rfl)) o0))) (fun a w hst => ?_)
      have hst : St B w0 116 [(4, _), (2, _), (3, _), (5, _), (7, _), (8, _)] [⟨1, 37, ptrH, _⟩, ⟨4, 22, ptrH, _⟩, ⟨6, 35, ptrH, _⟩] a w := hst
      refine thn_normal ?_
      refine gl (sts := [none, none, none]) (news := []) (sp := [.val 53 _, .val 54 _, .val 55 _, .val 56 _, .val 7 _, .val 8 _]) [.g 0, .g 1, .g 2, .g 3, .o 4, .o 5] hst (oc (ob_v rfl rfl (r_move (gq 4 rfl))) (oc (ob_v rfl rfl (r_neg (vq 0 rfl) (sgn_neg))) (oc (ob_v rfl rfl (r_move (gq 5 rfl))) (oc (ob_v rfl rfl (r_neg (vq 2 rfl) (sgn_neg))) (oc (ob_v rfl rfl (r_assign (vq 1 rfl))) (oc (ob_v rfl rfl (r_assign (vq 3 rfl))) o0)))))) (fun a w hst => ?_)
      have hst : St B w0 116 [(4, _), (2, _), (3, _), (5, _), (7, _), (8, _)] [⟨1, 37, ptrH, _⟩, ⟨4, 22, ptrH, _⟩, ⟨6, 35, ptrH, _⟩] a w := hst
      refine thn_normal ?_
      have hst := St.sel hst [0, 3, 4, 5]
      exact ⟨putQ [] 5 0, negM (toM m), ⟨by rw [partsQ, if_pos hfl], put_len [] 5 0⟩, hst⟩
    · have hfl : flipQ (toM m) = false := (flip_e rfl rfl rfl).symm.trans hb1
      refine wp_skip ?_
      refine thn_normal ?_
      have hst := St.sel hst [0, 3, 4, 5]
      exact ⟨[], toM m, ⟨by rw [partsQ, hfl]; rfl, Nat.zero_le _⟩, St.wkL hst 0 rfl (qmB (by decide))⟩
    obtain ⟨L1, M1, ⟨hP1, hL1⟩, hst⟩ := hst
    refine thn_normal ?_
    refine wp_seq ?_
    refine wp_seq ?_
    refine gl (sts := [none, none, none]) (news := []) (sp := [.val 57 _, .val 58 _, .val 59 _, .val 60 (Wh (_ = true) _), .val 61 (Wh (_ = true) _), .val 62 _]) [.g 0, .g 1, .g 2, .o 5] hst (oc (ob_v rfl rfl (r_move (gq 2 rfl))) (oc (ob_v rfl rfl (r_eql (vq 0 rfl) has_num)) (oc (ob_v rfl rfl (r_move (vq 1 rfl))) (oc (ob_gd rfl rfl rfl (vq 2 rfl) nq (fun hg => r_move (gq 3 rfl))) (oc (ob_gd rfl rfl rfl (vq 2 rfl) nq (fun hg => r_lss (has_wh (vq 3 rfl) hg) has_num)) (oc (ob_v rfl rfl (r_and (vq 2 rfl) (vq 4 rfl))) o0)))))) (fun a w hst => ?_)
    have hst : St B w0 116 [(4, _), (5, _), (7, _), (62, _)] [⟨1, 37, ptrH, _⟩, ⟨4, 22, ptrH, _⟩, ⟨6, 35, ptrH, _⟩] a w := hst
    refine thn_normal ?_
    refine cond_join (fun a w => ∃ (L2 : List EQ) (M2 : MQ) (z2 : Int), (partsQ (toM m) = (if z2 = 0 then bareQ L2 M2 else tailQ L2 M2) ∧ (z2 ≠ 0 → M2.b ≠ 0) ∧ L2.length ≤ 2) ∧ St B w0 116 [(4, EqV (ptr q4)), (5, FnB 44 54 q4), (7, In z2)] [⟨1, 37, ptrH, QMA 4103 M2⟩, ⟨4, 22, ptrH, OwnC 49 9 [U32] (L2.map (EB 6))⟩, ⟨6, 35, ptrH, QA 2 1⟩] a w) hst (List.mem_of_getElem? (i := 3) rfl) (fun hb2 => ?_) (fun hb2 => ?_) (fun a w hst => ?_)
    · have hr := rest_pre (L := L1) hb2
      refine wp_seq ?_
      refine go_head (sp := [.val 63 _, .val 64 _, .val 65 VT]) 2 1 99 2 OneC [.g 0, .g 1, .g 2, .o 0, .o 1] hst (oc (ob_v rfl rfl (r_move (gq 1 rfl))) (oc (ob_v rfl rfl (r_load (lz0 2 rfl) ty_35)) o0)) rfl (by decide) (by kernel_rfl) (by kernel_rfl) (fun a w hst => ?_)
      have hst : St B w0 116 [(4, _), (5, _), (7, _), (63, _), (64, _)] [⟨1, 37, ptrH, _⟩, ⟨4, 22, ptrH, _⟩, ⟨6, 35, ptrH, _⟩] a w := hst
      rw [show List.range' 2 1 = [2] from rfl]
      rw [wpOps_cons]
      refine op_callB (xs := [.const (.int .u8 1), .tmp 64]) [0, 1, 2] 3 0 1 rfl hst (put_c L1 1 1 (K := 3) (c := 2) (K1 := 6) (by omega) (by omega) (by omega)) rfl rfl rfl (.cons (.inr ⟨_, _, rfl, rfl⟩) (.cons (.inl ⟨64, 4, rfl, rfl⟩) .nil)) (may_B hB0) (by decide) (by kernel_rfl) (by kernel_rfl) (by kernel_rfl) (by kernel_rfl) (fun a w hst => ?_)
      refine wpOps_nB ?_
      have hst : St B w0 116 [(65, _), (4, _), (5, _), (7, _)] [⟨1, 37, ptrH, _⟩, ⟨4, 22, ptrH, OwnC 49 9 [U32] ((putQ L1 1 1).map (EB 6))⟩, ⟨6, 35, ptrH, _⟩] a w := hst
      refine thn_normal ?_
      refine wp_seq ?_
      obtain ⟨q1, hst⟩ := St.nm hst 0 rfl
      refine go_headD2 (sp := [.adr 66 1 (.some 4) True, .val 67 _, .adr 68 1 (.some 0) True, .val 69 _, .val 70 _, .adr 71 1 (.some 12) True, .val 72 _, .adr 73 1 (.some 8) True, .val 74 _, .val 75 _, .val 76 _, .sto 1, .val 77 VT, .sto 0]) [[], [0], [], [2], [0, 1, 2, 3], [], [5], [], [7], [0, 1, 2, 3, 4, 5, 6, 7, 8], [0, 1, 2, 3, 4, 5, 6, 7, 8], [0, 1, 2, 3, 4, 5, 6, 7, 8, 9, 10], [0, 1, 2, 3, 4, 5, 6, 7, 8, 9, 10, 11], [0, 1, 2, 3, 4, 5, 6, 7, 8, 9, 10, 11, 12]] 11 3 0 13 1 11 OneC [.g 0, .g 2, .g 3, .g 4, .o 4, .o 9, .o 10] follows_mixed hst (oc (ob_a rfl rfl (a_fld (lz0 0 rfl) fld_37_1)) (oc (ob_v rfl rfl (r_loadf 0 rfl (by kernel_rfl) trivial (lz0 0 rfl) (Sub.part 1 rfl rfl) ty_35)) (oc (ob_a rfl rfl (a_fld (lz0 0 rfl) fld_37_0)) (oc (ob_v rfl rfl (r_loadf 2 rfl (by kernel_rfl) trivial (lz0 0 rfl) (Sub.part 0 rfl rfl) ty_35)) (oc (ob_v rfl rfl (r_call (xs := [.tmp 67, .tmp 69]) (minus_q (by omega)) (.cons (vq 1 rfl) (.cons (vq 3 rfl) .nil)))) (oc (ob_a rfl rfl (a_fld (lz0 0 rfl) fld_37_3)) (oc (ob_v rfl rfl (r_loadf 5 rfl (by kernel_rfl) trivial (lz0 0 rfl) (Sub.part 3 rfl rfl) ty_35)) (oc (ob_a rfl rfl (a_fld (lz0 0 rfl) fld_37_2)) (oc (ob_v rfl rfl (r_loadf 7 rfl (by kernel_rfl) trivial (lz0 0 rfl) (Sub.part 2 rfl rfl) ty_35)) (oc (ob_v rfl rfl (r_call (xs := [.tmp 72, .tmp 74]) (minus_q (by omega)) (.cons (vq 6 rfl) (.cons (vq 8 rfl) .nil)))) (oc (ob_v rfl rfl (r_fldN (gq 0 rfl) fld_37_1)) o0))))))))))) rfl (by decide) (by decide) (by decide) (by kernel_rfl) (anc_all (by kernel_rfl)) (by kernel_rfl) (by kernel_rfl) (fun a w hst => ?_)
      have hst : St B w0 116 [(1, _), (4, _), (5, _), (7, _), (70, _), (75, _), (76, _)] [⟨1, 37, ptrH, _⟩, ⟨4, 22, ptrH, _⟩, ⟨6, 35, ptrH, _⟩] a w := hst
      rw [show List.range' 11 3 = [11, 12, 13] from rfl]
      rw [wpOps_cons]
      refine op_ownP (A := QA 4103 (M1.b - M1.a)) (A1 := cat [QA 2051 M1.a, QA 4103 (M1.b - M1.a), QA 2051 M1.c, QA 2051 M1.d]) [0, 1, 2, 3, 5] 6 4 0 0 rfl hst rfl rfl rfl ty_35 rfl (Put.part 1 rfl rfl rfl) (by kernel_rfl) (by kernel_rfl) (by kernel_rfl) (fun w hst => ?_)
      rw [wpOps_cons]
      refine op_fldS 0 rfl hst fld_37_3 rfl (by decide) (by kernel_rfl) (by kernel_rfl) (fun a hst => ?_)
      rw [wpOps_cons]
      refine op_ownP (A := QA 4103 (M1.d - M1.c)) (A1 := cat [QA 2051 M1.a, QA 4103 (M1.b - M1.a), QA 2051 M1.c, QA 4103 (M1.d - M1.c)]) [1, 2, 3, 4] 0 5 1 0 rfl hst rfl rfl rfl ty_35 rfl (Put.part 3 rfl rfl rfl) (by kernel_rfl) (by kernel_rfl) (by kernel_rfl) (fun w hst => ?_)
      refine wpOps_sB ?_
      have hst := St.wkL hst 0 rfl (pre_wk (M := M1))
      have hst : St B w0 116 [(1, _), (4, _), (5, _), (7, _)] [⟨1, 37, ptrH, QMA 4103 (preM M1)⟩, ⟨4, 22, ptrH, _⟩, ⟨6, 35, ptrH, _⟩] _ w := hst
      refine thn_normal ?_
      refine gl (sts := [none, none, none]) (news := []) (sp := [.val 7 _]) [.g 0, .g 1, .g 2, .o 0] hst (oc (ob_v rfl rfl (r_assign has_num)) o0) (fun a w hst => ?_)
      have hst : St B w0 116 [(1, _), (4, _), (5, _), (7, _)] [⟨1, 37, ptrH, _⟩, ⟨4, 22, ptrH, _⟩, ⟨6, 35, ptrH, _⟩] a w := hst
      refine thn_normal ?_
      have hst := St.sel hst [1, 2, 3]
      exact ⟨putQ L1 1 1, preM M1, 1, ⟨by rw [hP1, hr.1]; rfl, fun _ => hr.2, by have := put_len L1 1 1; omega⟩, hst⟩
    · have hr := rest_no (L := L1) hb2
      refine wp_skip ?_
      refine thn_normal ?_
      have hst := St.sel hst [0, 1, 2]
      exact ⟨L1, M1, M1.b.num.sign, ⟨by rw [hP1, hr.1], hr.2, by omega⟩, St.wkL (St.wkL hst 0 rfl (qmB (by decide))) 1 rfl (ownC_wk (ebs_mono (by decide) L1) eb_n eb_D)⟩
    obtain ⟨L2, M2, z2, ⟨hP2, hz2, hL2⟩, hst⟩ := hst
    refine thn_normal ?_
    refine wp_seq ?_
    refine wp_seq ?_
    refine gl (sts := [none, none, none]) (news := []) (sp := [.val 78 _, .val 79 _]) [.g 0, .g 1, .o 1] hst (oc (ob_v rfl rfl (r_move (gq 2 rfl))) (oc (ob_v rfl rfl (r_eql (vq 0 rfl) has_num)) o0)) (fun a w hst => ?_)
    have hst : St B w0 116 [(4, _), (5, _), (79, _)] [⟨1, 37, ptrH, _⟩, ⟨4, 22, ptrH, _⟩, ⟨6, 35, ptrH, _⟩] a w := hst
    refine thn_normal ?_
    refine cond_of hst (List.mem_of_getElem? (i := 2) rfl) (fun hb3 => ?_) (fun hb3 => ?_)
    · have hz : z2 = 0 := by simpa using hb3
      rw [if_pos hz] at hP2
      refine wp_seq ?_
      refine go_headD (sp := [.val 80 _, .val 81 _, .adr 82 1 (.some 8) True, .val 83 _, .val 84 _, .val 85 VT]) [[], [], [], [2], [1, 2, 3], [0, 1, 2, 3, 4]] 5 1 99 5 OneC [.g 0, .g 1, .o 0, .o 4] follows_mixed hst (oc (ob_v rfl rfl (r_move (gq 1 rfl))) (oc (ob_v rfl rfl (r_call (xs := []) nought_q .nil)) (oc (ob_a rfl rfl (a_fld (lz0 0 rfl) fld_37_2)) (oc (ob_v rfl rfl (r_loadf 2 rfl (by kernel_rfl) trivial (lz0 0 rfl) (Sub.part 2 rfl rfl) ty_35)) (oc (ob_v rfl rfl (r_call (xs := [.tmp 81, .tmp 83]) (minus_q (by omega)) (.cons (vq 1 rfl) (.cons (vq 3 rfl) .nil)))) o0))))) rfl (by decide) (by decide) (by kernel_rfl) (anc_all (by kernel_rfl)) (by kernel_rfl) (by kernel_rfl) (fun a w hst => ?_)
      have hst : St B w0 116 [(4, _), (5, _), (80, _), (84, _)] [⟨1, 37, ptrH, _⟩, ⟨4, 22, ptrH, _⟩, ⟨6, 35, ptrH, _⟩] a w := hst
      rw [show List.range' 5 1 = [5] from rfl]
      rw [wpOps_cons]
      refine op_callB (xs := [.const (.int .u8 2), .tmp 84]) [0, 1] 2 0 1 rfl hst (put_c L2 2 (0 - M2.c) (K := 6) (c := (2 + 4103 + 1)) (K1 := 20530) (by omega) (by omega) (by omega)) rfl rfl rfl (.cons (.inr ⟨_, _, rfl, rfl⟩) (.cons (.inl ⟨84, 3, rfl, rfl⟩) .nil)) (may_B hB0) (by decide) (by kernel_rfl) (by kernel_rfl) (by kernel_rfl) (by kernel_rfl) (fun a w hst => ?_)
      refine wpOps_nB ?_
      have hst : St B w0 116 [(85, _), (4, _), (5, _)] [⟨1, 37, ptrH, _⟩, ⟨4, 22, ptrH, OwnC 49 9 [U32] ((putQ L2 2 (0 - M2.c)).map (EB 20530))⟩, ⟨6, 35, ptrH, _⟩] a w := hst
      refine thn_normal ?_
      refine wp_seq ?_
      refine gl (sts := [none, none, none]) (news := []) (sp := [.val 86 _, .val 87 _, .val 88 _, .val 89 _, .val 2 _, .val 3 _]) [.g 1, .g 2, .o 4, .o 5] hst (oc (ob_v rfl rfl (r_load (lz0 1 rfl) ty_22)) (oc (ob_v rfl rfl (r_call (xs := [.tmp 86]) tell_l (.cons (vq 0 rfl) .nil))) (oc (ob_v rfl rfl (r_ex0 (vq 1 rfl))) (oc (ob_v rfl rfl (r_ex1 (vq 1 rfl))) (oc (ob_v rfl rfl (r_assign (vq 2 rfl))) (oc (ob_v rfl rfl (r_assign (vq 3 rfl))) o0)))))) (fun a w hst => ?_)
      have hst : St B w0 116 [(4, _), (5, _), (2, _), (3, _)] [⟨1, 37, ptrH, _⟩, ⟨4, 22, ptrH, _⟩, ⟨6, 35, ptrH, _⟩] a w := hst
      refine thn_normal ?_
      refine wp_ret ?_
      refine thn_ret ?_
      refine ret_wk ?_ (ret_many (rs := [.tmp 2, .tmp 3]) rfl hst (.tmp (List.mem_of_getElem? (i := 2) rfl) (.tmp (List.mem_of_getElem? (i := 3) rfl) .nil)) (by decide))
      rw [parF, if_pos hm, hP2]; exact wk_id
    · have hz : ¬ z2 = 0 := by simpa using hb3
      rw [if_neg hz] at hP2
      replace hz2 := hz2 hz
      refine wp_skip ?_
      refine thn_normal ?_
      refine wp_seq ?_
      refine go_headD (sp := [.val 90 _, .val 91 _, .adr 92 1 (.some 0) True, .val 93 _, .val 94 _, .adr 95 1 (.some 4) True, .val 96 _, .val 97 _, .val 98 VT]) [[], [], [], [2], [1, 2, 3], [], [5], [1, 2, 3, 4, 5, 6], [0, 1, 2, 3, 4, 5, 6, 7]] 8 1 99 8 OneC [.g 0, .g 1, .o 0, .o 7] follows_mixed hst (oc (ob_v rfl rfl (r_move (gq 1 rfl))) (oc (ob_v rfl rfl (r_load (lz0 2 rfl) ty_35)) (oc (ob_a rfl rfl (a_fld (lz0 0 rfl) fld_37_0)) (oc (ob_v rfl rfl (r_loadf 2 rfl (by kernel_rfl) trivial (lz0 0 rfl) (Sub.part 0 rfl rfl) ty_35)) (oc (ob_v rfl rfl (r_call (xs := [.tmp 91, .tmp 93]) (minus_q (by omega)) (.cons (vq 1 rfl) (.cons (vq 3 rfl) .nil)))) (oc (ob_a rfl rfl (a_fld (lz0 0 rfl) fld_37_1)) (oc (ob_v rfl rfl (r_loadf 5 rfl (by kernel_rfl) trivial (lz0 0 rfl) (Sub.part 1 rfl rfl) ty_35)) (oc (ob_v rfl rfl (r_call (xs := [.tmp 94, .tmp 96]) (over_q (by omega) hz2) (.cons (vq 4 rfl) (.cons (vq 6 rfl) .nil)))) o0)))))))) rfl (by decide) (by decide) (by kernel_rfl) (anc_all (by kernel_rfl)) (by kernel_rfl) (by kernel_rfl) (fun a w hst => ?_)
      have hst : St B w0 116 [(4, _), (5, _), (90, _), (97, _)] [⟨1, 37, ptrH, _⟩, ⟨4, 22, ptrH, _⟩, ⟨6, 35, ptrH, _⟩] a w := hst
      rw [show List.range' 8 1 = [8] from rfl]
      rw [wpOps_cons]
      refine op_callB (xs := [.const (.int .u8 2), .tmp 97]) [0, 1] 2 0 1 rfl hst (put_c L2 2 ((1 - M2.a) / M2.b) (K := 6) (c := (2 + 4103 + 1 + 4103)) (K1 := 8216) (by omega) (by omega) (by omega)) rfl rfl rfl (.cons (.inr ⟨_, _, rfl, rfl⟩) (.cons (.inl ⟨97, 3, rfl, rfl⟩) .nil)) (may_B hB0) (by decide) (by kernel_rfl) (by kernel_rfl) (by kernel_rfl) (by kernel_rfl) (fun a w hst => ?_)
      refine wpOps_nB ?_
      have hst : St B w0 116 [(98, _), (4, _), (5, _)] [⟨1, 37, ptrH, _⟩, ⟨4, 22, ptrH, OwnC 49 9 [U32] ((putQ L2 2 ((1 - M2.a) / M2.b)).map (EB 8216))⟩, ⟨6, 35, ptrH, _⟩] a w := hst
      refine thn_normal ?_
      refine wp_seq ?_
      refine go_head (sp := [.val 99 _, .adr 100 1 (.some 4) True, .val 101 _, .val 102 VT]) 3 1 99 3 OneC [.g 1, .g 2, .o 0, .o 2] hst (oc (ob_v rfl rfl (r_move (gq 2 rfl))) (oc (ob_a rfl rfl (a_fld (lz0 0 rfl) fld_37_1)) (oc (ob_v rfl rfl (r_loadf 1 rfl (by kernel_rfl) trivial (lz0 0 rfl) (Sub.part 1 rfl rfl) ty_35)) o0))) rfl (by decide) (by kernel_rfl) (by kernel_rfl) (fun a w hst => ?_)
      have hst : St B w0 116 [(4, _), (5, _), (99, _), (101, _)] [⟨1, 37, ptrH, _⟩, ⟨4, 22, ptrH, _⟩, ⟨6, 35, ptrH, _⟩] a w := hst
      rw [show List.range' 3 1 = [3] from rfl]
      rw [wpOps_cons]
      refine op_callB (xs := [.const (.int .u8 1), .tmp 101]) [0, 1] 2 0 1 rfl hst (put_c (putQ L2 2 ((1 - M2.a) / M2.b)) 1 M2.b (K := 8216) (c := 4103) (K1 := 12320) (by omega) (by omega) (by have := put_len L2 2 ((1 - M2.a) / M2.b); omega)) rfl rfl rfl (.cons (.inr ⟨_, _, rfl, rfl⟩) (.cons (.inl ⟨101, 3, rfl, rfl⟩) .nil)) (may_B hB0) (by decide) (by kernel_rfl) (by kernel_rfl) (by kernel_rfl) (by kernel_rfl) (fun a w hst => ?_)
      refine wpOps_nB ?_
      have hst : St B w0 116 [(102, _), (4, _), (5, _)] [⟨1, 37, ptrH, _⟩, ⟨4, 22, ptrH, OwnC 49 9 [U32] ((putQ (putQ L2 2 ((1 - M2.a) / M2.b)) 1 M2.b).map (EB 12320))⟩, ⟨6, 35, ptrH, _⟩] a w := hst
      refine thn_normal ?_
      refine wp_seq ?_
      refine go_headD (sp := [.val 103 _, .val 104 _, .adr 105 1 (.some 12) True, .val 106 _, .val 107 _, .adr 108 1 (.some 4) True, .val 109 _, .val 110 _, .val 111 VT]) [[], [], [], [2], [1, 2, 3], [], [5], [1, 2, 3, 4, 5, 6], [0, 1, 2, 3, 4, 5, 6, 7]] 8 1 99 8 OneC [.g 1, .o 0, .o 7] follows_mixed hst (oc (ob_v rfl rfl (r_move (gq 2 rfl))) (oc (ob_v rfl rfl (r_load (lz0 2 rfl) ty_35)) (oc (ob_a rfl rfl (a_fld (lz0 0 rfl) fld_37_3)) (oc (ob_v rfl rfl (r_loadf 2 rfl (by kernel_rfl) trivial (lz0 0 rfl) (Sub.part 3 rfl rfl) ty_35)) (oc (ob_v rfl rfl (r_call (xs := [.tmp 104, .tmp 106]) (minus_q (by omega)) (.cons (vq 1 rfl) (.cons (vq 3 rfl) .nil)))) (oc (ob_a rfl rfl (a_fld (lz0 0 rfl) fld_37_1)) (oc (ob_v rfl rfl (r_loadf 5 rfl (by kernel_rfl) trivial (lz0 0 rfl) (Sub.part 1 rfl rfl) ty_35)) (oc (ob_v rfl rfl (r_call (xs := [.tmp 107, .tmp 109]) (over_q (by omega) hz2) (.cons (vq 4 rfl) (.cons (vq 6 rfl) .nil)))) o0)))))))) rfl (by decide) (by decide) (by kernel_rfl) (anc_all (by kernel_rfl)) (by kernel_rfl) (by kernel_rfl) (fun a w hst => ?_)
      have hst : St B w0 116 [(4, _), (103, _), (110, _)] [⟨1, 37, ptrH, _⟩, ⟨4, 22, ptrH, _⟩, ⟨6, 35, ptrH, _⟩] a w := hst
      rw [show List.range' 8 1 = [8] from rfl]
      rw [wpOps_cons]
      refine op_callB (xs := [.const (.int .u8 2), .tmp 110]) [0] 1 0 1 rfl hst (put_c (putQ (putQ L2 2 ((1 - M2.a) / M2.b)) 1 M2.b) 2 ((1 - M2.d) / M2.b) (K := 12320) (c := (2 + 4103 + 1 + 4103)) (K1 := 20530) (by omega) (by omega) (by have := put_len L2 2 ((1 - M2.a) / M2.b); have := put_len (putQ L2 2 ((1 - M2.a) / M2.b)) 1 M2.b; omega)) rfl rfl rfl (.cons (.inr ⟨_, _, rfl, rfl⟩) (.cons (.inl ⟨110, 2, rfl, rfl⟩) .nil)) (may_B hB0) (by decide) (by kernel_rfl) (by kernel_rfl) (by kernel_rfl) (by kernel_rfl) (fun a w hst => ?_)
      refine wpOps_nB ?_
      have hst : St B w0 116 [(111, _), (4, _)] [⟨1, 37, ptrH, _⟩, ⟨4, 22, ptrH, OwnC 49 9 [U32] ((putQ (putQ (putQ L2 2 ((1 - M2.a) / M2.b)) 1 M2.b) 2 ((1 - M2.d) / M2.b)).map (EB 20530))⟩, ⟨6, 35, ptrH, _⟩] a w := hst
      refine thn_normal ?_
      refine wp_seq ?_
      refine gl (sts := [none, none, none]) (news := []) (sp := [.val 112 _, .val 113 _, .val 114 _, .val 115 _, .val 2 _, .val 3 _]) [.o 4, .o 5] hst (oc (ob_v rfl rfl (r_load (lz0 1 rfl) ty_22)) (oc (ob_v rfl rfl (r_call (xs := [.tmp 112]) tell_l (.cons (vq 0 rfl) .nil))) (oc (ob_v rfl rfl (r_ex0 (vq 1 rfl))) (oc (ob_v rfl rfl (r_ex1 (vq 1 rfl))) (oc (ob_v rfl rfl (r_assign (vq 2 rfl))) (oc (ob_v rfl rfl (r_assign (vq 3 rfl))) o0)))))) (fun a w hst => ?_)
      have hst : St B w0 116 [(2, _), (3, _)] [⟨1, 37, ptrH, _⟩, ⟨4, 22, ptrH, _⟩, ⟨6, 35, ptrH, _⟩] a w := hst
      refine thn_normal ?_
      refine wp_ret ?_
      refine ret_wk ?_ (ret_many (rs := [.tmp 2, .tmp 3]) rfl hst (.tmp (List.mem_of_getElem? (i := 0) rfl) (.tmp (List.mem_of_getElem? (i := 1) rfl) .nil)) (by decide))
      rw [parF, if_pos hm, hP2]; exact wk_id

end Go.Proofs.Ytljkepdpoelpkaa
