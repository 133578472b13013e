/- Numbers that are new: contracts of package exact; of fractions with numerators and denominators in rows of their own: package ratio. -/
import Derived.Test.YtljkepdpoelpkaaSepA
namespace Go.Proofs.Ytljkepdpoelpkaa
open Go Go.RowKit
namespace SepB
theorem fld_33_0 : Fld Try.prog 33 0 0 1 := ⟨_, _, Try.underlying33, rfl, rfl, by kernel_rfl, by decide⟩
theorem fld_33_1 : Fld Try.prog 33 1 1 1 := ⟨_, _, Try.underlying33, rfl, rfl, by kernel_rfl, by decide⟩
theorem sl_31 : Sl Try.prog 31 91 1 := ⟨by kernel_rfl, by kernel_rfl⟩
theorem ty_31 : Ty Try.prog 31 1 false := ⟨by kernel_rfl, by kernel_rfl⟩
theorem ty_33 : Ty Try.prog 33 2 true := ⟨by kernel_rfl, by kernel_rfl⟩
theorem ty_4 : Ty Try.prog 4 1 false := ⟨by kernel_rfl, by kernel_rfl⟩
end SepB
open SepB
set_option linter.unusedVariables false
theorem new_mg (l : List Nat) : NewA (MgN l) := fun B cs w ⟨_, h⟩ => by
  rcases h with ⟨_, rfl⟩ | ⟨g, ext, rfl, _, h2, h3⟩
  · intro g hg; cases hg
  · intro g' hg
    have : g' = g := by simpa [cbl, blk] using hg
    subst this
    exact ⟨h2, (Array.getElem?_eq_some_iff.1 h3).1⟩
theorem new_bo (b : Bool) : NewA (BoA b) := fun B cs w h => by
  have h' : cs = [.bool b] := h
  subst h'
  intro g hg; cases hg
theorem new_num (k : IntKind) (n : Int) : NewA (NumA k n) := fun B cs w h => by
  have h' : cs = [.int k n] := h
  subst h'
  intro g hg; cases hg
theorem new_riN (x : RI) : NewA (RIN x) := new_cat (fun A hA => by
  simp at hA
  rcases hA with rfl | rfl
  · exact new_bo _
  · exact new_mg _)
theorem cbl_le (cs : List Value) : (cbl cs).length ≤ cs.length := List.length_filterMap_le _ _
theorem nod_riN (x : RI) : NodA (RIN x) := fun B cs w ⟨ps, e, h⟩ => by
  subst e
  cases h with
  | @cons _ c1 _ _ h1 h => cases h with
    | @cons _ c2 _ _ h2 h =>
      cases h
      have e1 : c1 = [.bool x.neg] := h1
      have l2 := (MgN x.mag).len _ _ _ h2
      subst e1
      match c2, l2 with
      | [v], _ =>
        show (List.filterMap blk [.bool x.neg, v]).Nodup
        have : List.filterMap blk [.bool x.neg, v] = List.filterMap blk [v] := rfl
        rw [this]
        cases hb : blk v with
        | none => simp [hb]
        | some g => simp [hb]
def ZN (k : Nat) (z : Int) : As := (RIN (riOf z)).and (lz z ≤ k)
theorem new_zn {k : Nat} {z : Int} : NewA (ZN k z) := new_and (new_riN _)
theorem nod_zn {k : Nat} {z : Int} : NodA (ZN k z) := nod_and (nod_riN _)
theorem free_and {A : As} {c : Prop} (h : FreeA A A) : FreeA (A.and c) (A.and c) := ⟨rfl, rfl, fun B B' cs w hB hp => ⟨hp.1, h.2.2 B B' cs w hB hp.2⟩⟩
theorem free_zn {k : Nat} {z : Int} : FreeA (ZN k z) (ZN k z) := free_and (free_ri _)
theorem wkA_riN {x : RI} : WkA (RIN x) (RIA x) := ⟨rfl, rfl, fun B cs w h => (free_riA x).2.2 B B cs w (Nat.le_refl _) h⟩
theorem zn_za {k : Nat} {z : Int} : WkA (ZN k z) (ZA k z) := ⟨rfl, rfl, fun B cs w h => ⟨h.1, wkA_riN.2.2 B cs w h.2⟩⟩
theorem zn_mono {k k' : Nat} {z : Int} (h : k ≤ k') : WkA (ZN k z) (ZN k' z) := ⟨rfl, rfl, fun _ _ _ hp => ⟨Nat.le_trans hp.1 h, hp.2⟩⟩
theorem zn_of {k : Nat} {z : Int} (h : lz z ≤ k) : Wk (RIN (riOf z)).va (ZN k z).va := fun _ _ _ ⟨cs, hp, hv⟩ => ⟨cs, ⟨h, hp⟩, hv⟩

theorem plusD_e0 {a b : Int} (h : ((riOf a).neg == (riOf b).neg) = true) : (RIN (rsig (riOf a).neg (digs (max (riOf a).mag.length (riOf b).mag.length + 1) (val (riOf a).mag + val (riOf b).mag)))).va = (RIN (riOf (a + b))).va := by
  have h' : decide (a < 0) = decide (b < 0) := by simpa [riOf] using h
  rw [val_ri, val_ri, rsig_of (okL_digs _ _) (z := a + b) (by show val (digs (max (limbs a.natAbs).length (limbs b.natAbs).length + 1) _) = _; rw [val_sum]; simp only [decide_eq_decide] at h'; omega) (fun hz => by show decide (a < 0) = _; simp only [decide_eq_decide] at h' ⊢; omega)]
theorem plusD_e1 {a b : Int} (h : ((riOf a).neg == (riOf b).neg) = false) (h2 : b.natAbs ≤ a.natAbs) : (RIN (rsig (riOf a).neg (limbs (val (riOf a).mag - val (riOf b).mag)))).va = (RIN (riOf (a + b))).va := by
  have h' : ¬ decide (a < 0) = decide (b < 0) := by simpa [riOf] using h
  rw [val_ri, val_ri, rsig_of (canon_limbs _).1 (z := a + b) (by rw [val_limbs]; simp only [decide_eq_decide] at h'; omega) (fun hz => by show decide (a < 0) = _; simp only [decide_eq_decide] at h' ⊢; omega)]
theorem plusD_e2 {a b : Int} (h : ((riOf a).neg == (riOf b).neg) = false) (h2 : a.natAbs ≤ b.natAbs) : (RIN (rsig (riOf b).neg (limbs (val (riOf b).mag - val (riOf a).mag)))).va = (RIN (riOf (a + b))).va := by
  have h' : ¬ decide (a < 0) = decide (b < 0) := by simpa [riOf] using h
  rw [val_ri, val_ri, rsig_of (canon_limbs _).1 (z := a + b) (by rw [val_limbs]; simp only [decide_eq_decide] at h'; omega) (fun hz => by show decide (b < 0) = _; simp only [decide_eq_decide] at h' ⊢; omega)]

set_option maxRecDepth 100000 in
theorem plusD_c (p q : Int) (hp : lz p ≤ 1099511627776) (hq : lz q ≤ 1099511627776) : Cn Try.prog 66 [Zi p, Zi q] ((RIN (riOf (p + q))).va) := by
  refine Cn.intro Try.func66 rfl (by kernel_rfl) nq (fun B w0 a hst => ?_)
  have hst : St B w0 40 [(0, Zi p), (1, Zi q)] [] a w0.w := hst
  refine wp_seq ?_
  refine gl (sts := []) (news := [⟨2, 33, ptrH, some 0, _, none⟩, ⟨3, 33, ptrH, some 1, _, none⟩, ⟨4, 33, ptrH, some 2, _, none⟩]) (sp := [.alc 0, .alc 1, .alc 2]) [] hst (oc (ob_box rfl rfl rfl (gq 0 rfl)) (oc (ob_box rfl rfl rfl (gq 1 rfl)) (oc (ob_alc rfl rfl rfl (Str.zero str_int)) o0))) (fun a w hst => ?_)
  have hst : St B w0 40 [] [⟨2, 33, ptrH, _⟩, ⟨3, 33, ptrH, _⟩, ⟨4, 33, ptrH, _⟩] a w := hst
  refine thn_normal ?_
  refine wp_seq ?_
  refine wp_seq ?_
  refine gl (sts := [none, none, none]) (news := []) (sp := [.adr 5 2 (.some 0) True, .val 6 _, .adr 7 3 (.some 0) True, .val 8 _, .val 9 _]) [.o 4] hst (oc (ob_a rfl rfl (a_fld (lz0 0 rfl) fld_33_0)) (oc (ob_v rfl rfl (r_loadf 0 rfl (by kernel_rfl) trivial (lz0 0 rfl) (Sub.part 0 rfl rfl) ty_4)) (oc (ob_a rfl rfl (a_fld (lz0 1 rfl) fld_33_0)) (oc (ob_v rfl rfl (r_loadf 2 rfl (by kernel_rfl) trivial (lz0 1 rfl) (Sub.part 0 rfl rfl) ty_4)) (oc (ob_v rfl rfl (r_eqlb (by kernel_rfl) (vq 1 rfl) (vq 3 rfl))) o0))))) (fun a w hst => ?_)
  have hst : St B w0 40 [(9, _)] [⟨2, 33, ptrH, _⟩, ⟨3, 33, ptrH, _⟩, ⟨4, 33, ptrH, _⟩] a w := hst
  refine thn_normal ?_
  refine cond_of hst (List.mem_of_getElem? (i := 0) rfl) (fun hb0 => ?_) (fun hb0 => ?_)
  · refine wp_seq ?_
    refine go_draw (anc := [[], [0], [], [2], [], [4], [2, 3, 4, 5], [0, 1, 2, 3, 4, 5, 6], [0, 1, 2, 3, 4, 5, 6, 7]]) (sts := [none, none, some (8, _)]) (news := []) (sp := [.adr 10 2 (.some 0) True, .val 11 _, .adr 12 2 (.some 1) True, .val 13 _, .adr 14 3 (.some 1) True, .val 15 _, .val 16 _, .val 17 _, .sto 2]) [] follows_mixed hst (oc (ob_a rfl rfl (a_fld (lz0 0 rfl) fld_33_0)) (oc (ob_v rfl rfl (r_loadf 0 rfl (by kernel_rfl) trivial (lz0 0 rfl) (Sub.part 0 rfl rfl) ty_4)) (oc (ob_a rfl rfl (a_fld (lz0 0 rfl) fld_33_1)) (oc (ob_v rfl rfl (r_loadf 2 rfl (by kernel_rfl) trivial (lz0 0 rfl) (Sub.part 1 rfl rfl) ty_31)) (oc (ob_a rfl rfl (a_fld (lz0 1 rfl) fld_33_1)) (oc (ob_v rfl rfl (r_loadf 4 rfl (by kernel_rfl) trivial (lz0 1 rfl) (Sub.part 1 rfl rfl) ty_31)) (oc (ob_v rfl rfl (r_call (xs := [.tmp 13, .tmp 15]) (add_c _ _ hp hq) (.cons (vq 3 rfl) (.cons (vq 5 rfl) .nil)))) (oc (ob_v rfl rfl (r_call (xs := [.tmp 11, .tmp 16]) (signedN_c _ _) (.cons (vq 1 rfl) (.cons (vq 6 rfl) .nil)))) (oc (ob_sto rfl rfl rfl (vq 7 rfl) ty_33 (Eq.trans (b := 2) rfl rfl)) o0))))))))) (by kernel_rfl) (by kernel_rfl) (by kernel_rfl) (by kernel_rfl) (fun a w hst => ?_)
    have hst : St B w0 40 [] [⟨2, 33, ptrH, _⟩, ⟨3, 33, ptrH, _⟩, ⟨4, 33, ptrH, _⟩] a w := hst
    refine thn_normal ?_
    refine wp_ret ?_
    refine thn_ret ?_
    refine ret_cast ?_ (ret_cell rfl hst (List.mem_of_getElem? (i := 2) rfl) ty_33)
    exact plusD_e0 hb0
  · refine wp_skip ?_
    refine thn_normal ?_
    refine wp_seq ?_
    refine wp_seq ?_
    refine gl (sts := [none, none, none]) (news := []) (sp := [.adr 18 2 (.some 1) True, .val 19 _, .adr 20 3 (.some 1) True, .val 21 _, .val 22 _, .val 23 _]) [.o 5] hst (oc (ob_a rfl rfl (a_fld (lz0 0 rfl) fld_33_1)) (oc (ob_v rfl rfl (r_loadf 0 rfl (by kernel_rfl) trivial (lz0 0 rfl) (Sub.part 1 rfl rfl) ty_31)) (oc (ob_a rfl rfl (a_fld (lz0 1 rfl) fld_33_1)) (oc (ob_v rfl rfl (r_loadf 2 rfl (by kernel_rfl) trivial (lz0 1 rfl) (Sub.part 1 rfl rfl) ty_31)) (oc (ob_v rfl rfl (r_call (xs := [.tmp 19, .tmp 21]) (size_c _ _) (.cons (vq 1 rfl) (.cons (vq 3 rfl) .nil)))) (oc (ob_v rfl rfl (r_geq (vq 4 rfl) has_num)) o0)))))) (fun a w hst => ?_)
    have hst : St B w0 40 [(23, _)] [⟨2, 33, ptrH, _⟩, ⟨3, 33, ptrH, _⟩, ⟨4, 33, ptrH, _⟩] a w := hst
    refine thn_normal ?_
    refine cond_of hst (List.mem_of_getElem? (i := 0) rfl) (fun hb1 => ?_) (fun hb1 => ?_)
    · refine wp_seq ?_
      refine go_draw (anc := [[], [0], [], [2], [], [4], [2, 3, 4, 5], [0, 1, 2, 3, 4, 5, 6], [0, 1, 2, 3, 4, 5, 6, 7]]) (sts := [none, none, some (8, _)]) (news := []) (sp := [.adr 24 2 (.some 0) True, .val 25 _, .adr 26 2 (.some 1) True, .val 27 _, .adr 28 3 (.some 1) True, .val 29 _, .val 30 _, .val 31 _, .sto 2]) [] follows_mixed hst (oc (ob_a rfl rfl (a_fld (lz0 0 rfl) fld_33_0)) (oc (ob_v rfl rfl (r_loadf 0 rfl (by kernel_rfl) trivial (lz0 0 rfl) (Sub.part 0 rfl rfl) ty_4)) (oc (ob_a rfl rfl (a_fld (lz0 0 rfl) fld_33_1)) (oc (ob_v rfl rfl (r_loadf 2 rfl (by kernel_rfl) trivial (lz0 0 rfl) (Sub.part 1 rfl rfl) ty_31)) (oc (ob_a rfl rfl (a_fld (lz0 1 rfl) fld_33_1)) (oc (ob_v rfl rfl (r_loadf 4 rfl (by kernel_rfl) trivial (lz0 1 rfl) (Sub.part 1 rfl rfl) ty_31)) (oc (ob_v rfl rfl (r_call (xs := [.tmp 27, .tmp 29]) (sub_c _ _ hp (len_mono (plus_g1 hb1)) (by show val (limbs _) ≤ val (limbs _); rw [val_limbs, val_limbs]; exact plus_g1 hb1)) (.cons (vq 3 rfl) (.cons (vq 5 rfl) .nil)))) (oc (ob_v rfl rfl (r_call (xs := [.tmp 25, .tmp 30]) (signedN_c _ _) (.cons (vq 1 rfl) (.cons (vq 6 rfl) .nil)))) (oc (ob_sto rfl rfl rfl (vq 7 rfl) ty_33 (Eq.trans (b := 2) rfl rfl)) o0))))))))) (by kernel_rfl) (by kernel_rfl) (by kernel_rfl) (by kernel_rfl) (fun a w hst => ?_)
      have hst : St B w0 40 [] [⟨2, 33, ptrH, _⟩, ⟨3, 33, ptrH, _⟩, ⟨4, 33, ptrH, _⟩] a w := hst
      refine thn_normal ?_
      refine wp_ret ?_
      refine thn_ret ?_
      refine ret_cast ?_ (ret_cell rfl hst (List.mem_of_getElem? (i := 2) rfl) ty_33)
      exact plusD_e1 hb0 (plus_g1 hb1)
    · refine wp_skip ?_
      refine thn_normal ?_
      refine wp_seq ?_
      refine go_draw (anc := [[], [0], [], [2], [], [4], [2, 3, 4, 5], [0, 1, 2, 3, 4, 5, 6], [0, 1, 2, 3, 4, 5, 6, 7]]) (sts := [none, none, some (8, _)]) (news := []) (sp := [.adr 32 3 (.some 0) True, .val 33 _, .adr 34 3 (.some 1) True, .val 35 _, .adr 36 2 (.some 1) True, .val 37 _, .val 38 _, .val 39 _, .sto 2]) [] follows_mixed hst (oc (ob_a rfl rfl (a_fld (lz0 1 rfl) fld_33_0)) (oc (ob_v rfl rfl (r_loadf 0 rfl (by kernel_rfl) trivial (lz0 1 rfl) (Sub.part 0 rfl rfl) ty_4)) (oc (ob_a rfl rfl (a_fld (lz0 1 rfl) fld_33_1)) (oc (ob_v rfl rfl (r_loadf 2 rfl (by kernel_rfl) trivial (lz0 1 rfl) (Sub.part 1 rfl rfl) ty_31)) (oc (ob_a rfl rfl (a_fld (lz0 0 rfl) fld_33_1)) (oc (ob_v rfl rfl (r_loadf 4 rfl (by kernel_rfl) trivial (lz0 0 rfl) (Sub.part 1 rfl rfl) ty_31)) (oc (ob_v rfl rfl (r_call (xs := [.tmp 35, .tmp 37]) (sub_c _ _ hq (len_mono (plus_g2 hb1)) (by show val (limbs _) ≤ val (limbs _); rw [val_limbs, val_limbs]; exact plus_g2 hb1)) (.cons (vq 3 rfl) (.cons (vq 5 rfl) .nil)))) (oc (ob_v rfl rfl (r_call (xs := [.tmp 33, .tmp 38]) (signedN_c _ _) (.cons (vq 1 rfl) (.cons (vq 6 rfl) .nil)))) (oc (ob_sto rfl rfl rfl (vq 7 rfl) ty_33 (Eq.trans (b := 2) rfl rfl)) o0))))))))) (by kernel_rfl) (by kernel_rfl) (by kernel_rfl) (by kernel_rfl) (fun a w hst => ?_)
      have hst : St B w0 40 [] [⟨2, 33, ptrH, _⟩, ⟨3, 33, ptrH, _⟩, ⟨4, 33, ptrH, _⟩] a w := hst
      refine thn_normal ?_
      refine wp_ret ?_
      refine ret_cast ?_ (ret_cell rfl hst (List.mem_of_getElem? (i := 2) rfl) ty_33)
      exact plusD_e2 hb0 (plus_g2 hb1)

set_option maxRecDepth 100000 in
theorem minusD_c (p q : Int) (hp : lz p ≤ 1099511627776) (hq : lz q ≤ 1099511627776) : Cn Try.prog 61 [Zi p, Zi q] ((RIN (riOf (p - q))).va) := by
  refine Cn.intro Try.func61 rfl (by kernel_rfl) nq (fun B w0 a hst => ?_)
  have hst : St B w0 19 [(0, Zi p), (1, Zi q)] [] a w0.w := hst
  refine wp_seq ?_
  refine gl (sts := []) (news := [⟨2, 33, ptrH, some 0, _, none⟩, ⟨3, 33, ptrH, some 1, _, none⟩, ⟨4, 33, ptrH, some 2, _, none⟩]) (sp := [.alc 0, .alc 1, .alc 2]) [] hst (oc (ob_box rfl rfl rfl (gq 0 rfl)) (oc (ob_box rfl rfl rfl (gq 1 rfl)) (oc (ob_alc rfl rfl rfl (Str.zero str_int)) o0))) (fun a w hst => ?_)
  have hst : St B w0 19 [] [⟨2, 33, ptrH, _⟩, ⟨3, 33, ptrH, _⟩, ⟨4, 33, ptrH, _⟩] a w := hst
  refine thn_normal ?_
  refine wp_seq ?_
  refine gl (sts := [none, none, some (14, _)]) (news := []) (sp := [.val 5 _, .adr 6 3 (.some 0) True, .val 7 _, .val 8 _, .val 9 _, .adr 10 3 (.some 1) (_ = true), .val 11 (Wh (_ = true) _), .val 12 (Wh (_ = true) _), .val 13 (Wh (_ = true) _), .val 14 _, .adr 15 3 (.some 1) True, .val 16 _, .val 17 _, .val 18 _, .sto 2]) [] hst (oc (ob_v rfl rfl (r_load (lz0 0 rfl) ty_33)) (oc (ob_a rfl rfl (a_fld (lz0 1 rfl) fld_33_0)) (oc (ob_v rfl rfl (r_loadf 1 rfl (by kernel_rfl) trivial (lz0 1 rfl) (Sub.part 0 rfl rfl) ty_4)) (oc (ob_v rfl rfl (r_not (vq 2 rfl))) (oc (ob_v rfl rfl (r_move (vq 3 rfl))) (oc (ob_ag rfl rfl rfl (vq 4 rfl) nq (fun hg => a_fld (lz0 1 rfl) fld_33_1)) (oc (ob_gd rfl rfl rfl (vq 4 rfl) nq (fun hg => r_loadf 5 rfl (by kernel_rfl) hg (lz0 1 rfl) (Sub.part 1 rfl rfl) ty_31)) (oc (ob_gd rfl rfl rfl (vq 4 rfl) nq (fun hg => r_lenm Try.underlying31 (has_wh (vq 6 rfl) hg))) (oc (ob_gd rfl rfl rfl (vq 4 rfl) nq (fun hg => r_gtr (has_wh (vq 7 rfl) hg) has_num)) (oc (ob_v rfl rfl (r_and (vq 4 rfl) (vq 8 rfl))) (oc (ob_a rfl rfl (a_fld (lz0 1 rfl) fld_33_1)) (oc (ob_v rfl rfl (r_loadf 10 rfl (by kernel_rfl) trivial (lz0 1 rfl) (Sub.part 1 rfl rfl) ty_31)) (oc (ob_v rfl rfl (r_build (xs := [(0, .tmp 14), (1, .tmp 16)]) (qs := [(0, _), (1, _)]) str_int (.cons ⟨rfl, (vq 9 rfl), rfl⟩ (.cons ⟨rfl, (vq 11 rfl), rfl⟩ .nil)))) (oc (ob_v rfl rfl (r_call (xs := [.tmp 5, .tmp 17]) ((plusD_c p (-q) hp (by rw [lz_neg]; exact hq)).pre (congrArg (fun A => [Zi p, A]) minus_e)) (.cons (vq 0 rfl) (.cons (vq 12 rfl) .nil)))) (oc (ob_sto rfl rfl rfl (vq 13 rfl) ty_33 (Eq.trans (b := 2) rfl rfl)) o0))))))))))))))) (fun a w hst => ?_)
  have hst : St B w0 19 [] [⟨2, 33, ptrH, _⟩, ⟨3, 33, ptrH, _⟩, ⟨4, 33, ptrH, _⟩] a w := hst
  refine thn_normal ?_
  refine wp_ret ?_
  refine ret_cast ?_ (ret_cell rfl hst (List.mem_of_getElem? (i := 2) rfl) ty_33)
  exact congrArg (fun z => (RIN (riOf z)).va) Int.sub_eq_add_neg.symm

theorem ofD_e2 {n : Int} (h0 : -9223372036854775808 ≤ n) (h1 : n < 9223372036854775808) : (RIN (rsig (decide (n < 0)) [n.natAbs % 4294967296, n.natAbs / 4294967296])).va = (RIN (riOf n)).va := by
  rw [rsig_of (of_ok h0 h1) (z := n) (by simp [val]; omega) (fun _ => rfl)]

set_option maxRecDepth 100000 in
theorem ofD_c (n : Int) (h0 : -9223372036854775808 ≤ n) (h1 : n < 9223372036854775808) : Cn Try.prog 62 [In n] ((RIN (riOf n)).va) := by
  refine Cn.intro Try.func62 rfl (by kernel_rfl) nq (fun B w0 a hst => ?_)
  have hst : St B w0 19 [(0, In n)] [] a w0.w := hst
  refine wp_seq ?_
  refine gl (sts := []) (news := [⟨2, 33, ptrH, some 0, _, none⟩]) (sp := [.alc 0]) [.g 0] hst (oc (ob_alc rfl rfl rfl (Str.zero (fam_str famN))) o0) (fun a w hst => ?_)
  have hst : St B w0 19 [(0, _)] [⟨2, 33, ptrH, _⟩] a w := hst
  refine thn_normal ?_
  refine wp_seq ?_
  refine gl (sts := [none]) (news := []) (sp := [.val 4 _, .val 5 _, .val 3 _]) [.g 0, .o 2] hst (oc (ob_v rfl rfl (r_move (gq 0 rfl))) (oc (ob_v rfl rfl (r_convk .u64 (by kernel_rfl) (by kernel_rfl) (vq 0 rfl) (rfl))) (oc (ob_v rfl rfl (r_assign (vq 1 rfl))) o0))) (fun a w hst => ?_)
  have hst : St B w0 19 [(0, _), (3, _)] [⟨2, 33, ptrH, _⟩] a w := hst
  refine thn_normal ?_
  refine wp_seq ?_
  refine wp_seq ?_
  refine gl (sts := [none]) (news := []) (sp := [.val 6 _, .val 7 _]) [.g 0, .g 1, .o 1] hst (oc (ob_v rfl rfl (r_move (gq 0 rfl))) (oc (ob_v rfl rfl (r_lss (vq 0 rfl) has_num)) o0)) (fun a w hst => ?_)
  have hst : St B w0 19 [(0, _), (3, _), (7, _)] [⟨2, 33, ptrH, _⟩] a w := hst
  refine thn_normal ?_
  refine cond_join (fun a w =>  St B w0 19 [(0, In n), (3, (NumA .u64 (n.natAbs : Nat)).va)] [⟨2, 33, ptrH, cat [BoA false, MgN []]⟩] a w) hst (List.mem_of_getElem? (i := 2) rfl) (fun hb0 => ?_) (fun hb0 => ?_) (fun a w hst => ?_)
  · refine gl (sts := [none]) (news := []) (sp := [.val 8 _, .val 9 _, .val 3 _]) [.g 0, .o 2] hst (oc (ob_v rfl rfl (r_move (gq 1 rfl))) (oc (ob_v rfl rfl (r_neg (vq 0 rfl) (rfl))) (oc (ob_v rfl rfl (r_assign (vq 1 rfl))) o0))) (fun a w hst => ?_)
    have hst : St B w0 19 [(0, _), (3, _)] [⟨2, 33, ptrH, _⟩] a w := hst
    refine thn_normal ?_
    have hst := St.sel hst [0, 1]
    rw [of_e0 h0 hb0] at hst; exact hst
  · refine wp_skip ?_
    refine thn_normal ?_
    have hst := St.sel hst [0, 1]
    rw [of_e1 h1 hb0] at hst; exact hst
  refine thn_normal ?_
  refine wp_seq ?_
  refine gl (sts := [some (9, _)]) (news := []) (sp := [.val 10 _, .val 11 _, .val 12 _, .val 13 _, .val 14 _, .val 15 _, .val 16 _, .val 17 _, .val 18 _, .sto 0]) [] hst (oc (ob_v rfl rfl (r_move (gq 0 rfl))) (oc (ob_v rfl rfl (r_lss (vq 0 rfl) has_num)) (oc (ob_v rfl rfl (r_move (gq 1 rfl))) (oc (ob_v rfl rfl (r_convk .u32 (by kernel_rfl) (by kernel_rfl) (vq 2 rfl) (wu32'))) (oc (ob_v rfl rfl (r_move (gq 1 rfl))) (oc (ob_v rfl rfl (r_shr (vq 4 rfl) (has_nat 32 rfl) (by decide) (nshr))) (oc (ob_v rfl rfl (r_convk .u32 (by kernel_rfl) (by kernel_rfl) (vq 5 rfl) (wu32 (by show n.natAbs / 4294967296 < _; omega)))) (oc (ob_v rfl rfl (r_slicemN (l := [_, _]) (xs := [.tmp 13, .tmp 16]) sl_31 (by kernel_rfl) nq nq (of_ok h0 h1) (.cons (vq 3 rfl) (.cons (vq 6 rfl) .nil)) rfl rfl)) (oc (ob_v rfl rfl (r_call (xs := [.tmp 11, .tmp 17]) (signedN_c _ _) (.cons (vq 1 rfl) (.cons (vq 7 rfl) .nil)))) (oc (ob_sto rfl rfl rfl (vq 8 rfl) ty_33 (Eq.trans (b := 2) rfl rfl)) o0)))))))))) (fun a w hst => ?_)
  have hst : St B w0 19 [] [⟨2, 33, ptrH, _⟩] a w := hst
  refine thn_normal ?_
  refine wp_ret ?_
  refine ret_cast ?_ (ret_cell rfl hst (List.mem_of_getElem? (i := 0) rfl) ty_33)
  exact ofD_e2 h0 h1

set_option maxRecDepth 100000 in
theorem turnedD_c (p : Int) (hp : lz p ≤ 1099511627776) : Cn Try.prog 69 [Zi p] ((RIN (riOf (-p))).va) := by
  refine Cn.intro Try.func69 rfl (by kernel_rfl) nq (fun B w0 a hst => ?_)
  have hst : St B w0 6 [(0, Zi p)] [] a w0.w := hst
  refine wp_seq ?_
  refine gl (sts := []) (news := [⟨1, 33, ptrH, some 0, _, none⟩, ⟨2, 33, ptrH, some 1, _, none⟩]) (sp := [.alc 0, .alc 1]) [] hst (oc (ob_box rfl rfl rfl (gq 0 rfl)) (oc (ob_alc rfl rfl rfl (Str.zero str_int)) o0)) (fun a w hst => ?_)
  have hst : St B w0 6 [] [⟨1, 33, ptrH, _⟩, ⟨2, 33, ptrH, _⟩] a w := hst
  refine thn_normal ?_
  refine wp_seq ?_
  refine go_draw (anc := [[], [], [0, 1], [0, 1, 2]]) (sts := [none, some (3, _)]) (news := []) (sp := [.val 3 _, .val 4 _, .val 5 _, .sto 1]) [] follows_mixed hst (oc (ob_v rfl rfl (r_call (xs := [.const (.int .i64 (0))]) (of_c 0 (by decide) (by decide)) (.cons has_num .nil))) (oc (ob_v rfl rfl (r_load (lz0 0 rfl) ty_33)) (oc (ob_v rfl rfl (r_call (xs := [.tmp 3, .tmp 4]) (minusD_c 0 p (by simp [lz, limbs_zero]) hp) (.cons (vq 0 rfl) (.cons (vq 1 rfl) .nil)))) (oc (ob_sto rfl rfl rfl (vq 2 rfl) ty_33 (Eq.trans (b := 2) rfl rfl)) o0)))) (by kernel_rfl) (by kernel_rfl) (by kernel_rfl) (by kernel_rfl) (fun a w hst => ?_)
  have hst : St B w0 6 [] [⟨1, 33, ptrH, _⟩, ⟨2, 33, ptrH, _⟩] a w := hst
  refine thn_normal ?_
  refine wp_ret ?_
  refine ret_cast ?_ (ret_cell rfl hst (List.mem_of_getElem? (i := 1) rfl) ty_33)
  exact congrArg (fun z => (RIN (riOf z)).va) (Int.zero_sub p)

theorem ex_turnedD : ∃ fn, Try.prog.funcs[69]? = some fn ∧ (fn.name == "runtime.NumGoroutine") = false ∧ fn.body.isNone = false := ⟨_, Try.func69, by kernel_rfl, by kernel_rfl⟩
section
variable {a b : Nat} {p q : Int} (ha : a ≤ 549755813888)
include ha
theorem turned_zn : Cn Try.prog 69 [Zs a p] (ZN a (-p)).va := zs1 ex_turnedD fun h => (turnedD_c p (by omega)).wkp (zn_of (by rw [lz_neg]; exact h))
variable (hb : b ≤ 549755813888)
include hb
theorem times_zn : Cn Try.prog 48 [Zs a p, Zs b q] (ZN (a + b) (p * q)).va := zs2 ex_Times fun h h' => (times_c (riOf p) (riOf q) (by rw [ri_len]; omega) (by rw [ri_len]; omega)).wkp (wk_trans (wk_eq (congrArg (fun x => (RIN x).va) (times_ri p q))) (zn_of (by have := lz_mul p q; omega)))
theorem plus_zn : Cn Try.prog 66 [Zs a p, Zs b q] (ZN (max a b + 1) (p + q)).va := zs2 ex_Plus fun h h' => (plusD_c p q (by omega) (by omega)).wkp (zn_of (by have := lz_add p q; omega))
theorem minus_zn : Cn Try.prog 61 [Zs a p, Zs b q] (ZN (max a b + 1) (p - q)).va := zs2 ex_Minus fun h h' => (minusD_c p q (by omega) (by omega)).wkp (zn_of (by have := lz_sub p q; omega))
omit hb in
theorem divide_zn (hq : q ≠ 0) : Cn Try.prog 68 [Zs a p, Zs b q] (Tu [(ZN a (p.tdiv q)).va, (ZN b (p.tmod q)).va]) := zs2 ex_Divide fun h h' => (divideZ_c p q hq (by omega)).wkp (tu_wk (.cons (zn_of (by have := lz_tdiv p q; omega)) (.cons (zn_of (by have := lz_tm (p := p) hq; omega)) .nil)))
end
theorem of_zn {n : Int} (h0 : -9223372036854775808 ≤ n) (h1 : n < 9223372036854775808) : Cn Try.prog 62 [In n] (ZN 2 n).va := (ofD_c n h0 h1).wkp (zn_of (lz_le (by omega)))
/-- a fraction in rows of its own. -/
def QD (k : Nat) (q : Rat) : As := DisA (cat [ZN k q.num, ZN k (q.den : Int)])
theorem new_qd {k : Nat} {q : Rat} : NewA (QD k q) := dis_new (new_cat fun A hA => by
  simp at hA
  rcases hA with rfl | rfl <;> exact new_zn)
theorem nod_qd {k : Nat} {q : Rat} : NodA (QD k q) := dis_nod
theorem free_qd {k : Nat} {q : Rat} : FreeA (QD k q) (QD k q) := dis_free (cat_free (.cons free_zn (.cons free_zn .nil)))
theorem qd_qa {k : Nat} {q : Rat} : WkA (QD k q) (QA k q) := dis_wk.trans (cat_wk (.cons zn_za (.cons zn_za .nil)))
theorem dis_mono {A A' : As} (h : WkA A A') : WkA (DisA A) (DisA A') := ⟨h.1, h.2.1, fun B cs w hp => ⟨h.2.2 B cs w hp.1, hp.2⟩⟩
theorem qd_mono {k k' : Nat} {q : Rat} (h : k ≤ k') : WkA (QD k q) (QD k' q) := dis_mono (cat_wk (.cons (zn_mono h) (.cons (zn_mono h) .nil)))
theorem pin_mono {v : Value} {A A' : As} (h : WkA A A') : WkA (PinA v A) (PinA v A') := ⟨h.1, h.2.1, fun B cs w hp => ⟨h.2.2 B cs w hp.1, by rw [h.2.1]; exact hp.2⟩⟩
theorem and_triv {A : As} {c : Prop} {u : Value} : WkA (A.and c) (A.and (SepAll [] u)) := ⟨rfl, rfl, fun _ _ _ hp => ⟨(fun _ h => by cases h), hp.2⟩⟩
theorem and_mono {A A' : As} {c : Prop} (h : WkA A A') : WkA (A.and c) (A'.and c) := ⟨h.1, h.2.1, fun B cs w hp => ⟨hp.1, h.2.2 B cs w hp.2⟩⟩
theorem pz_za {v : Value} {k : Nat} {z : Int} {c : Prop} : WkA (PinA v ((ZN k z).and c)) (ZA k z) := pin_wk.trans (and_wk.trans zn_za)
theorem nf_zn {a b : Nat} {p q : Int} : ∀ A ∈ [ZN a p, ZN b q], NewA A ∧ FreeA A A := fun A hA => by
  simp at hA
  rcases hA with rfl | rfl <;> exact ⟨new_zn, free_zn⟩

end Go.Proofs.Ytljkepdpoelpkaa
