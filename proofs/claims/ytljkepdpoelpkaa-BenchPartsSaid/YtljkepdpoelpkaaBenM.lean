/- The builder of benches: what makes it, and each of its calls as a step. -/
import Derived.Test.YtljkepdpoelpkaaBenL
import Derived.Test.YtljkepdpoelpkaaRngE
namespace Go.Proofs.Ytljkepdpoelpkaa
open Go Go.RowKit
namespace BenM
theorem fld_49_0 : Fld Try.prog 49 0 0 1 := ⟨_, _, Try.underlying49, rfl, rfl, by kernel_rfl, by decide⟩
theorem fld_49_1 : Fld Try.prog 49 1 1 4 := ⟨_, _, Try.underlying49, rfl, rfl, by kernel_rfl, by decide⟩
theorem sl_22 : Sl Try.prog 22 49 9 := ⟨by kernel_rfl, by kernel_rfl⟩
theorem ty_22 : Ty Try.prog 22 1 false := ⟨by kernel_rfl, by kernel_rfl⟩
theorem ty_35 : Ty Try.prog 35 4 true := ⟨by kernel_rfl, by kernel_rfl⟩
theorem ty_46 : Ty Try.prog 46 1 false := ⟨by kernel_rfl, by kernel_rfl⟩
theorem ty_54 : Ty Try.prog 54 1 false := ⟨by kernel_rfl, by kernel_rfl⟩
end BenM
open BenM
set_option linter.unusedVariables false
set_option linter.unusedSimpArgs false
theorem wpOps_nB {P : Program} {ops : Array Oper} {Q : Exit → Act → World → Prop} {a : Act} {w : World} (h : Q .normal a w) : wpOps P ops Q [] a w := h
theorem wpOps_sB {P : Program} {ops : Array Oper} {Q : Exit → Act → World → Prop} {a : Act} {w : World} (h : Q .normal a w) : wpOps P ops Q [] (a.put none undef) w := h
theorem op_ldB {P : Program} {Q : Exit → Act → World → Prop} {B N : Nat} {w0 : Bs} {Γ : List (Nat × VA)} {Λ : List Lc} {a : Act} {w : World} {ops : Array Oper} {i : Nat} {K : Act → World → Prop} {d b : Nat} {ty T' : TypeId} {ps : String} {af : Array Edge} {Tp T E : TypeId} {m g : Nat} {D : List TypeId} {v u : Value} {l : List As} (e : Nat)
    (ho : ops[i]? = some ⟨some d, .load ty (.tmp b), T', ps, af, none⟩) (h : St B w0 N Γ Λ a w) (hl : Λ[e]? = some ⟨b, Tp, ptrH, BuA T E m D g v u l⟩) (ht : Ty P ty 1 false) (hd : d < N) (hΓ : Γ.all (fun x => x.1 != d) = true) (hΛ : Λ.all (fun l => l.s != d) = true)
    (hK : ∀ a', St B w0 N ((d, EqV (ptr g)) :: Γ) Λ a' w → K a' w) : wpOp P ops Q i K a w := by
  obtain ⟨c, cs, e1, _, e3, rfl, _⟩ := h.locs _ (List.mem_of_getElem? hl)
  have e1' : a.eval (.tmp b) = .pointer (some ⟨c, 0, none⟩) := e1
  have hr := run_loadVar ht w c 0 [ptr g] rfl (fun _ => rfl) (fun j u hu => by
    rw [Nat.zero_add, cell_of_row w c j [ptr g].toArray Tp _ e3]
    simpa using hu)
  exact op_vS (A := EqV (ptr g)) (v := ptr g) ho h hd hΓ hΛ (by simp [execOp, e1', Instr.loadAt, Instr.sureAddr, hr, shape]) rfl (hK _)
theorem str_fracN : Str Try.prog 35 [RIN ⟨false, []⟩, RIN ⟨false, []⟩] :=
  Str.of (z := .agg #[.bool false, .slice none 0 0, .bool false, .slice none 0 0]) (by kernel_rfl) Try.underlying35 (by kernel_rfl) fun B w => ⟨[[.bool false, .slice none 0 0], [.bool false, .slice none 0 0]], rfl, .cons ⟨[[.bool false], [.slice none 0 0]], rfl, .cons rfl (.cons (famN.nil B w) .nil)⟩ (.cons ⟨[[.bool false], [.slice none 0 0]], rfl, .cons rfl (.cons (famN.nil B w) .nil)⟩ .nil)⟩
/-- nought, as it comes. -/
def QN0 : As := cat [RIN ⟨false, []⟩, ZN 2 1]
/-- an element that is built. -/
def EB (k : Nat) (e : EQ) : As := cat [NumA .u8 e.1, QD k e.2, QN0]
def lastE (L : List EQ) : EQ := L.getLast?.getD (0, 0)
theorem eb_mono {k k' : Nat} {e : EQ} (h : k ≤ k') : WkA (EB k e) (EB k' e) := cat_wk (.cons (WkA.refl _) (.cons (qd_mono h) (.cons (WkA.refl _) .nil)))
theorem eb_n {k : Nat} {L : List EQ} : ∀ A ∈ L.map (EB k), A.n = 9 := fun A hA => by
  obtain ⟨e, _, rfl⟩ := List.mem_map.1 hA
  rfl
theorem eb_D {k : Nat} {L : List EQ} : ∀ A ∈ L.map (EB k), ∀ T ∈ A.deps, T ∈ [U32] := fun A hA => by
  obtain ⟨e, _, rfl⟩ := List.mem_map.1 hA
  exact nd_ok (l := [EB k e]) (by kernel_rfl) _ (by simp)
theorem ebs_mono {k k' : Nat} (h : k ≤ k') : ∀ (L : List EQ), All2 WkA (L.map (EB k)) (L.map (EB k'))
  | [] => .nil
  | e :: L => .cons (eb_mono h) (ebs_mono h L)
theorem bu_mono {T E g k k' : Nat} {v u : Value} {L : List EQ} (h : k ≤ k') : WkA (BuA T E 9 [U32] g v u (L.map (EB k))) (BuA T E 9 [U32] g v u (L.map (EB k'))) := bu_wk (ebs_mono h L) eb_n eb_D
theorem bu_to {T E g k k' : Nat} {v u : Value} {L L' : List EQ} (h : k ≤ k') (e : L' = L) : WkA (BuA T E 9 [U32] g v u (L.map (EB k))) (BuA T E 9 [U32] g v u (L'.map (EB k'))) := e ▸ bu_mono h
theorem bu_snoc {T E g k k' c : Nat} {v u : Value} {M L' : List EQ} {e : EQ} (h : k ≤ k') (h' : c ≤ k') (e0 : L' = M ++ [e]) : WkA (BuA T E 9 [U32] g v u (M.map (EB k) ++ [EB c e])) (BuA T E 9 [U32] g v u (L'.map (EB k'))) := by
  subst e0
  refine bu_wk ?_ eb_n eb_D
  rw [List.map_append]
  exact all2_app (ebs_mono h M) (.cons (eb_mono h') .nil)
theorem put_eb {k c : Nat} {e : Int} {p q : Rat} : Put (EB k (e, p)) 1 (QD c q) (EB c (e, q)) := Put.part 1 rfl rfl rfl
theorem last_at {k : Nat} {L : List EQ} (h : decide (((L.map (EB k)).length : Int) - 1 < 0) = false) : (L.map (EB k))[L.length - 1]? = some (EB k (lastE L)) := by
  have h0 := of_decide_eq_false h
  rw [List.length_map] at h0
  have h1 : L.length - 1 < L.length := by omega
  rw [List.getElem?_map, lastE, List.getLast?_eq_getElem?, List.getElem?_eq_getElem h1]
  rfl
theorem last_in {k : Nat} {L : List EQ} (h : decide (((L.map (EB k)).length : Int) - 1 < 0) = false) : In (((L.map (EB k)).length : Int) - 1) = In ((L.length - 1 : Nat) : Int) := by
  have h0 := of_decide_eq_false h
  rw [List.length_map] at h0 ⊢
  congr 1
  omega
theorem put_skip {L : List EQ} {k : Int} {p : Rat} (h : (k != 5 && p.num.sign == 0) = true) : putQ L k p = L := by
  simp only [Bool.and_eq_true, bne_iff_ne, beq_iff_eq] at h
  have : p = 0 := by
    have := Int.sign_eq_zero_iff_zero.1 h.2
    exact Rat.num_eq_zero.1 this
  rw [putQ, if_pos ⟨h.1, this⟩]
theorem put_go {L : List EQ} {k : Int} {p : Rat} (h : (k != 5 && p.num.sign == 0) = false) : ¬ (k ≠ 5 ∧ p = 0) := fun ⟨h1, h2⟩ => by
  subst h2
  simp [h1] at h
theorem put_new {k0 : Nat} {L : List EQ} {k : Int} {p : Rat} (h : ¬ (k ≠ 5 ∧ p = 0)) (hb : (decide (((L.map (EB k0)).length : Int) - 1 < 0) || (lastE L).1 != k) = true) : putQ L k p = L ++ [(k, p)] := by
  rw [putQ, if_neg h]
  rcases List.eq_nil_or_concat L with rfl | ⟨M, e, rfl⟩
  · rfl
  · rw [List.concat_eq_append] at hb ⊢
    simp [lastE] at hb
    simp only [List.getLast?_concat]
    rw [if_neg]
    rcases hb with hb | hb
    · omega
    · exact hb
theorem put_old {k0 : Nat} {L : List EQ} {k : Int} (hb : (decide (((L.map (EB k0)).length : Int) - 1 < 0) || (lastE L).1 != k) = false) : ∃ M q, L = M ++ [(k, q)] := by
  rcases List.eq_nil_or_concat L with rfl | ⟨M, e, rfl⟩
  · simp at hb
  · rw [List.concat_eq_append] at hb ⊢
    obtain ⟨k', q⟩ := e
    simp [lastE] at hb
    exact ⟨M, q, by rw [hb]⟩
theorem put_cut {M : List EQ} {k : Int} {p q : Rat} (h : ¬ (k ≠ 5 ∧ p = 0)) (hb : (k == 5 || (q + p).num.sign == 0) = true) : putQ (M ++ [(k, q)]) k p = M := by
  rw [putQ, if_neg h]
  simp only [List.getLast?_concat, if_true, List.dropLast_concat]
  rw [if_pos]
  simp only [Bool.or_eq_true, beq_iff_eq] at hb
  exact hb.imp id fun h => Rat.num_eq_zero.1 (Int.sign_eq_zero_iff_zero.1 h)
theorem put_add {M : List EQ} {k : Int} {p q : Rat} (h : ¬ (k ≠ 5 ∧ p = 0)) (hb : (k == 5 || (q + p).num.sign == 0) = false) : putQ (M ++ [(k, q)]) k p = M ++ [(k, q + p)] := by
  rw [putQ, if_neg h]
  simp only [List.getLast?_concat, if_true, List.dropLast_concat]
  rw [if_neg]
  simp only [Bool.or_eq_false_iff, beq_eq_false_iff_ne] at hb
  exact fun hh => hh.elim hb.1 fun h => hb.2 (by rw [h]; rfl)

set_option maxRecDepth 100000 in
theorem noughtN_q  : Cn Try.prog 37 [] (QN0.va) := by
  refine Cn.intro Try.func37 rfl (by kernel_rfl) nq (fun B w0 a hst => ?_)
  have hst : St B w0 3 [] [] a w0.w := hst
  refine wp_seq ?_
  refine gl (sts := []) (news := [⟨0, 35, ptrH, some 0, _, none⟩]) (sp := [.alc 0]) [] hst (oc (ob_alc rfl rfl rfl (Str.zero str_fracN)) o0) (fun a w hst => ?_)
  have hst : St B w0 3 [] [⟨0, 35, ptrH, _⟩] a w := hst
  refine thn_normal ?_
  refine wp_seq ?_
  refine gl (sts := [some (2, _)]) (news := []) (sp := [.val 1 _, .val 2 _, .sto 0]) [] hst (oc (ob_v rfl rfl (r_call (xs := [.const (.int .i64 (1))]) (of_zn (by decide) (by decide)) (.cons has_num .nil))) (oc (ob_v rfl rfl (r_build (xs := [(1, .tmp 1)]) (qs := [(1, _)]) str_fracN (.cons ⟨rfl, (vq 0 rfl), rfl⟩ .nil))) (oc (ob_sto rfl rfl rfl (vq 1 rfl) ty_35 (Eq.trans (b := 4) rfl rfl)) o0))) (fun a w hst => ?_)
  have hst : St B w0 3 [] [⟨0, 35, ptrH, _⟩] a w := hst
  refine thn_normal ?_
  refine wp_ret ?_
  refine ret_wk ?_ (ret_cell rfl hst (List.mem_of_getElem? (i := 0) rfl) ty_35)
  exact wk_id

set_option maxRecDepth 100000 in
theorem builder_c (g : Nat) : Cn Try.prog 21 [EqV (ptr g)] (FnB 44 54 g) := by
  refine Cn.intro Try.func21 rfl (by kernel_rfl) nq (fun B w0 a hst => ?_)
  have hst : St B w0 4 [(0, EqV (ptr g))] [] a w0.w := hst
  refine wp_seq ?_
  refine gl (sts := []) (news := [⟨1, 54, ptrH, some 0, _, none⟩]) (sp := [.alc 0, .val 2 _]) [.o 1] hst (oc (ob_box rfl rfl rfl (has_eqA (v := ptr g) rfl (gq 0 rfl))) (oc (ob_v rfl rfl (r_assign has_const)) o0)) (fun a w hst => ?_)
  have hst : St B w0 4 [(2, _)] [⟨1, 54, ptrH, _⟩] a w := hst
  refine thn_normal ?_
  refine wp_seq ?_
  refine gl (sts := [none]) (news := []) (sp := [.val 3 _, .val 2 _]) [.o 1] hst (oc (ob_v rfl rfl (r_mkB (lz0 0 rfl))) (oc (ob_v rfl rfl (r_assign (vq 0 rfl))) o0)) (fun a w hst => ?_)
  have hst : St B w0 4 [(2, _)] [⟨1, 54, ptrH, _⟩] a w := hst
  refine thn_normal ?_
  refine wp_ret ?_
  refine ret_wk ?_ (ret_tmp rfl hst (List.mem_of_getElem? (i := 0) rfl))
  exact wk_id

set_option maxRecDepth 100000 in
theorem put_c (L : List EQ) (k : Int) (p : Rat) {K c K1 : Nat} (hK : K + c ≤ 137438953472) (hK1 : K + c + 1 ≤ K1) (hL : L.length ≤ 1000000) : CB Try.prog 44 54 22 [22, 49] (OwnC 49 9 [U32] (L.map (EB K))) (OwnC 49 9 [U32] ((putQ L k p).map (EB K1))) [(NumA .u8 k).va, Qs c p] (Tu []) := by
  obtain ⟨it, z, e1, e2, e3, e4, e5⟩ := app_elem
  refine CB.intro Try.func44 rfl (by kernel_rfl) nq (fun B gc gg v w0 a hrm hst => ?_)
  have hst : St B w0 75 [(0, (NumA .u8 k).va), (1, Qs c p), (2, EqV (ptr gc))] [⟨2, 54, ptrH, BuA 22 49 9 [U32] gg v v (L.map (EB K))⟩] a w0.w := hst
  refine wp_seq ?_
  refine gl (sts := [none]) (news := [⟨4, 35, ptrH, some 0, _, none⟩]) (sp := [.alc 1]) [.g 0, .g 2] hst (oc (ob_box rfl rfl rfl (gq 1 rfl)) o0) (fun a w hst => ?_)
  have hst : St B w0 75 [(0, _), (2, _)] [⟨2, 54, ptrH, _⟩, ⟨4, 35, ptrH, _⟩] a w := hst
  refine thn_normal ?_
  refine wp_seq ?_
  refine wp_seq ?_
  refine gl (sts := [none, none]) (news := []) (sp := [.val 7 _, .val 8 _, .val 9 _, .val 10 (Wh (_ = true) _), .val 11 (Wh (_ = true) _), .val 12 (Wh (_ = true) _), .val 13 _]) [.g 0, .g 1, .o 6] hst (oc (ob_v rfl rfl (r_move (gq 0 rfl))) (oc (ob_v rfl rfl (r_neq (vq 0 rfl) has_num)) (oc (ob_v rfl rfl (r_move (vq 1 rfl))) (oc (ob_gd rfl rfl rfl (vq 2 rfl) nq (fun hg => r_load (lz0 1 rfl) ty_35)) (oc (ob_gd rfl rfl rfl (vq 2 rfl) nq (fun hg => r_call (xs := [.tmp 10]) sign_q (.cons (has_wh (vq 3 rfl) hg) .nil))) (oc (ob_gd rfl rfl rfl (vq 2 rfl) nq (fun hg => r_eql (has_wh (vq 4 rfl) hg) has_num)) (oc (ob_v rfl rfl (r_and (vq 2 rfl) (vq 5 rfl))) o0))))))) (fun a w hst => ?_)
  have hst : St B w0 75 [(0, _), (2, _), (13, _)] [⟨2, 54, ptrH, _⟩, ⟨4, 35, ptrH, _⟩] a w := hst
  refine thn_normal ?_
  refine cond_of hst (List.mem_of_getElem? (i := 2) rfl) (fun hb0 => ?_) (fun hb0 => ?_)
  · have hput := put_skip (L := L) hb0
    refine wp_ret ?_
    refine thn_ret ?_
    have hst := St.wkL hst 0 rfl (bu_to (k := K) (k' := K1) (by omega) hput)
    refine ret_b hst (List.mem_of_getElem? (i := 1) rfl) (List.mem_of_getElem? (i := 0) rfl) ?_
    exact ret_many (rs := []) rfl hst .nil (by decide)
  · have hgo := put_go (L := L) hb0
    refine wp_skip ?_
    refine thn_normal ?_
    refine wp_seq ?_
    refine gl (sts := [none, none]) (news := []) (sp := [.val 14 _, .val 15 _, .val 16 _, .val 17 _, .val 18 _, .val 5 _]) [.g 0, .g 1, .o 5] hst (oc (ob_v rfl rfl (r_ptB (lz0 0 rfl) ty_54)) (oc (ob_v rfl rfl (r_nilP (vq 0 rfl))) (oc (ob_v rfl rfl (r_valB (lz0 0 rfl) (vq 1 rfl) ty_22)) (oc (ob_v rfl rfl (r_len Try.underlying22 (has_wk' (vq 2 rfl) owv_sl))) (oc (ob_v rfl rfl (r_sub (vq 3 rfl) has_num ((wi64 (by rw [List.length_map]; omega) (by rw [List.length_map]; omega))))) (oc (ob_v rfl rfl (r_assign (vq 4 rfl))) o0)))))) (fun a w hst => ?_)
    have hst : St B w0 75 [(0, _), (2, _), (5, _)] [⟨2, 54, ptrH, _⟩, ⟨4, 35, ptrH, _⟩] a w := hst
    refine thn_normal ?_
    refine wp_seq ?_
    refine wp_seq ?_
    refine gl (sts := [none, none]) (news := []) (sp := [.val 19 _, .val 20 _, .val 21 _, .val 22 (Wh (_ = false) _), .val 23 (Wh (_ = false) _), .val 24 (Wh (_ = false) _), .val 25 (Wh (_ = false) _), .val 26 (Wh (_ = false) _), .val 27 (Wh (_ = false) _), .val 28 (Wh (_ = false) _), .val 29 (Wh (_ = false) _), .val 30 (Wh (_ = false) _), .val 31 _]) [.g 0, .g 1, .g 2, .o 12] hst (oc (ob_v rfl rfl (r_move (gq 2 rfl))) (oc (ob_v rfl rfl (r_lss (vq 0 rfl) has_num)) (oc (ob_v rfl rfl (r_move (vq 1 rfl))) (oc (ob_gd rfl rfl rfl (vq 2 rfl) nq (fun hg => r_ptB (lz0 0 rfl) ty_54)) (oc (ob_gd rfl rfl rfl (vq 2 rfl) nq (fun hg => r_nilP (has_wh (vq 3 rfl) hg))) (oc (ob_gd rfl rfl rfl (vq 2 rfl) nq (fun hg => r_valB (lz0 0 rfl) (has_wh (vq 4 rfl) hg) ty_22)) (oc (ob_gd rfl rfl rfl (vq 2 rfl) nq (fun hg => r_move (gq 2 rfl))) (oc (ob_gd rfl rfl rfl (vq 2 rfl) nq (fun hg => r_idx sl_22 eb_n (has_wk' (has_wh (vq 5 rfl) hg) owv_sl) (has_wk' (has_wh (vq 6 rfl) hg) (wk_eq (last_in hg))) (last_at hg))) (oc (ob_gd rfl rfl rfl (vq 2 rfl) nq (fun hg => r_fielde (has_wh (vq 7 rfl) hg) fld_49_0 (Sub.part 0 rfl rfl))) (oc (ob_gd rfl rfl rfl (vq 2 rfl) nq (fun hg => r_loade (has_wh (vq 8 rfl) hg) ty_46)) (oc (ob_gd rfl rfl rfl (vq 2 rfl) nq (fun hg => r_move (gq 0 rfl))) (oc (ob_gd rfl rfl rfl (vq 2 rfl) nq (fun hg => r_neq (has_wh (vq 9 rfl) hg) (has_wh (vq 10 rfl) hg))) (oc (ob_v rfl rfl (r_or (vq 2 rfl) (vq 11 rfl))) o0))))))))))))) (fun a w hst => ?_)
    have hst : St B w0 75 [(0, _), (2, _), (5, _), (31, _)] [⟨2, 54, ptrH, _⟩, ⟨4, 35, ptrH, _⟩] a w := hst
    refine thn_normal ?_
    refine cond_of hst (List.mem_of_getElem? (i := 3) rfl) (fun hb1 => ?_) (fun hb1 => ?_)
    · have hput := put_new hgo hb1
      refine wp_seq ?_
      refine go_headZ (sp := [.val 32 _, .val 33 _, .val 34 _, .val 35 _, .val 36 _, .val 37 _, .val 38 _, .val 39 _, .val 40 _, .val 41 _, .val 42 VT, .val 43 VT, .sto 0]) [[], [], [1], [1, 2], [], [], [5], [5, 6], [4, 5, 6, 7], [4, 5, 6, 7, 8], [1, 2, 3, 4, 5, 6, 7, 8, 9], [0, 1, 2, 3, 4, 5, 6, 7, 8, 9, 10], [0, 1, 2, 3, 4, 5, 6, 7, 8, 9, 10, 11]] 10 3 0 12 0 OneC [.g 0, .g 1, .g 2, .o 0, .o 3, .o 9] [.g 0, .g 1, .g 2, .o 3, .o 9] follows_mixed hst (oc (ob_v rfl rfl (r_ptB (lz0 0 rfl) ty_54)) (oc (ob_v rfl rfl (r_ptB (lz0 0 rfl) ty_54)) (oc (ob_v rfl rfl (r_nilP (vq 1 rfl))) (oc (ob_v rfl rfl ((r_valB (lz0 0 rfl) (vq 2 rfl) ty_22).wk owv_eq)) (oc (ob_v rfl rfl (r_move (gq 0 rfl))) (oc (ob_v rfl rfl (r_load (lz0 1 rfl) ty_35)) (oc (ob_v rfl rfl (r_call (xs := [.tmp 37]) (copyD_q (by omega)) (.cons (vq 5 rfl) .nil))) (oc (ob_v rfl rfl (r_call (xs := []) noughtN_q .nil)) (oc (ob_v rfl rfl (r_build (xs := [(0, .tmp 36), (1, .tmp 38), (2, .tmp 39)]) (qs := [(0, _), (1, _), (2, _)]) str_elem (.cons ⟨rfl, (vq 4 rfl), rfl⟩ (.cons ⟨rfl, (vq 6 rfl), rfl⟩ (.cons ⟨rfl, (vq 7 rfl), rfl⟩ .nil))))) (oc (ob_v rfl rfl (r_slice (D := [U32]) (l := [_]) (xs := [.tmp 40]) (nd_ok (by kernel_rfl)) sl_22 (by kernel_rfl) (n_ok (by kernel_rfl)) nq nq nq (.cons (vq 8 rfl) .nil) rfl rfl)) o0)))))))))) rfl (by decide) (by decide) (by decide) (by kernel_rfl) (by kernel_rfl) (anc_all (by kernel_rfl)) (by kernel_rfl) (by kernel_rfl) (by kernel_rfl) (fun a w hst => ?_) (fun a w hst => ?_)
      · have hst : St B w0 75 [(0, _), (2, _), (5, _), (32, _), (35, _), (41, _)] [⟨2, 54, ptrH, _⟩, ⟨4, 35, ptrH, _⟩] a w := hst
        rw [show List.range' 10 3 = [10, 11, 12] from rfl]
        have hst := St.selL hst [0]
        rw [wpOps_cons]
        refine op_appB (X := EB c (k, p)) [0, 1, 2, 3] 4 5 0 rfl hst rfl rfl rfl rfl rfl (by kernel_rfl) (by kernel_rfl) rfl (hrm 49 (by kernel_rfl)) Try.underlying22 e1 e2 e3 e4 e5 (by decide) (by rw [List.length_map]; omega) (by rw [List.length_map]; omega) (by decide) (by kernel_rfl) (by kernel_rfl) (by kernel_rfl) (by kernel_rfl) (fun v1 w hv1 hvc hst => ?_)
        rw [wpOps_cons]
        refine op_nilS 4 rfl hst rfl (by decide) (by kernel_rfl) (by kernel_rfl) (fun a hst => ?_)
        rw [wpOps_cons]
        refine op_stoB [3] 0 1 0 rfl hst rfl rfl hv1 hvc ty_22 rfl rfl (by kernel_rfl) (hrm 22 (by kernel_rfl)) (fun _ h => h) (by kernel_rfl) (by kernel_rfl) (fun w hst => ?_)
        refine wpOps_sB ?_
        have hst : St B w0 75 [(2, _)] [⟨2, 54, ptrH, BuA 22 49 9 [U32] gg v1 v1 (L.map (EB K) ++ [EB c (k, p)])⟩] _ w := hst
        refine thn_normal ?_
        refine wp_ret ?_
        refine thn_ret ?_
        have hst := St.wkL hst 0 rfl (bu_snoc (k := K) (k' := K1) (by omega) (by omega) hput)
        refine ret_b hst (List.mem_of_getElem? (i := 0) rfl) (List.mem_of_getElem? (i := 0) rfl) ?_
        exact ret_many (rs := []) rfl hst .nil (by decide)
      · have hst : St B w0 75 [(0, _), (2, _), (5, _), (35, _), (41, _)] [⟨2, 54, ptrH, _⟩, ⟨4, 35, ptrH, _⟩] a w := hst
        rw [show List.range' (10 + 1) (3 - 1) = [11, 12] from rfl]
        have hst := St.selL hst [0]
        rw [wpOps_cons]
        refine op_appB (X := EB c (k, p)) [0, 1, 2] 3 4 0 rfl hst rfl rfl rfl rfl rfl (by kernel_rfl) (by kernel_rfl) rfl (hrm 49 (by kernel_rfl)) Try.underlying22 e1 e2 e3 e4 e5 (by decide) (by rw [List.length_map]; omega) (by rw [List.length_map]; omega) (by decide) (by kernel_rfl) (by kernel_rfl) (by kernel_rfl) (by kernel_rfl) (fun v1 w hv1 hvc hst => ?_)
        rw [wpOps_cons]
        refine op_ldB 0 rfl hst rfl ty_54 (by decide) (by kernel_rfl) (by kernel_rfl) (fun a hst => ?_)
        rw [wpOps_cons]
        refine op_nilS 0 rfl hst rfl (by decide) (by kernel_rfl) (by kernel_rfl) (fun a hst => ?_)
        rw [wpOps_cons]
        refine op_stoB [4] 0 2 0 rfl hst rfl rfl hv1 hvc ty_22 rfl rfl (by kernel_rfl) (hrm 22 (by kernel_rfl)) (fun _ h => h) (by kernel_rfl) (by kernel_rfl) (fun w hst => ?_)
        refine wpOps_sB ?_
        have hst : St B w0 75 [(2, _)] [⟨2, 54, ptrH, BuA 22 49 9 [U32] gg v1 v1 (L.map (EB K) ++ [EB c (k, p)])⟩] _ w := hst
        refine thn_normal ?_
        refine wp_ret ?_
        refine thn_ret ?_
        have hst := St.wkL hst 0 rfl (bu_snoc (k := K) (k' := K1) (by omega) (by omega) hput)
        refine ret_b hst (List.mem_of_getElem? (i := 0) rfl) (List.mem_of_getElem? (i := 0) rfl) ?_
        exact ret_many (rs := []) rfl hst .nil (by decide)
    · obtain ⟨M, q, rfl⟩ := put_old hb1
      have hst := St.cvA (A' := BuA 22 49 9 [U32] gg v v (M.map (EB K) ++ [EB K (k, q)])) hst 0 rfl (by rw [List.map_append]; rfl)
      obtain ⟨gr, cap, rfl⟩ := St.dest 0 hst rfl (by simp)
      have hlI : ((List.map (EB K) (M ++ [(k, q)])).length : Int) - 1 = ((M.map (EB K)).length : Int) := by simp
      have hlN : (M.map (EB K)).length < (M.map (EB K) ++ [EB K (k, q)]).length := by simp
      have hlA : (M.map (EB K) ++ [EB K (k, q)])[(M.map (EB K)).length]? = some (EB K (k, q)) := by simp
      have hlA2 : (M.map (EB K) ++ [EB (K + c + 1) (k, q + p)])[(M.map (EB K)).length]? = some (EB (K + c + 1) (k, q + p)) := by simp
      refine wp_skip ?_
      refine thn_normal ?_
      refine wp_seq ?_
      refine gl (sts := [none, none]) (news := []) (sp := [.val 44 _, .val 45 _, .val 46 _, .val 47 _, .val 48 _, .val 6 _]) [.g 0, .g 1, .g 2, .o 5] hst (oc (ob_v rfl rfl (r_ptB (lz0 0 rfl) ty_54)) (oc (ob_v rfl rfl (r_nilP (vq 0 rfl))) (oc (ob_v rfl rfl (r_valB (lz0 0 rfl) (vq 1 rfl) ty_22)) (oc (ob_v rfl rfl (r_move (gq 2 rfl))) (oc (ob_v rfl rfl (r_idxV sl_22 (by decide) (vq 2 rfl) (has_wk' (vq 3 rfl) (wk_eq (congrArg In hlI))) hlN)) (oc (ob_v rfl rfl (r_assign (vq 4 rfl))) o0)))))) (fun a w hst => ?_)
      have hst : St B w0 75 [(0, _), (2, _), (5, _), (6, _)] [⟨2, 54, ptrH, _⟩, ⟨4, 35, ptrH, _⟩] a w := hst
      refine thn_normal ?_
      refine wp_seq ?_
      refine go_headD (sp := [.val 49 _, .val 50 _, .val 51 _, .val 52 _, .val 53 _, .val 54 _, .val 55 _, .val 56 VT, .val 57 VT, .sto 0]) [[], [], [1], [1, 2], [1, 2, 3], [], [1, 2, 3, 4, 5], [0, 1, 2, 3, 4, 5, 6], [0, 1, 2, 3, 4, 5, 6, 7], [0, 1, 2, 3, 4, 5, 6, 7, 8]] 7 3 0 9 OneC [.g 0, .g 1, .g 2, .g 3, .o 0, .o 6] follows_mixed hst (oc (ob_v rfl rfl (r_move (gq 3 rfl))) (oc (ob_v rfl rfl (r_move (has_elB (lz0 0 rfl) hlA (gq 3 rfl)))) (oc (ob_v rfl rfl (r_nilEl (vq 1 rfl))) (oc (ob_v rfl rfl (r_fielde (vq 2 rfl) fld_49_1 (Sub.part 1 rfl rfl))) (oc (ob_v rfl rfl (r_loade (vq 3 rfl) ty_35)) (oc (ob_v rfl rfl (r_load (lz0 1 rfl) ty_35)) (oc (ob_v rfl rfl (r_call (xs := [.tmp 53, .tmp 54]) (plusD_q (by omega)) (.cons (has_wk' (vq 4 rfl) qd_qa.va) (.cons (vq 5 rfl) .nil)))) o0))))))) rfl (by decide) (by decide) (by kernel_rfl) (anc_all (by kernel_rfl)) (by kernel_rfl) (by kernel_rfl) (fun a w hst => ?_)
      have hst : St B w0 75 [(0, _), (2, _), (5, _), (6, _), (49, _), (55, _)] [⟨2, 54, ptrH, _⟩, ⟨4, 35, ptrH, _⟩] a w := hst
      rw [show List.range' 7 3 = [7, 8, 9] from rfl]
      have hst := St.selL hst [0]
      rw [wpOps_cons]
      refine op_nilS 4 rfl hst rfl (by decide) (by kernel_rfl) (by kernel_rfl) (fun a hst => ?_)
      rw [wpOps_cons]
      refine op_fldS 0 rfl hst fld_49_1 rfl (by decide) (by kernel_rfl) (by kernel_rfl) (fun a hst => ?_)
      rw [wpOps_cons]
      refine op_setB (l := M.map (EB K)) (X := EB K (k, q)) (X' := EB (K + c + 1) (k, q + p)) (A := QD (K + c + 1) (q + p)) [2, 3, 4, 5] 0 7 0 rfl hst rfl rfl ty_35 rfl put_eb rfl (by kernel_rfl) rfl rfl (by kernel_rfl) (hrm 49 (by kernel_rfl)) (by kernel_rfl) (by kernel_rfl) (fun w hst => ?_)
      refine wpOps_sB ?_
      have hst : St B w0 75 [(0, _), (2, _), (5, _), (6, _)] [⟨2, 54, ptrH, _⟩] _ _ := hst
      refine thn_normal ?_
      refine wp_seq ?_
      refine gl (sts := [none]) (news := []) (sp := [.val 58 _, .val 59 _, .val 60 _, .val 61 (Wh (_ = false) _), .val 62 (Wh (_ = false) _), .val 63 (Wh (_ = false) _), .val 64 (Wh (_ = false) _), .val 65 (Wh (_ = false) _), .val 66 (Wh (_ = false) _), .val 67 _]) [.g 1, .g 2, .o 9] hst (oc (ob_v rfl rfl (r_move (gq 0 rfl))) (oc (ob_v rfl rfl (r_eql (vq 0 rfl) has_num)) (oc (ob_v rfl rfl (r_move (vq 1 rfl))) (oc (ob_gd rfl rfl rfl (vq 2 rfl) nq (fun hg => r_move (has_elB (lz0 0 rfl) hlA2 (gq 3 rfl)))) (oc (ob_gd rfl rfl rfl (vq 2 rfl) nq (fun hg => r_nilEl (has_wh (vq 3 rfl) hg))) (oc (ob_gd rfl rfl rfl (vq 2 rfl) nq (fun hg => r_fielde (has_wh (vq 4 rfl) hg) fld_49_1 (Sub.part 1 rfl rfl))) (oc (ob_gd rfl rfl rfl (vq 2 rfl) nq (fun hg => r_loade (has_wh (vq 5 rfl) hg) ty_35)) (oc (ob_gd rfl rfl rfl (vq 2 rfl) nq (fun hg => r_call (xs := [.tmp 64]) sign_q (.cons (has_wk' (has_wh (vq 6 rfl) hg) qd_qa.va) .nil))) (oc (ob_gd rfl rfl rfl (vq 2 rfl) nq (fun hg => r_eql (has_wh (vq 7 rfl) hg) has_num)) (oc (ob_v rfl rfl (r_or (vq 2 rfl) (vq 8 rfl))) o0)))))))))) (fun a w hst => ?_)
      have hst : St B w0 75 [(2, _), (5, _), (67, _)] [⟨2, 54, ptrH, _⟩] a w := hst
      refine thn_normal ?_
      refine cond_of hst (List.mem_of_getElem? (i := 2) rfl) (fun hb2 => ?_) (fun hb2 => ?_)
      · have hput := put_cut (M := M) hgo hb2
        refine go_headD (sp := [.val 68 _, .val 69 _, .val 70 _, .val 71 _, .val 72 _, .val 73 _, .val 74 VT, .sto 0]) [[], [], [1], [1, 2], [], [1, 2, 3, 4], [0, 1, 2, 3, 4, 5], [0, 1, 2, 3, 4, 5, 6]] 6 2 0 7 OneC [.g 0, .o 0, .o 5] follows_mixed hst (oc (ob_v rfl rfl (r_ptB (lz0 0 rfl) ty_54)) (oc (ob_v rfl rfl (r_ptB (lz0 0 rfl) ty_54)) (oc (ob_v rfl rfl (r_nilP (vq 1 rfl))) (oc (ob_v rfl rfl (r_valB (lz0 0 rfl) (vq 2 rfl) ty_22)) (oc (ob_v rfl rfl (r_move (gq 1 rfl))) (oc (ob_v rfl rfl (r_cutV sl_22 (vq 3 rfl) (has_wk' (vq 4 rfl) (wk_eq (congrArg In hlI))) hlN)) o0)))))) rfl (by decide) (by decide) (by kernel_rfl) (anc_all (by kernel_rfl)) (by kernel_rfl) (by kernel_rfl) (fun a w hst => ?_)
        have hst : St B w0 75 [(2, _), (68, _), (73, _)] [⟨2, 54, ptrH, _⟩] a w := hst
        rw [show List.range' 6 2 = [6, 7] from rfl]
        rw [wpOps_cons]
        refine op_nilS 1 rfl hst rfl (by decide) (by kernel_rfl) (by kernel_rfl) (fun a hst => ?_)
        rw [wpOps_cons]
        refine op_stoB (l' := M.map (EB K)) [1] 0 3 0 rfl hst rfl rfl rfl rfl ty_22 rfl rfl (by kernel_rfl) (hrm 22 (by kernel_rfl)) (fun _ h => own_cut h) (by kernel_rfl) (by kernel_rfl) (fun w hst => ?_)
        refine wpOps_sB ?_
        have hst : St B w0 75 [(2, _)] [⟨2, 54, ptrH, _⟩] _ _ := hst
        refine nrm_ret ?_
        have hst := St.wkL hst 0 rfl (bu_to (k := K) (k' := K1) (by omega) hput)
        refine ret_b hst (List.mem_of_getElem? (i := 0) rfl) (List.mem_of_getElem? (i := 0) rfl) ?_
        exact ret_many (rs := []) rfl hst .nil (by decide)
      · have hput := put_add (M := M) hgo hb2
        refine wp_skip ?_
        refine nrm_ret ?_
        have hst := St.wkL hst 0 rfl (bu_snoc (k := K) (k' := K1) (by omega) (by omega) hput)
        refine ret_b hst (List.mem_of_getElem? (i := 0) rfl) (List.mem_of_getElem? (i := 0) rfl) ?_
        exact ret_many (rs := []) rfl hst .nil (by decide)

end Go.Proofs.Ytljkepdpoelpkaa
