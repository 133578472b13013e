import Derived.Test.YtljkepdpoelpkaaLeafD
namespace Go.Proofs.Ytljkepdpoelpkaa
open Go Go.RowKit
namespace LeafE
theorem ty_33 : Ty Try.prog 33 2 true := ⟨by kernel_rfl, by kernel_rfl⟩
end LeafE
open LeafE
/-- limbs and a sign, as 'signed' puts them. -/
def rsig (neg : Bool) (l : List Nat) : RI := ⟨neg && !(trimL l).isEmpty, trimL l⟩
theorem signed_e0 {M : List Nat → As} {neg : Bool} {l : List Nat} (h : (((trimL l).length : Int) == 0) = true) : (cat (setAll [BoA false, M []] [])).va = (cat [BoA (rsig neg l).neg, M (rsig neg l).mag]).va := by
  have : trimL l = [] := by simpa using h
  unfold rsig
  rw [this]; simp; rfl
theorem signed_e1 {M : List Nat → As} {neg : Bool} {l : List Nat} (h : (((trimL l).length : Int) == 0) = false) : (cat (setAll [BoA false, M []] [(0, BoA neg), (1, M (trimL l))])).va = (cat [BoA (rsig neg l).neg, M (rsig neg l).mag]).va := by
  have : (trimL l).isEmpty = false := by cases hh : trimL l <;> simp_all
  unfold rsig
  rw [this]; simp; rfl

set_option maxRecDepth 100000 in
theorem signedA_c (neg : Bool) (l : List Nat) : Cn Try.prog 70 [Bo neg, (MgA l).va] ((RIA (rsig neg l)).va) := by
  refine Cn.intro Try.func70 rfl (by kernel_rfl) nq (fun B w0 a hst => ?_)
  have hst : St B w0 14 [(0, Bo neg), (1, (MgA l).va)] [] a w0.w := hst
  refine wp_seq ?_
  refine gl (sts := []) (news := [⟨4, 33, ptrH, some 0, _, none⟩]) (sp := [.alc 0]) [.g 0, .g 1] hst (oc (ob_alc rfl rfl rfl (Str.zero (fam_str famA))) o0) (fun a w hst => ?_)
  have hst : St B w0 14 [(0, _), (1, _)] [⟨4, 33, ptrH, _⟩] a w := hst
  refine thn_normal ?_
  refine wp_seq ?_
  refine wp_seq ?_
  refine gl (sts := [none]) (news := []) (sp := [.val 5 _, .val 6 _, .val 1 _]) [.g 0, .o 2] hst (oc (ob_v rfl rfl (r_move (gq 1 rfl))) (oc (ob_v rfl rfl (r_call (xs := [.tmp 5]) (trim_c famA _) (.cons (vq 0 rfl) .nil))) (oc (ob_v rfl rfl (r_assign (vq 1 rfl))) o0))) (fun a w hst => ?_)
  have hst : St B w0 14 [(0, _), (1, _)] [⟨4, 33, ptrH, _⟩] a w := hst
  refine thn_normal ?_
  refine wp_seq ?_
  refine gl (sts := [none]) (news := []) (sp := [.val 7 _, .val 8 _, .val 9 _]) [.g 0, .g 1, .o 2] hst (oc (ob_v rfl rfl (r_move (gq 1 rfl))) (oc (ob_v rfl rfl (r_lenm Try.underlying31 (vq 0 rfl))) (oc (ob_v rfl rfl (r_eql (vq 1 rfl) has_num)) o0))) (fun a w hst => ?_)
  have hst : St B w0 14 [(0, _), (1, _), (9, _)] [⟨4, 33, ptrH, _⟩] a w := hst
  refine thn_normal ?_
  refine cond_of hst (List.mem_of_getElem? (i := 2) rfl) (fun hb0 => ?_) (fun hb0 => ?_)
  · refine wp_seq ?_
    refine gl (sts := [some (1, _)]) (news := []) (sp := [.val 10 _, .sto 0]) [.g 0, .g 1] hst (oc (ob_v rfl rfl (r_build (xs := []) (qs := []) (fam_str famA) .nil)) (oc (ob_sto rfl rfl rfl (vq 0 rfl) ty_33 (Eq.trans (b := 2) rfl rfl)) o0)) (fun a w hst => ?_)
    have hst : St B w0 14 [(0, _), (1, _)] [⟨4, 33, ptrH, _⟩] a w := hst
    refine thn_normal ?_
    refine wp_ret ?_
    refine thn_ret ?_
    refine ret_cast ?_ (ret_cell rfl hst (List.mem_of_getElem? (i := 0) rfl) ty_33)
    exact signed_e0 (M := MgA) hb0
  · refine wp_skip ?_
    refine thn_normal ?_
    refine wp_seq ?_
    refine gl (sts := [some (3, _)]) (news := []) (sp := [.val 11 _, .val 12 _, .val 13 _, .sto 0]) [] hst (oc (ob_v rfl rfl (r_move (gq 0 rfl))) (oc (ob_v rfl rfl (r_move (gq 1 rfl))) (oc (ob_v rfl rfl (r_build (xs := [(0, .tmp 11), (1, .tmp 12)]) (qs := [(0, _), (1, _)]) (fam_str famA) (.cons ⟨rfl, (vq 0 rfl), rfl⟩ (.cons ⟨rfl, (vq 1 rfl), rfl⟩ .nil)))) (oc (ob_sto rfl rfl rfl (vq 2 rfl) ty_33 (Eq.trans (b := 2) rfl rfl)) o0)))) (fun a w hst => ?_)
    have hst : St B w0 14 [] [⟨4, 33, ptrH, _⟩] a w := hst
    refine thn_normal ?_
    refine wp_ret ?_
    refine ret_cast ?_ (ret_cell rfl hst (List.mem_of_getElem? (i := 0) rfl) ty_33)
    exact signed_e1 (M := MgA) hb0

set_option maxRecDepth 100000 in
theorem signedN_c (neg : Bool) (l : List Nat) : Cn Try.prog 70 [Bo neg, (MgN l).va] ((RIN (rsig neg l)).va) := by
  refine Cn.intro Try.func70 rfl (by kernel_rfl) nq (fun B w0 a hst => ?_)
  have hst : St B w0 14 [(0, Bo neg), (1, (MgN l).va)] [] a w0.w := hst
  refine wp_seq ?_
  refine gl (sts := []) (news := [⟨4, 33, ptrH, some 0, _, none⟩]) (sp := [.alc 0]) [.g 0, .g 1] hst (oc (ob_alc rfl rfl rfl (Str.zero (fam_str famN))) o0) (fun a w hst => ?_)
  have hst : St B w0 14 [(0, _), (1, _)] [⟨4, 33, ptrH, _⟩] a w := hst
  refine thn_normal ?_
  refine wp_seq ?_
  refine wp_seq ?_
  refine gl (sts := [none]) (news := []) (sp := [.val 5 _, .val 6 _, .val 1 _]) [.g 0, .o 2] hst (oc (ob_v rfl rfl (r_move (gq 1 rfl))) (oc (ob_v rfl rfl (r_call (xs := [.tmp 5]) (trim_c famN _) (.cons (vq 0 rfl) .nil))) (oc (ob_v rfl rfl (r_assign (vq 1 rfl))) o0))) (fun a w hst => ?_)
  have hst : St B w0 14 [(0, _), (1, _)] [⟨4, 33, ptrH, _⟩] a w := hst
  refine thn_normal ?_
  refine wp_seq ?_
  refine gl (sts := [none]) (news := []) (sp := [.val 7 _, .val 8 _, .val 9 _]) [.g 0, .g 1, .o 2] hst (oc (ob_v rfl rfl (r_move (gq 1 rfl))) (oc (ob_v rfl rfl (r_lenm Try.underlying31 (has_new (vq 0 rfl)))) (oc (ob_v rfl rfl (r_eql (vq 1 rfl) has_num)) o0))) (fun a w hst => ?_)
  have hst : St B w0 14 [(0, _), (1, _), (9, _)] [⟨4, 33, ptrH, _⟩] a w := hst
  refine thn_normal ?_
  refine cond_of hst (List.mem_of_getElem? (i := 2) rfl) (fun hb0 => ?_) (fun hb0 => ?_)
  · refine wp_seq ?_
    refine gl (sts := [some (1, _)]) (news := []) (sp := [.val 10 _, .sto 0]) [.g 0, .g 1] hst (oc (ob_v rfl rfl (r_build (xs := []) (qs := []) (fam_str famN) .nil)) (oc (ob_sto rfl rfl rfl (vq 0 rfl) ty_33 (Eq.trans (b := 2) rfl rfl)) o0)) (fun a w hst => ?_)
    have hst : St B w0 14 [(0, _), (1, _)] [⟨4, 33, ptrH, _⟩] a w := hst
    refine thn_normal ?_
    refine wp_ret ?_
    refine thn_ret ?_
    refine ret_cast ?_ (ret_cell rfl hst (List.mem_of_getElem? (i := 0) rfl) ty_33)
    exact signed_e0 (M := MgN) hb0
  · refine wp_skip ?_
    refine thn_normal ?_
    refine wp_seq ?_
    refine gl (sts := [some (3, _)]) (news := []) (sp := [.val 11 _, .val 12 _, .val 13 _, .sto 0]) [] hst (oc (ob_v rfl rfl (r_move (gq 0 rfl))) (oc (ob_v rfl rfl (r_move (gq 1 rfl))) (oc (ob_v rfl rfl (r_build (xs := [(0, .tmp 11), (1, .tmp 12)]) (qs := [(0, _), (1, _)]) (fam_str famN) (.cons ⟨rfl, (vq 0 rfl), rfl⟩ (.cons ⟨rfl, (vq 1 rfl), rfl⟩ .nil)))) (oc (ob_sto rfl rfl rfl (vq 2 rfl) ty_33 (Eq.trans (b := 2) rfl rfl)) o0)))) (fun a w hst => ?_)
    have hst : St B w0 14 [] [⟨4, 33, ptrH, _⟩] a w := hst
    refine thn_normal ?_
    refine wp_ret ?_
    refine ret_cast ?_ (ret_cell rfl hst (List.mem_of_getElem? (i := 0) rfl) ty_33)
    exact signed_e1 (M := MgN) hb0

theorem mgz_n {l : List Nat} (h : 0 < l.length) : (MgN l).n = (MgZ l).n ∧ (MgN l).ag = (MgZ l).ag ∧ ∀ B cs w, (MgZ l).p B cs w → (MgN l).p B cs w := ⟨rfl, rfl, fun B cs w ⟨ok, A, c, e, h1, h2, h3⟩ => by
  obtain ⟨g, ext, rfl, rfl, h4, h5⟩ := h3 h
  exact ⟨ok, .inr ⟨g, ext, e, h2, h4, h5⟩⟩⟩
theorem signed_z1 {neg : Bool} {l : List Nat} (h : (((trimL l).length : Int) == 0) = false) : Wk (cat (setAll [BoA false, MgN []] [(0, BoA neg), (1, MgZ (trimL l))])).va (RIN (rsig neg l)).va := by
  have h1 : (trimL l).isEmpty = false := by cases hh : trimL l <;> simp_all
  have h2 : 0 < (trimL l).length := by cases hh : trimL l <;> simp_all
  have e : RIN (rsig neg l) = cat [BoA neg, MgN (trimL l)] := by unfold rsig RIN; rw [h1]; simp
  rw [e]
  exact fun B v w ⟨cs, ⟨ps, hp, hq⟩, hv⟩ => by
    cases hq with
    | cons q1 hq => cases hq with
      | cons q2 hq => exact ⟨cs, ⟨_, hp, .cons q1 (.cons ((mgz_n h2).2.2 _ _ _ q2) hq)⟩, hv⟩

set_option maxRecDepth 100000 in
theorem signedZ_c (neg : Bool) (l : List Nat) : Cn Try.prog 70 [Bo neg, (MgZ l).va] ((RIN (rsig neg l)).va) := by
  refine Cn.intro Try.func70 rfl (by kernel_rfl) nq (fun B w0 a hst => ?_)
  have hst : St B w0 14 [(0, Bo neg), (1, (MgZ l).va)] [] a w0.w := hst
  refine wp_seq ?_
  refine gl (sts := []) (news := [⟨4, 33, ptrH, some 0, _, none⟩]) (sp := [.alc 0]) [.g 0, .g 1] hst (oc (ob_alc rfl rfl rfl (Str.zero (fam_str famN))) o0) (fun a w hst => ?_)
  have hst : St B w0 14 [(0, _), (1, _)] [⟨4, 33, ptrH, _⟩] a w := hst
  refine thn_normal ?_
  refine wp_seq ?_
  refine wp_seq ?_
  refine gl (sts := [none]) (news := []) (sp := [.val 5 _, .val 6 _, .val 1 _]) [.g 0, .o 2] hst (oc (ob_v rfl rfl (r_move (gq 1 rfl))) (oc (ob_v rfl rfl (r_call (xs := [.tmp 5]) (trim_c famZ _) (.cons (vq 0 rfl) .nil))) (oc (ob_v rfl rfl (r_assign (vq 1 rfl))) o0))) (fun a w hst => ?_)
  have hst : St B w0 14 [(0, _), (1, _)] [⟨4, 33, ptrH, _⟩] a w := hst
  refine thn_normal ?_
  refine wp_seq ?_
  refine gl (sts := [none]) (news := []) (sp := [.val 7 _, .val 8 _, .val 9 _]) [.g 0, .g 1, .o 2] hst (oc (ob_v rfl rfl (r_move (gq 1 rfl))) (oc (ob_v rfl rfl (r_lenm Try.underlying31 (has_newZ (vq 0 rfl)))) (oc (ob_v rfl rfl (r_eql (vq 1 rfl) has_num)) o0))) (fun a w hst => ?_)
  have hst : St B w0 14 [(0, _), (1, _), (9, _)] [⟨4, 33, ptrH, _⟩] a w := hst
  refine thn_normal ?_
  refine cond_of hst (List.mem_of_getElem? (i := 2) rfl) (fun hb0 => ?_) (fun hb0 => ?_)
  · refine wp_seq ?_
    refine gl (sts := [some (1, _)]) (news := []) (sp := [.val 10 _, .sto 0]) [.g 0, .g 1] hst (oc (ob_v rfl rfl (r_build (xs := []) (qs := []) (fam_str famN) .nil)) (oc (ob_sto rfl rfl rfl (vq 0 rfl) ty_33 (Eq.trans (b := 2) rfl rfl)) o0)) (fun a w hst => ?_)
    have hst : St B w0 14 [(0, _), (1, _)] [⟨4, 33, ptrH, _⟩] a w := hst
    refine thn_normal ?_
    refine wp_ret ?_
    refine thn_ret ?_
    refine ret_wk ?_ (ret_cell rfl hst (List.mem_of_getElem? (i := 0) rfl) ty_33)
    exact fun _ _ _ h => (signed_e0 (M := MgN) hb0) ▸ h
  · refine wp_skip ?_
    refine thn_normal ?_
    refine wp_seq ?_
    refine gl (sts := [some (3, _)]) (news := []) (sp := [.val 11 _, .val 12 _, .val 13 _, .sto 0]) [] hst (oc (ob_v rfl rfl (r_move (gq 0 rfl))) (oc (ob_v rfl rfl (r_move (gq 1 rfl))) (oc (ob_v rfl rfl (r_build (xs := [(0, .tmp 11), (1, .tmp 12)]) (qs := [(0, _), (1, _)]) (fam_str famN) (.cons ⟨rfl, (vq 0 rfl), rfl⟩ (.cons ⟨rfl, (vq 1 rfl), rfl⟩ .nil)))) (oc (ob_sto rfl rfl rfl (vq 2 rfl) ty_33 (Eq.trans (b := 2) rfl rfl)) o0)))) (fun a w hst => ?_)
    have hst : St B w0 14 [] [⟨4, 33, ptrH, _⟩] a w := hst
    refine thn_normal ?_
    refine wp_ret ?_
    refine ret_wk ?_ (ret_cell rfl hst (List.mem_of_getElem? (i := 0) rfl) ty_33)
    exact signed_z1 hb0

set_option maxHeartbeats 2000000 in
set_option maxRecDepth 100000 in
theorem clone_some (b off n c : Nat) (zs : List Nat) (w : World) (hn : n = zs.length) (h0 : 0 < n) (hbig : n * 4 ≤ 140737488355328) (hc : ∀ j (h : j < zs.length), w.cell? ⟨b, off + j, none⟩ = some (.int .u32 (zs[j] : Nat))) :
    Calls Try.prog 87 #[.slice (some ⟨b, off, none⟩) n c] w fun e w' => ∃ g c ext, e = .returned (.slice (some ⟨g, 0, none⟩) n c) ∧ w.heap.size ≤ g ∧ n ≤ c ∧ c ≤ maxLen ∧ w'.heap[g]? = some (.cells ((zs ++ ext).map fun (x : Nat) => Value.int .u32 x).toArray U32 (0, 0)) ∧ Grow w w' ∧ c = (zs ++ ext).length := by
  have t22 : Try.prog.underlying 31 = some (.slice U32) := by kernel_rfl
  obtain ⟨i0, hi, hz0, hz1, hz2⟩ := u32_info
  have q22 : ∀ (w : World) (a : Option Addr) (n c n' c' : Nat), (binOp .eql 31 (.slice a n c) (.slice none n' c')).run Try.prog w = .ok (.bool a.isNone) w := fun w a n c n' c' => Lib.run_eql_slice_nil w _ _ a n c n' c' t22
  have u22 : ∀ w, Sem.run Try.prog (underlying 31) w = .ok (TypeDesc.slice U32) w := run_underlying t22
  have A : Aside (∀ j (h : j < zs.length), w.cell? ⟨b, off + j, none⟩ = some (.int .u32 (zs[j] : Nat))) := hc
  have HN : Aside (n = zs.length) := hn
  clear hc hn
  go_enter Try.func87, Try.ntmps87
  go_wp2_with (at_builtin; refine wpList_append_new rfl _ _ 31 rfl U32 i0 (.int .u32 0) t22 hi hz0 hz1 hz2 _ rfl ⟨b, off, none⟩ n c (zs.map fun (x : Nat) => Value.int .u32 x) rfl ?qc1 ?qc2 h0 hbig ?_)
  case qc1 => simp; exact HN.out.symm
  case qc2 =>
    intro j u hj
    have hjn : j < zs.length := by
      have := (List.getElem?_eq_some_iff.1 hj).1
      simpa using this
    rw [Addr.add_lit]
    refine Lib.cell?_alloc_some _ ?_
    rw [A.out j hjn]
    simpa [hjn] using hj
  go_wp2
  go_ret
  refine ⟨_, _, List.replicate (grownCap (w.alloc (.cells #[] U32)) n 0 U32 - n) 0, rfl, by omega, grownCap_ge _ _ _ _, grownCap_le_maxLen _ _ _ _ (by unfold maxLen; omega), ?_, ?_, ?_⟩
  · have e : (w.alloc (.cells #[] U32)).heap.size = w.heap.size + 1 := by simp
    rw [← e, zero_cells, List.map_append, ← List.append_toArray]
    exact heap_alloc_new _ _
  · exact ((Grow.alloc w _).trans (Grow.alloc _ _)).trans (Grow.drew _)
  · have := grownCap_ge (w.alloc (.cells #[] U32)) n 0 U32
    have hnz := HN.out
    rw [List.length_append, List.length_replicate]
    omega

theorem clone_nil (c : Nat) (w : World) : Calls Try.prog 87 #[.slice none 0 c] w fun e w' => e = .returned (.slice none 0 0) ∧ w = w' := by
  have t22 : Try.prog.underlying 31 = some (.slice U32) := by kernel_rfl
  have q22 : ∀ (w : World) (a : Option Addr) (n c n' c' : Nat), (binOp .eql 31 (.slice a n c) (.slice none n' c')).run Try.prog w = .ok (.bool a.isNone) w := fun w a n c n' c' => Lib.run_eql_slice_nil w _ _ a n c n' c' t22
  go_enter Try.func87, Try.ntmps87
  go_wp2
  go_ret
  exact ⟨rfl, rfl⟩
theorem clone_zero (ad : Addr) (c : Nat) (w : World) : Calls Try.prog 87 #[.slice (some ad) 0 c] w fun e w' => ∃ A c, e = .returned (.slice A 0 c) ∧ c ≤ maxLen ∧ Below w.heap.size w w' := by
  have t22 : Try.prog.underlying 31 = some (.slice U32) := by kernel_rfl
  obtain ⟨i0, hi, hz0, hz1, hz2⟩ := u32_info
  have q22 : ∀ (w : World) (a : Option Addr) (n c n' c' : Nat), (binOp .eql 31 (.slice a n c) (.slice none n' c')).run Try.prog w = .ok (.bool a.isNone) w := fun w a n c n' c' => Lib.run_eql_slice_nil w _ _ a n c n' c' t22
  have u22 : ∀ w, Sem.run Try.prog (underlying 31) w = .ok (TypeDesc.slice U32) w := run_underlying t22
  go_enter Try.func87, Try.ntmps87
  go_wp2_with (at_builtin; refine wpList_append_own _ rfl _ _ 31 rfl w.heap.size U32 i0 (.int .u32 0) 1 4 t22 hi hz0 hz1 hz2 rfl (by decide) _ _ _ rfl (World.ownsRow_made w #[] 0 (Nat.le_refl _) (Nat.zero_le _) rfl) ad 0 c [] rfl rfl ?qc2 ?qc3 ?qc4 ?qc5 ?qc6 ?_)
  case qc2 => intro j u hj; simp at hj
  case qc3 => intro u hu; cases hu
  case qc4 => unfold maxLen; omega
  case qc5 => omega
  case qc6 => simp
  intro v' w1 hown hgrow hnil
  go_wp2
  go_ret
  have hb := ((Below.refl _ w).alloc (Nat.le_refl _) _).grown hgrow (by simp) (by intro k hk; simp [Value.ownBlock] at hk; omega)
  rcases hown.2 with ⟨rfl, _⟩ | ⟨g, cap, cur, rfl, _, _, _, h4, _⟩
  · exact ⟨none, 0, rfl, Nat.zero_le _, hb⟩
  · exact ⟨_, cap, rfl, h4, hb⟩
theorem clone_c (l : List Nat) (hls : l.length ≤ 1099511627776) : Cn Try.prog 87 [(MgA l).va] (MgZ l).va := by
  refine ⟨closed_of Try.func87 (by kernel_rfl) (by kernel_rfl), fun B w args hB ha => ?_⟩
  obtain ⟨v, rfl, hv⟩ := ha.one
  obtain ⟨A, c, rfl, hm⟩ := mg_open hv
  by_cases h0 : l.length = 0
  · have hl : l = [] := List.eq_nil_of_length_eq_zero h0
    subst hl
    cases A with
    | none =>
      refine (clone_nil c w).mono fun e w' ⟨he, hw⟩ => ?_
      subst hw
      exact ⟨_, he, ⟨_, famZ.nil B w, rfl⟩, Grow.refl w⟩
    | some ad => exact (clone_zero ad c w).mono fun e w' ⟨A, c, he, hm, hb⟩ => ⟨_, he, ⟨_, ⟨okL_nil, A, c, rfl, Nat.zero_le _, hm, fun h => by simp at h⟩, rfl⟩, hb⟩
  · obtain ⟨b, o, rfl, h1, h2, h3⟩ := hm.at_ (by omega)
    exact (clone_some b o l.length c l w rfl (by omega) (by omega) h3).mono fun e w' ⟨g, c, ext, he, h4, h5, h6, h7, hb, hcx⟩ => ⟨_, he, ⟨_, ⟨hm.ok, _, c, rfl, h5, h6, fun _ => ⟨g, ext, rfl, hcx, Nat.le_trans hB h4, h7⟩⟩, rfl⟩, hb⟩

set_option maxRecDepth 100000 in
theorem own_c (neg : Bool) (l : List Nat) (hls : l.length ≤ 1099511627776) : Cn Try.prog 86 [Bo neg, (MgA l).va] ((RIN (rsig neg l)).va) := by
  refine Cn.intro Try.func86 rfl (by kernel_rfl) nq (fun B w0 a hst => ?_)
  have hst : St B w0 9 [(0, Bo neg), (1, (MgA l).va)] [] a w0.w := hst
  refine wp_seq ?_
  refine gl (sts := []) (news := [⟨4, 33, ptrH, some 0, _, none⟩]) (sp := [.alc 0]) [.g 0, .g 1] hst (oc (ob_alc rfl rfl rfl (Str.zero (fam_str famN))) o0) (fun a w hst => ?_)
  have hst : St B w0 9 [(0, _), (1, _)] [⟨4, 33, ptrH, _⟩] a w := hst
  refine thn_normal ?_
  refine wp_seq ?_
  refine gl (sts := [some (4, _)]) (news := []) (sp := [.val 5 _, .val 6 _, .val 7 _, .val 8 _, .sto 0]) [] hst (oc (ob_v rfl rfl (r_move (gq 0 rfl))) (oc (ob_v rfl rfl (r_move (gq 1 rfl))) (oc (ob_v rfl rfl (r_call (xs := [.tmp 6]) (clone_c _ hls) (.cons (vq 1 rfl) .nil))) (oc (ob_v rfl rfl (r_call (xs := [.tmp 5, .tmp 7]) (signedZ_c _ _) (.cons (vq 0 rfl) (.cons (vq 2 rfl) .nil)))) (oc (ob_sto rfl rfl rfl (vq 3 rfl) ty_33 (Eq.trans (b := 2) rfl rfl)) o0))))) (fun a w hst => ?_)
  have hst : St B w0 9 [] [⟨4, 33, ptrH, _⟩] a w := hst
  refine thn_normal ?_
  refine wp_ret ?_
  exact ret_cell rfl hst (List.mem_of_getElem? (i := 0) rfl) ty_33

end Go.Proofs.Ytljkepdpoelpkaa
