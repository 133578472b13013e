/- The reference of layer 1: divide. -/
import Derived.Test.YtmghfjcjcfaagaaGreatRefE
namespace Go.Proofs.YtmghfjcjcfaagaaGreat
open Go Go.RowKit
namespace RefF
theorem sl_22 : Sl Tryz.prog 22 122 1 := ⟨by kernel_rfl, by kernel_rfl⟩
theorem ty_122 : Ty Tryz.prog 122 1 false := ⟨by kernel_rfl, by kernel_rfl⟩
end RefF
open RefF
set_option linter.unusedVariables false
theorem limbs_one {D : Nat} (h : (limbs D).length = 1) : (limbs D)[0]'(by omega) = D := by
  have h1 := val_drop_at (l := limbs D) (j := 0) (by omega)
  rw [List.drop_zero, val_limbs, List.drop_of_length_le (by omega)] at h1
  simp at h1
  exact h1.symm
theorem trim_limb {x : Nat} (h : x < 4294967296) : trimL [x] = limbs x := by
  rw [trimL_eq_limbs (okL_one h)]
  simp [val]
theorem trim_cons {x R : Nat} (h : x < 4294967296) : trimL (x :: limbs R) = limbs (R * 4294967296 + x) := by
  rw [trimL_eq_limbs (fun y hy => by
    rcases List.mem_cons.1 hy with rfl | hy
    · exact h
    · exact (canon_limbs _).1 y hy)]
  show limbs (x + 4294967296 * val (limbs R)) = _
  rw [val_limbs]
  congr 1
  omega
theorem cm_lt0 {X Y : Nat} : cmL (limbs X) (limbs Y) < 0 ↔ X < Y := by
  rw [cmL_limbs]
  split
  · omega
  · split <;> omega
theorem rs_same {l : List Nat} {d j : Nat} (hl : okL l) (hd : 0 < d) (hj : j < l.length) (h : val (l.drop (j + 1)) % d * 4294967296 + l[j] < d) : rsSt l d (j + 1) = rsSt l d j := by
  rw [← rs_step hl hd hj, Nat.div_eq_of_lt h]
  unfold rsSt
  rw [List.replicate_succ', List.append_assoc, set_app _ _ _ _ (by simp)]
  rfl
theorem St.rowV {B N : Nat} {w0 : Bs} {Γ : List (Nat × VA)} {Λ : List Lc} {a : Act} {w : World} (h : St B w0 N Γ Λ a w) {s T : Nat} {H : Hd} {A : As} (e : Nat) (he : Λ[e]? = some ⟨s, T, H, A⟩) : ∃ v g, blk v = some g ∧ w0.may g ∧ g < w.heap.size ∧ St B w0 N ((s, EqV v) :: Γ) Λ a w := by
  obtain ⟨g, cs, e1, e2, e3, e4⟩ := h.locs _ (List.mem_of_getElem? he)
  exact ⟨a.eval (.tmp s), g, by rw [e1]; exact H.ok g, e2, (Array.getElem?_eq_some_iff.1 e3).1, h.lo, h.defers, h.size, h.base, fun x hx => by
    rcases List.mem_cons.1 hx with rfl | hx
    · exact rfl
    · exact h.vals x hx, h.locs, h.dis⟩
theorem St.ownT {B N : Nat} {w0 : Bs} {Γ : List (Nat × VA)} {Λ : List Lc} {a : Act} {w : World} (h : St B w0 N Γ Λ a w) {s s3 go : Nat} {v8 : Value} {E : TypeId} {m : Nat} {D : List TypeId} (k k8 : Nat) (hm : Γ[k]? = some (s, EqV (.slice none 0 0))) (h8 : Γ[k8]? = some (s3, EqV v8)) (hv : blk v8 = some go) (hlt : go < w0.w.heap.size) :
    ∃ b, w0.w.heap.size ≤ b ∧ go < b ∧ St B w0 N (Γ.set k (s, OwnB b E m D []) ++ [(s3, PtrLt b)]) Λ a w := by
  refine ⟨w.heap.size, h.base.size, Nat.lt_of_lt_of_le hlt h.base.size, h.lo, h.defers, h.size, h.base, fun x hx => ?_, h.locs, h.dis⟩
  rcases List.mem_append.1 hx with hx | hx
  · rcases List.mem_or_eq_of_mem_set hx with hx | rfl
    · exact h.vals x hx
    · exact ⟨Nat.le_refl _, Nat.le_trans (h.lo _ (.inl (Nat.le_refl _))) h.base.size, own_nil _ _ _ (h.vals _ (List.mem_of_getElem? hm))⟩
  · obtain rfl := List.mem_singleton.1 hx
    have e : a.eval (.tmp s3) = v8 := h.vals _ (List.mem_of_getElem? h8)
    exact ⟨go, by show blk (a.eval (.tmp s3)) = _; rw [e]; exact hv, Nat.lt_of_lt_of_le hlt h.base.size⟩
/-- what is left, at the head of a round. -/
structure Rs (B : Nat) (w0 : Bs) (w : World) (v : Value) (l : List Nat) (go : Nat) : Prop where
  mg : (MgA l).va.p B v w
  ne : blk v ≠ some go
  may : w0.may go
  lt : go < w.heap.size

theorem div_rb {x V D : Nat} (hD : 0 < D) (hx : x < 4294967296) : V % D * 4294967296 + x < D * 4294967296 := by
  have h1 := Nat.mod_lt V hD
  have h2 : (V % D + 1) * 4294967296 ≤ D * 4294967296 := Nat.mul_le_mul_right _ h1
  omega
theorem len_rb {D x : Nat} (h : x < D * 4294967296) : (limbs x).length ≤ (limbs D).length + 1 := by
  have h1 := lt_of_limbs_len (n := D) (Nat.le_refl _)
  refine limbs_len_le (Nat.lt_of_lt_of_le h ?_)
  rw [Nat.pow_succ]
  exact Nat.mul_le_mul_right _ (Nat.le_of_lt h1)
theorem sub_mod' {a b : Nat} : a - b * (a / b) = a % b := by
  have := Nat.div_add_mod a b
  omega

set_option maxRecDepth 100000 in
set_option maxHeartbeats 1000000 in
theorem rdivide_c {D : Nat} (l : List Nat) (hD : 0 < D) (hls : l.length ≤ 1000000000) (hds : (limbs D).length ≤ 1000000000) : Cn Tryz.prog 197 [(MgA l).va, (MgA (limbs D)).va] (Tu [(MgA (limbs (val l / D))).va, (MgA (limbs (val l % D))).va]) := by
  obtain ⟨it, z, e1, e2, e3, e4, e5⟩ := app_u32
  refine Cn.introD Tryz.func197 rfl (by kernel_rfl) nq (fun B w0 a hF0 hnd hF hst => ?_)
  have hst : St B w0 68 [(0, (MgA l).va), (1, (MgA (limbs D)).va)] [] a w0.w := hst
  obtain ⟨v0, hv0, hst⟩ := St.eqv hst 0 rfl
  obtain ⟨v1, hv1, hst⟩ := St.eqv hst 1 rfl
  have hl := (and_va hv0).1; have hokD := (and_va hv1).1
  refine wp_seq ?_
  refine gl (sts := []) (news := []) (sp := [.val 4 _, .val 5 _]) [.g 0, .g 1, .o 0, .o 1] hst (oc (ob_v rfl rfl (r_assign has_const)) (oc (ob_v rfl rfl (r_assign has_const)) o0)) (fun a w hst => ?_)
  have hst : St B w0 68 [(0, _), (1, _), (4, _), (5, _)] [] a w := hst
  refine thn_normal ?_
  refine wp_seq ?_
  refine wp_seq ?_
  refine gl (sts := []) (news := []) (sp := [.val 13 _, .val 14 _, .val 15 _]) [.g 0, .g 1, .g 2, .g 3, .o 2] hst (oc (ob_v rfl rfl (r_move (gq 1 rfl))) (oc (ob_v rfl rfl (r_lenm Tryz.underlying22 (has_again hF hv1 (vq 0 rfl)))) (oc (ob_v rfl rfl (r_eql (vq 1 rfl) has_num)) o0))) (fun a w hst => ?_)
  have hst : St B w0 68 [(0, _), (1, _), (4, _), (5, _), (15, _)] [] a w := hst
  refine thn_normal ?_
  refine cond_of hst (List.mem_of_getElem? (i := 4) rfl) (fun hb0 => ?_) (fun hb0 => ?_)
  · have hlen : (limbs D).length = 1 := by simp at hb0; omega
    have hd0 := limbs_one hlen
    refine wp_seq ?_
    refine gl (sts := []) (news := []) (sp := [.val 17 _, .val 18 _, .val 19 _, .val 20 _, .val 21 _, .val 16 _, .val 22 _, .val 23 _, .val 6 _, .val 7 _]) [.g 0, .g 1, .g 2, .g 3, .o 8, .o 9] hst (oc (ob_v rfl rfl (r_move (gq 0 rfl))) (oc (ob_v rfl rfl (r_move (gq 1 rfl))) (oc (ob_v rfl rfl (r_idxm sl_22 (has_again hF hv1 (vq 1 rfl)) (has_nat 0 rfl) (by omega))) (oc (ob_v rfl rfl (r_loade (vq 2 rfl) ty_122)) (oc (ob_v rfl rfl (r_call (xs := [.tmp 17, .tmp 20]) (rshort_c l ((limbs D)[0]'(by omega)) (by omega) (by rw [hd0]; exact hD) (hokD _ (List.getElem_mem _))) (.cons (has_again hF hv0 (vq 0 rfl)) (.cons (vq 3 rfl) .nil)))) (oc (ob_v rfl rfl (r_move (vq 4 rfl))) (oc (ob_v rfl rfl (r_extract (vq 5 rfl) rfl)) (oc (ob_v rfl rfl (r_extract (vq 5 rfl) rfl)) (oc (ob_v rfl rfl (r_assign (vq 6 rfl))) (oc (ob_v rfl rfl (r_assign (vq 7 rfl))) o0)))))))))) (fun a w hst => ?_)
    have hst : St B w0 68 [(0, _), (1, _), (4, _), (5, _), (6, _), (7, _)] [] a w := hst
    refine thn_normal ?_
    refine wp_seq ?_
    refine gl (sts := []) (news := []) (sp := [.val 24 _, .val 25 _, .val 26 _, .val 27 _, .val 4 _, .val 5 _]) [.g 0, .g 1, .o 4, .o 5] hst (oc (ob_v rfl rfl (r_move (gq 4 rfl))) (oc (ob_v rfl rfl (r_move (gq 5 rfl))) (oc (ob_v rfl rfl (r_slicem (l := [_]) (xs := [.tmp 25]) sl_22 (by kernel_rfl) nq nq ((okL_one (Nat.lt_trans (Nat.mod_lt _ (by rw [hd0]; exact hD)) (hokD _ (List.getElem_mem _))))) (.cons (vq 1 rfl) .nil) rfl rfl)) (oc (ob_v rfl rfl (r_call (xs := [.tmp 26]) (rtrim_c famA _) (.cons (vq 2 rfl) .nil))) (oc (ob_v rfl rfl (r_assign (vq 0 rfl))) (oc (ob_v rfl rfl (r_assign (vq 3 rfl))) o0)))))) (fun a w hst => ?_)
    have hst : St B w0 68 [(0, _), (1, _), (4, _), (5, _)] [] a w := hst
    refine thn_normal ?_
    refine wp_ret ?_
    refine thn_ret ?_
    refine ret_wk ?_ (ret_many (rs := [.tmp 4, .tmp 5]) rfl hst (.tmp (List.mem_of_getElem? (i := 2) rfl) (.tmp (List.mem_of_getElem? (i := 3) rfl) .nil)) (by decide))
    rw [hd0]; exact tu2w wk_mgN (wk_eq (congrArg (fun l => (MgA l).va) (trim_limb (Nat.lt_trans (Nat.mod_lt _ hD) (by rw [← hd0]; exact hokD _ (List.getElem_mem _))))))
  · refine wp_skip ?_
    refine thn_normal ?_
    refine wp_seq ?_
    refine go_linR (sts := []) (news := [⟨30, 122, slH _ _, some 2, _, none⟩]) (sp := [.val 28 _, .val 29 _, .alc 0, .adr 8 30 .none True]) [.g 0, .g 1, .g 2, .g 3] [(8, 30)] [⟨8, 122, slH _ _, _⟩] hst (oc (ob_v rfl rfl (r_move (gq 0 rfl))) (oc (ob_v rfl rfl (r_lenm Tryz.underlying22 (has_again hF hv0 (vq 0 rfl)))) (oc (ob_make rfl rfl rfl mk_u32 (vq 1 rfl) (vq 1 rfl) (by omega)) (oc (ob_a rfl rfl a_asg) o0)))) (by kernel_rfl) (by kernel_rfl) (by kernel_rfl) ⟨⟨3, rfl⟩, trivial⟩ rfl (by kernel_rfl) (fun a w hst => ?_)
    have hst : St B w0 68 [(0, _), (1, _), (4, _), (5, _)] [⟨8, 122, slH _ _, _⟩] a w := hst
    refine thn_normal ?_
    refine wp_seq ?_
    refine gl (sts := [none]) (news := []) (sp := [.val 9 _]) [.g 0, .g 1, .g 2, .g 3, .o 0] hst (oc (ob_v rfl rfl (r_assign has_const)) o0) (fun a w hst => ?_)
    have hst : St B w0 68 [(0, _), (1, _), (4, _), (5, _), (9, _)] [⟨8, 122, slH _ _, _⟩] a w := hst
    refine thn_normal ?_
    refine wp_seq ?_
    refine wp_seq ?_
    refine gl (sts := [none]) (news := []) (sp := [.val 31 _, .val 32 _, .val 33 _, .val 10 _]) [.g 0, .g 1, .g 2, .g 3, .g 4, .o 3] hst (oc (ob_v rfl rfl (r_move (gq 0 rfl))) (oc (ob_v rfl rfl (r_lenm Tryz.underlying22 (has_again hF hv0 (vq 0 rfl)))) (oc (ob_v rfl rfl (r_sub (vq 1 rfl) has_num (wi64 (by omega) (by omega)))) (oc (ob_v rfl rfl (r_assign (vq 2 rfl))) o0)))) (fun a w hst => ?_)
    have hst : St B w0 68 [(0, _), (1, _), (4, _), (5, _), (9, _), (10, _)] [⟨8, 122, slH _ _, _⟩] a w := hst
    obtain ⟨v8, go, hv8, hm8, hl8, hst⟩ := St.rowV hst 0 rfl
    refine thn_normal ?_
    refine wp_block ?_
    have hst := St.sel hst [1, 2, 0, 5, 6]
    refine wp_loop_ghost (fun n a w => ∃ (v9 v8 : Value) (go : Nat), (n ≤ l.length ∧ Rs B w0 w v9 (limbs (val (l.drop n) % D)) go ∧ blk v8 = some go) ∧ St B w0 68 [(0, EqV v0), (1, EqV v1), (8, EqV v8), (9, EqV v9), (10, In ((n : Int) - 1))] [⟨8, 122, slH l.length l.length, Nums .u32 (rsSt l D n)⟩] a w) (l.length) ?_ ?_
    · exact ⟨_, v8, go, ⟨Nat.le_refl _, ⟨by rw [show limbs (val (l.drop l.length) % D) = [] from by simp [limbs_zero]]; exact ⟨_, mag_nil_p B _, rfl⟩, (by intro e; cases e), hm8, hl8⟩, hv8⟩, by rw [rsSt_start]; exact hst⟩
    intro n a w hI
    clear hv8 hm8 hl8; obtain ⟨v9, v8, go, ⟨hn, hR, hv8⟩, hst⟩ := hI
    have hk0 : ∀ w', Kept (now w go) w' → (MgA l).va.p B v0 w' := fun w' hk => (MgA l).va.cg _ _ _ _ (hF.cg (hst.base.trans1 hR.may hk)) hv0
    have hk1 : ∀ w', Kept (now w go) w' → (MgA (limbs D)).va.p B v1 w' := fun w' hk => (MgA (limbs D)).va.cg _ _ _ _ (hF.cg (hst.base.trans1 hR.may hk)) hv1
    have hk9 : ∀ w', Kept (now w go) w' → (MgA (limbs (val (l.drop n) % D))).va.p B v9 w' := fun w' hk => mg_keep hR.mg hR.ne hk
    have hback : ∀ {Γ : List (Nat × VA)} {Λ : List Lc} {a : Act} {w' : World}, St B (now w go) 68 Γ Λ a w' → St B w0 68 Γ Λ a w' := fun h => h.back hst.lo hst.base hR.may
    have hlt1 : go < (now w go).w.heap.size := hR.lt
    have hst := hst.rebase hnd hR.may (fun m hm => by
      obtain rfl := List.mem_singleton.1 hm
      have e : a.eval (.tmp 8) = v8 := hst.vals _ (List.mem_of_getElem? (i := 2) rfl)
      show blk (a.eval (.tmp 8)) = _
      rw [e]; exact hv8)
    have hnd1 : (now w go).nd = true := rfl
    have hmay1 : (now w go).may go := .inr rfl
    generalize now w go = W1 at hst hk0 hk1 hk9 hback hlt1 hnd1 hmay1
    refine wp_seq ?_
    refine wp_seq ?_
    refine gl (sts := [none]) (news := []) (sp := [.val 34 _, .val 35 _]) [.g 0, .g 1, .g 2, .g 3, .g 4, .o 1] hst (oc (ob_v rfl rfl (r_move (gq 4 rfl))) (oc (ob_v rfl rfl (r_geq (vq 0 rfl) has_num)) o0)) (fun a w hst => ?_)
    have hst : St B W1 68 [(0, _), (1, _), (8, _), (9, _), (10, _), (35, _)] [⟨8, 122, slH _ _, _⟩] a w := hst
    refine thn_normal ?_
    refine cond_of hst (List.mem_of_getElem? (i := 5) rfl) (fun hb1 => ?_) (fun hb1 => ?_)
    · obtain ⟨j, rfl⟩ : ∃ j, n = j + 1 := ⟨n - 1, by simp at hb1; omega⟩; rw [show ((j + 1 : Nat) : Int) - 1 = (j : Int) from by omega] at hst
      have hj : j < l.length := by omega
      have hx := hl _ (List.getElem_mem hj)
      have hmd := Nat.mod_lt (val (l.drop (j + 1))) hD
      refine wp_skip ?_
      refine thn_normal ?_
      refine wp_seq ?_
      refine wp_block ?_
      refine wp_seq ?_
      refine gl (sts := [none]) (news := []) (sp := [.val 11 _]) [.g 0, .g 1, .g 2, .g 3, .g 4, .o 0] hst (oc (ob_v rfl rfl (r_assign has_const)) o0) (fun a w hst => ?_)
      have hst : St B W1 68 [(0, _), (1, _), (8, _), (9, _), (10, _), (11, _)] [⟨8, 122, slH _ _, _⟩] a w := hst
      refine thn_normal ?_
      refine wp_seq ?_
      obtain ⟨b, hwb, hgb, hst⟩ := St.ownT (E := U32) (m := 1) (D := []) hst 5 2 rfl rfl hv8 hlt1
      refine go_appB (sp := [.val 38 _, .val 39 _, .val 40 _, .val 41 _, .val 42 _, .val 43 _, .val 44 VT, .val 11 VT]) 6 [0, 1, 2, 3, 4, 6] 0 5 6 hst (oc (ob_v rfl rfl (r_move (gq 5 rfl))) (oc (ob_v rfl rfl (r_move (gq 0 rfl))) (oc (ob_v rfl rfl (r_move (gq 4 rfl))) (oc (ob_v rfl rfl (r_idxm sl_22 (has_keep hk0 (vq 1 rfl)) (vq 2 rfl) hj)) (oc (ob_v rfl rfl (r_loade (vq 3 rfl) ty_122)) (oc (ob_v rfl rfl (r_slicem (l := [_]) (xs := [.tmp 42]) sl_22 (by kernel_rfl) nq nq ((okL_one hx)) (.cons (vq 4 rfl) .nil) rfl rfl)) o0)))))) rfl (by kernel_rfl) rfl rfl (by decide) rfl (by decide) rfl rfl (by kernel_rfl) hwb (fun _ _ h _ => (and_va h).2) Tryz.underlying22 e1 e2 e3 e4 e5 (by decide) (by simp) (by decide) (fun T hT => hT) (by decide) (fun A hA => by obtain ⟨_, _, rfl⟩ := List.mem_map.1 hA; rfl) (by kernel_rfl) nq nq (by kernel_rfl) (by kernel_rfl) (fun a w hst => ?_)
      have hst : St B W1 68 [(11, _), (0, _), (1, _), (8, _), (9, _), (10, _), (8, _)] [⟨8, 122, slH _ _, _⟩] a w := hst
      refine thn_normal ?_
      refine wp_seq ?_
      refine go_appT (sp := [.val 45 _, .val 46 _, .val 47 VT, .val 48 VT, .val 9 VT]) 2 [1, 2, 3, 5] 0 1 6 (M1 := (MgB b (l[j] :: limbs (val (l.drop (j + 1)) % D))).va) (M2 := (MgB b (trimL (l[j] :: limbs (val (l.drop (j + 1)) % D)))).va) hst (oc (ob_v rfl rfl (r_move (gq 0 rfl))) (oc (ob_v rfl rfl (r_move (gq 4 rfl))) o0)) rfl (by kernel_rfl) rfl rfl rfl (rtrim_c (famB b) _) (ownB_mgB (l := l[j] :: limbs (val (l.drop (j + 1)) % D)) (okL_cons.2 ⟨hx, (canon_limbs _).1⟩)) (by decide) rfl (by decide) rfl rfl (by kernel_rfl) hwb (D' := []) (xs := NL (limbs (val (l.drop (j + 1)) % D))) (fun w u e k => by have e' : u = v9 := e; rw [e']; exact (and_va (hk9 w k)).2) Tryz.underlying22 e1 e2 e3 e4 e5 (by decide) (by simp only [List.length_append, List.length_map, List.length_nil, List.length_singleton]; have := len_mono (Nat.le_of_lt hmd); omega) (by decide) (fun T hT => hT) (by decide) (fun A hA => by obtain ⟨_, _, rfl⟩ := List.mem_map.1 hA; rfl) (by kernel_rfl) nq nq nq (by kernel_rfl) (by kernel_rfl) (fun a w hst => ?_)
      have hst : St B W1 68 [(9, _), (0, _), (1, _), (8, _), (10, _)] [⟨8, 122, slH _ _, _⟩] a w := hst
      have hst := St.wkG (A' := (MgB b (limbs ((val (l.drop (j + 1)) % D) * 4294967296 + l[j]))).va) hst 0 rfl (wk_eq (congrArg (fun l => (MgB b l).va) (trim_cons hx)))
      refine thn_normal ?_
      refine wp_seq ?_
      refine wp_seq ?_
      refine gl (sts := [none]) (news := []) (sp := [.val 49 _, .val 50 _, .val 51 _, .val 52 _]) [.g 0, .g 1, .g 2, .g 3, .g 4, .o 3] hst (oc (ob_v rfl rfl (r_move (gq 0 rfl))) (oc (ob_v rfl rfl (r_move (gq 2 rfl))) (oc (ob_v rfl rfl (r_call (xs := [.tmp 49, .tmp 50]) ((rcmp_c (limbs (val (l.drop (j + 1)) % D * 4294967296 + l[j])) (limbs D)).wk (.cons mgB_A (.cons wk_id .nil))) (.cons (vq 0 rfl) (.cons (has_keep hk1 (vq 1 rfl)) .nil)))) (oc (ob_v rfl rfl (r_lss (vq 2 rfl) has_num)) o0)))) (fun a w hst => ?_)
      have hst : St B W1 68 [(9, _), (0, _), (1, _), (8, _), (10, _), (52, _)] [⟨8, 122, slH _ _, _⟩] a w := hst
      refine thn_normal ?_
      refine cond_of hst (List.mem_of_getElem? (i := 5) rfl) (fun hb2 => ?_) (fun hb2 => ?_)
      · have hq : (val (l.drop (j + 1)) % D * 4294967296 + l[j]) < D := cm_lt0.1 (of_decide_eq_true hb2)
        refine wp_exit ?_
        refine thn_exit ?_
        refine blk_exit ?_
        refine thn_normal ?_
        refine gl (sts := [none]) (news := []) (sp := [.val 36 _, .val 37 _, .val 10 _]) [.g 0, .g 1, .g 2, .g 3, .o 2] hst (oc (ob_v rfl rfl (r_move (gq 4 rfl))) (oc (ob_v rfl rfl (r_sub (vq 0 rfl) has_num (wi64 (by omega) (by omega)))) (oc (ob_v rfl rfl (r_assign (vq 1 rfl))) o0))) (fun a w hst => ?_)
        have hst : St B W1 68 [(9, _), (0, _), (1, _), (8, _), (10, _)] [⟨8, 122, slH _ _, _⟩] a w := hst
        refine thn_normal ?_
        have hst := St.sel hst [1, 2, 3, 0, 4]
        obtain ⟨v9c, h9c, hst⟩ := St.toE hst 3 rfl
        have hne : blk v9c ≠ some go := fun e => by have := mgB_va h9c go e; omega
        have hsz := hst.base.size
        exact ⟨j, by omega, v9c, v8, go, ⟨by omega, ⟨by rw [← rs_rest hD hj, Nat.mod_eq_of_lt hq]; exact mgB_A _ _ _ h9c, hne, hR.may, by omega⟩, hv8⟩, by have hst := hback hst; rw [rs_same hl hD hj hq] at hst; exact hst⟩
      · have hq : ¬ (val (l.drop (j + 1)) % D * 4294967296 + l[j]) < D := fun h => of_decide_eq_false hb2 (cm_lt0.2 h)
        have hsub : (val (l.drop (j + 1)) % D * 4294967296 + l[j]) - D * ((val (l.drop (j + 1)) % D * 4294967296 + l[j]) / D) = val (limbs (val (l.drop (j + 1)) % D * 4294967296 + l[j])) - val (limbs (val (limbs D) * ((val (l.drop (j + 1)) % D * 4294967296 + l[j]) / D))) := by rw [val_limbs, val_limbs, val_limbs]
        have hle : D * ((val (l.drop (j + 1)) % D * 4294967296 + l[j]) / D) ≤ (val (l.drop (j + 1)) % D * 4294967296 + l[j]) := Nat.mul_div_le _ _
        have hsl : (limbs (val (limbs D) * ((val (l.drop (j + 1)) % D * 4294967296 + l[j]) / D))).length ≤ (limbs (val (l.drop (j + 1)) % D * 4294967296 + l[j])).length := by rw [val_limbs]; exact len_mono hle
        have hsv : val (limbs (val (limbs D) * ((val (l.drop (j + 1)) % D * 4294967296 + l[j]) / D))) ≤ val (limbs (val (l.drop (j + 1)) % D * 4294967296 + l[j])) := by rw [val_limbs, val_limbs, val_limbs]; exact hle
        have hlen2 : (limbs (val (l.drop (j + 1)) % D * 4294967296 + l[j])).length ≤ 1000000001 := Nat.le_trans (len_rb (div_rb hD hx)) (by omega)
        refine wp_skip ?_
        refine thn_normal ?_
        refine wp_seq ?_
        refine gl (sts := [none]) (news := []) (sp := [.val 53 _, .val 54 _, .val 55 _, .val 12 _]) [.g 0, .g 1, .g 2, .g 3, .g 4, .o 3] hst (oc (ob_v rfl rfl (r_move (gq 0 rfl))) (oc (ob_v rfl rfl (r_move (gq 2 rfl))) (oc (ob_v rfl rfl (r_call (xs := [.tmp 53, .tmp 54]) ((rfit_c (R := (val (l.drop (j + 1)) % D * 4294967296 + l[j])) (D := D) hD (div_rb hD hx) (by omega)).wk (.cons mgB_A (.cons wk_id .nil))) (.cons (vq 0 rfl) (.cons (has_keep hk1 (vq 1 rfl)) .nil)))) (oc (ob_v rfl rfl (r_assign (vq 2 rfl))) o0)))) (fun a w hst => ?_)
        have hst : St B W1 68 [(9, _), (0, _), (1, _), (8, _), (10, _), (12, _)] [⟨8, 122, slH _ _, _⟩] a w := hst
        refine thn_normal ?_
        refine wp_seq ?_
        obtain ⟨v9b, h9b, hst⟩ := St.toE hst 0 rfl
        have hk0 : ∀ w', Kept (now w go) w' → (MgA l).va.p B v0 w' := fun w' hk => hk0 w' (hst.base.trans1 hmay1 hk)
        have hk1 : ∀ w', Kept (now w go) w' → (MgA (limbs D)).va.p B v1 w' := fun w' hk => hk1 w' (hst.base.trans1 hmay1 hk)
        have hk9 : ∀ w', Kept (now w go) w' → (MgA (limbs (val (l.drop (j + 1)) % D * 4294967296 + l[j]))).va.p B v9b w' := fun w' hk => mg_keep (mgB_A _ _ _ h9b) (fun e => by have := mgB_va h9b go e; omega) hk
        have hback : ∀ {Γ : List (Nat × VA)} {Λ : List Lc} {a : Act} {w' : World}, St B (now w go) 68 Γ Λ a w' → St B w0 68 Γ Λ a w' := fun h => hback (h.back hst.lo hst.base hmay1)
        have hlt1 : go < (now w go).w.heap.size := Nat.lt_of_lt_of_le hlt1 hst.base.size
        have hst := hst.rebase hnd1 hmay1 (fun m hm => by
          obtain rfl := List.mem_singleton.1 hm
          have e : a.eval (.tmp 8) = v8 := hst.vals _ (List.mem_of_getElem? (i := 3) rfl)
          show blk (a.eval (.tmp 8)) = _
          rw [e]; exact hv8)
        have hnd1 : (now w go).nd = true := rfl
        have hmay1 : (now w go).may go := .inr rfl
        generalize now w go = W2 at hst hk0 hk1 hk9 hback hlt1 hnd1 hmay1
        refine gl (sts := [some (4, _)]) (news := []) (sp := [.adr 56 8 .none True, .val 57 _, .val 58 _, .adr 59 8 (.some _) True, .sto 0]) [.g 0, .g 1, .g 2, .g 3, .g 4, .g 5] hst (oc (ob_a rfl rfl a_mov) (oc (ob_v rfl rfl (r_move (gq 4 rfl))) (oc (ob_v rfl rfl (r_move (gq 5 rfl))) (oc (ob_a rfl rfl (a_elm 0 rfl (by kernel_rfl) (lz0 0 rfl) sl_22 (vq 1 rfl) hj)) (oc (ob_stox 3 rfl rfl rfl rfl (by kernel_rfl) (fun _ => slH_off _ _ _ _) (vq 2 rfl) ty_122 (nums_put (by rw [rsSt_len (by omega)]; omega))) o0))))) (fun a w hst => ?_)
        have hst : St B W2 68 [(9, _), (0, _), (1, _), (8, _), (10, _), (12, _)] [⟨8, 122, slH _ _, _⟩] a w := hst
        refine thn_normal ?_
        refine gl (sts := [none]) (news := []) (sp := [.val 60 _, .val 61 _, .val 62 _, .val 63 _, .val 64 _, .val 9 _]) [.g 1, .g 2, .g 3, .g 4, .o 5] hst (oc (ob_v rfl rfl (r_move (gq 0 rfl))) (oc (ob_v rfl rfl (r_move (gq 2 rfl))) (oc (ob_v rfl rfl (r_move (gq 5 rfl))) (oc (ob_v rfl rfl (r_call (xs := [.tmp 61, .tmp 62]) (rtimes_c (limbs D) ((val (l.drop (j + 1)) % D * 4294967296 + l[j]) / D) (by omega) (rs_lt hD hx)) (.cons (has_keep hk1 (vq 1 rfl)) (.cons (vq 2 rfl) .nil)))) (oc (ob_v rfl rfl (r_callB (xs := [.tmp 60, .tmp 63]) (rsubB_c (limbs (val (l.drop (j + 1)) % D * 4294967296 + l[j])) (limbs (val (limbs D) * ((val (l.drop (j + 1)) % D * 4294967296 + l[j]) / D))) (by omega) hsl hsv) (fun n hn => mgB_mono hn) (.cons (has_keep hk9 (vq 0 rfl)) (.cons (vq 3 rfl) .nil)))) (oc (ob_v rfl rfl (r_assign (vq 4 rfl))) o0)))))) (fun a w hst => ?_)
        have hst : St B W2 68 [(0, _), (1, _), (8, _), (10, _), (9, _)] [⟨8, 122, slH _ _, _⟩] a w := hst
        refine blk_normal ?_
        refine thn_normal ?_
        refine gl (sts := [none]) (news := []) (sp := [.val 36 _, .val 37 _, .val 10 _]) [.g 0, .g 1, .g 2, .g 4, .o 2] hst (oc (ob_v rfl rfl (r_move (gq 3 rfl))) (oc (ob_v rfl rfl (r_sub (vq 0 rfl) has_num (wi64 (by omega) (by omega)))) (oc (ob_v rfl rfl (r_assign (vq 1 rfl))) o0))) (fun a w hst => ?_)
        have hst : St B W2 68 [(0, _), (1, _), (8, _), (9, _), (10, _)] [⟨8, 122, slH _ _, _⟩] a w := hst
        refine thn_normal ?_
        have hst := St.sel hst [0, 1, 2, 3, 4]
        obtain ⟨v9c, h9c, hst⟩ := St.toE hst 3 rfl
        have hne : blk v9c ≠ some go := fun e => by have := mgB_va h9c go e; omega
        have hsz := hst.base.size
        exact ⟨j, by omega, v9c, v8, go, ⟨by omega, ⟨by rw [← rs_rest hD hj, ← sub_mod', hsub]; exact mgB_A _ _ _ h9c, hne, hR.may, by omega⟩, hv8⟩, by have hst := hback hst; rw [rs_step hl hD hj] at hst; exact hst⟩
    · obtain rfl : n = 0 := by simp at hb1; omega
      have h9 := hk9 _ hst.base
      have hst := hback hst
      have hst := St.eqF hst 3 rfl h9
      refine wp_exit ?_
      refine thn_exit ?_
      refine thn_exit ?_
      refine blk_exit ?_
      refine thn_normal ?_
      refine wp_seq ?_
      refine gl (sts := [none]) (news := []) (sp := [.adr 65 8 .none True, .val 66 _, .val 67 _, .val 4 _, .val 5 _]) [.g 2, .o 3, .o 4] hst (oc (ob_a rfl rfl a_mov) (oc (ob_v rfl rfl (r_call (xs := [.tmp 65]) (rtrim_c famN _) (.cons (has_rowN 0 rfl (by kernel_rfl) (lz0 0 rfl) ⟨by rw [rsSt_len (Nat.zero_le _)], Nat.le_refl _, by unfold maxLen; omega, rsSt_ok⟩) .nil))) (oc (ob_v rfl rfl (r_move (gq 3 rfl))) (oc (ob_v rfl rfl (r_assign (vq 1 rfl))) (oc (ob_v rfl rfl (r_assign (vq 2 rfl))) o0))))) (fun a w hst => ?_)
      have hst : St B w0 68 [(8, _), (4, _), (5, _)] [⟨8, 122, slH _ _, _⟩] a w := hst
      refine thn_normal ?_
      refine wp_ret ?_
      refine ret_wk ?_ (ret_many (rs := [.tmp 4, .tmp 5]) rfl hst (.tmp (List.mem_of_getElem? (i := 1) rfl) (.tmp (List.mem_of_getElem? (i := 2) rfl) .nil)) (by decide))
      rw [rs_fin hl, List.drop_zero]; exact tu2w wk_mgN wk_id

end Go.Proofs.YtmghfjcjcfaagaaGreat
