/- Contract of match.Best: the place of the first beam with the greatest overlap. -/
import Derived.Test.YtmghfjcjcfaagaaGreatMatA
namespace Go.Proofs.YtmghfjcjcfaagaaGreat
open Go Go.RowKit
namespace MatB
theorem sl_53 : Sl Tryz.prog 53 52 8 := ⟨by kernel_rfl, by kernel_rfl⟩
theorem ty_26 : Ty Tryz.prog 26 4 true := ⟨by kernel_rfl, by kernel_rfl⟩
theorem ty_4 : Ty Tryz.prog 4 1 false := ⟨by kernel_rfl, by kernel_rfl⟩
theorem ty_52 : Ty Tryz.prog 52 8 true := ⟨by kernel_rfl, by kernel_rfl⟩
end MatB
open MatB
theorem zero_bo : Zero Tryz.prog 4 (BoA false) := Zero.of (z := .bool false) (by kernel_rfl) (fun _ _ => rfl)
/-- a fraction, if it is one at all. -/
def QZ (s : Bool) (k : Nat) (m : Rat) : As where
  n := 4
  ag := true
  p B cs w := cs.length = 4 ∧ (∀ c ∈ cs, c.oneCell' = true) ∧ (s = true → (QA k m).p B cs w)
  deps := (QA k m).deps
  len := fun _ _ _ h => h.1
  one := fun _ _ _ h => h.2.1
  ag1 := fun h => by cases h
  cg := fun B cs w w' hg h => ⟨h.1, h.2.1, fun e => (QA k m).cg _ _ _ _ hg (h.2.2 e)⟩
  wr := fun B cs w w' g c T fz h1 h2 h3 h4 h => ⟨h.1, h.2.1, fun e => (QA k m).wr _ _ _ _ _ _ _ _ h1 h2 h3 h4 (h.2.2 e)⟩
theorem zero_qz (k : Nat) (m : Rat) : Zero Tryz.prog 26 (QZ false k m) := Zero.of (z := .agg #[.bool false, .slice none 0 0, .bool false, .slice none 0 0]) (by kernel_rfl) (fun B w => ⟨rfl, fun c hc => List.all_eq_true.1 (show (List.all [Value.bool false, .slice none 0 0, .bool false, .slice none 0 0] fun c => c.oneCell') = true from rfl) c hc, fun e => absurd e (by decide)⟩)
theorem free_qz {k : Nat} {m : Rat} : FreeA (QZ false k m) (QZ false k m) := ⟨rfl, rfl, fun B B' cs w _ h => ⟨h.1, h.2.1, fun e => absurd e (by decide)⟩⟩
theorem qz_q {s : Bool} {k : Nat} {m : Rat} (h : s = true) : Wk (QZ s k m).va (Qs k m) := fun _ _ _ ⟨cs, hp, hv⟩ => ⟨cs, hp.2.2 h, hv⟩
theorem q_qz {k : Nat} {m : Rat} : WkA (QA k m) (QZ true k m) := ⟨rfl, rfl, fun _ _ _ h => ⟨(QA k m).len _ _ _ h, (QA k m).one _ _ _ h, fun _ => h⟩⟩
def bet (s : Bool) (x m : Rat) : Bool := s && decide (cmQ x m ≤ 0)
def bI (f : Nat → Rat) : Nat → Nat × Rat
  | 0 => (0, 0)
  | j + 1 => if bet (decide (0 < j)) (f j) (bI f j).2 then bI f j else (j, f j)
theorem bI_y {f : Nat → Rat} {j : Nat} (h : bet (decide (0 < j)) (f j) (bI f j).2 = true) : bI f (j + 1) = bI f j := by rw [bI, if_pos h]
theorem bI_n {f : Nat → Rat} {j : Nat} (h : bet (decide (0 < j)) (f j) (bI f j).2 = false) : bI f (j + 1) = (j, f j) := by rw [bI, if_neg (by rw [h]; decide)]
theorem bI_m (f : Nat → Rat) (j : Nat) : (if bet (decide (0 < j)) (f j) (bI f j).2 then (bI f j).2 else f j) = (bI f (j + 1)).2 := by
  cases h : bet (decide (0 < j)) (f j) (bI f j).2 with
  | true => rw [bI_y h]; rfl
  | false => rw [bI_n h]; rfl
theorem b_true {j : Nat} : true = decide (0 < j + 1) := by simp
def ovs (p : RG) (xs : List RG) (j : Nat) : Rat := alkQ (toG p) (toG (xs.getD j rg0))
def bestF (p : RG) (xs : List RG) : Int × Int := if okB p && xs.all okB then (if xs.length = 0 then (0, 3) else (((bI (ovs p xs) xs.length).1 : Nat), 0)) else (0, 1)
theorem one_all (p : RG) : [p].all okB = okB p := by simp
theorem bf_arg {p : RG} {xs : List RG} (h : ((![p].all okB) || (!xs.all okB)) = true) : bestF p xs = (0, 1) := by
  rw [one_all, ← Bool.not_and] at h
  rw [bestF, if_neg (fun e => by rw [e] at h; exact absurd h (by decide))]
theorem bf_ok {p : RG} {xs : List RG} (h : ((![p].all okB) || (!xs.all okB)) = false) : okB p = true ∧ xs.all okB = true := by
  rw [one_all, ← Bool.not_and, Bool.not_eq_false', Bool.and_eq_true] at h
  exact h
theorem bf_zero {p : RG} {xs : List RG} (h : okB p = true ∧ xs.all okB = true) (h2 : xs.length = 0) : bestF p xs = (0, 3) := by
  rw [bestF, h.1, h.2, Bool.and_self, if_pos rfl, if_pos h2]
theorem bf_some {p : RG} {xs : List RG} (h : okB p = true ∧ xs.all okB = true) (h2 : xs.length ≠ 0) : bestF p xs = ((((bI (ovs p xs) xs.length).1 : Nat) : Int), 0) := by
  rw [bestF, h.1, h.2, Bool.and_self, if_pos rfl, if_neg h2]
theorem alike_x {p : RG} {xs : List RG} (h : okB p = true ∧ xs.all okB = true) {j : Nat} (hj : j < xs.length) : Cn Tryz.prog 72 [(RGA p).va, (RGA (xs[j])).va] (Qs 20487 (ovs p xs j)) := by
  have hx := okB_q h.1
  have hy := okB_q (List.all_eq_true.1 h.2 _ (List.getElem_mem hj))
  have e : ovs p xs j = alkQ (toG p) (toG xs[j]) := by unfold ovs; rw [List.getD_eq_getElem?_getD, List.getElem?_eq_getElem hj]; rfl
  rw [e]
  exact (alike_q hx.2 hy.2).wk (.cons (qg_x hx.1).va (.cons (qg_x hy.1).va .nil))
theorem may_o (xs : List RG) : Cn Tryz.prog 70 [(SlO 52 [122] (xs.map RGA) True).va] (Bo (xs.all okB)) := (mayG_c xs).wk (.cons (wk_trans wk_old fun _ _ _ h => (and_va h).2) .nil)

set_option maxRecDepth 100000 in
theorem better1_c {x m : Rat} (s : Bool) : CmP Tryz.prog 133 4 26 (BoA s) (BoA true) (QZ s 20487 m) (QZ true 20487 (if bet s x m then m else x)) [Qs 20487 x] (Bo (!(bet s x m))) := by
  refine CmP.intro Tryz.func133 rfl (by kernel_rfl) nq (fun B g1 g2 w0 a hst => ?_)
  have hst : St B w0 13 [(0, Qs 20487 x), (1, EqV (ptr g1)), (2, EqV (ptr g2))] [⟨1, 4, ptrH, BoA s⟩, ⟨2, 26, ptrH, QZ s 20487 m⟩] a w0.w := hst
  refine wp_seq ?_
  refine gl (sts := [none, none]) (news := [⟨3, 26, ptrH, some 0, _, none⟩]) (sp := [.alc 2, .val 4 _]) [.g 1, .g 2, .o 1] hst (oc (ob_box rfl rfl rfl (gq 0 rfl)) (oc (ob_v rfl rfl (r_assign has_bo)) o0)) (fun a w hst => ?_)
  have hst : St B w0 13 [(1, _), (2, _), (4, _)] [⟨1, 4, ptrH, _⟩, ⟨2, 26, ptrH, _⟩, ⟨3, 26, ptrH, _⟩] a w := hst
  refine thn_normal ?_
  refine wp_seq ?_
  refine wp_seq ?_
  refine gl (sts := [none, none, none]) (news := []) (sp := [.val 5 _, .val 6 _, .val 7 (Wh (_ = true) _), .val 8 (Wh (_ = true) _), .val 9 (Wh (_ = true) _), .val 10 (Wh (_ = true) _), .val 11 _]) [.g 0, .g 1, .g 2, .o 6] hst (oc (ob_v rfl rfl (r_load (lz0 0 rfl) ty_4)) (oc (ob_v rfl rfl (r_move (vq 0 rfl))) (oc (ob_gd rfl rfl rfl (vq 1 rfl) nq (fun hg => r_load (lz0 2 rfl) ty_26)) (oc (ob_gd rfl rfl rfl (vq 1 rfl) nq (fun hg => r_load (lz0 1 rfl) ty_26)) (oc (ob_gd rfl rfl rfl (vq 1 rfl) nq (fun hg => r_call (xs := [.tmp 7, .tmp 8]) ((cmp_q (by decide)).wk (.cons wk_id (.cons (qz_q hg) .nil))) (.cons (has_wh (vq 2 rfl) hg) (.cons (has_wh (vq 3 rfl) hg) .nil)))) (oc (ob_gd rfl rfl rfl (vq 1 rfl) nq (fun hg => r_leq (has_wh (vq 4 rfl) hg) has_num)) (oc (ob_v rfl rfl (r_and (vq 1 rfl) (vq 5 rfl))) o0))))))) (fun a w hst => ?_)
  have hst : St B w0 13 [(1, _), (2, _), (4, _), (11, _)] [⟨1, 4, ptrH, _⟩, ⟨2, 26, ptrH, _⟩, ⟨3, 26, ptrH, _⟩] a w := hst
  refine thn_normal ?_
  refine cond_of hst (List.mem_of_getElem? (i := 3) rfl) (fun hb0 => ?_) (fun hb0 => ?_)
  · have hs : s = true := by cases s with | true => rfl | false => exact absurd hb0 (by simp)
    have hc : bet s x m = true := hb0
    refine wp_seq ?_
    refine gl (sts := [none, none, none]) (news := []) (sp := [.val 4 _]) [.g 0, .g 1, .o 0] hst (oc (ob_v rfl rfl (r_assign has_bo)) o0) (fun a w hst => ?_)
    have hst : St B w0 13 [(1, _), (2, _), (4, _)] [⟨1, 4, ptrH, _⟩, ⟨2, 26, ptrH, _⟩, ⟨3, 26, ptrH, _⟩] a w := hst
    refine thn_normal ?_
    refine wp_ret ?_
    refine thn_ret ?_
    have hst := St.cvA (A' := BoA true) hst 0 rfl (congrArg BoA hs)
    have hst := St.cvA (A' := QZ true 20487 (if bet s x m then m else x)) hst 1 rfl (by rw [hc, hs]; rfl)
    refine ret_p2 hst (List.mem_of_getElem? (i := 0) rfl) (List.mem_of_getElem? (i := 1) rfl) (List.mem_of_getElem? (i := 0) rfl) (List.mem_of_getElem? (i := 1) rfl) ?_
    refine ret_wk ?_ (ret_tmp rfl hst (List.mem_of_getElem? (i := 2) rfl))
    exact wk_eq (by rw [hc]; rfl)
  · have hc : bet s x m = false := hb0
    refine wp_skip ?_
    refine thn_normal ?_
    refine wp_seq ?_
    refine gl (sts := [some (2, _), some (1, _), none]) (news := []) (sp := [.val 12 _, .sto 1, .sto 0]) [.g 0, .g 1, .g 2] hst (oc (ob_v rfl rfl (r_load (lz0 2 rfl) ty_26)) (oc (ob_sto rfl rfl rfl (vq 0 rfl) ty_26 (Eq.trans (b := 4) rfl rfl)) (oc (ob_sto rfl rfl rfl has_bo ty_4 (Eq.trans (b := 1) rfl rfl)) o0))) (fun a w hst => ?_)
    have hst : St B w0 13 [(1, _), (2, _), (4, _)] [⟨1, 4, ptrH, _⟩, ⟨2, 26, ptrH, _⟩, ⟨3, 26, ptrH, _⟩] a w := hst
    refine thn_normal ?_
    refine wp_seq ?_
    refine gl (sts := [none, none, none]) (news := []) (sp := [.val 4 _]) [.g 0, .g 1, .o 0] hst (oc (ob_v rfl rfl (r_assign has_bo)) o0) (fun a w hst => ?_)
    have hst : St B w0 13 [(1, _), (2, _), (4, _)] [⟨1, 4, ptrH, _⟩, ⟨2, 26, ptrH, _⟩, ⟨3, 26, ptrH, _⟩] a w := hst
    refine thn_normal ?_
    refine wp_ret ?_
    have hst := St.wkL (A' := QZ true 20487 x) hst 1 rfl q_qz
    have hst := St.cvA (A' := QZ true 20487 (if bet s x m then m else x)) hst 1 rfl (by rw [hc]; rfl)
    refine ret_p2 hst (List.mem_of_getElem? (i := 0) rfl) (List.mem_of_getElem? (i := 1) rfl) (List.mem_of_getElem? (i := 0) rfl) (List.mem_of_getElem? (i := 1) rfl) ?_
    refine ret_wk ?_ (ret_tmp rfl hst (List.mem_of_getElem? (i := 2) rfl))
    exact wk_eq (by rw [hc]; rfl)

set_option maxRecDepth 100000 in
theorem better_c  : Cn Tryz.prog 71 [] (ClS 133 4 26 (BoA false) (QZ false 20487 0)) := by
  refine Cn.introW Tryz.func71 rfl (by kernel_rfl) nq .nil (free_cls (free_bo _) free_qz) (fun B w0 a hB0 hst => ?_)
  have hst : St B w0 4 [] [] a w0.w := hst
  refine wp_seq ?_
  refine gl (sts := []) (news := []) (sp := [.val 0 _]) [.o 0] hst (oc (ob_v rfl rfl (r_assign has_const)) o0) (fun a w hst => ?_)
  have hst : St B w0 4 [(0, _)] [] a w := hst
  refine thn_normal ?_
  refine wp_seq ?_
  refine gl (sts := []) (news := [⟨1, 26, ptrH, some 0, _, none⟩]) (sp := [.alc 0]) [.g 0] hst (oc (ob_alc rfl rfl rfl (zero_qz 20487 0)) o0) (fun a w hst => ?_)
  have hst : St B w0 4 [(0, _)] [⟨1, 26, ptrH, _⟩] a w := hst
  refine thn_normal ?_
  refine wp_seq ?_
  refine gl (sts := [none]) (news := [⟨2, 4, ptrH, some 0, _, some (1, _)⟩]) (sp := [.alc 1, .sto 1]) [.g 0] hst (oc (ob_alc rfl rfl rfl zero_bo) (oc (ob_sto rfl rfl rfl has_bo ty_4 (Eq.trans (b := 1) rfl rfl)) o0)) (fun a w hst => ?_)
  have hst : St B w0 4 [(0, _)] [⟨1, 26, ptrH, _⟩, ⟨2, 4, ptrH, _⟩] a w := hst
  refine thn_normal ?_
  refine wp_seq ?_
  refine gl (sts := [none, none]) (news := []) (sp := [.val 3 _, .val 0 _]) [.o 1] hst (oc (ob_v rfl rfl (r_mkcls (lz0 1 rfl) (lz0 0 rfl) (by decide))) (oc (ob_v rfl rfl (r_assign (vq 0 rfl))) o0)) (fun a w hst => ?_)
  have hst : St B w0 4 [(0, _)] [⟨1, 26, ptrH, _⟩, ⟨2, 4, ptrH, _⟩] a w := hst
  refine thn_normal ?_
  refine wp_ret ?_
  refine ret_wk ?_ (ret_tmp rfl hst (List.mem_of_getElem? (i := 0) rfl))
  exact wk_id

theorem cls_m (f : Nat → Rat) (j : Nat) : ClS 133 4 26 (BoA true) (QZ true 20487 (if bet (decide (0 < j)) (f j) (bI f j).2 then (bI f j).2 else f j)) = ClS 133 4 26 (BoA (decide (0 < j + 1))) (QZ (decide (0 < j + 1)) 20487 (bI f (j + 1)).2) := by
  rw [bI_m, ← b_true]

set_option maxRecDepth 100000 in
theorem best_c (p : RG) (xs : List RG) : Cn Tryz.prog 27 [(RGA p).va, (SlA 52 [U32] (xs.map RGA)).va] (Tu [In (bestF p xs).1, In (bestF p xs).2]) := by
  refine Cn.introW Tryz.func27 rfl (by kernel_rfl) nq (.cons (upA_rg p).va (.cons (up_sl (fun A hA => by obtain ⟨x, _, rfl⟩ := List.mem_map.1 hA; exact upA_rg x)).va .nil)) (tu_free (.cons (free_num _ _).va (.cons (free_num _ _).va .nil))) (fun B w0 a hB0 hst => ?_)
  have hst : St B w0 40 [(0, (RGA p).va), (1, (SlO 52 [U32] (xs.map RGA) True).va)] [] a w0.w := hst
  have hl := slO_len (hst.vals (1, (SlO 52 [U32] (xs.map RGA) True).va) (List.mem_of_getElem? (i := 1) rfl))
  rw [List.length_map] at hl
  refine wp_seq ?_
  refine gl (sts := []) (news := [⟨2, 52, ptrH, some 0, _, none⟩]) (sp := [.alc 0, .val 4 _, .val 5 _]) [.g 1, .o 1, .o 2] hst (oc (ob_box rfl rfl rfl (gq 0 rfl)) (oc (ob_v rfl rfl (r_assign has_num)) (oc (ob_v rfl rfl (r_assign has_num)) o0))) (fun a w hst => ?_)
  have hst : St B w0 40 [(1, _), (4, _), (5, _)] [⟨2, 52, ptrH, _⟩] a w := hst
  refine thn_normal ?_
  refine wp_seq ?_
  refine wp_block ?_
  refine wp_seq ?_
  refine gl (sts := [none]) (news := []) (sp := [.val 11 _, .val 12 _, .val 13 _, .val 14 _, .val 15 _, .val 16 (Wh (_ = false) _), .val 17 (Wh (_ = false) _), .val 18 (Wh (_ = false) _), .val 19 _, .val 10 _]) [.g 0, .g 1, .g 2, .o 9] hst (oc (ob_v rfl rfl (r_load (lz0 0 rfl) ty_52)) (oc (ob_v rfl rfl (r_slice (D := [U32]) (l := [_]) (xs := [.tmp 11]) (nd_ok (by kernel_rfl)) sl_53 (by kernel_rfl) (n_ok (by kernel_rfl)) nq nq nq (.cons (vq 0 rfl) .nil) rfl rfl)) (oc (ob_v rfl rfl (r_call (xs := [.tmp 12]) (mayG_c [p]) (.cons (vq 1 rfl) .nil))) (oc (ob_v rfl rfl (r_not (vq 2 rfl))) (oc (ob_v rfl rfl (r_move (vq 3 rfl))) (oc (ob_gd rfl rfl rfl (vq 4 rfl) nq (fun hg => r_move (gq 0 rfl))) (oc (ob_gd rfl rfl rfl (vq 4 rfl) nq (fun hg => r_call (xs := [.tmp 16]) (may_o xs) (.cons (has_wh (vq 5 rfl) hg) .nil))) (oc (ob_gd rfl rfl rfl (vq 4 rfl) nq (fun hg => r_not (has_wh (vq 6 rfl) hg))) (oc (ob_v rfl rfl (r_or (vq 4 rfl) (vq 7 rfl))) (oc (ob_v rfl rfl (r_assign (vq 8 rfl))) o0)))))))))) (fun a w hst => ?_)
  have hst : St B w0 40 [(1, _), (4, _), (5, _), (10, _)] [⟨2, 52, ptrH, _⟩] a w := hst
  refine thn_normal ?_
  refine cond_of hst (List.mem_of_getElem? (i := 3) rfl) (fun hb0 => ?_) (fun hb0 => ?_)
  · refine wp_seq ?_
    refine gl (sts := [none]) (news := []) (sp := [.val 4 _, .val 5 _]) [.g 0, .o 0, .o 1] hst (oc (ob_v rfl rfl (r_assign has_num)) (oc (ob_v rfl rfl (r_assign has_num)) o0)) (fun a w hst => ?_)
    have hst : St B w0 40 [(1, _), (4, _), (5, _)] [⟨2, 52, ptrH, _⟩] a w := hst
    refine thn_normal ?_
    refine wp_ret ?_
    refine blk_ret ?_
    refine thn_ret ?_
    refine ret_wk ?_ (ret_many (rs := [.tmp 4, .tmp 5]) rfl hst (.tmp (List.mem_of_getElem? (i := 1) rfl) (.tmp (List.mem_of_getElem? (i := 2) rfl) .nil)) (by decide))
    rw [bf_arg hb0]; exact wk_id
  · have hk := bf_ok hb0
    refine wp_seq ?_
    refine gl (sts := [none]) (news := []) (sp := [.val 21 _, .val 22 _, .val 23 _, .val 20 _]) [.g 0, .g 1, .g 2, .o 3] hst (oc (ob_v rfl rfl (r_move (gq 0 rfl))) (oc (ob_v rfl rfl (r_len Tryz.underlying53 (has_and (has_old (vq 0 rfl))))) (oc (ob_v rfl rfl (r_eql (vq 1 rfl) has_num)) (oc (ob_v rfl rfl (r_assign (vq 2 rfl))) o0)))) (fun a w hst => ?_)
    have hst : St B w0 40 [(1, _), (4, _), (5, _), (20, _)] [⟨2, 52, ptrH, _⟩] a w := hst
    refine thn_normal ?_
    refine cond_of hst (List.mem_of_getElem? (i := 3) rfl) (fun hb1 => ?_) (fun hb1 => ?_)
    · have hz : xs.length = 0 := by rw [List.length_map] at hb1; simpa using hb1
      refine wp_seq ?_
      refine gl (sts := [none]) (news := []) (sp := [.val 4 _, .val 5 _]) [.g 0, .o 0, .o 1] hst (oc (ob_v rfl rfl (r_assign has_num)) (oc (ob_v rfl rfl (r_assign has_num)) o0)) (fun a w hst => ?_)
      have hst : St B w0 40 [(1, _), (4, _), (5, _)] [⟨2, 52, ptrH, _⟩] a w := hst
      refine thn_normal ?_
      refine wp_ret ?_
      refine blk_ret ?_
      refine thn_ret ?_
      refine ret_wk ?_ (ret_many (rs := [.tmp 4, .tmp 5]) rfl hst (.tmp (List.mem_of_getElem? (i := 1) rfl) (.tmp (List.mem_of_getElem? (i := 2) rfl) .nil)) (by decide))
      rw [bf_zero hk hz]; exact wk_id
    · have hz : xs.length ≠ 0 := by rw [List.length_map] at hb1; simpa using hb1
      refine wp_skip ?_
      refine blk_normal ?_
      refine thn_normal ?_
      refine wp_seq ?_
      refine gl (sts := [none]) (news := []) (sp := [.val 24 _, .val 6 _, .val 7 _]) [.g 0, .g 1, .g 2, .o 1, .o 2] hst (oc (ob_v rfl rfl (r_call (xs := []) better_c .nil)) (oc (ob_v rfl rfl (r_assign has_num)) (oc (ob_v rfl rfl (r_assign (vq 0 rfl))) o0))) (fun a w hst => ?_)
      have hst : St B w0 40 [(1, _), (4, _), (5, _), (6, _), (7, _)] [⟨2, 52, ptrH, _⟩] a w := hst
      refine thn_normal ?_
      refine wp_seq ?_
      refine wp_seq ?_
      refine gl (sts := [none]) (news := []) (sp := [.val 25 _, .val 26 _, .val 27 _]) [.g 1, .g 2, .g 3, .g 4, .o 0, .o 1, .o 2] hst (oc (ob_v rfl rfl (r_move (gq 0 rfl))) (oc (ob_v rfl rfl (r_len Tryz.underlying53 (has_and (has_old (vq 0 rfl))))) (oc (ob_v rfl rfl (r_move has_num)) o0))) (fun a w hst => ?_)
      have hst : St B w0 40 [(4, _), (5, _), (6, _), (7, _), (25, _), (26, _), (27, _)] [⟨2, 52, ptrH, _⟩] a w := hst
      refine thn_normal ?_
      refine wp_block ?_
      have hst := St.sel hst [2, 3, 4, 5, 6]
      refine wp_loop_ghost (fun n a w => ∃ j : Nat, n + j = xs.length ∧ St B w0 40 [(6, In ((bI (ovs p xs) j).1 : Nat)), (7, ClS 133 4 26 (BoA (decide (0 < j))) (QZ (decide (0 < j)) 20487 (bI (ovs p xs) j).2)), (25, (SlO 52 [U32] (xs.map RGA) True).va), (26, In (xs.length : Nat)), (27, In (j : Nat))] [⟨2, 52, ptrH, RGA p⟩] a w) (xs.length) ?_ ?_
      · exact ⟨0, by omega, by rw [List.length_map] at hst; exact hst⟩
      intro n a w hI
      obtain ⟨j, hn, hst⟩ := hI
      refine wp_seq ?_
      refine gl (sts := [none]) (news := []) (sp := [.val 28 _]) [.g 0, .g 1, .g 2, .g 3, .g 4, .o 0] hst (oc (ob_v rfl rfl (r_lss (gq 4 rfl) (gq 3 rfl))) o0) (fun a w hst => ?_)
      have hst : St B w0 40 [(6, _), (7, _), (25, _), (26, _), (27, _), (28, _)] [⟨2, 52, ptrH, _⟩] a w := hst
      refine thn_normal ?_
      refine wp_seq ?_
      refine cond_of hst (List.mem_of_getElem? (i := 5) rfl) (fun hb2 => ?_) (fun hb2 => ?_)
      · have hj : j < xs.length := by simp at hb2; omega
        refine wp_skip ?_
        refine thn_normal ?_
        refine wp_seq ?_
        refine wp_block ?_
        refine wp_seq ?_
        refine gl (sts := [none]) (news := [⟨9, 52, ptrH, some 3, _, some (5, _)⟩]) (sp := [.val 29 _, .val 30 _, .val 31 _, .alc 1, .val 8 _, .sto 1]) [.g 0, .g 1, .g 2, .g 3, .g 4, .o 4] hst (oc (ob_v rfl rfl (r_move (gq 4 rfl))) (oc (ob_v rfl rfl (r_idx sl_53 (map_n fun _ => rfl) (has_and (has_old (gq 2 rfl))) (gq 4 rfl) (map_at hj))) (oc (ob_v rfl rfl (r_loade (vq 1 rfl) ty_52)) (oc (ob_alc rfl rfl rfl (Str.zero str_gauss)) (oc (ob_v rfl rfl (r_assign (vq 0 rfl))) (oc (ob_sto rfl rfl rfl (vq 2 rfl) ty_52 (Eq.trans (b := 8) rfl rfl)) o0)))))) (fun a w hst => ?_)
        have hst : St B w0 40 [(6, _), (7, _), (25, _), (26, _), (27, _), (8, _)] [⟨2, 52, ptrH, _⟩, ⟨9, 52, ptrH, _⟩] a w := hst
        refine thn_normal ?_
        refine wp_seq ?_
        refine go_cls (sp := [.adr 32 7 .none True, .val 33 _, .val 34 _, .val 35 _, .val 36 VT0]) 4 [0, 2, 3, 4, 5] 1 0 3 hst (oc (ob_a rfl rfl a_mov) (oc (ob_v rfl rfl (r_load (lz0 0 rfl) ty_52)) (oc (ob_v rfl rfl (r_load (lz0 1 rfl) ty_52)) (oc (ob_v rfl rfl (r_call (xs := [.tmp 33, .tmp 34]) (alike_x hk hj) (.cons (vq 1 rfl) (.cons (vq 2 rfl) .nil)))) o0)))) rfl (by kernel_rfl) rfl rfl (by decide) rfl (by decide) rfl (better1_c (decide (0 < j))) (by decide) (by decide) (by kernel_rfl) (by kernel_rfl) (by kernel_rfl) hB0 (fun a w hst => ?_)
        have hst : St B w0 40 [(36, _), (7, _), (6, _), (25, _), (26, _), (27, _), (8, _)] [⟨2, 52, ptrH, _⟩, ⟨9, 52, ptrH, _⟩] a w := hst
        refine thn_normal ?_
        refine cond_join (fun a w =>  St B w0 40 [(6, In ((bI (ovs p xs) (j + 1)).1 : Nat)), (7, ClS 133 4 26 (BoA (decide (0 < j + 1))) (QZ (decide (0 < j + 1)) 20487 (bI (ovs p xs) (j + 1)).2)), (25, (SlO 52 [U32] (xs.map RGA) True).va), (26, In (xs.length : Nat)), (27, In (j : Nat))] [⟨2, 52, ptrH, RGA p⟩, ⟨9, 52, ptrH, RGA (xs[j])⟩] a w) hst (List.mem_of_getElem? (i := 0) rfl) (fun hb3 => ?_) (fun hb3 => ?_) (fun a w hst => ?_)
        · refine gl (sts := [none, none]) (news := []) (sp := [.val 37 _, .val 6 _]) [.g 1, .g 3, .g 4, .g 5, .o 1] hst (oc (ob_v rfl rfl (r_move (gq 6 rfl))) (oc (ob_v rfl rfl (r_assign (vq 0 rfl))) o0)) (fun a w hst => ?_)
          have hst : St B w0 40 [(7, _), (25, _), (26, _), (27, _), (6, _)] [⟨2, 52, ptrH, _⟩, ⟨9, 52, ptrH, _⟩] a w := hst
          refine thn_normal ?_
          have hst := St.sel hst [4, 0, 1, 2, 3]
          have hb : bet (decide (0 < j)) (ovs p xs j) (bI (ovs p xs) j).2 = false := by simpa using hb3
          have hst := St.cvG (A' := In ((bI (ovs p xs) (j + 1)).1 : Nat)) hst 0 rfl (by rw [bI_n hb])
          have hst := St.cvG (A' := ClS 133 4 26 (BoA (decide (0 < j + 1))) (QZ (decide (0 < j + 1)) 20487 (bI (ovs p xs) (j + 1)).2)) hst 1 rfl (cls_m _ j)
          exact hst
        · refine wp_skip ?_
          refine thn_normal ?_
          have hst := St.sel hst [2, 1, 3, 4, 5]
          have hb : bet (decide (0 < j)) (ovs p xs j) (bI (ovs p xs) j).2 = true := by simpa using hb3
          have hst := St.cvG (A' := In ((bI (ovs p xs) (j + 1)).1 : Nat)) hst 0 rfl (by rw [bI_y hb])
          have hst := St.cvG (A' := ClS 133 4 26 (BoA (decide (0 < j + 1))) (QZ (decide (0 < j + 1)) 20487 (bI (ovs p xs) (j + 1)).2)) hst 1 rfl (cls_m _ j)
          exact hst
        refine blk_normal ?_
        refine thn_normal ?_
        refine gl (sts := [none, none]) (news := []) (sp := [.val 38 _, .val 27 _]) [.g 0, .g 1, .g 2, .g 3, .o 1] hst (oc (ob_v rfl rfl (r_add (gq 4 rfl) has_num ((wi64 (by omega) (by omega)).trans (by omega : (_ : Int) = ((j + 1 : Nat) : Int))))) (oc (ob_v rfl rfl (r_move (vq 0 rfl))) o0)) (fun a w hst => ?_)
        have hst : St B w0 40 [(6, _), (7, _), (25, _), (26, _), (27, _)] [⟨2, 52, ptrH, _⟩, ⟨9, 52, ptrH, _⟩] a w := hst
        refine thn_normal ?_
        have hst := St.sel hst [0, 1, 2, 3, 4]
        have hst := St.selL hst [0]
        exact ⟨n - 1, by omega, j + 1, by omega, hst⟩
      · obtain rfl : j = xs.length := by simp at hb2; omega
        refine wp_exit ?_
        refine thn_exit ?_
        refine thn_exit ?_
        refine blk_exit ?_
        refine thn_normal ?_
        refine wp_seq ?_
        refine gl (sts := [none]) (news := []) (sp := [.val 39 _, .val 4 _, .val 5 _]) [.o 1, .o 2] hst (oc (ob_v rfl rfl (r_move (gq 0 rfl))) (oc (ob_v rfl rfl (r_assign (vq 0 rfl))) (oc (ob_v rfl rfl (r_assign has_num)) o0))) (fun a w hst => ?_)
        have hst : St B w0 40 [(4, _), (5, _)] [⟨2, 52, ptrH, _⟩] a w := hst
        refine thn_normal ?_
        refine wp_ret ?_
        refine ret_wk ?_ (ret_many (rs := [.tmp 4, .tmp 5]) rfl hst (.tmp (List.mem_of_getElem? (i := 0) rfl) (.tmp (List.mem_of_getElem? (i := 1) rfl) .nil)) (by decide))
        rw [bf_some hk hz]; exact wk_id

end Go.Proofs.YtmghfjcjcfaagaaGreat
